/- What the claim's law needs, many texts in one (Uc). No conditions of its own. -/
import Derived.Test.YtjgocihflhljeaaGreatZl18
set_option linter.unusedVariables false
set_option linter.unusedSimpArgs false
namespace Go.Proofs.YtjgocihflhljeaaGreat.P
open Go.RowKit Go.Shelf Go.Proofs.YtjgocihflhljeaaGreatW.PrintWords Go.Proofs.YtjgocihflhljeaaGreatW.PrintLast Go.Proofs.YtjgocihflhljeaaGreatW.PrintMore
attribute [local go_sem] Oper.semAt_some max2_int max_two
theorem take_end {base : Nat} {w : World} {g bx : Nat} {A : Option Addr} {c : Nat} {ids : List S68} {rc : Bool} {rn : Int} {jb : Bool} {t' : Tk} {m : Mv} {vw vp vj vo : Value} {word : List Mv} {pt js op : List Int} {lost : Bool} {W : World} (v : Int) (hok : t'.Ok) (he : t'.word = word ∧ t'.part = pt ∧ t'.just = js ∧ t'.opn = op ∧ t'.lost = lost) (hv : t'.deep = v)
  (h : TakeP base w g bx A c ids rc rn jb m vw vp vj vo vw vp vj vo word pt js op lost v W) :
  (Ending.returned (.tuple #[]) : Ending) = .returned (.tuple #[]) ∧ SK base 86 w W ∧ (∀ bz cs, Boxy w g bz → w.heap[bz]? = some (.cells cs 52 (0, 0)) → W.heap[bz]? = some (.cells cs 52 (0, 0))) ∧ ∃ vw vo vp vj, Wlk base W g A c ids rc rn jb t' vw vo vp vj := by
 obtain ⟨rfl, rfl, rfl, rfl, rfl⟩ := he
 subst hv
 exact ⟨rfl, h.k, fun bz cs hz hm => (h.z bz cs hz hm).1, _, _, _, _, ⟨h.b, h.r, h.hg, hok⟩⟩
theorem TakeP.drew' {base : Nat} {w : World} {g bx : Nat} {A : Option Addr} {c : Nat} {ids : List S68} {rc : Bool} {rn : Int} {jb : Bool} {m : Mv} {bw bp bj bo vw vp vj vo : Value} {word : List Mv} {pt js op : List Int} {lost : Bool} {deep : Int} {W : World} (h : TakeP base w g bx A c ids rc rn jb m bw bp bj bo vw vp vj vo word pt js op lost deep W) : TakeP base w g bx A c ids rc rn jb m bw bp bj bo vw vp vj vo word pt js op lost deep W.drew := h.below ((Below.refl _ _).drew)
set_option maxRecDepth 8000 in
set_option maxHeartbeats 3200000 in
theorem take_ask {base : Nat} {w : World} {g : Nat} {A : Option Addr} {c : Nat} {ids : List S68} {rc : Bool} {rn : Int} {jb : Bool} {t : Tk} {vw vo vp vj : Value} (h : Wlk base w g A c ids rc rn jb t vw vo vp vj) (m : Mv) (hw : t.word.length < 1048576) (hk : askB m = true) (hna : isAns m = false) (hj : 0 < m.f1 → t.opn ≠ []) (hjj : (if 0 < m.f1 then t.topI else if 0 < m.f0 then 0 else -1) = t.justOf m) :
  Calls Tryz.prog 85 #[.pointer (some ⟨g, 0, none⟩), .agg #[.int .i64 m.f0, .int .i64 m.f1, .int .u8 m.f2, .int .i64 m.f3]] w fun e w' => e = .returned (.tuple #[]) ∧ SK base 86 w w' ∧ (∀ bz cs, Boxy w g bz → w.heap[bz]? = some (.cells cs 52 (0, 0)) → w'.heap[bz]? = some (.cells cs 52 (0, 0))) ∧ ∃ vw vo vp vj, Wlk base w' g A c ids rc rn jb (t.say m) vw vo vp vj := by
 have HT := am h
 have hg := h.lt
 have hg1 : g < w.heap.size + 1 := by omega
 have hol := h.ok.hl
 have hpl := h.ok.hp
 have hjl := h.ok.hj
 have h4 : w.cell? ⟨g, 4, none⟩ = some vw := (blk_cell h.b 4).trans rfl
 have HB := am ((Below.refl _ w).alloc (Nat.le_refl _) (.cells #[.int .i64 m.f0, .int .i64 m.f1, .int .u8 m.f2, .int .i64 m.f3] 52))
 have HFO := am (fun (V : World) (hb : Below w.heap.size w V) => rForced_any (h.below hb))
 obtain ⟨Aw, cw, rfl⟩ := Kd.R_slice h.r.w
 have hok := am (h.ok.say m hw)
 have HOK := am h.ok
 have hbg := h.hg
 clear h
 obtain ⟨fR, hfR⟩ : ∃ fR, t.forcedR = fR := ⟨_, rfl⟩
 rw [hfR] at HFO
 go_enter Tryz.func85, Tryz.ntmps85
 go_upto_region 3 with (go_at_call 62; refine (HFO.out _ HB.out).mono ?_; rintro e w1 ⟨rfl, hb1⟩; clear HFO; obtain ⟨hc, hf⟩ := bcell hb1; have HB1 := am (HB.out.trans (hb1.mono (by simp))))
 have S0 := am (show Taking base w g w.heap.size A c ids rc rn jb m t.word t.part t.just t.opn t.lost t.deep w1 from
  ⟨_, _, _, _, (HT.out.below HB1.out).b, (HT.out.below HB1.out).r, Keeps.of_below HB1.out, (hb1.block _ (by simp)).trans (heap_alloc_new w _), by
   intro e
   obtain ⟨i, ho⟩ := Kd.R_own HT.out.r.w
   have := own_lt ho _ e.symm
   omega, hg, HT.out.hg, by have := HT.out.hg; omega, fun bz cs hz hm => ⟨(HB1.out.block _ (blk_lt hm)).trans hm, hz _ _ HT.out.b rfl⟩⟩)
 clear hb1 hc hf HB1
 go_cut [] (fun wx => Aside0 (Taking base w g w.heap.size A c ids rc rn jb m (t.word ++ [m]) t.part t.just t.opn t.lost t.deep wx))
 case first =>
  obtain ⟨vw1, vp1, vj1, vo1, h1⟩ := S0.out.drew
  have S1d := am h1
  clear h1
  refine start_ (n := 11) (S := fun w' => w'.cell? ⟨g, 4, none⟩ = some vw1 ∧ w'.cell? ⟨w.heap.size, 0, none⟩ = some (.int .i64 m.f0) ∧ w'.cell? ⟨w.heap.size, 1, none⟩ = some (.int .i64 m.f1) ∧ w'.cell? ⟨w.heap.size, 2, none⟩ = some (.int .u8 m.f2) ∧ w'.cell? ⟨w.heap.size, 3, none⟩ = some (.int .i64 m.f3)) (ds := [10]) #[Z,Z,Z,Z,Z,Z,Z,Z,Z,Z,Z] (by kernel_rfl) rfl rfl ⟨(blk_cell S1d.out.b 4).trans rfl, (blk_cell S1d.out.x 0).trans rfl, (blk_cell S1d.out.x 1).trans rfl, (blk_cell S1d.out.x 2).trans rfl, (blk_cell S1d.out.x 3).trans rfl⟩ (fun hHeld => ?_)
  clear S0
  generalize w1.drew = wd at S1d hHeld ⊢
  clear w1
  refine pure_ (i := 0) (N:=some 15) (v:=?_) (a':=?_) #[Y,Z,Z,Z,Z,Z,Z,Z,Z,Z,Z] rfl rfl (by kernel_rfl) (fun _ _ _ h => h) (Or.inl ⟨by rfl, ?_⟩) ?_ ?_;rotate_left;(intro w';go_simp;with_reducible rfl);rotate_left;(simp only [Act.put,sn1,sn2,sn3,i64_w];rfl)
  refine pure_ (i := 1) (N:=some 16) (v:=?_) (a':=?_) #[Y,Y,Z,Z,Z,Z,Z,Z,Z,Z,Z] rfl rfl (by kernel_rfl) (fun _ _ _ h => h) (Or.inl ⟨by rfl, ?_⟩) ?_ ?_;rotate_left;(intro w';go_simp;with_reducible rfl);rotate_left;(simp only [Act.put,sn1,sn2,sn3,i64_w];rfl)
  refine pure_ (i := 2) (N:=some 17) (v:=?_) (a':=?_) #[Y,Y,Y,Z,Z,Z,Z,Z,Z,Z,Z] rfl rfl (by kernel_rfl) (fun _ _ _ h => h) (Or.inl ⟨by rfl, ?_⟩) ?_ ?_;rotate_left;(intro w';go_simp;with_reducible rfl);rotate_left;(simp only [Act.put,sn1,sn2,sn3,i64_w];rfl)
  refine pure_ (i := 3) (N:=some 18) (v:=?_) (a':=?_) #[Y,Y,Y,Y,Z,Z,Z,Z,Z,Z,Z] rfl rfl (by kernel_rfl) (fun _ _ _ h => h) (Or.inl ⟨by rfl, ?_⟩) ?_ ?_;rotate_left;(intro w';go_simp;with_reducible rfl);rotate_left;(simp only [Act.put,sn1,sn2,sn3,i64_w];rfl)
  refine take_ (i := 4) (N:=some 19) (v:=?_) (a':=?_) #[Y,Y,Y,Y,Y,Z,Z,Z,Z,Z,Z] rfl rfl (by kernel_rfl) (fun _ _ _ h => h) (Or.inl ⟨by rfl, ?_⟩) hHeld ?_ ?_
  rotate_left
  ·rintro w' ⟨s0, s1, s2, s3, s4⟩
   go_simp
   with_reducible rfl
  rotate_left
  ·simp only [Act.put,sn1,sn2,sn3,i64_w]
   rfl
  refine take_ (i := 5) (N:=some 20) (v:=?_) (a':=?_) #[Y,Y,Y,Y,Y,Y,Z,Z,Z,Z,Z] rfl rfl (by kernel_rfl) (fun _ _ _ h => h) (Or.inl ⟨by rfl, ?_⟩) hHeld ?_ ?_
  rotate_left
  ·rintro w' ⟨s0, s1, s2, s3, s4⟩
   go_simp
   with_reducible rfl
  rotate_left
  ·simp only [Act.put,sn1,sn2,sn3,i64_w]
   rfl
  refine one_ (i := 6) (N:=some 21) #[Y,Y,Y,Y,Y,Y,Y,Z,Z,Z,Z] rfl rfl (by kernel_rfl) (by decide) (fun K hK => ?_)
  refine value_ (w1 := ?_) (v := ?_) (by rfl) rfl ?_ ?_
  rotate_left 2
  ·go_simp
   constructor
   ·rfl
   rfl
  refine hK.out _ _ ⟨(blk_cell (S1d.out.new_box _).b 4).trans rfl, (blk_cell (S1d.out.new_box _).x 0).trans rfl, (blk_cell (S1d.out.new_box _).x 1).trans rfl, (blk_cell (S1d.out.new_box _).x 2).trans rfl, (blk_cell (S1d.out.new_box _).x 3).trans rfl⟩ (fun hHeld => ?_)
  clear hK K
  refine norm_ (a' := ?_) ?_ ?_
  rotate_left
  ·show Act.put _ (some 21) _ = _
   simp only [Act.put,sn1,sn2,sn3,i64_w]
   rfl
  refine one_ (i := 7) (N:=some 22) #[Y,Y,Y,Y,Y,Y,Y,Y,Z,Z,Z] rfl rfl (by kernel_rfl) (by decide) (fun K hK => ?_)
  refine app_at k52 base (by rfl) rfl (.tmp 19) (.tmp 21) 28 52 (.agg #[(.int .i64 0), (.int .i64 0), (.int .u8 0), (.int .i64 0)]) 32 rfl Tryz.underlying28 info52 rfl (by decide) (by omega) vw1 t.word m [.int .i64 m.f0, .int .i64 m.f1, .int .u8 m.f2, .int .i64 m.f3] wd.heap.size rfl rfl (heap_alloc_new wd _) (k52_mkM _ _ _ m) (S1d.out.new_box _).r.w ((S1d.out.new_box _).size) (by omega) ?_
  intro v1 w1 hR hG hat
  have S2 := am ((S1d.out.new_box _).appW hR hG hat)
  obtain ⟨Af, nf, cf, rfl⟩ := R_slc hR
  have f7 := blk_frozen S2.out.b 4
  refine hK.out _ _ ⟨(blk_cell S2.out.b 4).trans rfl, (blk_cell S2.out.x 0).trans rfl, (blk_cell S2.out.x 1).trans rfl, (blk_cell S2.out.x 2).trans rfl, (blk_cell S2.out.x 3).trans rfl⟩ (fun hHeld => ?_)
  clear hK K
  refine norm_ (a' := ?_) ?_ ?_
  rotate_left
  ·show Act.put _ (some 22) _ = _
   simp only [Act.put,sn1,sn2,sn3,i64_w]
   rfl
  refine pure_ (i := 8) (N:=some 23) (v:=?_) (a':=?_) #[Y,Y,Y,Y,Y,Y,Y,Y,Y,Z,Z] rfl rfl (by kernel_rfl) (fun _ _ _ h => h) (Or.inl ⟨by rfl, ?_⟩) ?_ ?_;rotate_left;(intro w';go_simp;with_reducible rfl);rotate_left;(simp only [Act.put,sn1,sn2,sn3,i64_w];rfl)
  refine pure_ (i := 9) (N:=some 24) (v:=?_) (a':=?_) #[Y,Y,Y,Y,Y,Y,Y,Y,Y,Y,Z] rfl rfl (by kernel_rfl) (fun _ _ _ h => h) (Or.inl ⟨by rfl, ?_⟩) ?_ ?_;rotate_left;(intro w';go_simp;with_reducible rfl);rotate_left;(simp only [Act.put,sn1,sn2,sn3,i64_w];rfl)
  refine last_ (i := 10) (N := none) #[Y,Y,Y,Y,Y,Y,Y,Y,Y,Y,Y] rfl rfl (by kernel_rfl) (by decide) (fun K hK => ?_)
  refine skip_ (w1 := ?_) (by rfl) rfl ?_ ?_
  rotate_left
  ·go_simp
   rfl
  refine hK.out _ _ ?_
  clear hK K
  refine done_ (by kernel_rfl) ?_
  go_wp2_with fail
  go_meet
  case rel => exact ⟨⟨_, _, _, _, S2.out.putW _⟩⟩
 case rest =>
 have S1 := hcut
 clear hcut S0
 have HK := am hk
 have HJJ := am hjj
 have hesc : isEscB m = false := by unfold isAns at hna; unfold isEscB; rw [hna]; rfl
 have HSW := am (show (t.say m).word = t.word ++ [m] ∧ (t.say m).part = t.part ++ [-1] ∧ (t.say m).just = t.just ++ [t.justOf m] ∧ (t.say m).opn = t.opn ++ [(t.word.length : Int)] ∧ (t.say m).lost = t.lost ∧ (t.say m).deep = max t.deep ((t.opn ++ [(t.word.length : Int)]).length : Int) by
  simp [Tk.say, Tk.opn', hna, hesc])
 clear hk hjj
 obtain ⟨vw1, vp1, vj1, vo1, h1⟩ := S1.out
 have S1 := am h1
 clear h1
 have b0 : wc.cell? ⟨w.heap.size, 0, none⟩ = some (.int .i64 m.f0) := (blk_cell S1.out.x 0).trans rfl
 have b1 : wc.cell? ⟨w.heap.size, 1, none⟩ = some (.int .i64 m.f1) := (blk_cell S1.out.x 1).trans rfl
 have b2 : wc.cell? ⟨w.heap.size, 2, none⟩ = some (.int .u8 m.f2) := (blk_cell S1.out.x 2).trans rfl
 have b3 : wc.cell? ⟨w.heap.size, 3, none⟩ = some (.int .i64 m.f3) := (blk_cell S1.out.x 3).trans rfl
 go_upto_block 0 with (go_at_call 37; refine (rAsk_any m _).mono ?_; rw [HK.out]; rintro e w2 ⟨rfl, hb2⟩; have S2 := am (S1.out.below hb2))
 clear b0 b1 b2 b3
 go_cut [6] (fun x6 wx => x6 = .int .i64 (t.justOf m) ∧ Aside0 (Taking base w g w.heap.size A c ids rc rn jb m (t.word ++ [m]) t.part t.just t.opn t.lost t.deep wx))
 case first =>
  have b0 : w2.cell? ⟨w.heap.size, 0, none⟩ = some (.int .i64 m.f0) := (blk_cell S2.out.x 0).trans rfl
  have b1 : w2.cell? ⟨w.heap.size, 1, none⟩ = some (.int .i64 m.f1) := (blk_cell S2.out.x 1).trans rfl
  have b2 : w2.cell? ⟨w.heap.size, 2, none⟩ = some (.int .u8 m.f2) := (blk_cell S2.out.x 2).trans rfl
  have b3 : w2.cell? ⟨w.heap.size, 3, none⟩ = some (.int .i64 m.f3) := (blk_cell S2.out.x 3).trans rfl
  have S3 := am (show Taking base w g w.heap.size A c ids rc rn jb m (t.word ++ [m]) t.part t.just t.opn t.lost t.deep w2 from ⟨_, _, _, _, S2.out⟩)
  by_cases hm1 : 0 < m.f1
  ·have cb : decide (0 < m.f1) = true := decide_eq_true hm1
   have hj2 := HJJ.out
   rw [if_pos hm1] at hj2
   have HJ2 := am hj2
   have hne := hj hm1
   have hp := List.length_pos_iff.2 hne
   obtain ⟨k, hk⟩ : ∃ k : Nat, t.opn.length - 1 = k := ⟨_, rfl⟩
   have hkz : ((t.opn.length : Int) - 1) = (k : Int) := by omega
   have hkl : k < t.opn.length := by omega
   have hkw : IntKind.i64.wrap (k : Int) = (k : Int) := IntWalk.i64_in _ (by omega)
   obtain ⟨go, co, hvo, hgo, ao⟩ := S2.out.r.o.get k hkl
   cases hvo
   have hgl := getLast_get t.opn hne
   rw [hk, ← List.getD_eq_getElem?_getD] at hgl
   have hti : t.opn.getD k 0 = t.justOf m := by rw [← hj2, ← hgl]; rfl
   rw [hti] at ao
   have k5 : w2.cell? ⟨g, 5, none⟩ = some (.slice (some ⟨go, 0, none⟩) t.opn.length co) := (blk_cell S2.out.b 5).trans rfl
   clear hj2 hgl hti
   go_upto_region 7 with fail
   go_still (by kernel_rfl)
   go_wp2_with fail
   go_meet
   case rel => exact ⟨rfl, ⟨S3.out.drew⟩⟩
  have cb : decide (0 < m.f1) = false := decide_eq_false hm1
  have hj2 := HJJ.out
  rw [if_neg hm1] at hj2
  by_cases hm0 : 0 < m.f0
  ·have cb0 : decide (0 < m.f0) = true := decide_eq_true hm0
   rw [if_pos hm0] at hj2
   have HJ2 := am hj2
   clear hj2
   go_wp2_with fail
   go_meet
   case rel => exact ⟨by rw [← HJ2.out], S3⟩
  have cb0 : decide (0 < m.f0) = false := decide_eq_false hm0
  rw [if_neg hm0] at hj2
  have HJ2 := am hj2
  clear hj2
  go_wp2_with fail
  go_meet
  case rel => exact ⟨by rw [← HJ2.out], S3⟩
 case rest =>
 obtain ⟨rfl, S4⟩ := hcut
 go_upto_region 10 with fail
 go_cut [] (fun wx => Aside0 (Taking base w g w.heap.size A c ids rc rn jb m (t.word ++ [m]) (t.part ++ [-1]) (t.just ++ [t.justOf m]) (t.opn ++ [(t.word.length : Int)]) t.lost t.deep wx))
 case first =>
  obtain ⟨vw3, vp3, vj3, vo3, h3⟩ := S4.out.drew
  have S3d := am h3
  clear h3
  refine start_ (n := 32) (S := fun w' => w'.cell? ⟨g, 5, none⟩ = some vo3 ∧ w'.cell? ⟨g, 6, none⟩ = some vp3 ∧ w'.cell? ⟨g, 7, none⟩ = some vj3) (ds := [25, 28, 31]) (Mq [0,32]) (by kernel_rfl) rfl rfl ⟨(blk_cell S3d.out.b 5).trans rfl, (blk_cell S3d.out.b 6).trans rfl, (blk_cell S3d.out.b 7).trans rfl⟩ (fun hHeld => ?_)
  clear S4
  generalize wc.drew = wd at S3d hHeld ⊢
  clear wc
  refine pure_ (i := 0) (N:=some 47) (v:=?_) (a':=?_) (Mq [1,31]) rfl rfl (by kernel_rfl) (fun _ _ _ h => h) (Or.inl ⟨by rfl, ?_⟩) ?_ ?_;rotate_left;(intro w';go_simp;with_reducible rfl);rotate_left;(simp only [Act.put,sn1,sn2,sn3,i64_w];rfl)
  refine pure_ (i := 1) (N:=some 48) (v:=?_) (a':=?_) (Mq [2,30]) rfl rfl (by kernel_rfl) (fun _ _ _ h => h) (Or.inl ⟨by rfl, ?_⟩) ?_ ?_;rotate_left;(intro w';go_simp;with_reducible rfl);rotate_left;(simp only [Act.put,sn1,sn2,sn3,i64_w];rfl)
  refine pure_ (i := 2) (N:=some 49) (v:=?_) (a':=?_) (Mq [3,29]) rfl rfl (by kernel_rfl) (fun _ _ _ h => h) (Or.inl ⟨by rfl, ?_⟩) ?_ ?_;rotate_left;(intro w';go_simp;with_reducible rfl);rotate_left;(simp only [Act.put,sn1,sn2,sn3,i64_w];rfl)
  refine pure_ (i := 3) (N:=some 50) (v:=?_) (a':=?_) (Mq [4,28]) rfl rfl (by kernel_rfl) (fun _ _ _ h => h) (Or.inl ⟨by rfl, ?_⟩) ?_ ?_;rotate_left;(intro w';go_simp;with_reducible rfl);rotate_left;(simp only [Act.put,sn1,sn2,sn3,i64_w];rfl)
  refine pure_ (i := 4) (N:=some 51) (v:=?_) (a':=?_) (Mq [5,27]) rfl rfl (by kernel_rfl) (fun _ _ _ h => h) (Or.inl ⟨by rfl, ?_⟩) ?_ ?_;rotate_left;(intro w';go_simp;with_reducible rfl);rotate_left;(simp only [Act.put,sn1,sn2,sn3,i64_w];rfl)
  refine pure_ (i := 5) (N:=some 52) (v:=?_) (a':=?_) (Mq [6,26]) rfl rfl (by kernel_rfl) (fun _ _ _ h => h) (Or.inl ⟨by rfl, ?_⟩) ?_ ?_;rotate_left;(intro w';go_simp;with_reducible rfl);rotate_left;(simp only [Act.put,sn1,sn2,sn3,i64_w];rfl)
  refine pure_ (i := 7) (N:=some 54) (v:=?_) (a':=?_) (Mq [6,1,1,24]) rfl rfl (by kernel_rfl) (fun _ _ _ h => h) (Or.inl ⟨by rfl, ?_⟩) ?_ ?_;rotate_left;(intro w';go_simp;with_reducible rfl);rotate_left;(simp only [Act.put,sn1,sn2,sn3,i64_w];rfl)
  refine pure_ (i := 10) (N:=some 57) (v:=?_) (a':=?_) (Mq [6,1,1,2,1,21]) rfl rfl (by kernel_rfl) (fun _ _ _ h => h) (Or.inl ⟨by rfl, ?_⟩) ?_ ?_;rotate_left;(intro w';go_simp;with_reducible rfl);rotate_left;(simp only [Act.put,sn1,sn2,sn3,i64_w];rfl)
  refine pure_ (i := 11) (N:=some 58) (v:=?_) (a':=?_) (Mq [6,1,1,2,2,20]) rfl rfl (by kernel_rfl) (fun _ _ _ h => h) (Or.inl ⟨by rfl, ?_⟩) ?_ ?_;rotate_left;(intro w';go_simp;with_reducible rfl);rotate_left;(simp only [Act.put,sn1,sn2,sn3,i64_w];rfl)
  refine pure_ (i := 12) (N:=some 59) (v:=?_) (a':=?_) (Mq [6,1,1,2,3,19]) rfl rfl (by kernel_rfl) (fun _ _ _ h => h) (Or.inl ⟨by rfl, ?_⟩) ?_ ?_;rotate_left;(intro w';go_simp;with_reducible rfl);rotate_left;(simp only [Act.put,sn1,sn2,sn3,i64_w];rfl)
  refine pure_ (i := 16) (N:=some 63) (v:=?_) (a':=?_) (Mq [6,1,1,2,3,3,1,15]) rfl rfl (by kernel_rfl) (fun _ _ _ h => h) (Or.inl ⟨by rfl, ?_⟩) ?_ ?_;rotate_left;(intro w';go_simp;with_reducible rfl);rotate_left;(simp only [Act.put,sn1,sn2,sn3,i64_w];rfl)
  refine pure_ (i := 17) (N:=some 64) (v:=?_) (a':=?_) (Mq [6,1,1,2,3,3,2,14]) rfl rfl (by kernel_rfl) (fun _ _ _ h => h) (Or.inl ⟨by rfl, ?_⟩) ?_ ?_;rotate_left;(intro w';go_simp;with_reducible rfl);rotate_left;(simp only [Act.put,sn1,sn2,sn3,i64_w];rfl)
  refine pure_ (i := 18) (N:=some 65) (v:=?_) (a':=?_) (Mq [6,1,1,2,3,3,3,13]) rfl rfl (by kernel_rfl) (fun _ _ _ h => h) (Or.inl ⟨by rfl, ?_⟩) ?_ ?_;rotate_left;(intro w';go_simp;with_reducible rfl);rotate_left;(simp only [Act.put,sn1,sn2,sn3,i64_w];rfl)
  refine pure_ (i := 20) (N:=some 67) (v:=?_) (a':=?_) (Mq [6,1,1,2,3,3,3,1,1,11]) rfl rfl (by kernel_rfl) (fun _ _ _ h => h) (Or.inl ⟨by rfl, ?_⟩) ?_ ?_;rotate_left;(intro w';go_simp;with_reducible rfl);rotate_left;(simp only [Act.put,sn1,sn2,sn3,i64_w];rfl)
  refine take_ (i := 6) (N:=some 53) (v:=?_) (a':=?_) (Mq [8,2,3,3,3,1,1,11]) rfl rfl (by kernel_rfl) (fun _ _ _ h => h) (Or.inl ⟨by rfl, ?_⟩) hHeld ?_ ?_
  rotate_left
  ·rintro w' ⟨s0, s1, s2⟩
   go_simp
   with_reducible rfl
  rotate_left
  ·simp only [Act.put,sn1,sn2,sn3,i64_w]
   rfl
  refine take_ (i := 13) (N:=some 60) (v:=?_) (a':=?_) (Mq [8,2,4,2,3,1,1,11]) rfl rfl (by kernel_rfl) (fun _ _ _ h => h) (Or.inl ⟨by rfl, ?_⟩) hHeld ?_ ?_
  rotate_left
  ·rintro w' ⟨s0, s1, s2⟩
   go_simp
   with_reducible rfl
  rotate_left
  ·simp only [Act.put,sn1,sn2,sn3,i64_w]
   rfl
  refine take_ (i := 19) (N:=some 66) (v:=?_) (a':=?_) (Mq [8,2,4,2,5,11]) rfl rfl (by kernel_rfl) (fun _ _ _ h => h) (Or.inl ⟨by rfl, ?_⟩) hHeld ?_ ?_
  rotate_left
  ·rintro w' ⟨s0, s1, s2⟩
   go_simp
   with_reducible rfl
  rotate_left
  ·simp only [Act.put,sn1,sn2,sn3,i64_w]
   rfl
  refine join_ (σ := Value × Value × Value × Value × Value) 10 (Mq [22,10]) (fun s => [(55, s.1), (56, s.2.1), (61, s.2.2.1), (62, s.2.2.2.1), (68, s.2.2.2.2)]) (fun s w' => TakeP base w g w.heap.size A c ids rc rn jb m vw3 vp3 vj3 vo3 vw3 (s.2.2.2.1) (vj3) (s.2.1) (t.word ++ [m]) (t.part ++ [-1]) (t.just) (t.opn ++ [(t.word.length : Int)]) t.lost t.deep w' ∧ wd.heap.size ≤ w'.heap.size ∧ (∃ b, s.2.2.2.2 = .slice (some ⟨b, 0, none⟩) 1 1 ∧ wd.heap.size ≤ b ∧ w'.heap[b]? = some (.cells #[.int .i64 (t.justOf m)] 3 (0, 0))) ∧ (∃ A n c, s.2.1 = .slice A n c) ∧ (∃ A n c, s.2.2.2.1 = .slice A n c) ∧ True) ?_ ?_
  rotate_left
  ·intro hJ8_9_14_15_21
   refine join_ (σ := Value × Value × Value × Value) 11 (Mq [21,11]) (fun s => [(55, s.1), (56, s.2.1), (61, s.2.2.1), (62, s.2.2.2)]) (fun s w' => TakeP base w g w.heap.size A c ids rc rn jb m vw3 vp3 vj3 vo3 vw3 (s.2.2.2) (vj3) (s.2.1) (t.word ++ [m]) (t.part ++ [-1]) (t.just) (t.opn ++ [(t.word.length : Int)]) t.lost t.deep w' ∧ wd.heap.size ≤ w'.heap.size ∧ (∃ A n c, s.2.1 = .slice A n c) ∧ (∃ A n c, s.2.2.2 = .slice A n c) ∧ True) ?_ ?_
   rotate_left
   ·intro hJ8_9_14_15
    refine join_ (σ := Value × Value × Value × Value) 11 (Mq [15,1,6,10]) (fun s => [(55, s.1), (56, s.2.1), (61, s.2.2.1), (68, s.2.2.2)]) (fun s w' => TakeP base w g w.heap.size A c ids rc rn jb m vw3 vp3 vj3 vo3 vw3 (vp3) (vj3) (s.2.1) (t.word ++ [m]) (t.part) (t.just) (t.opn ++ [(t.word.length : Int)]) t.lost t.deep w' ∧ wd.heap.size ≤ w'.heap.size ∧ (∃ b, s.2.2.1 = .slice (some ⟨b, 0, none⟩) 1 1 ∧ wd.heap.size ≤ b ∧ w'.heap[b]? = some (.cells #[.int .i64 (-1)] 3 (0, 0))) ∧ (∃ b, s.2.2.2 = .slice (some ⟨b, 0, none⟩) 1 1 ∧ wd.heap.size ≤ b ∧ w'.heap[b]? = some (.cells #[.int .i64 (t.justOf m)] 3 (0, 0))) ∧ (∃ A n c, s.2.1 = .slice A n c) ∧ True) ?_ ?_
    rotate_left
    ·intro hJ8_9_14_21
     refine join_ (σ := Value × Value × Value) 12 (Mq [15,1,5,11]) (fun s => [(55, s.1), (56, s.2.1), (61, s.2.2)]) (fun s w' => TakeP base w g w.heap.size A c ids rc rn jb m vw3 vp3 vj3 vo3 vw3 (vp3) (vj3) (s.2.1) (t.word ++ [m]) (t.part) (t.just) (t.opn ++ [(t.word.length : Int)]) t.lost t.deep w' ∧ wd.heap.size ≤ w'.heap.size ∧ (∃ b, s.2.2 = .slice (some ⟨b, 0, none⟩) 1 1 ∧ wd.heap.size ≤ b ∧ w'.heap[b]? = some (.cells #[.int .i64 (-1)] 3 (0, 0))) ∧ (∃ A n c, s.2.1 = .slice A n c) ∧ True) ?_ ?_
     rotate_left
     ·intro hJ8_9_14
      refine join_ (σ := Value × Value × Value) 12 (Mq [14,2,6,10]) (fun s => [(55, s.1), (56, s.2.1), (68, s.2.2)]) (fun s w' => TakeP base w g w.heap.size A c ids rc rn jb m vw3 vp3 vj3 vo3 vw3 (vp3) (vj3) (s.2.1) (t.word ++ [m]) (t.part) (t.just) (t.opn ++ [(t.word.length : Int)]) t.lost t.deep w' ∧ wd.heap.size ≤ w'.heap.size ∧ (∃ b, s.2.2 = .slice (some ⟨b, 0, none⟩) 1 1 ∧ wd.heap.size ≤ b ∧ w'.heap[b]? = some (.cells #[.int .i64 (t.justOf m)] 3 (0, 0))) ∧ (∃ A n c, s.2.1 = .slice A n c) ∧ True) ?_ ?_
      rotate_left
      ·intro hJ8_9_21
       refine join_ (σ := Value × Value × Value) 12 (Mq [9,1,5,1,6,10]) (fun s => [(55, s.1), (61, s.2.1), (68, s.2.2)]) (fun s w' => TakeP base w g w.heap.size A c ids rc rn jb m vw3 vp3 vj3 vo3 vw3 (vp3) (vj3) (vo3) (t.word ++ [m]) (t.part) (t.just) (t.opn) t.lost t.deep w' ∧ wd.heap.size ≤ w'.heap.size ∧ (∃ b, s.1 = .slice (some ⟨b, 0, none⟩) 1 1 ∧ wd.heap.size ≤ b ∧ w'.heap[b]? = some (.cells #[.int .i64 ((t.word.length : Int))] 3 (0, 0))) ∧ (∃ b, s.2.1 = .slice (some ⟨b, 0, none⟩) 1 1 ∧ wd.heap.size ≤ b ∧ w'.heap[b]? = some (.cells #[.int .i64 (-1)] 3 (0, 0))) ∧ (∃ b, s.2.2 = .slice (some ⟨b, 0, none⟩) 1 1 ∧ wd.heap.size ≤ b ∧ w'.heap[b]? = some (.cells #[.int .i64 (t.justOf m)] 3 (0, 0))) ∧ True) ?_ ?_
       rotate_left
       ·intro hJ8_14_21
        refine join_ (σ := Value × Value) 13 (Mq [14,2,5,11]) (fun s => [(55, s.1), (56, s.2)]) (fun s w' => TakeP base w g w.heap.size A c ids rc rn jb m vw3 vp3 vj3 vo3 vw3 (vp3) (vj3) (s.2) (t.word ++ [m]) (t.part) (t.just) (t.opn ++ [(t.word.length : Int)]) t.lost t.deep w' ∧ wd.heap.size ≤ w'.heap.size ∧ (∃ A n c, s.2 = .slice A n c) ∧ True) ?_ ?_
        rotate_left
        ·intro hJ8_9
         refine join_ (σ := Value × Value) 13 (Mq [9,1,5,1,5,11]) (fun s => [(55, s.1), (61, s.2)]) (fun s w' => TakeP base w g w.heap.size A c ids rc rn jb m vw3 vp3 vj3 vo3 vw3 (vp3) (vj3) (vo3) (t.word ++ [m]) (t.part) (t.just) (t.opn) t.lost t.deep w' ∧ wd.heap.size ≤ w'.heap.size ∧ (∃ b, s.1 = .slice (some ⟨b, 0, none⟩) 1 1 ∧ wd.heap.size ≤ b ∧ w'.heap[b]? = some (.cells #[.int .i64 ((t.word.length : Int))] 3 (0, 0))) ∧ (∃ b, s.2 = .slice (some ⟨b, 0, none⟩) 1 1 ∧ wd.heap.size ≤ b ∧ w'.heap[b]? = some (.cells #[.int .i64 (-1)] 3 (0, 0))) ∧ True) ?_ ?_
         rotate_left
         ·intro hJ8_14
          refine join_ (σ := Value × Value) 13 (Mq [9,1,4,2,6,10]) (fun s => [(55, s.1), (68, s.2)]) (fun s w' => TakeP base w g w.heap.size A c ids rc rn jb m vw3 vp3 vj3 vo3 vw3 (vp3) (vj3) (vo3) (t.word ++ [m]) (t.part) (t.just) (t.opn) t.lost t.deep w' ∧ wd.heap.size ≤ w'.heap.size ∧ (∃ b, s.1 = .slice (some ⟨b, 0, none⟩) 1 1 ∧ wd.heap.size ≤ b ∧ w'.heap[b]? = some (.cells #[.int .i64 ((t.word.length : Int))] 3 (0, 0))) ∧ (∃ b, s.2 = .slice (some ⟨b, 0, none⟩) 1 1 ∧ wd.heap.size ≤ b ∧ w'.heap[b]? = some (.cells #[.int .i64 (t.justOf m)] 3 (0, 0))) ∧ True) ?_ ?_
          rotate_left
          ·intro hJ8_21
           refine join_ (σ := Value × Value) 13 (Mq [8,2,5,1,6,10]) (fun s => [(61, s.1), (68, s.2)]) (fun s w' => TakeP base w g w.heap.size A c ids rc rn jb m vw3 vp3 vj3 vo3 vw3 (vp3) (vj3) (vo3) (t.word ++ [m]) (t.part) (t.just) (t.opn) t.lost t.deep w' ∧ wd.heap.size ≤ w'.heap.size ∧ (∃ b, s.1 = .slice (some ⟨b, 0, none⟩) 1 1 ∧ wd.heap.size ≤ b ∧ w'.heap[b]? = some (.cells #[.int .i64 (-1)] 3 (0, 0))) ∧ (∃ b, s.2 = .slice (some ⟨b, 0, none⟩) 1 1 ∧ wd.heap.size ≤ b ∧ w'.heap[b]? = some (.cells #[.int .i64 (t.justOf m)] 3 (0, 0))) ∧ True) ?_ ?_
           rotate_left
           ·intro hJ14_21
            refine join_ (σ := Value) 14 (Mq [9,1,4,2,5,11]) (fun s => [(55, s)]) (fun s w' => TakeP base w g w.heap.size A c ids rc rn jb m vw3 vp3 vj3 vo3 vw3 (vp3) (vj3) (vo3) (t.word ++ [m]) (t.part) (t.just) (t.opn) t.lost t.deep w' ∧ wd.heap.size ≤ w'.heap.size ∧ (∃ b, s = .slice (some ⟨b, 0, none⟩) 1 1 ∧ wd.heap.size ≤ b ∧ w'.heap[b]? = some (.cells #[.int .i64 ((t.word.length : Int))] 3 (0, 0))) ∧ True) ?_ ?_
            rotate_left
            ·intro hJ8
             refine join_ (σ := Value) 14 (Mq [8,2,5,1,5,11]) (fun s => [(61, s)]) (fun s w' => TakeP base w g w.heap.size A c ids rc rn jb m vw3 vp3 vj3 vo3 vw3 (vp3) (vj3) (vo3) (t.word ++ [m]) (t.part) (t.just) (t.opn) t.lost t.deep w' ∧ wd.heap.size ≤ w'.heap.size ∧ (∃ b, s = .slice (some ⟨b, 0, none⟩) 1 1 ∧ wd.heap.size ≤ b ∧ w'.heap[b]? = some (.cells #[.int .i64 (-1)] 3 (0, 0))) ∧ True) ?_ ?_
             rotate_left
             ·intro hJ14
              refine join_ (σ := Value) 14 (Mq [8,2,4,2,6,10]) (fun s => [(68, s)]) (fun s w' => TakeP base w g w.heap.size A c ids rc rn jb m vw3 vp3 vj3 vo3 vw3 (vp3) (vj3) (vo3) (t.word ++ [m]) (t.part) (t.just) (t.opn) t.lost t.deep w' ∧ wd.heap.size ≤ w'.heap.size ∧ (∃ b, s = .slice (some ⟨b, 0, none⟩) 1 1 ∧ wd.heap.size ≤ b ∧ w'.heap[b]? = some (.cells #[.int .i64 (t.justOf m)] 3 (0, 0))) ∧ True) ?_ ?_
              rotate_left
              ·intro hJ21
               refine three_ (i := 8) (j := 14) (k := 21) (Ni := some 55) (Nj := some 61) (Nk := some 68) (Mq [9,1,4,2,5,11]) (Mq [8,2,5,1,5,11]) (Mq [8,2,4,2,6,10]) rfl rfl rfl rfl rfl rfl (by kernel_rfl) (by decide) (by decide) (by decide) (fun K hK => ?_) (fun K hK => ?_) (fun K hK => ?_)
               ·skip
                refine value_ (w1 := ?_) (v := ?_) (by rfl) rfl ?_ ?_
                rotate_left 2
                ·go_simp
                 constructor
                 ·rfl
                 rfl
                refine hK.out _ _ ⟨(blk_cell ((S3d.out).new_box _).b 5).trans rfl, (blk_cell ((S3d.out).new_box _).b 6).trans rfl, (blk_cell ((S3d.out).new_box _).b 7).trans rfl⟩ (fun hHeld => ?_)
                clear hK K
                refine norm_ (a' := ?_) ?_ ?_
                rotate_left
                ·show Act.put _ (some 55) _ = _
                 simp only [Act.put,sn1,sn2,sn3,i64_w]
                 rfl
                exact norm_ (by first | (simp only [putAll, Act.put, sn1, sn2, sn3]; done) | (simp only [putAll, Act.put, sn1, sn2, sn3]; rfl)) (hJ8 (Value.slice (some ⟨wd.heap.size, 0, none⟩) 1 1) _ ⟨(S3d.out).new_box _, (by rw [World.size_alloc]; have := Nat.le_refl wd.heap.size; omega), ⟨_, rfl, (Nat.le_refl _), heap_alloc_new _ _⟩, trivial⟩)
               ·skip
                refine value_ (w1 := ?_) (v := ?_) (by rfl) rfl ?_ ?_
                rotate_left 2
                ·go_simp
                 constructor
                 ·rfl
                 rfl
                refine hK.out _ _ ⟨(blk_cell ((S3d.out).new_box _).b 5).trans rfl, (blk_cell ((S3d.out).new_box _).b 6).trans rfl, (blk_cell ((S3d.out).new_box _).b 7).trans rfl⟩ (fun hHeld => ?_)
                clear hK K
                refine norm_ (a' := ?_) ?_ ?_
                rotate_left
                ·show Act.put _ (some 61) _ = _
                 simp only [Act.put,sn1,sn2,sn3,i64_w]
                 rfl
                exact norm_ (by first | (simp only [putAll, Act.put, sn1, sn2, sn3]; done) | (simp only [putAll, Act.put, sn1, sn2, sn3]; rfl)) (hJ14 (Value.slice (some ⟨wd.heap.size, 0, none⟩) 1 1) _ ⟨(S3d.out).new_box _, (by rw [World.size_alloc]; have := Nat.le_refl wd.heap.size; omega), ⟨_, rfl, (Nat.le_refl _), heap_alloc_new _ _⟩, trivial⟩)
               skip
               refine value_ (w1 := ?_) (v := ?_) (by rfl) rfl ?_ ?_
               rotate_left 2
               ·go_simp
                constructor
                ·rfl
                rfl
               refine hK.out _ _ ⟨(blk_cell ((S3d.out).new_box _).b 5).trans rfl, (blk_cell ((S3d.out).new_box _).b 6).trans rfl, (blk_cell ((S3d.out).new_box _).b 7).trans rfl⟩ (fun hHeld => ?_)
               clear hK K
               refine norm_ (a' := ?_) ?_ ?_
               rotate_left
               ·show Act.put _ (some 68) _ = _
                simp only [Act.put,sn1,sn2,sn3,i64_w]
                rfl
               exact norm_ (by first | (simp only [putAll, Act.put, sn1, sn2, sn3]; done) | (simp only [putAll, Act.put, sn1, sn2, sn3]; rfl)) (hJ21 (Value.slice (some ⟨wd.heap.size, 0, none⟩) 1 1) _ ⟨(S3d.out).new_box _, (by rw [World.size_alloc]; have := Nat.le_refl wd.heap.size; omega), ⟨_, rfl, (Nat.le_refl _), heap_alloc_new _ _⟩, trivial⟩)
              skip
              rintro x21 wD21 ⟨hS21, hz21, ⟨b21, rfl, hb21, hk21⟩, -⟩
              have SD21 := am hS21
              clear hS21
              have hHeld : wD21.cell? ⟨g, 5, none⟩ = some vo3 ∧ wD21.cell? ⟨g, 6, none⟩ = some vp3 ∧ wD21.cell? ⟨g, 7, none⟩ = some vj3 := ⟨(blk_cell (SD21.out).b 5).trans rfl, (blk_cell (SD21.out).b 6).trans rfl, (blk_cell (SD21.out).b 7).trans rfl⟩
              refine norm_ (a' := ?_) ?_ ?_
              rotate_left
              ·simp only [putAll, Act.put, sn1, sn2, sn3]
               rfl
              refine two_ (i := 8) (j := 14) (Ni := some 55) (Nj := some 61) (Mq [9,1,4,2,6,10]) (Mq [8,2,5,1,6,10]) rfl rfl rfl rfl (by kernel_rfl) (by decide) (by decide) (fun K hK => ?_) (fun K hK => ?_)
              ·skip
               refine value_ (w1 := ?_) (v := ?_) (by rfl) rfl ?_ ?_
               rotate_left 2
               ·go_simp
                constructor
                ·rfl
                rfl
               refine hK.out _ _ ⟨(blk_cell ((SD21.out).new_box _).b 5).trans rfl, (blk_cell ((SD21.out).new_box _).b 6).trans rfl, (blk_cell ((SD21.out).new_box _).b 7).trans rfl⟩ (fun hHeld => ?_)
               clear hK K
               refine norm_ (a' := ?_) ?_ ?_
               rotate_left
               ·show Act.put _ (some 55) _ = _
                simp only [Act.put,sn1,sn2,sn3,i64_w]
                rfl
               exact norm_ (by first | (simp only [putAll, Act.put, sn1, sn2, sn3]; done) | (simp only [putAll, Act.put, sn1, sn2, sn3]; rfl)) (hJ8_21 (Value.slice (some ⟨wD21.heap.size, 0, none⟩) 1 1, Value.slice (some ⟨b21, 0, none⟩) 1 1) _ ⟨(SD21.out).new_box _, (by rw [World.size_alloc]; have := hz21; omega), ⟨_, rfl, hz21, heap_alloc_new _ _⟩, ⟨b21, rfl, hb21, blk_alloc hk21 _⟩, trivial⟩)
              skip
              refine value_ (w1 := ?_) (v := ?_) (by rfl) rfl ?_ ?_
              rotate_left 2
              ·go_simp
               constructor
               ·rfl
               rfl
              refine hK.out _ _ ⟨(blk_cell ((SD21.out).new_box _).b 5).trans rfl, (blk_cell ((SD21.out).new_box _).b 6).trans rfl, (blk_cell ((SD21.out).new_box _).b 7).trans rfl⟩ (fun hHeld => ?_)
              clear hK K
              refine norm_ (a' := ?_) ?_ ?_
              rotate_left
              ·show Act.put _ (some 61) _ = _
               simp only [Act.put,sn1,sn2,sn3,i64_w]
               rfl
              exact norm_ (by first | (simp only [putAll, Act.put, sn1, sn2, sn3]; done) | (simp only [putAll, Act.put, sn1, sn2, sn3]; rfl)) (hJ14_21 (Value.slice (some ⟨wD21.heap.size, 0, none⟩) 1 1, Value.slice (some ⟨b21, 0, none⟩) 1 1) _ ⟨(SD21.out).new_box _, (by rw [World.size_alloc]; have := hz21; omega), ⟨_, rfl, hz21, heap_alloc_new _ _⟩, ⟨b21, rfl, hb21, blk_alloc hk21 _⟩, trivial⟩)
             skip
             rintro x14 wD14 ⟨hS14, hz14, ⟨b14, rfl, hb14, hk14⟩, -⟩
             have SD14 := am hS14
             clear hS14
             have hHeld : wD14.cell? ⟨g, 5, none⟩ = some vo3 ∧ wD14.cell? ⟨g, 6, none⟩ = some vp3 ∧ wD14.cell? ⟨g, 7, none⟩ = some vj3 := ⟨(blk_cell (SD14.out).b 5).trans rfl, (blk_cell (SD14.out).b 6).trans rfl, (blk_cell (SD14.out).b 7).trans rfl⟩
             refine norm_ (a' := ?_) ?_ ?_
             rotate_left
             ·simp only [putAll, Act.put, sn1, sn2, sn3]
              rfl
             refine two_ (i := 8) (j := 21) (Ni := some 55) (Nj := some 68) (Mq [9,1,5,1,5,11]) (Mq [8,2,5,1,6,10]) rfl rfl rfl rfl (by kernel_rfl) (by decide) (by decide) (fun K hK => ?_) (fun K hK => ?_)
             ·skip
              refine value_ (w1 := ?_) (v := ?_) (by rfl) rfl ?_ ?_
              rotate_left 2
              ·go_simp
               constructor
               ·rfl
               rfl
              refine hK.out _ _ ⟨(blk_cell ((SD14.out).new_box _).b 5).trans rfl, (blk_cell ((SD14.out).new_box _).b 6).trans rfl, (blk_cell ((SD14.out).new_box _).b 7).trans rfl⟩ (fun hHeld => ?_)
              clear hK K
              refine norm_ (a' := ?_) ?_ ?_
              rotate_left
              ·show Act.put _ (some 55) _ = _
               simp only [Act.put,sn1,sn2,sn3,i64_w]
               rfl
              exact norm_ (by first | (simp only [putAll, Act.put, sn1, sn2, sn3]; done) | (simp only [putAll, Act.put, sn1, sn2, sn3]; rfl)) (hJ8_14 (Value.slice (some ⟨wD14.heap.size, 0, none⟩) 1 1, Value.slice (some ⟨b14, 0, none⟩) 1 1) _ ⟨(SD14.out).new_box _, (by rw [World.size_alloc]; have := hz14; omega), ⟨_, rfl, hz14, heap_alloc_new _ _⟩, ⟨b14, rfl, hb14, blk_alloc hk14 _⟩, trivial⟩)
             skip
             refine value_ (w1 := ?_) (v := ?_) (by rfl) rfl ?_ ?_
             rotate_left 2
             ·go_simp
              constructor
              ·rfl
              rfl
             refine hK.out _ _ ⟨(blk_cell ((SD14.out).new_box _).b 5).trans rfl, (blk_cell ((SD14.out).new_box _).b 6).trans rfl, (blk_cell ((SD14.out).new_box _).b 7).trans rfl⟩ (fun hHeld => ?_)
             clear hK K
             refine norm_ (a' := ?_) ?_ ?_
             rotate_left
             ·show Act.put _ (some 68) _ = _
              simp only [Act.put,sn1,sn2,sn3,i64_w]
              rfl
             exact norm_ (by first | (simp only [putAll, Act.put, sn1, sn2, sn3]; done) | (simp only [putAll, Act.put, sn1, sn2, sn3]; rfl)) (hJ14_21 (Value.slice (some ⟨b14, 0, none⟩) 1 1, Value.slice (some ⟨wD14.heap.size, 0, none⟩) 1 1) _ ⟨(SD14.out).new_box _, (by rw [World.size_alloc]; have := hz14; omega), ⟨b14, rfl, hb14, blk_alloc hk14 _⟩, ⟨_, rfl, hz14, heap_alloc_new _ _⟩, trivial⟩)
            skip
            rintro x8 wD8 ⟨hS8, hz8, ⟨b8, rfl, hb8, hk8⟩, -⟩
            have SD8 := am hS8
            clear hS8
            have hHeld : wD8.cell? ⟨g, 5, none⟩ = some vo3 ∧ wD8.cell? ⟨g, 6, none⟩ = some vp3 ∧ wD8.cell? ⟨g, 7, none⟩ = some vj3 := ⟨(blk_cell (SD8.out).b 5).trans rfl, (blk_cell (SD8.out).b 6).trans rfl, (blk_cell (SD8.out).b 7).trans rfl⟩
            refine norm_ (a' := ?_) ?_ ?_
            rotate_left
            ·simp only [putAll, Act.put, sn1, sn2, sn3]
             rfl
            refine three_ (i := 9) (j := 14) (k := 21) (Ni := some 56) (Nj := some 61) (Nk := some 68) (Mq [14,2,5,11]) (Mq [9,1,5,1,5,11]) (Mq [9,1,4,2,6,10]) rfl rfl rfl rfl rfl rfl (by kernel_rfl) (by decide) (by decide) (by decide) (fun K hK => ?_) (fun K hK => ?_) (fun K hK => ?_)
            ·skip
             refine app_at (Kd.int .i64) base (by rfl) rfl (.tmp 53) (.tmp 55) 36 3 (.int .i64 0) 8 rfl Tryz.underlying36 info3 rfl (by decide) (by omega) vo3 (t.opn) ((t.word.length : Int)) [.int .i64 ((t.word.length : Int))] b8 rfl rfl hk8 rfl SD8.out.r.o SD8.out.size (by omega) ?_
             intro v1 w1 hR hG hat
             have S2 := am (SD8.out.appO hR hG hat)
             obtain ⟨Af, nf, cf, rfl⟩ := R_slc hR
             refine hK.out _ _ ⟨(blk_cell (S2.out).b 5).trans rfl, (blk_cell (S2.out).b 6).trans rfl, (blk_cell (S2.out).b 7).trans rfl⟩ (fun hHeld => ?_)
             clear hK K
             refine norm_ (a' := ?_) ?_ ?_
             rotate_left
             ·show Act.put _ (some 56) _ = _
              simp only [Act.put,sn1,sn2,sn3,i64_w]
              rfl
             exact norm_ (by first | (simp only [putAll, Act.put, sn1, sn2, sn3]; done) | (simp only [putAll, Act.put, sn1, sn2, sn3]; rfl)) (hJ8_9 (Value.slice (some ⟨b8, 0, none⟩) 1 1, Value.slice Af nf cf) _ ⟨S2.out, (Nat.le_trans hz8 hG.size), ⟨_, _, _, rfl⟩, trivial⟩)
            ·skip
             refine value_ (w1 := ?_) (v := ?_) (by rfl) rfl ?_ ?_
             rotate_left 2
             ·go_simp
              constructor
              ·rfl
              rfl
             refine hK.out _ _ ⟨(blk_cell ((SD8.out).new_box _).b 5).trans rfl, (blk_cell ((SD8.out).new_box _).b 6).trans rfl, (blk_cell ((SD8.out).new_box _).b 7).trans rfl⟩ (fun hHeld => ?_)
             clear hK K
             refine norm_ (a' := ?_) ?_ ?_
             rotate_left
             ·show Act.put _ (some 61) _ = _
              simp only [Act.put,sn1,sn2,sn3,i64_w]
              rfl
             exact norm_ (by first | (simp only [putAll, Act.put, sn1, sn2, sn3]; done) | (simp only [putAll, Act.put, sn1, sn2, sn3]; rfl)) (hJ8_14 (Value.slice (some ⟨b8, 0, none⟩) 1 1, Value.slice (some ⟨wD8.heap.size, 0, none⟩) 1 1) _ ⟨(SD8.out).new_box _, (by rw [World.size_alloc]; have := hz8; omega), ⟨b8, rfl, hb8, blk_alloc hk8 _⟩, ⟨_, rfl, hz8, heap_alloc_new _ _⟩, trivial⟩)
            skip
            refine value_ (w1 := ?_) (v := ?_) (by rfl) rfl ?_ ?_
            rotate_left 2
            ·go_simp
             constructor
             ·rfl
             rfl
            refine hK.out _ _ ⟨(blk_cell ((SD8.out).new_box _).b 5).trans rfl, (blk_cell ((SD8.out).new_box _).b 6).trans rfl, (blk_cell ((SD8.out).new_box _).b 7).trans rfl⟩ (fun hHeld => ?_)
            clear hK K
            refine norm_ (a' := ?_) ?_ ?_
            rotate_left
            ·show Act.put _ (some 68) _ = _
             simp only [Act.put,sn1,sn2,sn3,i64_w]
             rfl
            exact norm_ (by first | (simp only [putAll, Act.put, sn1, sn2, sn3]; done) | (simp only [putAll, Act.put, sn1, sn2, sn3]; rfl)) (hJ8_21 (Value.slice (some ⟨b8, 0, none⟩) 1 1, Value.slice (some ⟨wD8.heap.size, 0, none⟩) 1 1) _ ⟨(SD8.out).new_box _, (by rw [World.size_alloc]; have := hz8; omega), ⟨b8, rfl, hb8, blk_alloc hk8 _⟩, ⟨_, rfl, hz8, heap_alloc_new _ _⟩, trivial⟩)
           skip
           rintro ⟨x14, x21⟩ wD14_21 ⟨hS14_21, hz14_21, ⟨b14, rfl, hb14, hk14⟩, ⟨b21, rfl, hb21, hk21⟩, -⟩
           have SD14_21 := am hS14_21
           clear hS14_21
           have hHeld : wD14_21.cell? ⟨g, 5, none⟩ = some vo3 ∧ wD14_21.cell? ⟨g, 6, none⟩ = some vp3 ∧ wD14_21.cell? ⟨g, 7, none⟩ = some vj3 := ⟨(blk_cell (SD14_21.out).b 5).trans rfl, (blk_cell (SD14_21.out).b 6).trans rfl, (blk_cell (SD14_21.out).b 7).trans rfl⟩
           refine norm_ (a' := ?_) ?_ ?_
           rotate_left
           ·simp only [putAll, Act.put, sn1, sn2, sn3]
            rfl
           refine one_ (i := 8) (N:=some 55) (Mq [9,1,5,1,6,10]) rfl rfl (by kernel_rfl) (by decide) (fun K hK => ?_)
           refine value_ (w1 := ?_) (v := ?_) (by rfl) rfl ?_ ?_
           rotate_left 2
           ·go_simp
            constructor
            ·rfl
            rfl
           refine hK.out _ _ ⟨(blk_cell ((SD14_21.out).new_box _).b 5).trans rfl, (blk_cell ((SD14_21.out).new_box _).b 6).trans rfl, (blk_cell ((SD14_21.out).new_box _).b 7).trans rfl⟩ (fun hHeld => ?_)
           clear hK K
           refine norm_ (a' := ?_) ?_ ?_
           rotate_left
           ·show Act.put _ (some 55) _ = _
            simp only [Act.put,sn1,sn2,sn3,i64_w]
            rfl
           exact norm_ (by first | (simp only [putAll, Act.put, sn1, sn2, sn3]; done) | (simp only [putAll, Act.put, sn1, sn2, sn3]; rfl)) (hJ8_14_21 (Value.slice (some ⟨wD14_21.heap.size, 0, none⟩) 1 1, Value.slice (some ⟨b14, 0, none⟩) 1 1, Value.slice (some ⟨b21, 0, none⟩) 1 1) _ ⟨(SD14_21.out).new_box _, (by rw [World.size_alloc]; have := hz14_21; omega), ⟨_, rfl, hz14_21, heap_alloc_new _ _⟩, ⟨b14, rfl, hb14, blk_alloc hk14 _⟩, ⟨b21, rfl, hb21, blk_alloc hk21 _⟩, trivial⟩)
          skip
          rintro ⟨x8, x21⟩ wD8_21 ⟨hS8_21, hz8_21, ⟨b8, rfl, hb8, hk8⟩, ⟨b21, rfl, hb21, hk21⟩, -⟩
          have SD8_21 := am hS8_21
          clear hS8_21
          have hHeld : wD8_21.cell? ⟨g, 5, none⟩ = some vo3 ∧ wD8_21.cell? ⟨g, 6, none⟩ = some vp3 ∧ wD8_21.cell? ⟨g, 7, none⟩ = some vj3 := ⟨(blk_cell (SD8_21.out).b 5).trans rfl, (blk_cell (SD8_21.out).b 6).trans rfl, (blk_cell (SD8_21.out).b 7).trans rfl⟩
          refine norm_ (a' := ?_) ?_ ?_
          rotate_left
          ·simp only [putAll, Act.put, sn1, sn2, sn3]
           rfl
          refine two_ (i := 9) (j := 14) (Ni := some 56) (Nj := some 61) (Mq [14,2,6,10]) (Mq [9,1,5,1,6,10]) rfl rfl rfl rfl (by kernel_rfl) (by decide) (by decide) (fun K hK => ?_) (fun K hK => ?_)
          ·skip
           refine app_at (Kd.int .i64) base (by rfl) rfl (.tmp 53) (.tmp 55) 36 3 (.int .i64 0) 8 rfl Tryz.underlying36 info3 rfl (by decide) (by omega) vo3 (t.opn) ((t.word.length : Int)) [.int .i64 ((t.word.length : Int))] b8 rfl rfl hk8 rfl SD8_21.out.r.o SD8_21.out.size (by omega) ?_
           intro v1 w1 hR hG hat
           have S2 := am (SD8_21.out.appO hR hG hat)
           obtain ⟨Af, nf, cf, rfl⟩ := R_slc hR
           refine hK.out _ _ ⟨(blk_cell (S2.out).b 5).trans rfl, (blk_cell (S2.out).b 6).trans rfl, (blk_cell (S2.out).b 7).trans rfl⟩ (fun hHeld => ?_)
           clear hK K
           refine norm_ (a' := ?_) ?_ ?_
           rotate_left
           ·show Act.put _ (some 56) _ = _
            simp only [Act.put,sn1,sn2,sn3,i64_w]
            rfl
           exact norm_ (by first | (simp only [putAll, Act.put, sn1, sn2, sn3]; done) | (simp only [putAll, Act.put, sn1, sn2, sn3]; rfl)) (hJ8_9_21 (Value.slice (some ⟨b8, 0, none⟩) 1 1, Value.slice Af nf cf, Value.slice (some ⟨b21, 0, none⟩) 1 1) _ ⟨S2.out, (Nat.le_trans hz8_21 hG.size), ⟨b21, rfl, hb21, blk_grown hk21 hG (by intro e; have := S3d.out.r.o.lt _ e.symm; omega)⟩, ⟨_, _, _, rfl⟩, trivial⟩)
          skip
          refine value_ (w1 := ?_) (v := ?_) (by rfl) rfl ?_ ?_
          rotate_left 2
          ·go_simp
           constructor
           ·rfl
           rfl
          refine hK.out _ _ ⟨(blk_cell ((SD8_21.out).new_box _).b 5).trans rfl, (blk_cell ((SD8_21.out).new_box _).b 6).trans rfl, (blk_cell ((SD8_21.out).new_box _).b 7).trans rfl⟩ (fun hHeld => ?_)
          clear hK K
          refine norm_ (a' := ?_) ?_ ?_
          rotate_left
          ·show Act.put _ (some 61) _ = _
           simp only [Act.put,sn1,sn2,sn3,i64_w]
           rfl
          exact norm_ (by first | (simp only [putAll, Act.put, sn1, sn2, sn3]; done) | (simp only [putAll, Act.put, sn1, sn2, sn3]; rfl)) (hJ8_14_21 (Value.slice (some ⟨b8, 0, none⟩) 1 1, Value.slice (some ⟨wD8_21.heap.size, 0, none⟩) 1 1, Value.slice (some ⟨b21, 0, none⟩) 1 1) _ ⟨(SD8_21.out).new_box _, (by rw [World.size_alloc]; have := hz8_21; omega), ⟨b8, rfl, hb8, blk_alloc hk8 _⟩, ⟨_, rfl, hz8_21, heap_alloc_new _ _⟩, ⟨b21, rfl, hb21, blk_alloc hk21 _⟩, trivial⟩)
         skip
         rintro ⟨x8, x14⟩ wD8_14 ⟨hS8_14, hz8_14, ⟨b8, rfl, hb8, hk8⟩, ⟨b14, rfl, hb14, hk14⟩, -⟩
         have SD8_14 := am hS8_14
         clear hS8_14
         have hHeld : wD8_14.cell? ⟨g, 5, none⟩ = some vo3 ∧ wD8_14.cell? ⟨g, 6, none⟩ = some vp3 ∧ wD8_14.cell? ⟨g, 7, none⟩ = some vj3 := ⟨(blk_cell (SD8_14.out).b 5).trans rfl, (blk_cell (SD8_14.out).b 6).trans rfl, (blk_cell (SD8_14.out).b 7).trans rfl⟩
         refine norm_ (a' := ?_) ?_ ?_
         rotate_left
         ·simp only [putAll, Act.put, sn1, sn2, sn3]
          rfl
         refine two_ (i := 9) (j := 21) (Ni := some 56) (Nj := some 68) (Mq [15,1,5,11]) (Mq [9,1,5,1,6,10]) rfl rfl rfl rfl (by kernel_rfl) (by decide) (by decide) (fun K hK => ?_) (fun K hK => ?_)
         ·skip
          refine app_at (Kd.int .i64) base (by rfl) rfl (.tmp 53) (.tmp 55) 36 3 (.int .i64 0) 8 rfl Tryz.underlying36 info3 rfl (by decide) (by omega) vo3 (t.opn) ((t.word.length : Int)) [.int .i64 ((t.word.length : Int))] b8 rfl rfl hk8 rfl SD8_14.out.r.o SD8_14.out.size (by omega) ?_
          intro v1 w1 hR hG hat
          have S2 := am (SD8_14.out.appO hR hG hat)
          obtain ⟨Af, nf, cf, rfl⟩ := R_slc hR
          refine hK.out _ _ ⟨(blk_cell (S2.out).b 5).trans rfl, (blk_cell (S2.out).b 6).trans rfl, (blk_cell (S2.out).b 7).trans rfl⟩ (fun hHeld => ?_)
          clear hK K
          refine norm_ (a' := ?_) ?_ ?_
          rotate_left
          ·show Act.put _ (some 56) _ = _
           simp only [Act.put,sn1,sn2,sn3,i64_w]
           rfl
          exact norm_ (by first | (simp only [putAll, Act.put, sn1, sn2, sn3]; done) | (simp only [putAll, Act.put, sn1, sn2, sn3]; rfl)) (hJ8_9_14 (Value.slice (some ⟨b8, 0, none⟩) 1 1, Value.slice Af nf cf, Value.slice (some ⟨b14, 0, none⟩) 1 1) _ ⟨S2.out, (Nat.le_trans hz8_14 hG.size), ⟨b14, rfl, hb14, blk_grown hk14 hG (by intro e; have := S3d.out.r.o.lt _ e.symm; omega)⟩, ⟨_, _, _, rfl⟩, trivial⟩)
         skip
         refine value_ (w1 := ?_) (v := ?_) (by rfl) rfl ?_ ?_
         rotate_left 2
         ·go_simp
          constructor
          ·rfl
          rfl
         refine hK.out _ _ ⟨(blk_cell ((SD8_14.out).new_box _).b 5).trans rfl, (blk_cell ((SD8_14.out).new_box _).b 6).trans rfl, (blk_cell ((SD8_14.out).new_box _).b 7).trans rfl⟩ (fun hHeld => ?_)
         clear hK K
         refine norm_ (a' := ?_) ?_ ?_
         rotate_left
         ·show Act.put _ (some 68) _ = _
          simp only [Act.put,sn1,sn2,sn3,i64_w]
          rfl
         exact norm_ (by first | (simp only [putAll, Act.put, sn1, sn2, sn3]; done) | (simp only [putAll, Act.put, sn1, sn2, sn3]; rfl)) (hJ8_14_21 (Value.slice (some ⟨b8, 0, none⟩) 1 1, Value.slice (some ⟨b14, 0, none⟩) 1 1, Value.slice (some ⟨wD8_14.heap.size, 0, none⟩) 1 1) _ ⟨(SD8_14.out).new_box _, (by rw [World.size_alloc]; have := hz8_14; omega), ⟨b8, rfl, hb8, blk_alloc hk8 _⟩, ⟨b14, rfl, hb14, blk_alloc hk14 _⟩, ⟨_, rfl, hz8_14, heap_alloc_new _ _⟩, trivial⟩)
        skip
        rintro ⟨x8, x9⟩ wD8_9 ⟨hS8_9, hz8_9, ⟨A9, n9, c9, rfl⟩, -⟩
        have SD8_9 := am hS8_9
        clear hS8_9
        have hHeld : wD8_9.cell? ⟨g, 5, none⟩ = some vo3 ∧ wD8_9.cell? ⟨g, 6, none⟩ = some vp3 ∧ wD8_9.cell? ⟨g, 7, none⟩ = some vj3 := ⟨(blk_cell (SD8_9.out).b 5).trans rfl, (blk_cell (SD8_9.out).b 6).trans rfl, (blk_cell (SD8_9.out).b 7).trans rfl⟩
        refine norm_ (a' := ?_) ?_ ?_
        rotate_left
        ·simp only [putAll, Act.put, sn1, sn2, sn3]
         rfl
        refine two_ (i := 14) (j := 21) (Ni := some 61) (Nj := some 68) (Mq [15,1,5,11]) (Mq [14,2,6,10]) rfl rfl rfl rfl (by kernel_rfl) (by decide) (by decide) (fun K hK => ?_) (fun K hK => ?_)
        ·skip
         refine value_ (w1 := ?_) (v := ?_) (by rfl) rfl ?_ ?_
         rotate_left 2
         ·go_simp
          constructor
          ·rfl
          rfl
         refine hK.out _ _ ⟨(blk_cell ((SD8_9.out).new_box _).b 5).trans rfl, (blk_cell ((SD8_9.out).new_box _).b 6).trans rfl, (blk_cell ((SD8_9.out).new_box _).b 7).trans rfl⟩ (fun hHeld => ?_)
         clear hK K
         refine norm_ (a' := ?_) ?_ ?_
         rotate_left
         ·show Act.put _ (some 61) _ = _
          simp only [Act.put,sn1,sn2,sn3,i64_w]
          rfl
         exact norm_ (by first | (simp only [putAll, Act.put, sn1, sn2, sn3]; done) | (simp only [putAll, Act.put, sn1, sn2, sn3]; rfl)) (hJ8_9_14 (x8, Value.slice A9 n9 c9, Value.slice (some ⟨wD8_9.heap.size, 0, none⟩) 1 1) _ ⟨(SD8_9.out).new_box _, (by rw [World.size_alloc]; have := hz8_9; omega), ⟨_, rfl, hz8_9, heap_alloc_new _ _⟩, ⟨_, _, _, rfl⟩, trivial⟩)
        skip
        refine value_ (w1 := ?_) (v := ?_) (by rfl) rfl ?_ ?_
        rotate_left 2
        ·go_simp
         constructor
         ·rfl
         rfl
        refine hK.out _ _ ⟨(blk_cell ((SD8_9.out).new_box _).b 5).trans rfl, (blk_cell ((SD8_9.out).new_box _).b 6).trans rfl, (blk_cell ((SD8_9.out).new_box _).b 7).trans rfl⟩ (fun hHeld => ?_)
        clear hK K
        refine norm_ (a' := ?_) ?_ ?_
        rotate_left
        ·show Act.put _ (some 68) _ = _
         simp only [Act.put,sn1,sn2,sn3,i64_w]
         rfl
        exact norm_ (by first | (simp only [putAll, Act.put, sn1, sn2, sn3]; done) | (simp only [putAll, Act.put, sn1, sn2, sn3]; rfl)) (hJ8_9_21 (x8, Value.slice A9 n9 c9, Value.slice (some ⟨wD8_9.heap.size, 0, none⟩) 1 1) _ ⟨(SD8_9.out).new_box _, (by rw [World.size_alloc]; have := hz8_9; omega), ⟨_, rfl, hz8_9, heap_alloc_new _ _⟩, ⟨_, _, _, rfl⟩, trivial⟩)
       skip
       rintro ⟨x8, x14, x21⟩ wD8_14_21 ⟨hS8_14_21, hz8_14_21, ⟨b8, rfl, hb8, hk8⟩, ⟨b14, rfl, hb14, hk14⟩, ⟨b21, rfl, hb21, hk21⟩, -⟩
       have SD8_14_21 := am hS8_14_21
       clear hS8_14_21
       have hHeld : wD8_14_21.cell? ⟨g, 5, none⟩ = some vo3 ∧ wD8_14_21.cell? ⟨g, 6, none⟩ = some vp3 ∧ wD8_14_21.cell? ⟨g, 7, none⟩ = some vj3 := ⟨(blk_cell (SD8_14_21.out).b 5).trans rfl, (blk_cell (SD8_14_21.out).b 6).trans rfl, (blk_cell (SD8_14_21.out).b 7).trans rfl⟩
       refine norm_ (a' := ?_) ?_ ?_
       rotate_left
       ·simp only [putAll, Act.put, sn1, sn2, sn3]
        rfl
       refine one_ (i := 9) (N:=some 56) (Mq [15,1,6,10]) rfl rfl (by kernel_rfl) (by decide) (fun K hK => ?_)
       refine app_at (Kd.int .i64) base (by rfl) rfl (.tmp 53) (.tmp 55) 36 3 (.int .i64 0) 8 rfl Tryz.underlying36 info3 rfl (by decide) (by omega) vo3 (t.opn) ((t.word.length : Int)) [.int .i64 ((t.word.length : Int))] b8 rfl rfl hk8 rfl SD8_14_21.out.r.o SD8_14_21.out.size (by omega) ?_
       intro v1 w1 hR hG hat
       have S2 := am (SD8_14_21.out.appO hR hG hat)
       obtain ⟨Af, nf, cf, rfl⟩ := R_slc hR
       refine hK.out _ _ ⟨(blk_cell (S2.out).b 5).trans rfl, (blk_cell (S2.out).b 6).trans rfl, (blk_cell (S2.out).b 7).trans rfl⟩ (fun hHeld => ?_)
       clear hK K
       refine norm_ (a' := ?_) ?_ ?_
       rotate_left
       ·show Act.put _ (some 56) _ = _
        simp only [Act.put,sn1,sn2,sn3,i64_w]
        rfl
       exact norm_ (by first | (simp only [putAll, Act.put, sn1, sn2, sn3]; done) | (simp only [putAll, Act.put, sn1, sn2, sn3]; rfl)) (hJ8_9_14_21 (Value.slice (some ⟨b8, 0, none⟩) 1 1, Value.slice Af nf cf, Value.slice (some ⟨b14, 0, none⟩) 1 1, Value.slice (some ⟨b21, 0, none⟩) 1 1) _ ⟨S2.out, (Nat.le_trans hz8_14_21 hG.size), ⟨b14, rfl, hb14, blk_grown hk14 hG (by intro e; have := S3d.out.r.o.lt _ e.symm; omega)⟩, ⟨b21, rfl, hb21, blk_grown hk21 hG (by intro e; have := S3d.out.r.o.lt _ e.symm; omega)⟩, ⟨_, _, _, rfl⟩, trivial⟩)
      skip
      rintro ⟨x8, x9, x21⟩ wD8_9_21 ⟨hS8_9_21, hz8_9_21, ⟨b21, rfl, hb21, hk21⟩, ⟨A9, n9, c9, rfl⟩, -⟩
      have SD8_9_21 := am hS8_9_21
      clear hS8_9_21
      have hHeld : wD8_9_21.cell? ⟨g, 5, none⟩ = some vo3 ∧ wD8_9_21.cell? ⟨g, 6, none⟩ = some vp3 ∧ wD8_9_21.cell? ⟨g, 7, none⟩ = some vj3 := ⟨(blk_cell (SD8_9_21.out).b 5).trans rfl, (blk_cell (SD8_9_21.out).b 6).trans rfl, (blk_cell (SD8_9_21.out).b 7).trans rfl⟩
      refine norm_ (a' := ?_) ?_ ?_
      rotate_left
      ·simp only [putAll, Act.put, sn1, sn2, sn3]
       rfl
      refine one_ (i := 14) (N:=some 61) (Mq [15,1,6,10]) rfl rfl (by kernel_rfl) (by decide) (fun K hK => ?_)
      refine value_ (w1 := ?_) (v := ?_) (by rfl) rfl ?_ ?_
      rotate_left 2
      ·go_simp
       constructor
       ·rfl
       rfl
      refine hK.out _ _ ⟨(blk_cell ((SD8_9_21.out).new_box _).b 5).trans rfl, (blk_cell ((SD8_9_21.out).new_box _).b 6).trans rfl, (blk_cell ((SD8_9_21.out).new_box _).b 7).trans rfl⟩ (fun hHeld => ?_)
      clear hK K
      refine norm_ (a' := ?_) ?_ ?_
      rotate_left
      ·show Act.put _ (some 61) _ = _
       simp only [Act.put,sn1,sn2,sn3,i64_w]
       rfl
      exact norm_ (by first | (simp only [putAll, Act.put, sn1, sn2, sn3]; done) | (simp only [putAll, Act.put, sn1, sn2, sn3]; rfl)) (hJ8_9_14_21 (x8, Value.slice A9 n9 c9, Value.slice (some ⟨wD8_9_21.heap.size, 0, none⟩) 1 1, Value.slice (some ⟨b21, 0, none⟩) 1 1) _ ⟨(SD8_9_21.out).new_box _, (by rw [World.size_alloc]; have := hz8_9_21; omega), ⟨_, rfl, hz8_9_21, heap_alloc_new _ _⟩, ⟨b21, rfl, hb21, blk_alloc hk21 _⟩, ⟨_, _, _, rfl⟩, trivial⟩)
     skip
     rintro ⟨x8, x9, x14⟩ wD8_9_14 ⟨hS8_9_14, hz8_9_14, ⟨b14, rfl, hb14, hk14⟩, ⟨A9, n9, c9, rfl⟩, -⟩
     have SD8_9_14 := am hS8_9_14
     clear hS8_9_14
     have hHeld : wD8_9_14.cell? ⟨g, 5, none⟩ = some vo3 ∧ wD8_9_14.cell? ⟨g, 6, none⟩ = some vp3 ∧ wD8_9_14.cell? ⟨g, 7, none⟩ = some vj3 := ⟨(blk_cell (SD8_9_14.out).b 5).trans rfl, (blk_cell (SD8_9_14.out).b 6).trans rfl, (blk_cell (SD8_9_14.out).b 7).trans rfl⟩
     refine norm_ (a' := ?_) ?_ ?_
     rotate_left
     ·simp only [putAll, Act.put, sn1, sn2, sn3]
      rfl
     refine two_ (i := 15) (j := 21) (Ni := some 62) (Nj := some 68) (Mq [21,11]) (Mq [15,1,6,10]) rfl rfl rfl rfl (by kernel_rfl) (by decide) (by decide) (fun K hK => ?_) (fun K hK => ?_)
     ·skip
      refine app_at (Kd.int .i64) base (by rfl) rfl (.tmp 60) (.tmp 61) 36 3 (.int .i64 0) 8 rfl Tryz.underlying36 info3 rfl (by decide) (by omega) vp3 (t.part) (-1) [.int .i64 (-1)] b14 rfl rfl hk14 rfl SD8_9_14.out.r.p SD8_9_14.out.size (by omega) ?_
      intro v1 w1 hR hG hat
      have S2 := am (SD8_9_14.out.appP hR hG hat)
      obtain ⟨Af, nf, cf, rfl⟩ := R_slc hR
      refine hK.out _ _ ⟨(blk_cell (S2.out).b 5).trans rfl, (blk_cell (S2.out).b 6).trans rfl, (blk_cell (S2.out).b 7).trans rfl⟩ (fun hHeld => ?_)
      clear hK K
      refine norm_ (a' := ?_) ?_ ?_
      rotate_left
      ·show Act.put _ (some 62) _ = _
       simp only [Act.put,sn1,sn2,sn3,i64_w]
       rfl
      exact norm_ (by first | (simp only [putAll, Act.put, sn1, sn2, sn3]; done) | (simp only [putAll, Act.put, sn1, sn2, sn3]; rfl)) (hJ8_9_14_15 (x8, Value.slice A9 n9 c9, Value.slice (some ⟨b14, 0, none⟩) 1 1, Value.slice Af nf cf) _ ⟨S2.out, (Nat.le_trans hz8_9_14 hG.size), ⟨_, _, _, rfl⟩, ⟨_, _, _, rfl⟩, trivial⟩)
     skip
     refine value_ (w1 := ?_) (v := ?_) (by rfl) rfl ?_ ?_
     rotate_left 2
     ·go_simp
      constructor
      ·rfl
      rfl
     refine hK.out _ _ ⟨(blk_cell ((SD8_9_14.out).new_box _).b 5).trans rfl, (blk_cell ((SD8_9_14.out).new_box _).b 6).trans rfl, (blk_cell ((SD8_9_14.out).new_box _).b 7).trans rfl⟩ (fun hHeld => ?_)
     clear hK K
     refine norm_ (a' := ?_) ?_ ?_
     rotate_left
     ·show Act.put _ (some 68) _ = _
      simp only [Act.put,sn1,sn2,sn3,i64_w]
      rfl
     exact norm_ (by first | (simp only [putAll, Act.put, sn1, sn2, sn3]; done) | (simp only [putAll, Act.put, sn1, sn2, sn3]; rfl)) (hJ8_9_14_21 (x8, Value.slice A9 n9 c9, Value.slice (some ⟨b14, 0, none⟩) 1 1, Value.slice (some ⟨wD8_9_14.heap.size, 0, none⟩) 1 1) _ ⟨(SD8_9_14.out).new_box _, (by rw [World.size_alloc]; have := hz8_9_14; omega), ⟨b14, rfl, hb14, blk_alloc hk14 _⟩, ⟨_, rfl, hz8_9_14, heap_alloc_new _ _⟩, ⟨_, _, _, rfl⟩, trivial⟩)
    skip
    rintro ⟨x8, x9, x14, x21⟩ wD8_9_14_21 ⟨hS8_9_14_21, hz8_9_14_21, ⟨b14, rfl, hb14, hk14⟩, ⟨b21, rfl, hb21, hk21⟩, ⟨A9, n9, c9, rfl⟩, -⟩
    have SD8_9_14_21 := am hS8_9_14_21
    clear hS8_9_14_21
    have hHeld : wD8_9_14_21.cell? ⟨g, 5, none⟩ = some vo3 ∧ wD8_9_14_21.cell? ⟨g, 6, none⟩ = some vp3 ∧ wD8_9_14_21.cell? ⟨g, 7, none⟩ = some vj3 := ⟨(blk_cell (SD8_9_14_21.out).b 5).trans rfl, (blk_cell (SD8_9_14_21.out).b 6).trans rfl, (blk_cell (SD8_9_14_21.out).b 7).trans rfl⟩
    refine norm_ (a' := ?_) ?_ ?_
    rotate_left
    ·simp only [putAll, Act.put, sn1, sn2, sn3]
     rfl
    refine one_ (i := 15) (N:=some 62) (Mq [22,10]) rfl rfl (by kernel_rfl) (by decide) (fun K hK => ?_)
    refine app_at (Kd.int .i64) base (by rfl) rfl (.tmp 60) (.tmp 61) 36 3 (.int .i64 0) 8 rfl Tryz.underlying36 info3 rfl (by decide) (by omega) vp3 (t.part) (-1) [.int .i64 (-1)] b14 rfl rfl hk14 rfl SD8_9_14_21.out.r.p SD8_9_14_21.out.size (by omega) ?_
    intro v1 w1 hR hG hat
    have S2 := am (SD8_9_14_21.out.appP hR hG hat)
    obtain ⟨Af, nf, cf, rfl⟩ := R_slc hR
    refine hK.out _ _ ⟨(blk_cell (S2.out).b 5).trans rfl, (blk_cell (S2.out).b 6).trans rfl, (blk_cell (S2.out).b 7).trans rfl⟩ (fun hHeld => ?_)
    clear hK K
    refine norm_ (a' := ?_) ?_ ?_
    rotate_left
    ·show Act.put _ (some 62) _ = _
     simp only [Act.put,sn1,sn2,sn3,i64_w]
     rfl
    exact norm_ (by first | (simp only [putAll, Act.put, sn1, sn2, sn3]; done) | (simp only [putAll, Act.put, sn1, sn2, sn3]; rfl)) (hJ8_9_14_15_21 (x8, Value.slice A9 n9 c9, Value.slice (some ⟨b14, 0, none⟩) 1 1, Value.slice Af nf cf, Value.slice (some ⟨b21, 0, none⟩) 1 1) _ ⟨S2.out, (Nat.le_trans hz8_9_14_21 hG.size), ⟨b21, rfl, hb21, blk_grown hk21 hG (by intro e; have := S3d.out.r.p.lt _ e.symm; omega)⟩, ⟨_, _, _, rfl⟩, ⟨_, _, _, rfl⟩, trivial⟩)
   skip
   rintro ⟨x8, x9, x14, x15⟩ wD8_9_14_15 ⟨hS8_9_14_15, hz8_9_14_15, ⟨A9, n9, c9, rfl⟩, ⟨A15, n15, c15, rfl⟩, -⟩
   have SD8_9_14_15 := am hS8_9_14_15
   clear hS8_9_14_15
   have hHeld : wD8_9_14_15.cell? ⟨g, 5, none⟩ = some vo3 ∧ wD8_9_14_15.cell? ⟨g, 6, none⟩ = some vp3 ∧ wD8_9_14_15.cell? ⟨g, 7, none⟩ = some vj3 := ⟨(blk_cell (SD8_9_14_15.out).b 5).trans rfl, (blk_cell (SD8_9_14_15.out).b 6).trans rfl, (blk_cell (SD8_9_14_15.out).b 7).trans rfl⟩
   refine norm_ (a' := ?_) ?_ ?_
   rotate_left
   ·simp only [putAll, Act.put, sn1, sn2, sn3]
    rfl
   refine one_ (i := 21) (N:=some 68) (Mq [22,10]) rfl rfl (by kernel_rfl) (by decide) (fun K hK => ?_)
   refine value_ (w1 := ?_) (v := ?_) (by rfl) rfl ?_ ?_
   rotate_left 2
   ·go_simp
    constructor
    ·rfl
    rfl
   refine hK.out _ _ ⟨(blk_cell ((SD8_9_14_15.out).new_box _).b 5).trans rfl, (blk_cell ((SD8_9_14_15.out).new_box _).b 6).trans rfl, (blk_cell ((SD8_9_14_15.out).new_box _).b 7).trans rfl⟩ (fun hHeld => ?_)
   clear hK K
   refine norm_ (a' := ?_) ?_ ?_
   rotate_left
   ·show Act.put _ (some 68) _ = _
    simp only [Act.put,sn1,sn2,sn3,i64_w]
    rfl
   exact norm_ (by first | (simp only [putAll, Act.put, sn1, sn2, sn3]; done) | (simp only [putAll, Act.put, sn1, sn2, sn3]; rfl)) (hJ8_9_14_15_21 (x8, Value.slice A9 n9 c9, x14, Value.slice A15 n15 c15, Value.slice (some ⟨wD8_9_14_15.heap.size, 0, none⟩) 1 1) _ ⟨(SD8_9_14_15.out).new_box _, (by rw [World.size_alloc]; have := hz8_9_14_15; omega), ⟨_, rfl, hz8_9_14_15, heap_alloc_new _ _⟩, ⟨_, _, _, rfl⟩, ⟨_, _, _, rfl⟩, trivial⟩)
  rintro ⟨x8, x9, x14, x15, x21⟩ wD8_9_14_15_21 ⟨hS8_9_14_15_21, hz8_9_14_15_21, ⟨b21, rfl, hb21, hk21⟩, ⟨A9, n9, c9, rfl⟩, ⟨A15, n15, c15, rfl⟩, -⟩
  have SD8_9_14_15_21 := am hS8_9_14_15_21
  clear hS8_9_14_15_21
  have hHeld : wD8_9_14_15_21.cell? ⟨g, 5, none⟩ = some vo3 ∧ wD8_9_14_15_21.cell? ⟨g, 6, none⟩ = some vp3 ∧ wD8_9_14_15_21.cell? ⟨g, 7, none⟩ = some vj3 := ⟨(blk_cell (SD8_9_14_15_21.out).b 5).trans rfl, (blk_cell (SD8_9_14_15_21.out).b 6).trans rfl, (blk_cell (SD8_9_14_15_21.out).b 7).trans rfl⟩
  refine norm_ (a' := ?_) ?_ ?_
  rotate_left
  ·simp only [putAll, Act.put, sn1, sn2, sn3]
   rfl
  refine one_ (i := 22) (N:=some 69) (Mq [23,9]) rfl rfl (by kernel_rfl) (by decide) (fun K hK => ?_)
  refine app_at (Kd.int .i64) base (by rfl) rfl (.tmp 66) (.tmp 68) 36 3 (.int .i64 0) 8 rfl Tryz.underlying36 info3 rfl (by decide) (by omega) vj3 (t.just) (t.justOf m) [.int .i64 (t.justOf m)] b21 rfl rfl hk21 rfl SD8_9_14_15_21.out.r.j SD8_9_14_15_21.out.size (by omega) ?_
  intro v1 w1 hR hG hat
  have S2 := am (SD8_9_14_15_21.out.appJ hR hG hat)
  obtain ⟨Af, nf, cf, rfl⟩ := R_slc hR
  have f5 := blk_frozen S2.out.b 5
  have f6 := blk_frozen S2.out.b 6
  have f7 := blk_frozen S2.out.b 7
  have c5 : w1.cell? ⟨g, 5, none⟩ = some vo3 := (blk_cell S2.out.b 5).trans rfl
  have c6 : w1.cell? ⟨g, 6, none⟩ = some vp3 := (blk_cell S2.out.b 6).trans rfl
  have c7 : w1.cell? ⟨g, 7, none⟩ = some vj3 := (blk_cell S2.out.b 7).trans rfl
  refine hK.out _ _ ⟨(blk_cell (S2.out).b 5).trans rfl, (blk_cell (S2.out).b 6).trans rfl, (blk_cell (S2.out).b 7).trans rfl⟩ (fun hHeld => ?_)
  clear hK K
  refine norm_ (a' := ?_) ?_ ?_
  rotate_left
  ·show Act.put _ (some 69) _ = _
   simp only [Act.put,sn1,sn2,sn3,i64_w]
   rfl
  refine pure_ (i := 23) (N:=some 70) (v:=?_) (a':=?_) (Mq [24,8]) rfl rfl (by kernel_rfl) (fun _ _ _ h => h) (Or.inl ⟨by rfl, ?_⟩) ?_ ?_;rotate_left;(intro w';go_simp;with_reducible rfl);rotate_left;(simp only [Act.put,sn1,sn2,sn3,i64_w];rfl)
  refine pure_ (i := 24) (N:=some 71) (v:=?_) (a':=?_) (Mq [25,7]) rfl rfl (by kernel_rfl) (fun _ _ _ h => h) (Or.inl ⟨by rfl, ?_⟩) ?_ ?_;rotate_left;(intro w';go_simp;with_reducible rfl);rotate_left;(simp only [Act.put,sn1,sn2,sn3,i64_w];rfl)
  refine last_ (i := 25) (N := none) (Mq [26,6]) rfl rfl (by kernel_rfl) (by decide) (fun K hK => ?_)
  refine skip_ (w1 := ?_) (by rfl) rfl ?_ ?_
  rotate_left
  ·go_simp
   rfl
  refine hK.out _ _ ?_
  clear hK K
  refine pure_ (i := 26) (N:=some 72) (v:=?_) (a':=?_) (Mq [27,5]) rfl rfl (by kernel_rfl) (fun _ _ _ h => h) (Or.inl ⟨by rfl, ?_⟩) ?_ ?_;rotate_left;(intro w';go_simp;with_reducible rfl);rotate_left;(simp only [Act.put,sn1,sn2,sn3,i64_w];rfl)
  refine pure_ (i := 27) (N:=some 73) (v:=?_) (a':=?_) (Mq [28,4]) rfl rfl (by kernel_rfl) (fun _ _ _ h => h) (Or.inl ⟨by rfl, ?_⟩) ?_ ?_;rotate_left;(intro w';go_simp;with_reducible rfl);rotate_left;(simp only [Act.put,sn1,sn2,sn3,i64_w];rfl)
  refine last_ (i := 28) (N := none) (Mq [29,3]) rfl rfl (by kernel_rfl) (by decide) (fun K hK => ?_)
  refine skip_ (w1 := ?_) (by rfl) rfl ?_ ?_
  rotate_left
  ·go_simp
   rfl
  refine hK.out _ _ ?_
  clear hK K
  refine pure_ (i := 29) (N:=some 74) (v:=?_) (a':=?_) (Mq [30,2]) rfl rfl (by kernel_rfl) (fun _ _ _ h => h) (Or.inl ⟨by rfl, ?_⟩) ?_ ?_;rotate_left;(intro w';go_simp;with_reducible rfl);rotate_left;(simp only [Act.put,sn1,sn2,sn3,i64_w];rfl)
  refine pure_ (i := 30) (N:=some 75) (v:=?_) (a':=?_) (Mq [31,1]) rfl rfl (by kernel_rfl) (fun _ _ _ h => h) (Or.inl ⟨by rfl, ?_⟩) ?_ ?_;rotate_left;(intro w';go_simp;with_reducible rfl);rotate_left;(simp only [Act.put,sn1,sn2,sn3,i64_w];rfl)
  refine last_ (i := 31) (N := none) (Mq [32]) rfl rfl (by kernel_rfl) (by decide) (fun K hK => ?_)
  refine skip_ (w1 := ?_) (by rfl) rfl ?_ ?_
  rotate_left
  ·go_simp
   rfl
  refine hK.out _ _ ?_
  clear hK K
  refine done_ (by kernel_rfl) ?_
  go_wp2_with fail
  go_meet
  case rel => exact ⟨⟨_, _, _, _, ((S2.out.putO _).putP _).putJ _⟩⟩
 case rest =>
 have S5 := hcut
 clear hcut
 clear S4
 go_upto_region 11 with fail
 obtain ⟨vw4, vp4, vj4, vo4, h4⟩ := S5.out.drew
 obtain ⟨A8, c8, rfl⟩ := Kd.R_slice h4.r.o
 have S4d := am h4
 have hd := HOK.out.hd
 clear h4
 refine start_ (n := 14) (S := fun w' => w'.cell? ⟨g, 9, none⟩ = some (.int .i64 t.deep) ∧ w'.cell? ⟨g, 5, none⟩ = some (.slice A8 (t.opn ++ [(t.word.length : Int)]).length c8)) (ds := [13]) (Mq [0,14]) (by kernel_rfl) rfl rfl ⟨(blk_cell S4d.out.b 9).trans rfl, (blk_cell S4d.out.b 5).trans rfl⟩ (fun hHeld => ?_)
 clear S5
 generalize wc.drew = wd at S4d hHeld ⊢
 clear wc
 have f11 := blk_frozen S4d.out.b 9
 have c11 : wd.cell? ⟨g, 9, none⟩ = some (.int .i64 t.deep) := (blk_cell S4d.out.b 9).trans rfl
 refine pure_ (i := 0) (N:=some 76) (v:=?_) (a':=?_) (Mq [1,13]) rfl rfl (by kernel_rfl) (fun _ _ _ h => h) (Or.inl ⟨by rfl, ?_⟩) ?_ ?_;rotate_left;(intro w';go_simp;with_reducible rfl);rotate_left;(simp only [Act.put,sn1,sn2,sn3,i64_w];rfl)
 refine pure_ (i := 1) (N:=some 77) (v:=?_) (a':=?_) (Mq [2,12]) rfl rfl (by kernel_rfl) (fun _ _ _ h => h) (Or.inl ⟨by rfl, ?_⟩) ?_ ?_;rotate_left;(intro w';go_simp;with_reducible rfl);rotate_left;(simp only [Act.put,sn1,sn2,sn3,i64_w];rfl)
 refine pure_ (i := 2) (N:=some 78) (v:=?_) (a':=?_) (Mq [3,11]) rfl rfl (by kernel_rfl) (fun _ _ _ h => h) (Or.inl ⟨by rfl, ?_⟩) ?_ ?_;rotate_left;(intro w';go_simp;with_reducible rfl);rotate_left;(simp only [Act.put,sn1,sn2,sn3,i64_w];rfl)
 refine pure_ (i := 3) (N:=some 79) (v:=?_) (a':=?_) (Mq [4,10]) rfl rfl (by kernel_rfl) (fun _ _ _ h => h) (Or.inl ⟨by rfl, ?_⟩) ?_ ?_;rotate_left;(intro w';go_simp;with_reducible rfl);rotate_left;(simp only [Act.put,sn1,sn2,sn3,i64_w];rfl)
 refine pure_ (i := 5) (N:=some 81) (v:=?_) (a':=?_) (Mq [4,1,1,8]) rfl rfl (by kernel_rfl) (fun _ _ _ h => h) (Or.inl ⟨by rfl, ?_⟩) ?_ ?_;rotate_left;(intro w';go_simp;with_reducible rfl);rotate_left;(simp only [Act.put,sn1,sn2,sn3,i64_w];rfl)
 refine pure_ (i := 6) (N:=some 82) (v:=?_) (a':=?_) (Mq [4,1,2,7]) rfl rfl (by kernel_rfl) (fun _ _ _ h => h) (Or.inl ⟨by rfl, ?_⟩) ?_ ?_;rotate_left;(intro w';go_simp;with_reducible rfl);rotate_left;(simp only [Act.put,sn1,sn2,sn3,i64_w];rfl)
 refine pure_ (i := 7) (N:=some 83) (v:=?_) (a':=?_) (Mq [4,1,3,6]) rfl rfl (by kernel_rfl) (fun _ _ _ h => h) (Or.inl ⟨by rfl, ?_⟩) ?_ ?_;rotate_left;(intro w';go_simp;with_reducible rfl);rotate_left;(simp only [Act.put,sn1,sn2,sn3,i64_w];rfl)
 refine take_ (i := 4) (N:=some 80) (v:=?_) (a':=?_) (Mq [8,6]) rfl rfl (by kernel_rfl) (fun _ _ _ h => h) (Or.inl ⟨by rfl, ?_⟩) hHeld ?_ ?_
 rotate_left
 ·rintro w' ⟨s0, s1⟩
  go_simp
  with_reducible rfl
 rotate_left
 ·simp only [Act.put,sn1,sn2,sn3,i64_w]
  rfl
 refine take_ (i := 8) (N:=some 84) (v:=?_) (a':=?_) (Mq [9,5]) rfl rfl (by kernel_rfl) (fun _ _ _ h => h) (Or.inl ⟨by rfl, ?_⟩) hHeld ?_ ?_
 rotate_left
 ·rintro w' ⟨s0, s1⟩
  go_simp
  with_reducible rfl
 rotate_left
 ·simp only [Act.put,sn1,sn2,sn3,i64_w]
  rfl
 refine pure_ (i := 9) (N:=some 85) (v:=?_) (a':=?_) (Mq [10,4]) rfl rfl (by kernel_rfl) (fun _ _ _ h => h) (Or.inl ⟨by rfl, ?_⟩) ?_ ?_;rotate_left;(intro w';go_simp;with_reducible rfl);rotate_left;(simp only [Act.put,sn1,sn2,sn3,i64_w];rfl)
 refine pure_ (i := 10) (N:=some 86) (v:=?_) (a':=?_) (Mq [11,3]) rfl rfl (by kernel_rfl) (fun _ _ _ h => h) (Or.inl ⟨by rfl, ?_⟩) ?_ ?_;rotate_left;(intro w';go_simp;with_reducible rfl);rotate_left;(simp only [Act.put,sn1,sn2,sn3,i64_w];rfl)
 refine pure_ (i := 11) (N:=some 87) (v:=?_) (a':=?_) (Mq [12,2]) rfl rfl (by kernel_rfl) (fun _ _ _ h => h) (Or.inl ⟨by rfl, ?_⟩) ?_ ?_;rotate_left;(intro w';go_simp;with_reducible rfl);rotate_left;(simp only [Act.put,sn1,sn2,sn3,i64_w];rfl)
 refine pure_ (i := 12) (N:=some 88) (v:=?_) (a':=?_) (Mq [13,1]) rfl rfl (by kernel_rfl) (fun _ _ _ h => h) (Or.inl ⟨by rfl, ?_⟩) ?_ ?_;rotate_left;(intro w';go_simp;with_reducible rfl);rotate_left;(simp only [Act.put,sn1,sn2,sn3,i64_w];rfl)
 refine last_ (i := 13) (N := none) (Mq [14]) rfl rfl (by kernel_rfl) (by decide) (fun K hK => ?_)
 refine skip_ (w1 := ?_) (by rfl) rfl ?_ ?_
 rotate_left
 ·go_simp
  rfl
 refine hK.out _ _ ?_
 clear hK K
 refine done_ (by kernel_rfl) ?_
 go_wp2_with fail
 all_goals
  refine bodyPost_ret (results_none rfl _ _ _) rfl ?_
  obtain ⟨e1, e2, e3, e4, e5, e6⟩ := HSW.out
  refine take_end _ hok.out ⟨e1, e2, e3, e4, e5⟩ ?_ (S4d.out.putDeep _)
  rw [e6]
  first | omega | (simp only [List.length_append, List.length_singleton]; omega)
end Go.Proofs.YtjgocihflhljeaaGreat.P
