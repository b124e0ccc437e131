/- What the claim's law needs, many texts in one (Td2). No conditions of its own. -/
import Derived.Test.YtjgocihflhljeaaGreatZl8
import Derived.Deep.DeepCutAuto
import Derived.Deep.CutBlock
import Derived.Deep.RegionHeld3
import Derived.StillTailTactics
set_option linter.unusedVariables false
set_option linter.unusedSimpArgs false
namespace Go.Proofs.YtjgocihflhljeaaGreat.P
open Go.RowKit Go.Shelf Go.Proofs.YtjgocihflhljeaaGreatW.PrintWords Go.Proofs.YtjgocihflhljeaaGreatW.PrintLast Go.Proofs.YtjgocihflhljeaaGreatW.PrintMore
attribute [local go_sem] Oper.semAt_some max2_int max_two
set_option maxRecDepth 8000 in
set_option maxHeartbeats 3200000 in
theorem say_t1 {base : Nat} {w : World} {g : Nat} {A : Option Addr} {c : Nat} {ids : List S68} {rc : Bool} {rn : Int} {jb : Bool} {t : Tk} (hok : t.Ok) (m : Mv) (hw : t.word.length < 1048576) (pt1 op1 : List Int) (pI jI : Int) (hptl : pt1.length = t.word.length) (hopl : op1.length ≤ t.word.length) (hpt : (if isAns m then t.part.set t.topI.toNat (t.word.length : Int) else t.part) = pt1) (hop : (if isAns m then t.opn.dropLast else t.opn) = op1) (hpi : (if isAns m then t.topI else -1) = pI) (hji : t.justOf m = jI) (wc : World)
  (S1 : Aside0 (Saying base w g w.heap.size A c ids rc rn jb m t.word pt1 t.just t.forc op1 t.force t.lost t.deep wc))
  (u1 u2 u4 u5 u9 u10 u11 u12 u13 u14 u15 u16 u17 u18 u19 u20 u21 u22 u23 u24 u25 u26 u27 u28 u29 u30 u31 u32 u33 u34 u35 u36 u37 u38 u39 u40 u41 u42 u43 u44 u45 u46 u47 u48 u49 u50 u51 u52 u53 u54 u55 u56 u57 u58 u59 u60 u61 u62 u63 u64 u65 u66 u67 u68 u69 u70 u71 u72 u73 u74 u75 u76 u77 u78 u79 u80 u81 u82 u83 u84 u85 u86 u87 u88 u89 u90 u91 u92 u93 u94 u95 u96 u97 u98 u99 u100 u101 u102 u103 u104 u105 u106 u107 u108 u109 u110 u111 u112 u113 u114 u115 u116 u117 u118 u119 u120 u121 u122 u123 u124 u125 u126 u127 u128 u129 u130 u131 u132 u133 u134 u135 u136 u137 u138 u139 u140 u141 u142 u143 u144 u145 u146 u147 u148 u149 u150 u151 u152 u153 u154 : Value) :
  Code.wp Tryz.prog (dropSeq 5 (codeOf Tryz.f78)) (bodyPost Tryz.prog Tryz.f78 fun e w' => e = .returned (.tuple #[]) ∧ SK base 77 w w' ∧ ∃ vw vp vj vf vo, Talk base w' g A c ids rc rn jb (t.say m) vw vp vj vf vo)
   { tmps := #[.pointer (some ⟨g, 0, none⟩), u1, u2, .pointer (some ⟨w.heap.size, 0, none⟩), u4, u5, .int .i64 (t.word.length : Int), .int .i64 pI, .int .i64 jI, u9, u10, u11, u12, u13, u14, u15, u16, u17, u18, u19, u20, u21, u22, u23, u24, u25, u26, u27, u28, u29, u30, u31, u32, u33, u34, u35, u36, u37, u38, u39, u40, u41, u42, u43, u44, u45, u46, u47, u48, u49, u50, u51, u52, u53, u54, u55, u56, u57, u58, u59, u60, u61, u62, u63, u64, u65, u66, u67, u68, u69, u70, u71, u72, u73, u74, u75, u76, u77, u78, u79, u80, u81, u82, u83, u84, u85, u86, u87, u88, u89, u90, u91, u92, u93, u94, u95, u96, u97, u98, u99, u100, u101, u102, u103, u104, u105, u106, u107, u108, u109, u110, u111, u112, u113, u114, u115, u116, u117, u118, u119, u120, u121, u122, u123, u124, u125, u126, u127, u128, u129, u130, u131, u132, u133, u134, u135, u136, u137, u138, u139, u140, u141, u142, u143, u144, u145, u146, u147, u148, u149, u150, u151, u152, u153, u154], defers := [] } wc := by
 have HPT := am hpt
 have HOP := am hop
 have HPI := am hpi
 have HJI := am hji
 have HOK := am hok
 have hfl := hok.hf
 have hjl := hok.hj
 have hol := hok.hl
 clear hpt hop hpi hji hok
 refine wp_drop (fn := Tryz.f78) rfl 5 ?_
 simp only [dropSeq]
 go_upto_region 12 with fail
 go_cut [] (fun wx => Aside0 (Saying base w g w.heap.size A c ids rc rn jb m t.word pt1 t.just (t.forc ++ [t.force]) op1 t.force t.lost t.deep wx))
 case first =>
  obtain ⟨vw1, vp1, vj1, vf1, vo1, h1⟩ := S1.out.drew
  have S1d := am h1
  clear h1
  refine start_ (n := 14) (S := fun w' => w'.cell? ⟨g, 7, none⟩ = some vf1 ∧ w'.cell? ⟨g, 9, none⟩ = some (.bool t.force)) (ds := [13]) (Mq [0,14]) (by kernel_rfl) rfl rfl ⟨(blk_cell S1d.out.b 7).trans rfl, (blk_cell S1d.out.b 9).trans rfl⟩ (fun hHeld => ?_)
  clear S1
  generalize wc.drew = wd at S1d hHeld ⊢
  clear wc
  refine pure_ (i := 0) (N:=some 58) (v:=?_) (a':=?_) (Mq [1,13]) rfl rfl (by kernel_rfl) (fun _ _ _ h => h) (Or.inl ⟨by rfl, ?_⟩) ?_ ?_;rotate_left;(intro w';go_simp;with_reducible rfl);rotate_left;(simp only [Act.put,sn1,sn2,sn3,i64_w];rfl)
  refine pure_ (i := 1) (N:=some 59) (v:=?_) (a':=?_) (Mq [2,12]) rfl rfl (by kernel_rfl) (fun _ _ _ h => h) (Or.inl ⟨by rfl, ?_⟩) ?_ ?_;rotate_left;(intro w';go_simp;with_reducible rfl);rotate_left;(simp only [Act.put,sn1,sn2,sn3,i64_w];rfl)
  refine pure_ (i := 2) (N:=some 60) (v:=?_) (a':=?_) (Mq [3,11]) rfl rfl (by kernel_rfl) (fun _ _ _ h => h) (Or.inl ⟨by rfl, ?_⟩) ?_ ?_;rotate_left;(intro w';go_simp;with_reducible rfl);rotate_left;(simp only [Act.put,sn1,sn2,sn3,i64_w];rfl)
  refine pure_ (i := 3) (N:=some 61) (v:=?_) (a':=?_) (Mq [4,10]) rfl rfl (by kernel_rfl) (fun _ _ _ h => h) (Or.inl ⟨by rfl, ?_⟩) ?_ ?_;rotate_left;(intro w';go_simp;with_reducible rfl);rotate_left;(simp only [Act.put,sn1,sn2,sn3,i64_w];rfl)
  refine pure_ (i := 5) (N:=some 63) (v:=?_) (a':=?_) (Mq [4,1,1,8]) rfl rfl (by kernel_rfl) (fun _ _ _ h => h) (Or.inl ⟨by rfl, ?_⟩) ?_ ?_;rotate_left;(intro w';go_simp;with_reducible rfl);rotate_left;(simp only [Act.put,sn1,sn2,sn3,i64_w];rfl)
  refine pure_ (i := 6) (N:=some 64) (v:=?_) (a':=?_) (Mq [4,1,2,7]) rfl rfl (by kernel_rfl) (fun _ _ _ h => h) (Or.inl ⟨by rfl, ?_⟩) ?_ ?_;rotate_left;(intro w';go_simp;with_reducible rfl);rotate_left;(simp only [Act.put,sn1,sn2,sn3,i64_w];rfl)
  refine pure_ (i := 7) (N:=some 65) (v:=?_) (a':=?_) (Mq [4,1,3,6]) rfl rfl (by kernel_rfl) (fun _ _ _ h => h) (Or.inl ⟨by rfl, ?_⟩) ?_ ?_;rotate_left;(intro w';go_simp;with_reducible rfl);rotate_left;(simp only [Act.put,sn1,sn2,sn3,i64_w];rfl)
  refine take_ (i := 4) (N:=some 62) (v:=?_) (a':=?_) (Mq [8,6]) rfl rfl (by kernel_rfl) (fun _ _ _ h => h) (Or.inl ⟨by rfl, ?_⟩) hHeld ?_ ?_
  rotate_left
  ·rintro w' ⟨s0, s1⟩
   go_simp
   with_reducible rfl
  rotate_left
  ·simp only [Act.put,sn1,sn2,sn3,i64_w]
   rfl
  refine take_ (i := 8) (N:=some 66) (v:=?_) (a':=?_) (Mq [9,5]) rfl rfl (by kernel_rfl) (fun _ _ _ h => h) (Or.inl ⟨by rfl, ?_⟩) hHeld ?_ ?_
  rotate_left
  ·rintro w' ⟨s0, s1⟩
   go_simp
   with_reducible rfl
  rotate_left
  ·simp only [Act.put,sn1,sn2,sn3,i64_w]
   rfl
  refine one_ (i := 9) (N:=some 67) (Mq [10,4]) rfl rfl (by kernel_rfl) (by decide) (fun K hK => ?_)
  refine value_ (w1 := ?_) (v := ?_) (by rfl) rfl ?_ ?_
  rotate_left 2
  ·go_simp
   constructor
   ·rfl
   rfl
  refine hK.out _ _ ⟨(blk_cell (S1d.out.new_box _).b 7).trans rfl, (blk_cell (S1d.out.new_box _).b 9).trans rfl⟩ (fun hHeld => ?_)
  clear hK K
  refine norm_ (a' := ?_) ?_ ?_
  rotate_left
  ·show Act.put _ (some 67) _ = _
   simp only [Act.put,sn1,sn2,sn3,i64_w]
   rfl
  refine one_ (i := 10) (N:=some 68) (Mq [11,3]) rfl rfl (by kernel_rfl) (by decide) (fun K hK => ?_)
  refine app_at Kd.bool base (by rfl) rfl (.tmp 62) (.tmp 67) 73 4 (.bool false) 1 rfl Tryz.underlying73 infoB rfl (by decide) (by omega) vf1 t.forc t.force [.bool t.force] wd.heap.size rfl rfl (heap_alloc_new wd _) rfl (S1d.out.new_box _).r.f ((S1d.out.new_box _).size) (by omega) ?_
  intro v1 w1 hR hG hat
  have S2 := am ((S1d.out.new_box _).appF hR hG)
  obtain ⟨Af, nf, cf, rfl⟩ := R_slc hR
  have f7 := blk_frozen S2.out.b 7
  refine hK.out _ _ ⟨(blk_cell S2.out.b 7).trans rfl, (blk_cell S2.out.b 9).trans rfl⟩ (fun hHeld => ?_)
  clear hK K
  refine norm_ (a' := ?_) ?_ ?_
  rotate_left
  ·show Act.put _ (some 68) _ = _
   simp only [Act.put,sn1,sn2,sn3,i64_w]
   rfl
  refine pure_ (i := 11) (N:=some 69) (v:=?_) (a':=?_) (Mq [12,2]) rfl rfl (by kernel_rfl) (fun _ _ _ h => h) (Or.inl ⟨by rfl, ?_⟩) ?_ ?_;rotate_left;(intro w';go_simp;with_reducible rfl);rotate_left;(simp only [Act.put,sn1,sn2,sn3,i64_w];rfl)
  refine pure_ (i := 12) (N:=some 70) (v:=?_) (a':=?_) (Mq [13,1]) rfl rfl (by kernel_rfl) (fun _ _ _ h => h) (Or.inl ⟨by rfl, ?_⟩) ?_ ?_;rotate_left;(intro w';go_simp;with_reducible rfl);rotate_left;(simp only [Act.put,sn1,sn2,sn3,i64_w];rfl)
  refine last_ (i := 13) (N := none) (Mq [14]) rfl rfl (by kernel_rfl) (by decide) (fun K hK => ?_)
  refine skip_ (w1 := ?_) (by rfl) rfl ?_ ?_
  rotate_left
  ·go_simp
   rfl
  refine hK.out _ _ ?_
  clear hK K
  refine done_ (by kernel_rfl) ?_
  go_wp2_with fail
  go_meet
  case rel => exact ⟨⟨_, _, _, _, _, S2.out.putF _⟩⟩
 case rest =>
 have S2 := hcut
 clear hcut
 clear S1
 go_upto_region 13 with fail
 go_cut [83] (fun x83 wx => x83 = .bool (isEscB m && isIdent m && !t.force) ∧ Aside0 (Saying base w g w.heap.size A c ids rc rn jb m t.word pt1 t.just (t.forc ++ [t.force]) op1 t.force t.lost t.deep wx))
 case first =>
  obtain ⟨vw1, vp1, vj1, vf1, vo1, h1⟩ := S2.out
  have S1 := am h1
  have b0 : wc.cell? ⟨w.heap.size, 0, none⟩ = some (.int .i64 m.f0) := (blk_cell h1.x 0).trans rfl
  have b1 : wc.cell? ⟨w.heap.size, 1, none⟩ = some (.int .i64 m.f1) := (blk_cell h1.x 1).trans rfl
  have b2 : wc.cell? ⟨w.heap.size, 2, none⟩ = some (.int .u8 m.f2) := (blk_cell h1.x 2).trans rfl
  have b3 : wc.cell? ⟨w.heap.size, 3, none⟩ = some (.int .i64 m.f3) := (blk_cell h1.x 3).trans rfl
  have c9 : wc.cell? ⟨g, 9, none⟩ = some (.bool t.force) := (blk_cell h1.b 9).trans rfl
  have hbx : w.heap.size < wc.heap.size := blk_lt h1.x
  have hgw : g < wc.heap.size := blk_lt h1.b
  clear h1 S2
  rcases he : isEscB m with _ | _
  ·have HE := am he
   clear he
   go_wp2_with (go_at_call 110; refine (isEsc_any m _).mono ?_; rw [HE.out]; rintro e w2 ⟨rfl, hb2⟩)
   go_meet
   case rel => exact ⟨by rw [HE.out]; rfl, ⟨_, _, _, _, _, S1.out.below hb2⟩⟩
  have HE := am he
  clear he
  rcases hi : isIdent m with _ | _
  all_goals
   have HI := am hi
   clear hi
   go_wp2_with (first
    | (go_at_call 110; refine (isEsc_any m _).mono ?_; rw [HE.out]; rintro e w2 ⟨rfl, hb2⟩; obtain ⟨hc2, hf2⟩ := bcell hb2; have hs2 := hb2.size; have hbx2 : w.heap.size < w2.heap.size := (by omega); have hgw2 : g < w2.heap.size := (by omega))
    | (go_at_call 109; refine (isIdentifier_any m _).mono ?_; rw [HI.out]; rintro e w3 ⟨rfl, hb3⟩; obtain ⟨hc3, hf3⟩ := bcell hb3))
   go_meet
   case rel => exact ⟨by rw [HE.out, HI.out]; rfl, ⟨_, _, _, _, _, (S1.out.below hb2).below hb3⟩⟩
 case rest =>
 obtain ⟨rfl, S3⟩ := hcut
 clear S2
 go_upto_if 83 with fail
 go_cut [] (fun wx => Aside0 (Saying base w g w.heap.size A c ids rc rn jb m t.word pt1 t.just (t.forc ++ [t.force]) op1 t.force (t.lost || (isEscB m && isIdent m && !t.force)) t.deep wx))
 case first =>
  obtain ⟨vw1, vp1, vj1, vf1, vo1, h1⟩ := S3.out
  have S1 := am h1
  have f10 := blk_frozen h1.b 10
  have c10 : wc.cell? ⟨g, 10, none⟩ = some (.bool t.lost) := (blk_cell h1.b 10).trans rfl
  clear h1 S3
  rcases hb : (isEscB m && isIdent m && !t.force) with _ | _
  ·go_wp2_with fail
   go_meet
   case rel => exact ⟨⟨_, _, _, _, _, by rw [hb, Bool.or_false]; exact S1.out⟩⟩
  go_wp2_with fail
  go_meet
  case rel => exact ⟨⟨_, _, _, _, _, by rw [hb, Bool.or_true]; exact S1.out.putLost true⟩⟩
 case rest =>
 have S4 := hcut
 clear hcut
 clear S3
 go_upto_region 15 with fail
 go_cut [] (fun wx => Aside0 (Saying base w g w.heap.size A c ids rc rn jb m t.word pt1 t.just (t.forc ++ [t.force]) op1 (isEscB m && isPar m) (t.lost || (isEscB m && isIdent m && !t.force)) t.deep wx))
 case first =>
  obtain ⟨vw1, vp1, vj1, vf1, vo1, h1⟩ := S4.out
  have S1 := am h1
  have b0 : wc.cell? ⟨w.heap.size, 0, none⟩ = some (.int .i64 m.f0) := (blk_cell h1.x 0).trans rfl
  have b1 : wc.cell? ⟨w.heap.size, 1, none⟩ = some (.int .i64 m.f1) := (blk_cell h1.x 1).trans rfl
  have b2 : wc.cell? ⟨w.heap.size, 2, none⟩ = some (.int .u8 m.f2) := (blk_cell h1.x 2).trans rfl
  have b3 : wc.cell? ⟨w.heap.size, 3, none⟩ = some (.int .i64 m.f3) := (blk_cell h1.x 3).trans rfl
  have hbx : w.heap.size < wc.heap.size := blk_lt h1.x
  have hgw : g < wc.heap.size := blk_lt h1.b
  clear h1 S4
  rcases he : isEscB m with _ | _
  ·have HE := am he
   clear he
   go_wp2_with (go_at_call 110; refine (isEsc_any m _).mono ?_; rw [HE.out]; rintro e w2 ⟨rfl, hb2⟩; have S5 := am (S1.out.below hb2); have f9 := blk_frozen S5.out.b 9; have c9 : w2.cell? ⟨g, 9, none⟩ = some (.bool t.force) := (blk_cell S5.out.b 9).trans rfl)
   go_meet
   case rel => exact ⟨⟨_, _, _, _, _, by rw [show (isEscB m && isPar m) = _ by rw [HE.out]]; exact S5.out.putForce _⟩⟩
  have HE := am he
  clear he
  rcases hi : isPar m with _ | _
  all_goals
   have HI := am hi
   clear hi
   go_wp2_with (first
    | (go_at_call 110; refine (isEsc_any m _).mono ?_; rw [HE.out]; rintro e w2 ⟨rfl, hb2⟩; obtain ⟨hc2, hf2⟩ := bcell hb2; have hs2 := hb2.size; have hbx2 : w.heap.size < w2.heap.size := (by omega); have hgw2 : g < w2.heap.size := (by omega))
    | (go_at_call 104; refine (isParam_any m _).mono ?_; rw [HI.out]; rintro e w3 ⟨rfl, hb3⟩; have S5 := am ((S1.out.below hb2).below hb3); have f9 := blk_frozen S5.out.b 9; have c9 : w3.cell? ⟨g, 9, none⟩ = some (.bool t.force) := (blk_cell S5.out.b 9).trans rfl))
   go_meet
   case rel => exact ⟨⟨_, _, _, _, _, by rw [show (isEscB m && isPar m) = _ by rw [HE.out, HI.out]]; exact S5.out.putForce _⟩⟩
 case rest =>
 have S5 := hcut
 clear hcut
 clear S4
 apply_assumption
 exact say_t2 HOK.out m hw pt1 op1 pI jI hptl hopl HPT.out HOP.out HPI.out HJI.out _ S5 _ _ _ _ _ _ _ _ _ _ _ _ _ _ _ _ _ _ _ _ _ _ _ _ _ _ _ _ _ _ _ _ _ _ _ _ _ _ _ _ _ _ _ _ _ _ _ _ _ _ _ _ _ _ _ _ _ _ _ _ _ _ _ _ _ _ _ _ _ _ _ _ _ _ _ _ _ _ _ _ _ _ _ _ _ _ _ _ _ _ _ _ _ _ _ _ _ _ _ _ _ _ _ _ _ _ _ _ _ _ _ _ _ _ _ _ _ _ _ _ _ _ _ _ _ _ _ _ _ _ _ _ _ _ _ _ _ _ _ _ _ _ _ _ _ _ _ _ _ _
end Go.Proofs.YtjgocihflhljeaaGreat.P
