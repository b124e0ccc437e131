/- What the claim's law needs, many texts in one (Cc). No conditions of its own. -/
import Derived.Test.YtjgocihflhljeaaGreatZl16
set_option linter.unusedVariables false
set_option linter.unusedSimpArgs false
namespace Go.Proofs.YtjgocihflhljeaaGreat.P
open Go.RowKit Go.Shelf Go.Proofs.YtjgocihflhljeaaGreatW.PrintWords Go.Proofs.YtjgocihflhljeaaGreatW.PrintLast Go.Proofs.YtjgocihflhljeaaGreatW.PrintMore
attribute [local go_sem] Oper.semAt_some
theorem Aw.start (w : World) : Calls Tryz.prog 54 #[] w fun e w' => ∃ A c, e = .returned (.agg #[.slice A 2 c, .bool false, .int .i64 2, .bool false]) ∧ Aw w w' A [] [] [] := by
 refine (ripostelaw04_Example.calls exI false 2 false w rfl).mono ?_
 rintro e w' ⟨v, rfl, hN, hb⟩
 obtain ⟨A, c, rfl, h2, hC⟩ := Kd.N_reads hN
 refine ⟨A, c, rfl, ⟨hb, hC, ?_, ?_, ?_⟩⟩ <;> (intro p hp; cases hp)
theorem Aw.wordW {w W : World} {A : Option Addr} {G : List (Nat × Array Value × TypeId)} {X : List (Option Addr × List Int)} {Y : List (Option Addr × List Mv)} (h : Aw w W A G X Y) : Calls Tryz.prog 55 #[.string ⟨#[48, 63, 32, 49, 63, 32, 49, 46, 49, 63, 32, 50, 63, 32, 50, 33, 49, 32, 49, 46, 49, 33, 50, 32, 49, 46, 50, 61, 49, 32, 49, 46, 50, 33, 48, 32, 49, 33, 48]⟩] W fun e w' => ∃ Ao co, e = .returned (.slice Ao 9 co) ∧ 9 ≤ co ∧ Aw w w' A G X ((Ao, exW) :: Y) := by
 refine (word_exW W).mono ?_
 rintro e w' ⟨v, rfl, hR, hb⟩
 obtain ⟨Ao, co, rfl, h2, hC⟩ := Kd.R_reads hR
 exact ⟨Ao, co, rfl, h2, (h.below hb).addy hC⟩
theorem Aw.cell {w W : World} {A : Option Addr} {G : List (Nat × Array Value × TypeId)} {X : List (Option Addr × List Int)} {Y : List (Option Addr × List Mv)} (h : Aw w W A G X Y) {b : Nat} {cs : Array Value} {t : TypeId} (hg : (b, cs, t) ∈ G) (i : Nat) {v : Value} (hv : cs[i]? = some v) : W.cell? ⟨b, i, none⟩ = some v := (blk_cell (h.g _ hg) i).trans hv
theorem Aw.same1 {w W : World} {A : Option Addr} {G : List (Nat × Array Value × TypeId)} {X : List (Option Addr × List Int)} {Y : List (Option Addr × List Mv)} (h : Aw w W A G X Y) {A1 : Option Addr} {c1 : Nat} (h1 : (A1, [0]) ∈ X) (hc1 : 1 ≤ c1) :
  Calls Tryz.prog 29 #[.slice A1 1 c1, .slice (some ⟨W.heap.size, 0, none⟩) 1 1] (W.alloc (.cells #[.int .i64 0] 3)) fun e w' => e = .returned (.bool true) ∧ Aw w w' A G ((some ⟨W.heap.size, 0, none⟩, [0]) :: X) Y :=
 (h.ints [0] (by decide)).same 12 [0] A1 (some ⟨W.heap.size, 0, none⟩) c1 1 (.tail _ h1) (.head _) hc1 (by decide) (by kernel_rfl)
theorem Aw.same2 {w W : World} {A : Option Addr} {G : List (Nat × Array Value × TypeId)} {X : List (Option Addr × List Int)} {Y : List (Option Addr × List Mv)} (h : Aw w W A G X Y) {A1 : Option Addr} {c1 : Nat} (h1 : (A1, [-1, 8, 5, 4, 3, 2, 7, 6, 1]) ∈ X) (hc1 : 9 ≤ c1) :
  Calls Tryz.prog 29 #[.slice A1 9 c1, .slice (some ⟨W.heap.size, 0, none⟩) 9 9] (W.alloc (.cells #[.int .i64 (-1), .int .i64 8, .int .i64 5, .int .i64 4, .int .i64 3, .int .i64 2, .int .i64 7, .int .i64 6, .int .i64 1] 3)) fun e w' => e = .returned (.bool true) ∧ Aw w w' A G ((some ⟨W.heap.size, 0, none⟩, [-1, 8, 5, 4, 3, 2, 7, 6, 1]) :: X) Y :=
 (h.ints [-1, 8, 5, 4, 3, 2, 7, 6, 1] (by decide)).same 12 [-1, 8, 5, 4, 3, 2, 7, 6, 1] A1 (some ⟨W.heap.size, 0, none⟩) c1 9 (.tail _ h1) (.head _) hc1 (by decide) (by kernel_rfl)
theorem Aw.same3 {w W : World} {A : Option Addr} {G : List (Nat × Array Value × TypeId)} {X : List (Option Addr × List Int)} {Y : List (Option Addr × List Mv)} (h : Aw w W A G X Y) {A1 : Option Addr} {c1 : Nat} (h1 : (A1, [0, 1, 8]) ∈ X) (hc1 : 3 ≤ c1) :
  Calls Tryz.prog 29 #[.slice A1 3 c1, .slice (some ⟨W.heap.size, 0, none⟩) 3 3] (W.alloc (.cells #[.int .i64 0, .int .i64 1, .int .i64 8] 3)) fun e w' => e = .returned (.bool true) ∧ Aw w w' A G ((some ⟨W.heap.size, 0, none⟩, [0, 1, 8]) :: X) Y :=
 (h.ints [0, 1, 8] (by decide)).same 12 [0, 1, 8] A1 (some ⟨W.heap.size, 0, none⟩) c1 3 (.tail _ h1) (.head _) hc1 (by decide) (by kernel_rfl)
theorem Aw.same4 {w W : World} {A : Option Addr} {G : List (Nat × Array Value × TypeId)} {X : List (Option Addr × List Int)} {Y : List (Option Addr × List Mv)} (h : Aw w W A G X Y) {A1 : Option Addr} {c1 : Nat} (h1 : (A1, [0, 1, 2, 5]) ∈ X) (hc1 : 4 ≤ c1) :
  Calls Tryz.prog 29 #[.slice A1 4 c1, .slice (some ⟨W.heap.size, 0, none⟩) 4 4] (W.alloc (.cells #[.int .i64 0, .int .i64 1, .int .i64 2, .int .i64 5] 3)) fun e w' => e = .returned (.bool true) ∧ Aw w w' A G ((some ⟨W.heap.size, 0, none⟩, [0, 1, 2, 5]) :: X) Y :=
 (h.ints [0, 1, 2, 5] (by decide)).same 12 [0, 1, 2, 5] A1 (some ⟨W.heap.size, 0, none⟩) c1 4 (.tail _ h1) (.head _) hc1 (by decide) (by kernel_rfl)
set_option maxRecDepth 8000 in
set_option maxHeartbeats 4000000 in
theorem awake_any (w : World) : Calls Tryz.prog 15 #[] w fun e w' => e = .returned (.bool true) ∧ Below w.heap.size w w' := by
 go_enter Tryz.func15, Tryz.ntmps15
 go_upto_region 2 with (first
  | (go_at_call 54; refine (Aw.start w).mono ?_; rintro e w1 ⟨A, c, rfl, h1⟩; have H1 := am h1; clear h1)
  | (go_at_call 55; refine H1.out.wordW.mono ?_; rintro e w2 ⟨A1, c1, rfl, hc9, h2⟩; have H2 := am (h2.new #[.slice A 2 c, .bool false, .int .i64 2, .bool false] 26); have hc6 : (6 : Int) ≤ (c1 : Int) := (by omega); have hc4 : (4 : Int) ≤ (c1 : Int) := (by omega); have hc60 : 6 ≤ c1 := (by omega); have hc40 : 4 ≤ c1 := (by omega); clear h2))
 generalize w2.alloc (.cells #[.slice A 2 c, .bool false, .int .i64 2, .bool false] 26) = W2 at *
 generalize w2.heap.size = g at *
 have hg2 : g < W2.heap.size := blk_lt (H2.out.g _ (.head _))
 have e0 : W2.cell? ⟨g, 0, none⟩ = some (.slice A 2 c) := H2.out.cell (.head _) 0 rfl; have e1 : W2.cell? ⟨g, 1, none⟩ = some (.bool false) := H2.out.cell (.head _) 1 rfl; have e2 : W2.cell? ⟨g, 2, none⟩ = some (.int .i64 2) := H2.out.cell (.head _) 2 rfl; have e3 : W2.cell? ⟨g, 3, none⟩ = some (.bool false) := H2.out.cell (.head _) 3 rfl
 go_upto_region 3 with (go_at_call 19; refine (H2.out.stand (.head _)).mono ?_; rintro e w3 ⟨Ao, co, rfl, hco, h3⟩; have H3 := am (h3.new #[.int .u8 2, .slice Ao 1 co, .bool false, .bool false] 38); clear h3; unfold standV)
 generalize w3.alloc (.cells #[.int .u8 2, .slice Ao 1 co, .bool false, .bool false] 38) = W3 at *
 generalize w3.heap.size = gs at *
 clear e0 e1 e2 e3 hg2
 have hg2 : g < W3.heap.size := blk_lt (H3.out.g _ (.tail _ (.head _)))
 have e0 : W3.cell? ⟨g, 0, none⟩ = some (.slice A 2 c) := H3.out.cell (.tail _ (.head _)) 0 rfl; have e1 : W3.cell? ⟨g, 1, none⟩ = some (.bool false) := H3.out.cell (.tail _ (.head _)) 1 rfl; have e2 : W3.cell? ⟨g, 2, none⟩ = some (.int .i64 2) := H3.out.cell (.tail _ (.head _)) 2 rfl; have e3 : W3.cell? ⟨g, 3, none⟩ = some (.bool false) := H3.out.cell (.tail _ (.head _)) 3 rfl
 go_upto_region 6 with (first
  | (go_at_call 32; refine (H3.out.next (.head _)).mono ?_; rintro e w4 ⟨An, cn, rfl, h4⟩; have H4 := am h4; clear h4; have e0 : w4.cell? ⟨g, 0, none⟩ = some (.slice A 2 c) := H4.out.cell (.tail _ (.head _)) 0 rfl; have e1 : w4.cell? ⟨g, 1, none⟩ = some (.bool false) := H4.out.cell (.tail _ (.head _)) 1 rfl; have e2 : w4.cell? ⟨g, 2, none⟩ = some (.int .i64 2) := H4.out.cell (.tail _ (.head _)) 2 rfl; have e3 : w4.cell? ⟨g, 3, none⟩ = some (.bool false) := H4.out.cell (.tail _ (.head _)) 3 rfl)
  | (go_at_call 42; refine (H4.out.partners (.head _)).mono ?_; rintro e w5 ⟨Ap, cp, rfl, hcp, h5⟩; have H5 := am h5; clear h5; have e0 : w5.cell? ⟨g, 0, none⟩ = some (.slice A 2 c) := H5.out.cell (.tail _ (.head _)) 0 rfl; have e1 : w5.cell? ⟨g, 1, none⟩ = some (.bool false) := H5.out.cell (.tail _ (.head _)) 1 rfl; have e2 : w5.cell? ⟨g, 2, none⟩ = some (.int .i64 2) := H5.out.cell (.tail _ (.head _)) 2 rfl; have e3 : w5.cell? ⟨g, 3, none⟩ = some (.bool false) := H5.out.cell (.tail _ (.head _)) 3 rfl)
  | (go_at_call 25; refine (H5.out.view (.head _)).mono ?_; rintro e w6 ⟨Av, cv, rfl, hcv, h6⟩; have H6 := am h6; clear h6; have e0 : w6.cell? ⟨g, 0, none⟩ = some (.slice A 2 c) := H6.out.cell (.tail _ (.head _)) 0 rfl; have e1 : w6.cell? ⟨g, 1, none⟩ = some (.bool false) := H6.out.cell (.tail _ (.head _)) 1 rfl; have e2 : w6.cell? ⟨g, 2, none⟩ = some (.int .i64 2) := H6.out.cell (.tail _ (.head _)) 2 rfl; have e3 : w6.cell? ⟨g, 3, none⟩ = some (.bool false) := H6.out.cell (.tail _ (.head _)) 3 rfl))
 have H6d := am (H6.out.below ((Below.refl _ w6).drew))
 clear e0 e1 e2 e3
 refine start_ (n := 9) (S := fun w' => w'.cell? ⟨g, 0, none⟩ = some (.slice A 2 c) ∧ w'.cell? ⟨g, 1, none⟩ = some (.bool false) ∧ w'.cell? ⟨g, 2, none⟩ = some (.int .i64 2) ∧ w'.cell? ⟨g, 3, none⟩ = some (.bool false)) (ds := []) #[Z,Z,Z,Z,Z,Z,Z,Z,Z] (by kernel_rfl) rfl rfl ⟨H6d.out.cell (.tail _ (.head _)) 0 rfl, H6d.out.cell (.tail _ (.head _)) 1 rfl, H6d.out.cell (.tail _ (.head _)) 2 rfl, H6d.out.cell (.tail _ (.head _)) 3 rfl⟩ (fun hHeld => ?_)
 generalize w6.drew = wd at H6d hHeld ⊢
 refine pure_ (i := 1) (N:=some 45) (v:=?_) (a':=?_) #[Z,Y,Z,Z,Z,Z,Z,Z,Z] rfl rfl (by kernel_rfl) (fun _ _ _ h => h) (Or.inl ⟨by rfl, ?_⟩) ?_ ?_;rotate_left;(intro w';go_simp;with_reducible rfl);rotate_left;(simp only [Act.put,sn1,sn2,sn3,i64_w];rfl)
 refine pure_ (i := 2) (N:=some 46) (v:=?_) (a':=?_) #[Z,Y,Y,Z,Z,Z,Z,Z,Z] rfl rfl (by kernel_rfl) (fun _ _ _ h => h) (Or.inl ⟨by rfl, ?_⟩) ?_ ?_;rotate_left;(intro w';go_simp;with_reducible rfl);rotate_left;(simp only [Act.put,sn1,sn2,sn3,i64_w];rfl)
 refine take_ (i := 0) (N:=some 44) (v:=?_) (a':=?_) #[Y,Y,Y,Z,Z,Z,Z,Z,Z] rfl rfl (by kernel_rfl) (fun _ _ _ h => h) (Or.inl ⟨by rfl, ?_⟩) hHeld ?_ ?_
 rotate_left
 ·rintro w' ⟨s0, s1, s2, s3⟩
  go_simp
  with_reducible rfl
 rotate_left
 ·simp only [Act.put,sn1,sn2,sn3,i64_w]
  rfl
 refine one_ (i := 3) (N:=some 47) #[Y,Y,Y,Y,Z,Z,Z,Z,Z] rfl rfl (by kernel_rfl) (by decide) (fun K hK => ?_)
 refine goes_ Tryz.func26 (by kernel_rfl) rfl #[.agg #[.slice A 2 c, .bool false, .int .i64 2, .bool false], .slice A1 6 c1] (by rfl) rfl rfl (by simp only [List.map_toArray, List.map_cons, List.map_nil]; rfl) ?_
 with_reducible refine (H6d.out.sight (List.Mem.head _)).mono ?_
 rintro e w7 ⟨As, cs, rfl, hcs, h7⟩
 refine ⟨_, rfl, ?_⟩
 have H7 := am h7
 clear h7
 refine hK.out _ _ ⟨H7.out.cell (.tail _ (.head _)) 0 rfl, H7.out.cell (.tail _ (.head _)) 1 rfl, H7.out.cell (.tail _ (.head _)) 2 rfl, H7.out.cell (.tail _ (.head _)) 3 rfl⟩ (fun hHeld => ?_)
 clear hK K
 refine norm_ (a' := ?_) ?_ ?_
 rotate_left
 ·show Act.put _ (some 47) _ = _
  simp only [Act.put,sn1,sn2,sn3,i64_w]
  rfl
 refine pure_ (i := 4) (N:=some 43) (v:=?_) (a':=?_) #[Y,Y,Y,Y,Y,Z,Z,Z,Z] rfl rfl (by kernel_rfl) (fun _ _ _ h => h) (Or.inl ⟨by rfl, ?_⟩) ?_ ?_;rotate_left;(intro w';go_simp;with_reducible rfl);rotate_left;(simp only [Act.put,sn1,sn2,sn3,i64_w];rfl)
 refine pure_ (i := 5) (N:=some 48) (v:=?_) (a':=?_) #[Y,Y,Y,Y,Y,Y,Z,Z,Z] rfl rfl (by kernel_rfl) (fun _ _ _ h => h) (Or.inl ⟨by rfl, ?_⟩) ?_ ?_;rotate_left;(intro w';go_simp;with_reducible rfl);rotate_left;(simp only [Act.put,sn1,sn2,sn3,i64_w];rfl)
 refine pure_ (i := 6) (N:=some 49) (v:=?_) (a':=?_) #[Y,Y,Y,Y,Y,Y,Y,Z,Z] rfl rfl (by kernel_rfl) (fun _ _ _ h => h) (Or.inl ⟨by rfl, ?_⟩) ?_ ?_;rotate_left;(intro w';go_simp;with_reducible rfl);rotate_left;(simp only [Act.put,sn1,sn2,sn3,i64_w];rfl)
 refine pure_ (i := 7) (N:=some 11) (v:=?_) (a':=?_) #[Y,Y,Y,Y,Y,Y,Y,Y,Z] rfl rfl (by kernel_rfl) (fun _ _ _ h => h) (Or.inl ⟨by rfl, ?_⟩) ?_ ?_;rotate_left;(intro w';go_simp;with_reducible rfl);rotate_left;(simp only [Act.put,sn1,sn2,sn3,i64_w];rfl)
 refine pure_ (i := 8) (N:=some 12) (v:=?_) (a':=?_) #[Y,Y,Y,Y,Y,Y,Y,Y,Y] rfl rfl (by kernel_rfl) (fun _ _ _ h => h) (Or.inl ⟨by rfl, ?_⟩) ?_ ?_;rotate_left;(intro w';go_simp;with_reducible rfl);rotate_left;(simp only [Act.put,sn1,sn2,sn3,i64_w];rfl)
 refine done_ (by kernel_rfl) ?_
 go_upto_region 7 with fail
 have H7d := am (H7.out.below ((Below.refl _ w7).drew))
 refine start_ (n := 9) (S := fun w' => w'.cell? ⟨g, 0, none⟩ = some (.slice A 2 c) ∧ w'.cell? ⟨g, 1, none⟩ = some (.bool false) ∧ w'.cell? ⟨g, 2, none⟩ = some (.int .i64 2) ∧ w'.cell? ⟨g, 3, none⟩ = some (.bool false)) (ds := []) #[Z,Z,Z,Z,Z,Z,Z,Z,Z] (by kernel_rfl) rfl rfl ⟨H7d.out.cell (.tail _ (.head _)) 0 rfl, H7d.out.cell (.tail _ (.head _)) 1 rfl, H7d.out.cell (.tail _ (.head _)) 2 rfl, H7d.out.cell (.tail _ (.head _)) 3 rfl⟩ (fun hHeld => ?_)
 generalize w7.drew = wd at H7d hHeld ⊢
 refine pure_ (i := 1) (N:=some 52) (v:=?_) (a':=?_) #[Z,Y,Z,Z,Z,Z,Z,Z,Z] rfl rfl (by kernel_rfl) (fun _ _ _ h => h) (Or.inl ⟨by rfl, ?_⟩) ?_ ?_;rotate_left;(intro w';go_simp;with_reducible rfl);rotate_left;(simp only [Act.put,sn1,sn2,sn3,i64_w];rfl)
 refine pure_ (i := 2) (N:=some 53) (v:=?_) (a':=?_) #[Z,Y,Y,Z,Z,Z,Z,Z,Z] rfl rfl (by kernel_rfl) (fun _ _ _ h => h) (Or.inl ⟨by rfl, ?_⟩) ?_ ?_;rotate_left;(intro w';go_simp;with_reducible rfl);rotate_left;(simp only [Act.put,sn1,sn2,sn3,i64_w];rfl)
 refine take_ (i := 0) (N:=some 51) (v:=?_) (a':=?_) #[Y,Y,Y,Z,Z,Z,Z,Z,Z] rfl rfl (by kernel_rfl) (fun _ _ _ h => h) (Or.inl ⟨by rfl, ?_⟩) hHeld ?_ ?_
 rotate_left
 ·rintro w' ⟨s0, s1, s2, s3⟩
  go_simp
  with_reducible rfl
 rotate_left
 ·simp only [Act.put,sn1,sn2,sn3,i64_w]
  rfl
 refine one_ (i := 3) (N:=some 54) #[Y,Y,Y,Y,Z,Z,Z,Z,Z] rfl rfl (by kernel_rfl) (by decide) (fun K hK => ?_)
 refine goes_ Tryz.func39 (by kernel_rfl) rfl #[.agg #[.slice A 2 c, .bool false, .int .i64 2, .bool false], .slice A1 4 c1] (by rfl) rfl rfl (by simp only [List.map_toArray, List.map_cons, List.map_nil]; rfl) ?_
 with_reducible refine (H7d.out.close (List.Mem.head _)).mono ?_
 rintro e w8 ⟨Ac, cc, rfl, hcc, h8⟩
 refine ⟨_, rfl, ?_⟩
 have H8 := am h8
 clear h8
 refine hK.out _ _ ⟨H8.out.cell (.tail _ (.head _)) 0 rfl, H8.out.cell (.tail _ (.head _)) 1 rfl, H8.out.cell (.tail _ (.head _)) 2 rfl, H8.out.cell (.tail _ (.head _)) 3 rfl⟩ (fun hHeld => ?_)
 clear hK K
 refine norm_ (a' := ?_) ?_ ?_
 rotate_left
 ·show Act.put _ (some 54) _ = _
  simp only [Act.put,sn1,sn2,sn3,i64_w]
  rfl
 refine pure_ (i := 4) (N:=some 50) (v:=?_) (a':=?_) #[Y,Y,Y,Y,Y,Z,Z,Z,Z] rfl rfl (by kernel_rfl) (fun _ _ _ h => h) (Or.inl ⟨by rfl, ?_⟩) ?_ ?_;rotate_left;(intro w';go_simp;with_reducible rfl);rotate_left;(simp only [Act.put,sn1,sn2,sn3,i64_w];rfl)
 refine pure_ (i := 5) (N:=some 55) (v:=?_) (a':=?_) #[Y,Y,Y,Y,Y,Y,Z,Z,Z] rfl rfl (by kernel_rfl) (fun _ _ _ h => h) (Or.inl ⟨by rfl, ?_⟩) ?_ ?_;rotate_left;(intro w';go_simp;with_reducible rfl);rotate_left;(simp only [Act.put,sn1,sn2,sn3,i64_w];rfl)
 refine pure_ (i := 6) (N:=some 56) (v:=?_) (a':=?_) #[Y,Y,Y,Y,Y,Y,Y,Z,Z] rfl rfl (by kernel_rfl) (fun _ _ _ h => h) (Or.inl ⟨by rfl, ?_⟩) ?_ ?_;rotate_left;(intro w';go_simp;with_reducible rfl);rotate_left;(simp only [Act.put,sn1,sn2,sn3,i64_w];rfl)
 refine pure_ (i := 7) (N:=some 13) (v:=?_) (a':=?_) #[Y,Y,Y,Y,Y,Y,Y,Y,Z] rfl rfl (by kernel_rfl) (fun _ _ _ h => h) (Or.inl ⟨by rfl, ?_⟩) ?_ ?_;rotate_left;(intro w';go_simp;with_reducible rfl);rotate_left;(simp only [Act.put,sn1,sn2,sn3,i64_w];rfl)
 refine pure_ (i := 8) (N:=some 14) (v:=?_) (a':=?_) #[Y,Y,Y,Y,Y,Y,Y,Y,Y] rfl rfl (by kernel_rfl) (fun _ _ _ h => h) (Or.inl ⟨by rfl, ?_⟩) ?_ ?_;rotate_left;(intro w';go_simp;with_reducible rfl);rotate_left;(simp only [Act.put,sn1,sn2,sn3,i64_w];rfl)
 refine done_ (by kernel_rfl) ?_
 go_upto_region 8 with fail
 have H8d := am (H8.out.below ((Below.refl _ w8).drew))
 refine start_ (n := 8) (S := fun w' => w'.cell? ⟨g, 0, none⟩ = some (.slice A 2 c) ∧ w'.cell? ⟨g, 1, none⟩ = some (.bool false) ∧ w'.cell? ⟨g, 2, none⟩ = some (.int .i64 2) ∧ w'.cell? ⟨g, 3, none⟩ = some (.bool false)) (ds := []) #[Z,Z,Z,Z,Z,Z,Z,Z] (by kernel_rfl) rfl rfl ⟨H8d.out.cell (.tail _ (.head _)) 0 rfl, H8d.out.cell (.tail _ (.head _)) 1 rfl, H8d.out.cell (.tail _ (.head _)) 2 rfl, H8d.out.cell (.tail _ (.head _)) 3 rfl⟩ (fun hHeld => ?_)
 generalize w8.drew = wd at H8d hHeld ⊢
 refine take_ (i := 0) (N:=some 58) (v:=?_) (a':=?_) #[Y,Z,Z,Z,Z,Z,Z,Z] rfl rfl (by kernel_rfl) (fun _ _ _ h => h) (Or.inl ⟨by rfl, ?_⟩) hHeld ?_ ?_
 rotate_left
 ·rintro w' ⟨s0, s1, s2, s3⟩
  go_simp
  with_reducible rfl
 rotate_left
 ·simp only [Act.put,sn1,sn2,sn3,i64_w]
  rfl
 refine one_ (i := 1) (N:=some 59) #[Y,Y,Z,Z,Z,Z,Z,Z] rfl rfl (by kernel_rfl) (by decide) (fun K hK => ?_)
 refine goes_ Tryz.func55 (by kernel_rfl) rfl #[.string ⟨#[48, 63, 32, 49, 63, 32, 50, 63]⟩] (by rfl) rfl rfl (by simp only [List.map_toArray, List.map_cons, List.map_nil]; rfl) ?_
 with_reducible refine (H8d.out.wordO).mono ?_
 rintro e w9 ⟨Aq, cq, rfl, hcq, h9⟩
 refine ⟨_, rfl, ?_⟩
 have H9 := am h9
 clear h9
 refine hK.out _ _ ⟨H9.out.cell (.tail _ (.head _)) 0 rfl, H9.out.cell (.tail _ (.head _)) 1 rfl, H9.out.cell (.tail _ (.head _)) 2 rfl, H9.out.cell (.tail _ (.head _)) 3 rfl⟩ (fun hHeld => ?_)
 clear hK K
 refine norm_ (a' := ?_) ?_ ?_
 rotate_left
 ·show Act.put _ (some 59) _ = _
  simp only [Act.put,sn1,sn2,sn3,i64_w]
  rfl
 refine one_ (i := 2) (N:=some 60) #[Y,Y,Y,Z,Z,Z,Z,Z] rfl rfl (by kernel_rfl) (by decide) (fun K hK => ?_)
 refine goes_ Tryz.func18 (by kernel_rfl) rfl #[.agg #[.slice A 2 c, .bool false, .int .i64 2, .bool false], .slice Aq 3 cq] (by rfl) rfl rfl (by simp only [List.map_toArray, List.map_cons, List.map_nil]; rfl) ?_
 with_reducible refine (H9.out.check (List.Mem.head _)).mono ?_
 rintro e w10 ⟨rfl, h10⟩
 refine ⟨_, rfl, ?_⟩
 have H10 := am h10
 clear h10
 refine hK.out _ _ ⟨H10.out.cell (.tail _ (.head _)) 0 rfl, H10.out.cell (.tail _ (.head _)) 1 rfl, H10.out.cell (.tail _ (.head _)) 2 rfl, H10.out.cell (.tail _ (.head _)) 3 rfl⟩ (fun hHeld => ?_)
 clear hK K
 refine norm_ (a' := ?_) ?_ ?_
 rotate_left
 ·show Act.put _ (some 60) _ = _
  simp only [Act.put,sn1,sn2,sn3,i64_w]
  rfl
 refine pure_ (i := 3) (N:=some 57) (v:=?_) (a':=?_) #[Y,Y,Y,Y,Z,Z,Z,Z] rfl rfl (by kernel_rfl) (fun _ _ _ h => h) (Or.inl ⟨by rfl, ?_⟩) ?_ ?_;rotate_left;(intro w';go_simp;with_reducible rfl);rotate_left;(simp only [Act.put,sn1,sn2,sn3,i64_w];rfl)
 refine pure_ (i := 4) (N:=some 61) (v:=?_) (a':=?_) #[Y,Y,Y,Y,Y,Z,Z,Z] rfl rfl (by kernel_rfl) (fun _ _ _ h => h) (Or.inl ⟨by rfl, ?_⟩) ?_ ?_;rotate_left;(intro w';go_simp;with_reducible rfl);rotate_left;(simp only [Act.put,sn1,sn2,sn3,i64_w];rfl)
 refine pure_ (i := 5) (N:=some 62) (v:=?_) (a':=?_) #[Y,Y,Y,Y,Y,Y,Z,Z] rfl rfl (by kernel_rfl) (fun _ _ _ h => h) (Or.inl ⟨by rfl, ?_⟩) ?_ ?_;rotate_left;(intro w';go_simp;with_reducible rfl);rotate_left;(simp only [Act.put,sn1,sn2,sn3,i64_w];rfl)
 refine pure_ (i := 6) (N:=some 15) (v:=?_) (a':=?_) #[Y,Y,Y,Y,Y,Y,Y,Z] rfl rfl (by kernel_rfl) (fun _ _ _ h => h) (Or.inl ⟨by rfl, ?_⟩) ?_ ?_;rotate_left;(intro w';go_simp;with_reducible rfl);rotate_left;(simp only [Act.put,sn1,sn2,sn3,i64_w];rfl)
 refine pure_ (i := 7) (N:=some 16) (v:=?_) (a':=?_) #[Y,Y,Y,Y,Y,Y,Y,Y] rfl rfl (by kernel_rfl) (fun _ _ _ h => h) (Or.inl ⟨by rfl, ?_⟩) ?_ ?_;rotate_left;(intro w';go_simp;with_reducible rfl);rotate_left;(simp only [Act.put,sn1,sn2,sn3,i64_w];rfl)
 refine done_ (by kernel_rfl) ?_
 have hgs2 : gs < w10.heap.size := blk_lt (H10.out.g _ (.head _))
 have s0 : w10.cell? ⟨gs, 0, none⟩ = some (.int .u8 2) := H10.out.cell (.head _) 0 rfl
 have s1 : w10.cell? ⟨gs, 1, none⟩ = some (.slice Ao 1 co) := H10.out.cell (.head _) 1 rfl
 have s2 : w10.cell? ⟨gs, 2, none⟩ = some (.bool false) := H10.out.cell (.head _) 2 rfl
 have s3 : w10.cell? ⟨gs, 3, none⟩ = some (.bool false) := H10.out.cell (.head _) 3 rfl
 go_wp2_with fail
 with_reducible refine (H10.out.same1 (A1 := Ao) (c1 := co) (List.mem_cons_of_mem _ (List.mem_cons_of_mem _ (List.mem_cons_of_mem _ mc))) hco).mono ?_
 rintro e w11 ⟨rfl, h11⟩
 have H11 := am h11
 clear h11
 have hgs2 : gs < w11.heap.size := blk_lt (H11.out.g _ (.head _)); have s0 : w11.cell? ⟨gs, 0, none⟩ = some (.int .u8 2) := H11.out.cell (.head _) 0 rfl; have s1 : w11.cell? ⟨gs, 1, none⟩ = some (.slice Ao 1 co) := H11.out.cell (.head _) 1 rfl; have s2 : w11.cell? ⟨gs, 2, none⟩ = some (.bool false) := H11.out.cell (.head _) 2 rfl; have s3 : w11.cell? ⟨gs, 3, none⟩ = some (.bool false) := H11.out.cell (.head _) 3 rfl
 go_wp2_with fail
 with_reducible refine (H11.out.same2 (A1 := Ap) (c1 := cp) (List.mem_cons_of_mem _ (List.mem_cons_of_mem _ (List.mem_cons_of_mem _ mc))) hcp).mono ?_
 rintro e w12 ⟨rfl, h12⟩
 have H12 := am h12
 clear h12
 have hgs2 : gs < w12.heap.size := blk_lt (H12.out.g _ (.head _)); have s0 : w12.cell? ⟨gs, 0, none⟩ = some (.int .u8 2) := H12.out.cell (.head _) 0 rfl; have s1 : w12.cell? ⟨gs, 1, none⟩ = some (.slice Ao 1 co) := H12.out.cell (.head _) 1 rfl; have s2 : w12.cell? ⟨gs, 2, none⟩ = some (.bool false) := H12.out.cell (.head _) 2 rfl; have s3 : w12.cell? ⟨gs, 3, none⟩ = some (.bool false) := H12.out.cell (.head _) 3 rfl
 go_wp2_with fail
 with_reducible refine (H12.out.same3 (A1 := Av) (c1 := cv) (List.mem_cons_of_mem _ (List.mem_cons_of_mem _ (List.mem_cons_of_mem _ mc))) hcv).mono ?_
 rintro e w13 ⟨rfl, h13⟩
 have H13 := am h13
 clear h13
 have hgs2 : gs < w13.heap.size := blk_lt (H13.out.g _ (.head _)); have s0 : w13.cell? ⟨gs, 0, none⟩ = some (.int .u8 2) := H13.out.cell (.head _) 0 rfl; have s1 : w13.cell? ⟨gs, 1, none⟩ = some (.slice Ao 1 co) := H13.out.cell (.head _) 1 rfl; have s2 : w13.cell? ⟨gs, 2, none⟩ = some (.bool false) := H13.out.cell (.head _) 2 rfl; have s3 : w13.cell? ⟨gs, 3, none⟩ = some (.bool false) := H13.out.cell (.head _) 3 rfl
 go_wp2_with fail
 with_reducible refine (H13.out.same4 (A1 := As) (c1 := cs) (List.mem_cons_of_mem _ (List.mem_cons_of_mem _ (List.mem_cons_of_mem _ mc))) hcs).mono ?_
 rintro e w14 ⟨rfl, h14⟩
 have H14 := am h14
 clear h14
 have hgs2 : gs < w14.heap.size := blk_lt (H14.out.g _ (.head _)); have s0 : w14.cell? ⟨gs, 0, none⟩ = some (.int .u8 2) := H14.out.cell (.head _) 0 rfl; have s1 : w14.cell? ⟨gs, 1, none⟩ = some (.slice Ao 1 co) := H14.out.cell (.head _) 1 rfl; have s2 : w14.cell? ⟨gs, 2, none⟩ = some (.bool false) := H14.out.cell (.head _) 2 rfl; have s3 : w14.cell? ⟨gs, 3, none⟩ = some (.bool false) := H14.out.cell (.head _) 3 rfl
 go_wp2_with fail
 with_reducible refine H14.out.wordC.mono ?_
 rintro e w15 ⟨Az, cz, rfl, hcz, h15⟩
 have H15 := am h15
 clear h15
 go_wp2_with fail
 refine (H15.out.sameW 12 exC Ac Az cc cz (.tail _ (.tail _ (.head _))) (.head _) hcc hcz (by kernel_rfl)).mono ?_
 rintro e w16 ⟨rfl, h16⟩
 go_wp2_with fail
 go_ret
 exact ⟨rfl, h16.b⟩
end Go.Proofs.YtjgocihflhljeaaGreat.P
