/- What the claim's law needs, many texts in one (Hc). No conditions of its own. -/
import Derived.Test.YtjgocihflhljeaaGreatZl2
import Derived.Stop.RegionWithIn
set_option linter.unusedVariables false
set_option linter.unusedSimpArgs false
namespace Go.Proofs.YtjgocihflhljeaaGreat.P
open Go.RowKit Go.Shelf Go.Proofs.YtjgocihflhljeaaGreatW.PrintWords Go.Proofs.YtjgocihflhljeaaGreatW.PrintLast Go.Proofs.YtjgocihflhljeaaGreatW.PrintMore
attribute [local go_sem] Oper.semAt_some
def movesL (p : Spot) : List S52 := qsL p ++ aL p p.n
def movesTy (t : TypeId) : Prop := t = 141 ∨ t = 152 ∨ t = 53 ∨ t = 163 ∨ t = 3
theorem five (W V : World) (c0 c1 c2 c3 c4 : Obj) (h : V = (((((W.alloc c0).alloc c1).alloc c2).alloc c3).alloc c4).drew) :
  V.heap.size = W.heap.size + 5 ∧ V.heap[W.heap.size]? = some c0 ∧ V.heap[W.heap.size + 1]? = some c1 ∧ V.heap[W.heap.size + 2]? = some c2 ∧ V.heap[W.heap.size + 3]? = some c3 ∧ V.heap[W.heap.size + 4]? = some c4 ∧ Below W.heap.size W V := by
 have b0 := heap_alloc_new W c0
 have b1 := heap_alloc_new (W.alloc c0) c1
 have b2 := heap_alloc_new ((W.alloc c0).alloc c1) c2
 have b3 := heap_alloc_new (((W.alloc c0).alloc c1).alloc c2) c3
 have b4 := heap_alloc_new ((((W.alloc c0).alloc c1).alloc c2).alloc c3) c4
 simp only [World.size_alloc] at b1 b2 b3 b4
 subst h
 refine ⟨by simp, blk_drew (blk_alloc (blk_alloc (blk_alloc (blk_alloc b0 _) _) _) _), blk_drew (blk_alloc (blk_alloc (blk_alloc b1 _) _) _), blk_drew (blk_alloc (blk_alloc b2 _) _), blk_drew (blk_alloc b3 _), blk_drew b4, ?_⟩
 exact ((((((Below.refl _ W).alloc (Nat.le_refl _) _).alloc (by simp) _).alloc (by simp; omega) _).alloc (by simp; omega) _).alloc (by simp; omega) _).drew
theorem five' (W V : World) (c0 c1 c2 c3 c4 : Obj) (h : V = ((((W.alloc c0).alloc c1).alloc c2).alloc c3).alloc c4) :
  V.heap.size = W.heap.size + 5 ∧ V.heap[W.heap.size]? = some c0 ∧ V.heap[W.heap.size + 1]? = some c1 ∧ V.heap[W.heap.size + 2]? = some c2 ∧ V.heap[W.heap.size + 3]? = some c3 ∧ V.heap[W.heap.size + 4]? = some c4 ∧ Below W.heap.size W V := by
 have h5 := five W V.drew c0 c1 c2 c3 c4 (by rw [h])
 exact ⟨h5.1, h5.2.1, h5.2.2.1, h5.2.2.2.1, h5.2.2.2.2.1, h5.2.2.2.2.2.1, ⟨h5.2.2.2.2.2.2.os, h5.2.2.2.2.2.2.tape, h5.2.2.2.2.2.2.output, h5.2.2.2.2.2.2.size, h5.2.2.2.2.2.2.block⟩⟩
theorem two (W : World) (c0 c1 : Obj) : ((W.alloc c0).alloc c1).heap[W.heap.size]? = some c0 ∧ ((W.alloc c0).alloc c1).heap[W.heap.size + 1]? = some c1 := by
 have b0 := heap_alloc_new W c0
 have b1 := heap_alloc_new (W.alloc c0) c1
 simp only [World.size_alloc] at b1
 exact ⟨blk_alloc b0 _, b1⟩
theorem three (W : World) (c0 c1 c2 : Obj) : (((W.alloc c0).alloc c1).alloc c2).heap[W.heap.size]? = some c0 ∧ (((W.alloc c0).alloc c1).alloc c2).heap[W.heap.size + 1]? = some c1 ∧ (((W.alloc c0).alloc c1).alloc c2).heap[W.heap.size + 2]? = some c2 := by
 have b0 := heap_alloc_new W c0
 have b1 := heap_alloc_new (W.alloc c0) c1
 have b2 := heap_alloc_new ((W.alloc c0).alloc c1) c2
 simp only [World.size_alloc] at b1 b2
 exact ⟨blk_alloc (blk_alloc b0 _) _, blk_alloc b1 _, b2⟩
theorem four (W V : World) (c0 c1 c2 c3 : Obj) (h : V = (((W.alloc c0).alloc c1).alloc c2).alloc c3) :
  V.heap.size = W.heap.size + 4 ∧ V.heap[W.heap.size]? = some c0 ∧ V.heap[W.heap.size + 1]? = some c1 ∧ V.heap[W.heap.size + 2]? = some c2 ∧ V.heap[W.heap.size + 3]? = some c3 ∧ Below W.heap.size W V := by
 have b0 := heap_alloc_new W c0
 have b1 := heap_alloc_new (W.alloc c0) c1
 have b2 := heap_alloc_new ((W.alloc c0).alloc c1) c2
 have b3 := heap_alloc_new (((W.alloc c0).alloc c1).alloc c2) c3
 simp only [World.size_alloc] at b1 b2 b3
 subst h
 exact ⟨by simp, blk_alloc (blk_alloc (blk_alloc b0 _) _) _, blk_alloc (blk_alloc b1 _) _, blk_alloc b2 _, b3, ((((Below.refl _ W).alloc (Nat.le_refl _) _).alloc (by simp) _).alloc (by simp; omega) _).alloc (by simp; omega) _⟩
theorem below4 (W : World) (c0 c1 c2 c3 : Obj) : Below W.heap.size W ((((W.alloc c0).alloc c1).alloc c2).alloc c3) := (four W _ c0 c1 c2 c3 rfl).2.2.2.2.2
def AtPt (A : Act) (V : World) (a : Act) (w : World) : Prop := a = A ∧ w = V
theorem name_world {C : World → Prop} {V : World} (h : ∀ w', w' = V → C w') : C V := h V rfl
theorem wpIn_at {F : Fence} {n : Nat} {P : Program} {c : Code} {Q : Exit → Act → World → Prop} {a : Act} {w : World} (A : Act) (V : World)
  (h : ∀ (Mid : Act → World → Prop), Aside0 (Mid A V) → c.wpIn F n P (Exit.then Mid (fun _ _ _ => False)) a w) (hq : Q .normal A V) : c.wpIn F n P Q a w := by
 refine wpIn_mono (h (AtPt A V) ⟨⟨rfl, rfl⟩⟩) ?_
 rintro e a' w' h'
 cases e <;> first | exact h'.elim | (obtain ⟨rfl, rfl⟩ := h'; exact hq)
theorem enters_questions : ∀ args w, (callFunc 143 args).run Tryz.prog w = .ok (.enter 143 args) w := enters_of Tryz.func143 (by kernel_rfl) rfl
theorem enters_answers1 : ∀ args w, (callFunc 150 args).run Tryz.prog w = .ok (.enter 150 args) w := enters_of Tryz.func150 (by kernel_rfl) rfl
set_option maxHeartbeats 4000000 in
theorem moves_gives (p : Spot) (n₀ : Nat) (w0 : World) (hn : p.n ≤ 9223372036854775807) :
  Gives Tryz.prog 131 (fun y => #[p.val] ++ #[y] ++ #[]) encM (movesL p) n₀ w0 (fun _ => False) (fun _ => False) movesTy (fun _ => True) := by
 intro y J Jx W ⟨yf, ybs, ylb, hy⟩ hB hn0 _ hJ hJx hY h0
 subst hy
 obtain ⟨id, arg, cell, n, esc⟩ := p
 refine (callsIn_wide (n := 9)).1 ?_
 show CallsIn (FW none) 9 Tryz.prog 131 #[.agg #[.int .i64 id, .int .i64 arg, .bool cell, .int .i64 n, .bool esc], .func yf ybs ylb] W _
 have HJ := am hJ
 have HJx := am hJx
 have HY := am hY
 have H0 := am h0
 have BB := am hB
 clear hJ hJx hY h0 hB
 have hmix : Tryz.prog.follows .mixedOrders = true := by kernel_rfl
 refine callsIn_of_wp_marks Tryz.func131 rfl trivial ?_ rfl
 simp only [Tryz.ntmps131, List.size_toArray, List.length_cons, List.length_nil, Nat.reduceAdd, Nat.reduceSub, Array.replicate_succ, Array.replicate_zero, List.push_toArray, List.append_toArray, List.nil_append, List.cons_append]
 gi_wp2
 refine wpIn_at { tmps := #[.agg #[.int .i64 id, .int .i64 arg, .bool cell, .int .i64 n, .bool esc], .func yf ybs ylb, .pointer (some ⟨W.heap.size, 0, none⟩), .pointer (some ⟨W.heap.size + 1, 0, none⟩), undef, undef, undef,
  .agg #[.int .i64 id, .int .i64 arg, .bool cell, .int .i64 n, .bool esc], .func (.func 143) #[.agg #[.int .i64 id, .int .i64 arg, .bool cell, .int .i64 n, .bool esc]] #[],
  .agg #[.int .i64 id, .int .i64 arg, .bool cell, .int .i64 n, .bool esc], .pointer (some ⟨W.heap.size, 2, none⟩), .pointer (some ⟨W.heap.size, 3, none⟩), .int .i64 n,
  .func (.func 150) #[] #[.pointer (some ⟨W.heap.size + 1 + 1, 0, none⟩), .pointer (some ⟨W.heap.size + 1 + 1 + 1, 0, none⟩)], .slice (some ⟨W.heap.size + 1 + 1 + 1 + 1, 0, none⟩) 2 2, .int .i64 2, .int .i64 0,
  undef, undef, undef, undef, undef, undef, undef, undef, undef, undef], defers := [] }
  ((((((W.alloc (.cells #[.int .i64 id, .int .i64 arg, .bool cell, .int .i64 n, .bool esc] 141)).alloc (.cells #[.func yf ybs ylb] 53)).alloc (.cells #[.int .i64 id, .int .i64 arg, .bool cell, .int .i64 n, .bool esc] 141)).alloc (.cells #[.int .i64 n] 3)).alloc
   (.cells #[.func (.func 143) #[.agg #[.int .i64 id, .int .i64 arg, .bool cell, .int .i64 n, .bool esc]] #[], .func (.func 150) #[] #[.pointer (some ⟨W.heap.size + 1 + 1, 0, none⟩), .pointer (some ⟨W.heap.size + 1 + 1 + 1, 0, none⟩)]] 163)).drew) ?reg ?go
 case reg =>
  intro Mid HM
  gi_region_with (gi_at_call 144; refine CallsIn.mono (callsIn_wide.2 (answers_any ⟨id, arg, cell, n, esc⟩ _ _)) ?_; rintro e w1 ⟨rfl, rfl⟩)
  all_goals exact HM.out
 case go =>
  refine name_world ?_
  intro w' hw
  obtain ⟨hsz, _, k1, k2, k3, k4, hb5⟩ := five _ _ _ _ _ _ _ hw
  clear hw
  have SZ := am hsz
  have K1 := am k1
  have K2 := am k2
  have K3 := am k3
  have K4 := am k4
  have B5 := am hb5
  clear hsz k1 k2 k3 k4 hb5
  have hs0 : ∀ {A B : World}, St w'.heap.size (fun _ => False) A B → St W.heap.size (fun _ => False) A B := fun h => h.mono (by have := SZ.out; omega)
  have HS0 := am @hs0
  have hn5 : n₀ ≤ w'.heap.size := by have := SZ.out; omega
  clear hs0
  gi_wp2
  refine wpIn_loop_rounds 3 ?_
  rw [roundsIn_succ]
  have kc : w'.cell? ⟨W.heap.size + 4, 0, none⟩ = _ := (blk_cell K4.out 0).trans rfl
  gi_wp2
  refine wp_range (gf := 143) (bs := #[.agg #[.int .i64 id, .int .i64 arg, .bool cell, .int .i64 n, .bool esc]]) (lb := #[]) rfl enters_questions (questions_gives ⟨id, arg, cell, n, esc⟩ n₀ w0 hn) (hb0 := BB.out.trans (B5.out.mono hn0)) (hn := by have := SZ.out; omega) (hwr := fun _ h => h.elim) (hown := fun _ h => h.elim)
   (hPre := fun _ _ => trivial) (hps := fun _ => rfl)
   (fun i W' => J (i) W' ∧ Aside0 (Below n₀ w0 W') ∧ Aside0 (W'.heap[W.heap.size + 1]? = some (.cells #[.func yf ybs ylb] 53 (0, 0))) ∧ Aside0 (W'.heap[W.heap.size + 2]? = some (.cells #[.int .i64 id, .int .i64 arg, .bool cell, .int .i64 n, .bool esc] 141 (0, 0))) ∧ Aside0 (W'.heap[W.heap.size + 3]? = some (.cells #[.int .i64 n] 3 (0, 0))) ∧ Aside0 (W'.heap[W.heap.size + 4]? = some (.cells #[.func (.func 143) #[.agg #[.int .i64 id, .int .i64 arg, .bool cell, .int .i64 n, .bool esc]] #[], .func (.func 150) #[] #[.pointer (some ⟨W.heap.size + 1 + 1, 0, none⟩), .pointer (some ⟨W.heap.size + 1 + 1 + 1, 0, none⟩)]] 163 (0, 0))) ∧ Aside0 (w'.heap.size ≤ W'.heap.size))
   (fun c i W' => c = .ret ∧ Aside0 (Jx (i) W')) ?hI1 ?hIx1 ?h01
   (fun i a₁ W₁ => ∃ x, (qsL ⟨id, arg, cell, n, esc⟩)[i]? = some x ∧ ∃ Bx, Aside0 (W₁.heap[Bx]? = some (.cells #[.int .i64 x.f0, .int .i64 x.f1, .int .u8 x.f2, .int .i64 x.f3] 52 (0, 0))) ∧ Aside0 (w'.heap.size ≤ Bx) ∧ ∃ x0 x1 x2 x4 x5 x7 x8 x9 x10 x11 x12 x13 x14 x15 x16 x17 x18 x19 x20 x21 x22 x23 x24 x25 x26 : Value, a₁ = { tmps := #[x0, x1, x2, .pointer (some ⟨W.heap.size + 1, 0, none⟩), x4, x5, .pointer (some ⟨Bx, 0, none⟩), x7, x8, x9, x10, x11, x12, x13, x14, x15, x16, x17, x18, x19, x20, x21, x22, x23, x24, x25, x26], defers := [] }) ?hAx1 ?assign1 ?body1 ?done1 ?stop1
  case hI1 =>
   rintro i A B ⟨hj, bl, kK1, kK2, kK3, kK4, sz⟩ hs
   exact ⟨HJ.out _ _ _ hj (HS0.out hs), ⟨hs.below bl.out (by omega) (by intro k h; exact h.elim) (by have := sz.out; omega)⟩, ⟨hs.blk kK1.out (fun h => h)⟩, ⟨hs.blk kK2.out (fun h => h)⟩, ⟨hs.blk kK3.out (fun h => h)⟩, ⟨hs.blk kK4.out (fun h => h)⟩, ⟨Nat.le_trans sz.out hs.1.2.2.2⟩⟩
  case hIx1 =>
   rintro c i A B ⟨hc, hj⟩ hs
   exact ⟨hc, ⟨HJx.out _ _ _ hj.out (HS0.out hs)⟩⟩
  case h01 =>
   exact ⟨HJ.out _ _ _ H0.out (St.of_below B5.out), ⟨BB.out.trans (B5.out.mono hn0)⟩, K1, K2, K3, K4, ⟨Nat.le_refl _⟩⟩
  case hAx1 =>
   rintro i a₁ A B ⟨x, hx, Bx, bx, hlt, r⟩ hs
   exact ⟨x, hx, Bx, ⟨hs.blk bx.out (fun h => h)⟩, hlt, r⟩
  case assign1 =>
   intro m l i x A K hx ⟨hj, bl, k1, k2, k3, k4, sz⟩ hle hK
   simp only [encM, mval, List.zip_toArray, List.zip_cons_cons, List.zip_nil_right, List.size_toArray, List.foldl_toArray', List.foldl_cons, List.foldl_nil]
   gi_wp2
   exact hK _ _ ((Below.refl _ A).alloc (Nat.le_refl _) _) ⟨x, hx, A.heap.size, ⟨heap_alloc_new A _⟩, ⟨sz.out⟩, _, _, _, _, _, _, _, _, _, _, _, _, _, _, _, _, _, _, _, _, _, _, _, _, _, rfl⟩
  case body1 =>
   rintro m l i x a₁ A hx ⟨hj, bl, k1, k2, k3, k4, sz⟩ ⟨x', hx', Bx, bx, hlt, x0, x1, x2, x4, x5, x7, x8, x9, x10, x11, x12, x13, x14, x15, x16, x17, x18, x19, x20, x21, x22, x23, x24, x25, x26, rfl⟩ hle
   obtain rfl : x' = x := Option.some.inj (hx'.symm.trans hx)
   clear hx'
   have HX := am hx
   have HI := am hj
   clear hx hj
   have hc : A.cell? ⟨W.heap.size + 1, 0, none⟩ = some (.func yf ybs ylb) := (blk_cell k1.out 0).trans rfl
   have hc0 : A.cell? ⟨Bx, 0, none⟩ = some (.int .i64 x'.f0) := (blk_cell bx.out 0).trans rfl
   have hc1 : A.cell? ⟨Bx, 1, none⟩ = some (.int .i64 x'.f1) := (blk_cell bx.out 1).trans rfl
   have hc2 : A.cell? ⟨Bx, 2, none⟩ = some (.int .u8 x'.f2) := (blk_cell bx.out 2).trans rfl
   have hc3 : A.cell? ⟨Bx, 3, none⟩ = some (.int .i64 x'.f3) := (blk_cell bx.out 3).trans rfl
   gi_wp2_with (((with_reducible refine gateIn (N := 24) rfl ?_); refine wpListIn_vcall (.func yf ybs ylb) (encM x') _ _ _ rfl rfl rfl rfl rfl (HY.out i x' _ (by have h := HX.out; rw [movesL, List.getElem?_append_left (List.getElem?_eq_some_iff.1 h).1]; exact h) HI.out (by have := SZ.out; omega)) ?_))
   rintro v A2 (⟨rfl, hj2, hk2⟩ | ⟨rfl, hj2, hk2⟩)
   ·have HJ2 := am hj2
    have HK2 := am hk2
    clear hj2 hk2
    gi_wp2
    exact ⟨HK2.out.weaken (by have := SZ.out; omega) (fun t h => by subst h; exact .inl rfl) (fun k o _ h => h.elim), HJ2.out, ⟨HK2.out.below bl.out (by omega)⟩,
     ⟨HK2.out.blk k1.out (by omega) (.inr (.inr (.inl rfl)))⟩, ⟨HK2.out.blk k2.out (by omega) (.inl rfl)⟩, ⟨HK2.out.blk k3.out (by omega) (.inr (.inr (.inr (.inr rfl))))⟩, ⟨HK2.out.blk k4.out (by omega) (.inr (.inr (.inr (.inl rfl))))⟩, ⟨Nat.le_trans sz.out HK2.out.1.2.2.2⟩⟩
   have HJ2 := am hj2
   have HK2 := am hk2
   clear hj2 hk2
   gi_wp2
   exact ⟨HK2.out.weaken (by have := SZ.out; omega) (fun t h => by subst h; exact .inl rfl) (fun k o _ h => h.elim), rfl, ⟨HJ2.out⟩⟩
  case stop1 =>
   rintro D c i A hle hlt ⟨rfl, hj⟩ hD hDle
   gi_wp2
   refine leavesM1 hD (results_none rfl _ _ _) ?_
   exact ⟨⟨_, rfl⟩, by simp; have := SZ.out; omega, .inr ⟨i, by simp [movesL]; omega, HJx.out _ _ _ hj.out (St.putObj _ hD rfl (by have := SZ.out; omega))⟩⟩
  case done1 =>
   rintro D1 w2 hle2 ⟨hj, bl, k1, k2, k3, k4, sz⟩ hD1 hDle
   have SZ2 := am (Nat.le_trans (by have := SZ.out; omega : W.heap.size + 5 ≤ w'.heap.size) sz.out)
   have hc1 : w2.cell? ⟨W.heap.size + 4, 1, none⟩ = _ := (blk_cell k4.out 1).trans rfl
   have hsz2 : W.heap.size + 5 ≤ w2.heap.size := SZ2.out
   have hD1ge : W.heap.size ≤ D1 := by have := SZ.out; omega
   have HJ2 := am hj
   have BL2 := am bl.out
   have hD1lt : D1 < w2.heap.size := (Array.getElem?_eq_some_iff.1 hD1).1
   have HD1 := am hD1
   clear hj bl hD1
   gi_wp2
   rw [roundsIn_succ]
   gi_wp2
   refine wp_range (gf := 150) (bs := #[]) (lb := #[.pointer (some ⟨W.heap.size + 1 + 1, 0, none⟩), .pointer (some ⟨W.heap.size + 1 + 1 + 1, 0, none⟩)]) rfl enters_answers1 (answers1_gives ⟨id, arg, cell, n, esc⟩ n (W.heap.size + 1 + 1) (W.heap.size + 1 + 1 + 1) n₀ w0 hn) (hb0 := BL2.out) (hn := by omega) (hwr := fun _ h => h.elim) (hown := fun k h => by omega)
    (hPre := fun V hb => ⟨(hb.block _ (blk_lt k2.out)).trans k2.out, (hb.block _ (blk_lt k3.out)).trans k3.out⟩) (hps := fun _ => rfl)
    (fun i V => J ((qsL ⟨id, arg, cell, n, esc⟩).length + i) V ∧ Aside0 (Below n₀ w0 V) ∧ Aside0 (V.heap[W.heap.size + 1]? = some (.cells #[.func yf ybs ylb] 53 (0, 0))) ∧ Aside0 (V.heap[W.heap.size + 2]? = some (.cells #[.int .i64 id, .int .i64 arg, .bool cell, .int .i64 n, .bool esc] 141 (0, 0))) ∧ Aside0 (V.heap[W.heap.size + 3]? = some (.cells #[.int .i64 n] 3 (0, 0))) ∧ Aside0 (V.heap[D1]? = some (.deferred (some []))) ∧ Aside0 (w2.heap.size ≤ V.heap.size))
    (fun c i V => c = .ret ∧ Aside0 (Jx ((qsL ⟨id, arg, cell, n, esc⟩).length + i) V) ∧ Aside0 (V.heap[D1]? = some (.deferred (some [])))) ?hI2 ?hIx2 ?h02
    (fun i a₁ W₁ => ∃ x, (aL ⟨id, arg, cell, n, esc⟩ n)[i]? = some x ∧ ∃ Bx, Aside0 (W₁.heap[Bx]? = some (.cells #[.int .i64 x.f0, .int .i64 x.f1, .int .u8 x.f2, .int .i64 x.f3] 52 (0, 0))) ∧ Aside0 (w2.heap.size ≤ Bx) ∧ ∃ x0 x1 x2 x4 x5 x7 x8 x9 x10 x11 x12 x13 x14 x15 x16 x17 x18 x19 x20 x21 x22 x23 x24 x25 x26 : Value, a₁ = { tmps := #[x0, x1, x2, .pointer (some ⟨W.heap.size + 1, 0, none⟩), x4, x5, .pointer (some ⟨Bx, 0, none⟩), x7, x8, x9, x10, x11, x12, x13, x14, x15, x16, x17, x18, x19, x20, x21, x22, x23, x24, x25, x26], defers := [] }) ?hAx2 ?assign2 ?body2 ?done2 ?stop2
   case hI2 =>
    rintro i A B ⟨hj, bl, kK1, kK2, kK3, d1, sz⟩ hs
    exact ⟨HJ.out _ _ _ hj (hs.mono (by omega)), ⟨hs.below bl.out (by omega) (by intro k h; exact h.elim) (by have := sz.out; omega)⟩, ⟨hs.blk kK1.out (fun h => h)⟩, ⟨hs.blk kK2.out (fun h => h)⟩, ⟨hs.blk kK3.out (fun h => h)⟩, ⟨hs.2 _ _ d1.out (fun h => h) (.inl hD1lt)⟩, ⟨Nat.le_trans sz.out hs.1.2.2.2⟩⟩
   case hIx2 =>
    rintro c i A B ⟨hc, hj, d1⟩ hs
    exact ⟨hc, ⟨HJx.out _ _ _ hj.out (hs.mono (by omega))⟩, ⟨hs.2 _ _ d1.out (fun h => h) (.inl hD1lt)⟩⟩
   case h02 => exact ⟨HJ2.out, BL2, k1, k2, k3, HD1, ⟨Nat.le_refl _⟩⟩
   case hAx2 =>
    rintro i a₁ A B ⟨x, hx, Bx, bx, hlt, r⟩ hs
    exact ⟨x, hx, Bx, ⟨hs.blk bx.out (fun h => h)⟩, hlt, r⟩
   case assign2 =>
    intro m l i x A K hx ⟨hj, bl, kK1, kK2, kK3, d1, sz⟩ hle hK
    simp only [encM, mval, List.zip_toArray, List.zip_cons_cons, List.zip_nil_right, List.size_toArray, List.foldl_toArray', List.foldl_cons, List.foldl_nil]
    gi_wp2
    exact hK _ _ ((Below.refl _ A).alloc (Nat.le_refl _) _) ⟨x, hx, A.heap.size, ⟨heap_alloc_new A _⟩, ⟨sz.out⟩, _, _, _, _, _, _, _, _, _, _, _, _, _, _, _, _, _, _, _, _, _, _, _, _, _, rfl⟩
   case body2 =>
    rintro m l i x a₁ A hx ⟨hj, bl, kK1, kK2, kK3, d1, sz⟩ ⟨x', hx', Bx, bx, hlt, x0, x1, x2, x4, x5, x7, x8, x9, x10, x11, x12, x13, x14, x15, x16, x17, x18, x19, x20, x21, x22, x23, x24, x25, x26, rfl⟩ hle
    obtain rfl : x' = x := Option.some.inj (hx'.symm.trans hx)
    clear hx'
    have HX := am hx
    have HI := am hj
    clear hx hj
    have hc : A.cell? ⟨W.heap.size + 1, 0, none⟩ = some (.func yf ybs ylb) := (blk_cell kK1.out 0).trans rfl
    have hc0 : A.cell? ⟨Bx, 0, none⟩ = some (.int .i64 x'.f0) := (blk_cell bx.out 0).trans rfl
    have hc1 : A.cell? ⟨Bx, 1, none⟩ = some (.int .i64 x'.f1) := (blk_cell bx.out 1).trans rfl
    have hc2 : A.cell? ⟨Bx, 2, none⟩ = some (.int .u8 x'.f2) := (blk_cell bx.out 2).trans rfl
    have hc3 : A.cell? ⟨Bx, 3, none⟩ = some (.int .i64 x'.f3) := (blk_cell bx.out 3).trans rfl
    gi_wp2_with (((with_reducible refine gateIn (N := 24) rfl ?_); refine wpListIn_vcall (.func yf ybs ylb) (encM x') _ _ _ rfl rfl rfl rfl rfl (HY.out ((qsL ⟨id, arg, cell, n, esc⟩).length + i) x' _ (by have h := HX.out; rw [movesL, List.getElem?_append_right (by omega)]; simpa using h) HI.out (by omega)) ?_))
    rintro v A2 (⟨rfl, hj2, hk2⟩ | ⟨rfl, hj2, hk2⟩)
    ·have HJ3 := am hj2
     have HK2 := am hk2
     clear hj2 hk2
     gi_wp2
     exact ⟨HK2.out.weaken (by omega) (fun t h => h.elim) (fun k o hk h => .inr (.inr ⟨by omega, fun cs t f e => by subst e; rcases h with h | h <;> subst h; (rw [kK2.out] at hk; cases hk; exact .inl rfl); (rw [kK3.out] at hk; cases hk; exact .inr (.inr (.inr (.inr rfl))))⟩)), HJ3.out, ⟨HK2.out.below bl.out (by omega)⟩,
      ⟨HK2.out.blk kK1.out (by omega) (.inr (.inr (.inl rfl)))⟩, ⟨HK2.out.blk kK2.out (by omega) (.inl rfl)⟩, ⟨HK2.out.blk kK3.out (by omega) (.inr (.inr (.inr (.inr rfl))))⟩, ⟨HK2.out.2 _ _ d1.out (.inr (.inr ⟨hD1ge, by intro _ _ _ e; cases e⟩))⟩, ⟨Nat.le_trans sz.out HK2.out.1.2.2.2⟩⟩
    have HJ3 := am hj2
    have HK2 := am hk2
    clear hj2 hk2
    gi_wp2
    exact ⟨HK2.out.weaken (by omega) (fun t h => h.elim) (fun k o hk h => .inr (.inr ⟨by omega, fun cs t f e => by subst e; rcases h with h | h <;> subst h; (rw [kK2.out] at hk; cases hk; exact .inl rfl); (rw [kK3.out] at hk; cases hk; exact .inr (.inr (.inr (.inr rfl))))⟩)), rfl, ⟨HJ3.out⟩, ⟨HK2.out.2 _ _ d1.out (.inr (.inr ⟨hD1ge, by intro _ _ _ e; cases e⟩))⟩⟩
   case stop2 =>
    rintro D c i A hle hlt ⟨rfl, hj, d1⟩ hD hDle2
    gi_wp2
    have hne : D1 ≠ D := by omega
    have st1 := St.putObj (b := W.heap.size) (ex := fun _ => False) (.deferred none) hD rfl (by omega)
    refine leavesM2 hD d1.out hne (results_none rfl _ _ _) ?_
    exact ⟨⟨_, rfl⟩, by simp; omega, .inr ⟨(qsL ⟨id, arg, cell, n, esc⟩).length + i, by simp [movesL]; omega, HJx.out _ _ _ (HJx.out _ _ _ hj.out st1) (St.putObj _ ((World.putObj_heap_other hne).trans d1.out) rfl hD1ge)⟩⟩
   case done2 =>
    rintro D w3 hle3 ⟨hj, bl, kK1, kK2, kK3, d1, sz⟩ hD hDle2
    have HJ3 := am hj
    clear hj
    gi_wp2
    rw [roundsIn_succ]
    gi_wp2
    have hne : D1 ≠ D := by omega
    have st1 := St.putObj (b := W.heap.size) (ex := fun _ => False) (.deferred none) hD rfl (by omega)
    refine leavesM2 hD d1.out hne (results_none rfl _ _ _) ?_
    exact ⟨⟨_, rfl⟩, by simp; omega, .inl (by rw [movesL, List.length_append]; exact HJ.out _ _ _ (HJ.out _ _ _ HJ3.out st1) (St.putObj _ ((World.putObj_heap_other hne).trans d1.out) rfl hD1ge))⟩
end Go.Proofs.YtjgocihflhljeaaGreat.P
