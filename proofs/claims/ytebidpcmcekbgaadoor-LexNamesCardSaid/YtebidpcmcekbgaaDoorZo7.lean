/- What the claim's law needs, many texts in one (Xl). No conditions of its own. -/
import Derived.Test.YtebidpcmcekbgaaDoorZo6
set_option linter.unusedVariables false
set_option linter.unusedSimpArgs false
namespace Go.Proofs.YtebidpcmcekbgaaDoor.P
open Go.RowKit Go.Shelf Go.Maps Go.Proofs.YtebidpcmcekbgaaDoorW.PrintWords Go.Proofs.YtebidpcmcekbgaaDoorW.PrintLast Go.Proofs.YtebidpcmcekbgaaDoorW.PrintMore
attribute [local go_sem] Oper.semAt_some
set_option linter.unusedVariables false
set_option linter.unusedSimpArgs false
/-- A row of tokens of one's own. -/
abbrev RT (w : World) (base : Nat) (v : Value) (l : List Tk) : Prop := k58.R 58 w base (fun _ => True) v l
theorem RT_app {W : World} {base : Nat} {v : Value} {xs : List Tk} (h : RT W base v xs) : ∃ inner, W.ownsRow base 58 3 v xs.length inner ∧ ∀ (w1 : World) (v1 : Value) (p : Tk), w1.ownsRow base 58 3 v1 (xs.length + 1) (inner ++ [.int .u8 p.f0, .string p.f1, .int .i64 p.f2]) → RT w1 base v1 (xs ++ [p]) := by
  obtain ⟨h0, inner, hown, hr⟩ := h
  refine ⟨inner, hown, fun w1 v1 p ho => ⟨fun _ _ => trivial, _, by rw [List.length_append, List.length_singleton]; exact ho, (hr.imp_ (fun x cs hx => ?_)).snoc (k58_mkM _ _ _ p) rfl⟩⟩
  have := k58_openM hx
  subst this
  exact k58_mkM _ _ _ x
theorem R_st2 {α : Type} {d : Kd α} {e : Nat} {A B : World} {base b : Nat} {wr : Nat → Prop} {v : Value} {xs : List α} (h : d.R e A base (fun _ => True) v xs) (hs : St b wr A B) (hw : ∀ k, wr k → k < base) : d.R e B base (fun _ => True) v xs :=
  Kd.R_mono (Kd.R_move (Kd.R_bound h) (fun k hk => by
    obtain ⟨_, h1, _, q, _, cells, hc⟩ := hk
    rw [hs.2 k _ hc (fun h => by have := hw k h; omega) (.inr rfl), hc])) (fun _ _ => trivial)
theorem RT_below {base : Nat} {A B : World} {v : Value} {l : List Tk} (h : RT A base v l) (hb : Below A.heap.size A B) : RT B base v l := R_st2 (b := 0) (wr := fun _ => False) h (St.of_below hb) (fun _ h => h.elim)
theorem enters_last : ∀ args w, (callFunc 41 args).run Tryd.prog w = .ok (.enter 41 args) w := enters_of Tryd.func41 (by kernel_rfl) rfl
set_option maxHeartbeats 2000000 in
/-- The closure that tells how many bytes the token has that has been read last. -/
theorem last_any (bl base : Nat) (v : Value) (l : List Tk) (a : Int) (w : World) (hb : w.heap[bl]? = some (.cells #[v] 23 (0, 0))) (hr : RT w base v l) (hl : l ≠ []) (hm : l.length ≤ 1000) :
    Calls Tryd.prog 41 (#[] ++ #[.int .i64 a] ++ #[.pointer (some ⟨bl, 0, none⟩)]) w fun e w' => (∃ v, e = .returned v ∧ v = .int .i64 ((rd_T58 l ((l.length : Int) - 1)).f1.size : Nat)) ∧ Below w.heap.size w w' := by
  obtain ⟨A, c, rfl⟩ := Kd.R_slice hr
  have hln : 0 < l.length := List.length_pos_iff.2 hl
  obtain ⟨ad, e0, x0, x1, x2⟩ := at_T58 (Kd.R_reads' hr).2.2 ((l.length : Int) - 1) (by omega) (by omega)
  have hb0 : w.cell? ⟨bl, 0, none⟩ = some (.slice A l.length c) := (blk_cell hb 0).trans rfl
  have hw : wrap64 ((l.length : Int) - 1) = (l.length : Int) - 1 := w64 (by omega) (by omega)
  have h1 : (0 : Int) ≤ (l.length : Int) - 1 := by omega
  have h2 : (l.length : Int) - 1 < (l.length : Int) := by omega
  generalize rd_T58 l ((l.length : Int) - 1) = y at *
  have hz : ((l.length : Int) - 1).toNat = l.length - 1 := by omega
  rw [hz] at x0 x1 x2
  simp only [List.append_toArray, List.cons_append, List.nil_append]
  clear hr hl
  subst e0
  go_enter Tryd.func41, Tryd.ntmps41
  go_wp2
  go_ret
  exact ⟨⟨_, rfl, rfl⟩, Below.refl _ w⟩
theorem goT_len (kw : ByteArray → Bool) (s : ByteArray) : ∀ (L : List (Nat × ByteArray)) (l : List Tk), l.length ≤ 900 → (goT kw s L l).1.length ≤ 900
  | [], l, h => h
  | x :: r, l, h => by
    have hst : (stepT kw s l x).1.length ≤ 900 := by
      unfold stepT
      by_cases c1 : x.2.size ≠ 0
      · rw [if_pos c1]; exact h
      · rw [if_neg c1]
        by_cases c2 : (firstM kw (s.extract x.1 s.size)).2 ≠ 0
        · rw [if_pos c2]; exact Nat.zero_le _
        · rw [if_neg c2]
          by_cases c3 : l.length = 900
          · rw [if_pos c3]; exact Nat.zero_le _
          · rw [if_neg c3, List.length_append, List.length_singleton]; omega
    unfold goT
    by_cases c : (stepT kw s l x).2.2 = 0
    · rw [if_pos c]; exact goT_len kw s r _ hst
    · rw [if_neg c]; exact hst
theorem goT_snoc (kw : ByteArray → Bool) (s : ByteArray) : ∀ (A : List (Nat × ByteArray)) (x : Nat × ByteArray) (l0 l : List Tk), goT kw s (A ++ [x]) l0 = (l, 0, 0) → ∃ l1, goT kw s A l0 = (l1, 0, 0) ∧ stepT kw s l1 x = (l, 0, 0)
  | [], x, l0, l, h => by
    rw [List.nil_append, goT_one] at h
    refine ⟨l0, rfl, ?_⟩
    by_cases c : (stepT kw s l0 x).2.2 = 0
    · rw [if_pos c] at h
      have h1 : (stepT kw s l0 x).1 = l := congrArg Prod.fst h
      have h2 : (stepT kw s l0 x).2.1 = 0 := by
        unfold stepT at c ⊢
        by_cases c1 : x.2.size ≠ 0
        · rw [if_pos c1]
        · rw [if_neg c1] at c ⊢
          by_cases c2 : (firstM kw (s.extract x.1 s.size)).2 ≠ 0
          · rw [if_pos c2] at c; exact absurd c c2
          · rw [if_neg c2] at c ⊢
            by_cases c3 : l0.length = 900
            · rw [if_pos c3] at c; exact absurd (show (5 : Int) = 0 from c) (by decide)
            · rw [if_neg c3]
      exact Prod.ext h1 (Prod.ext h2 c)
    · rw [if_neg c] at h
      rw [h] at c; exact absurd rfl c
  | y :: A, x, l0, l, h => by
    rw [List.cons_append, goT_cons] at h
    by_cases c : (stepT kw s l0 y).2.2 = 0
    · rw [if_pos c] at h
      obtain ⟨l1, h1, h2⟩ := goT_snoc kw s A x _ l h
      exact ⟨l1, by rw [goT_cons, if_pos c]; exact h1, h2⟩
    · rw [if_neg c] at h
      rw [h] at c; exact absurd rfl c
theorem pcs_mem (s : ByteArray) (len : Nat → Nat) : ∀ (f i : Nat) (x : Nat × ByteArray), x ∈ pcs s len f i → x.1 < s.size
  | 0, i, x, h => by cases h
  | f + 1, i, x, h => by
    unfold pcs at h
    by_cases c : i < s.size
    · rw [if_pos c] at h
      by_cases c2 : spB (bt s (i : Int)) = true
      · rw [if_pos c2] at h; exact pcs_mem s len f _ x h
      · rw [if_neg c2] at h
        by_cases c3 : bt s (i : Int) = 126
        · rw [if_pos c3] at h
          rcases List.mem_cons.1 h with rfl | h
          · exact c
          · exact pcs_mem s len f _ x h
        · rw [if_neg c3] at h
          rcases List.mem_cons.1 h with rfl | h
          · exact c
          · exact pcs_mem s len f _ x h
    · rw [if_neg c] at h; cases h
theorem lenT_le (kw : ByteArray → Bool) (s : ByteArray) (i : Nat) : lenT kw s i ≤ s.size ∨ lenT kw s i = 1 := by
  unfold lenT
  by_cases c : (firstM kw (s.extract i s.size)).2 = 0
  · rw [if_pos c]
    have := (firstM_size kw _ c).2
    rw [size_ex] at this
    exact .inl (by omega)
  · exact .inr (if_neg c)
theorem putObj_blk {W : World} {k D : Nat} {o o' : Obj} (h : W.heap[k]? = some o) (hne : k ≠ D) : (W.putObj D o').heap[k]? = some o := (World.putObj_heap_other hne).trans h
theorem store3 {W : World} {g1 g2 g3 : Nat} {t1 t2 t3 : TypeId} {a1 a2 a3 : Value} (h1 : W.heap[g1]? = some (.cells #[a1] t1 (0, 0))) (h2 : W.heap[g2]? = some (.cells #[a2] t2 (0, 0))) (h3 : W.heap[g3]? = some (.cells #[a3] t3 (0, 0))) (n12 : g1 ≠ g2) (n13 : g1 ≠ g3) (n23 : g2 ≠ g3) (v1 v2 v3 : Value) :
    (((W.setCell ⟨g1, 0, none⟩ v1).setCell ⟨g2, 0, none⟩ v2).setCell ⟨g3, 0, none⟩ v3).heap[g1]? = some (.cells #[v1] t1 (0, 0)) ∧ (((W.setCell ⟨g1, 0, none⟩ v1).setCell ⟨g2, 0, none⟩ v2).setCell ⟨g3, 0, none⟩ v3).heap[g2]? = some (.cells #[v2] t2 (0, 0)) ∧
    (((W.setCell ⟨g1, 0, none⟩ v1).setCell ⟨g2, 0, none⟩ v2).setCell ⟨g3, 0, none⟩ v3).heap[g3]? = some (.cells #[v3] t3 (0, 0)) :=
  ⟨blk_far (p := ⟨g3, 0, none⟩) (blk_far (p := ⟨g2, 0, none⟩) (blk_put h1 0 v1 rfl) n12 v2) n13 v3, blk_far (p := ⟨g3, 0, none⟩) (blk_put (blk_far (p := ⟨g1, 0, none⟩) h2 (fun e => n12 e.symm) v1) 0 v2 rfl) n23 v3, blk_put (blk_far (p := ⟨g2, 0, none⟩) (blk_far (p := ⟨g1, 0, none⟩) h3 (fun e => n13 e.symm) v1) (fun e => n23 e.symm) v2) 0 v3 rfl⟩
theorem far3 {W : World} {g1 g2 g3 k : Nat} {o : Obj} (h : W.heap[k]? = some o) (n1 : k ≠ g1) (n2 : k ≠ g2) (n3 : k ≠ g3) (v1 v2 v3 : Value) : (((W.setCell ⟨g1, 0, none⟩ v1).setCell ⟨g2, 0, none⟩ v2).setCell ⟨g3, 0, none⟩ v3).heap[k]? = some o :=
  (Below.heap_setCell _ ⟨g3, 0, none⟩ _ k n3).trans ((Below.heap_setCell _ ⟨g2, 0, none⟩ _ k n2).trans ((Below.heap_setCell _ ⟨g1, 0, none⟩ _ k n1).trans h))
theorem below3 {W w : World} {n g1 g2 g3 : Nat} (h : Below n w W) (h1 : n ≤ g1) (h2 : n ≤ g2) (h3 : n ≤ g3) (v1 v2 v3 : Value) : Below n w (((W.setCell ⟨g1, 0, none⟩ v1).setCell ⟨g2, 0, none⟩ v2).setCell ⟨g3, 0, none⟩ v3) :=
  ((h.setCell (p := ⟨g1, 0, none⟩) h1 v1).setCell (p := ⟨g2, 0, none⟩) h2 v2).setCell (p := ⟨g3, 0, none⟩) h3 v3
theorem leavesM0 {F : Fence} {n : Nat} {P : Program} {fn : Func} {tmps : Array Value} {R : Ending → World → Prop} {w : World} {v : Value}
    (hr : (results fn tmps).run P w = .ok v w) (h : R (.returned v) w) : LeavesInM F n P fn tmps R [] .returning w := ⟨v, hr, h⟩
theorem news_tok (W : World) (fk : Int) (ft : ByteArray) (a : Int) : ∀ (j : Nat) (u : Value), [Value.int .u8 fk, .string ft, .int .i64 a][j]? = some u → ((W.alloc (.cells #[.int .u8 fk, .string ft, .int .i64 a] 58)).alloc (.cells #[.int .u8 fk, .string ft, .int .i64 a] 58)).cell? ((⟨W.heap.size + 1, 0, none⟩ : Addr).add j) = some u := by
  simpa using World.news_of_block (cs := #[.int .u8 fk, .string ft, .int .i64 a]) (t := 58) (fr := (0, 0)) (heap_alloc_new (W.alloc (.cells #[.int .u8 fk, .string ft, .int .i64 a] 58)) (.cells #[.int .u8 fk, .string ft, .int .i64 a] 58))
theorem heap_alloc_new' (W : World) (o : Obj) {k : Nat} (h : k = W.heap.size) : (W.alloc o).heap[k]? = some o := by subst h; exact heap_alloc_new W o
abbrev W4 (s : ByteArray) (w : World) : World := (((w.alloc (.cells #[.string s] 9)).alloc (.cells #[.slice none 0 0] 23)).alloc (.cells #[.int .i64 0] 3)).alloc (.cells #[.int .i64 0] 24)
theorem boxes4 {s : ByteArray} {w w1 : World} (h : Below (W4 s w).heap.size (W4 s w) w1) : w.heap.size + 4 ≤ w1.heap.size ∧ w1.heap[w.heap.size]? = some (.cells #[.string s] 9 (0, 0)) ∧ w1.heap[w.heap.size + 1]? = some (.cells #[.slice none 0 0] 23 (0, 0)) ∧
    w1.heap[w.heap.size + 1 + 1]? = some (.cells #[.int .i64 0] 3 (0, 0)) ∧ w1.heap[w.heap.size + 1 + 1 + 1]? = some (.cells #[.int .i64 0] 24 (0, 0)) ∧ Below w.heap.size w w1 := by
  have hz : (W4 s w).heap.size = w.heap.size + 4 := by simp [W4]
  have h0 := h.size
  refine ⟨by omega, (h.block _ (by omega)).trans (blk_alloc (blk_alloc (blk_alloc (heap_alloc_new w _) _) _) _), (h.block _ (by omega)).trans (blk_alloc (blk_alloc (heap_alloc_new' _ _ (by simp)) _) _), (h.block _ (by omega)).trans (blk_alloc (heap_alloc_new' _ _ (by simp)) _), (h.block _ (by omega)).trans (heap_alloc_new' _ _ (by simp)), ?_⟩
  have b0 : Below w.heap.size w (W4 s w) := ((((Below.refl w.heap.size w).alloc (Nat.le_refl _) _).alloc (by simp) _).alloc (by simp; omega) _).alloc (by simp; omega) _
  exact b0.trans (h.mono (by omega))
set_option maxRecDepth 8000 in
set_option maxHeartbeats 4000000 in
theorem Tokens_any (s : ByteArray) (w : World) (hgl : Gl w) (hs : s.size ≤ 140737488351232) :
    Calls Tryd.prog 12 #[.string s] w fun e w' => ∃ v, e = .returned (.tuple #[v, .int .i64 (toksM kwM s).2.1, .int .i64 (toksM kwM s).2.2]) ∧ RT w' w.heap.size v (toksM kwM s).1 ∧ Below w.heap.size w w' := by
  have HGL := Aside0.mk hgl
  have hchk := fun W => check_any s W hs
  obtain ⟨T, hT⟩ : ∃ T, toksM kwM s = T := ⟨_, rfl⟩
  rw [hT]
  unfold toksM at hT
  clear hgl
  refine (callsIn_wide (n := 9)).1 ?_
  show CallsIn (FW none) 9 Tryd.prog 12 _ w _
  refine callsIn_of_wp_marks Tryd.func12 rfl trivial ?_ rfl
  simp only [Tryd.ntmps12, List.size_toArray, List.length_cons, List.length_nil, Nat.reduceAdd, Nat.reduceSub, Array.replicate_succ, Array.replicate_zero, List.push_toArray, List.append_toArray, List.nil_append, List.cons_append]
  generalize hch : chkT s = ch at *
  obtain ⟨ca, ce⟩ := ch
  by_cases hce : ce = 0
  · subst hce
    rw [if_neg (show ¬ ((ca, (0 : Int)).2 ≠ 0) from fun h => h rfl)] at hT
    have HT := Aside0.mk hT
    clear hT hch
    gi_wp2_with (first | (gi_at_call 40; refine CallsIn.mono (callsIn_wide.2 (hchk _)) ?_; rintro e w1 ⟨rfl, hb1⟩; obtain ⟨hz1, Q0', Q1', Q2', Q3', B1'⟩ := boxes4 hb1; have Q0 := Aside0.mk Q0'; have Q1 := Aside0.mk Q1'; have Q2 := Aside0.mk Q2'; have Q3 := Aside0.mk Q3'; have B1 := Aside0.mk B1'; clear Q0' Q1' Q2' Q3' B1'; have q0 : w1.cell? ⟨w.heap.size, 0, none⟩ = some (.string s) := (blk_cell Q0.out 0).trans rfl; have q1 : w1.cell? ⟨w.heap.size + 1, 0, none⟩ = some (.slice none 0 0) := (blk_cell Q1.out 0).trans rfl; have q2 : w1.cell? ⟨w.heap.size + 1 + 1, 0, none⟩ = some (.int .i64 0) := (blk_cell Q2.out 0).trans rfl; have q3 : w1.cell? ⟨w.heap.size + 1 + 1 + 1, 0, none⟩ = some (.int .i64 0) := (blk_cell Q3.out 0).trans rfl; have f1 := blk_frozen Q1.out 0; have f2 := blk_frozen Q2.out 0; have f3 := blk_frozen Q3.out 0; have qa0 : ∀ o, (w1.alloc o).cell? ⟨w.heap.size, 0, none⟩ = some (.string s) := (fun o => (World.cell?_alloc_old w1 o ⟨w.heap.size, 0, none⟩ (show w.heap.size ≠ w1.heap.size by omega)).trans q0); clear hb1) | (gi_at_call 42; refine CallsIn.mono (callsIn_wide.2 (pieces_any s (.func 41) #[] #[.pointer (some ⟨w1.heap.size, 0, none⟩)] _)) ?_; rintro e w2 ⟨rfl, hw2⟩))
    have hz2 : w2.heap.size = w1.heap.size + 3 := by rw [hw2]; simp
    have H0L := Aside0.mk (show w2.heap[w1.heap.size]? = some (.cells #[.slice none 0 0] 23 (0, 0)) by rw [hw2]; exact blk_alloc (blk_alloc (heap_alloc_new w1 _) _) _)
    have H1L := Aside0.mk (show w2.heap[w1.heap.size + 1]? = some (.cells #[.string s] 9 (0, 0)) by rw [hw2]; exact blk_alloc (heap_alloc_new' _ _ (by simp)) _)
    have H2L := Aside0.mk (show w2.heap[w1.heap.size + 1 + 1]? = some (.cells #[.func (.func 41) #[] #[.pointer (some ⟨w1.heap.size, 0, none⟩)]] 64 (0, 0)) by rw [hw2]; exact heap_alloc_new' _ _ (by simp))
    have B12 := Aside0.mk (show Below w1.heap.size w1 w2 by rw [hw2]; exact (((Below.refl w1.heap.size w1).alloc (Nat.le_refl _) _).alloc (by simp) _).alloc (by simp; omega) _)
    have B2 := Aside0.mk (B1.out.trans (B12.out.mono (by omega)))
    have T0 := Aside0.mk ((B12.out.block w.heap.size (by omega)).trans Q0.out)
    have T1 := Aside0.mk ((B12.out.block (w.heap.size + 1) (by omega)).trans Q1.out)
    have T2 := Aside0.mk ((B12.out.block (w.heap.size + 1 + 1) (by omega)).trans Q2.out)
    have T3 := Aside0.mk ((B12.out.block (w.heap.size + 1 + 1 + 1) (by omega)).trans Q3.out)
    rw [← hw2]
    clear hw2
    have HGi := Aside0.mk (pieces1_gives (n₀ := w.heap.size) (w0 := w) (w1.heap.size + 1) (w1.heap.size + 1 + 1) s (.func (.func 41) #[] #[.pointer (some ⟨w1.heap.size, 0, none⟩)]) (lenT kwM s) (lenT_pos kwM s) (fun i => by have := lenT_le kwM s i; omega) hs)
    have HME := Aside0.mk (fun (x : Nat × ByteArray) (h : x ∈ pcsA s (lenT kwM s) 0) => pcs_mem s (lenT kwM s) s.size 0 x h)
    generalize hLe : pcsA s (lenT kwM s) 0 = L at *
    clear hLe q0 q1 q2 q3 f1 f2 f3 qa0
    refine wp_rangeD (gf := 76) (bs := #[]) (lb := #[.pointer (some ⟨w1.heap.size + 1, 0, none⟩), .pointer (some ⟨w1.heap.size + 1 + 1, 0, none⟩)]) rfl enters_pieces1 HGi.out (hb0 := B2.out) (hn := by omega) (hwr := fun k h => h.elim) (hown := fun k h => by rcases h with h | h <;> omega)
      (hPre := fun W hW => ⟨(hW.block _ (by omega)).trans H1L.out, (hW.block _ (by omega)).trans H2L.out⟩) (hps := fun _ => rfl)
      (fun i V => ∃ l v, Aside0 (goT kwM s (L.take i) [] = (l, 0, 0)) ∧ Aside0 (V.heap[w1.heap.size]? = some (.cells #[v] 23 (0, 0))) ∧ Aside0 (RT V (w1.heap.size + 3) v l) ∧ Aside0 (V.heap[w.heap.size]? = some (.cells #[.string s] 9 (0, 0))) ∧ Aside0 (V.heap[w.heap.size + 1]? = some (.cells #[.slice none 0 0] 23 (0, 0))) ∧ Aside0 (V.heap[w.heap.size + 1 + 1]? = some (.cells #[.int .i64 0] 3 (0, 0))) ∧ Aside0 (V.heap[w.heap.size + 1 + 1 + 1]? = some (.cells #[.int .i64 0] 24 (0, 0))) ∧ Aside0 (Below w.heap.size w V) ∧ Aside0 (w2.heap.size ≤ V.heap.size))
      (fun c i V => c = .ret ∧ ∃ p e, Aside0 (goT kwM s L [] = ([], p, e)) ∧ Aside0 (V.heap[w.heap.size + 1]? = some (.cells #[.slice none 0 0] 23 (0, 0))) ∧ Aside0 (V.heap[w.heap.size + 1 + 1]? = some (.cells #[.int .i64 p] 3 (0, 0))) ∧ Aside0 (V.heap[w.heap.size + 1 + 1 + 1]? = some (.cells #[.int .i64 e] 24 (0, 0))) ∧ Aside0 (Below w.heap.size w V) ∧ Aside0 (w2.heap.size ≤ V.heap.size))
      ?hI ?hIx ?h0
      (fun i a₁ V => ∃ x : Nat × ByteArray, L[i]? = some x ∧ ∃ x0 x5 x6 x8 x11 x12 x13 x14 x15 x16 x17 x18 x19 x20 x21 x22 x23 x24 x25 x26 x27 x28 x29 x30 x31 x32 x33 x34 x35 x36 x37 x38 x39 x40 x41 x42 x43 x44 x45 x46 x47 x48 x49 x50 x51 x52 x53 x54 : Value, a₁ = { tmps := #[x0, (.pointer (some ⟨w.heap.size, 0, none⟩)), (.pointer (some ⟨w.heap.size + 1, 0, none⟩)), (.pointer (some ⟨w.heap.size + 1 + 1, 0, none⟩)), (.pointer (some ⟨w.heap.size + 1 + 1 + 1, 0, none⟩)), x5, x6, (.pointer (some ⟨w1.heap.size, 0, none⟩)), x8, (.int .i64 (x.1 : Int)), (.string x.2), x11, x12, x13, x14, x15, x16, x17, x18, x19, x20, x21, x22, x23, x24, x25, x26, x27, x28, x29, x30, x31, x32, x33, x34, x35, x36, x37, x38, x39, x40, x41, x42, x43, x44, x45, x46, x47, x48, x49, x50, x51, x52, x53, x54], defers := [] }) ?hAx ?assign ?body ?ask ?done ?stop
    case hI =>
      rintro i P Q ⟨l, v, g1, q1, q2, q3, q4, q5, q6, bl, sz⟩ hs'
      exact ⟨l, v, g1, ⟨hs'.blk q1.out (fun h => h)⟩, ⟨R_st2 q2.out hs' (fun _ h => h.elim)⟩, ⟨hs'.blk q3.out (fun h => h)⟩, ⟨hs'.blk q4.out (fun h => h)⟩, ⟨hs'.blk q5.out (fun h => h)⟩, ⟨hs'.blk q6.out (fun h => h)⟩, ⟨hs'.below bl.out (by omega) (fun k h => h.elim) (by have := sz.out; omega)⟩, ⟨Nat.le_trans sz.out hs'.1.2.2.2⟩⟩
    case hIx =>
      rintro c i P Q ⟨rfl, p, e, g1, q4, q5, q6, bl, sz⟩ hs'
      exact ⟨rfl, p, e, g1, ⟨hs'.blk q4.out (fun h => h)⟩, ⟨hs'.blk q5.out (fun h => h)⟩, ⟨hs'.blk q6.out (fun h => h)⟩, ⟨hs'.below bl.out (by omega) (fun k h => h.elim) (by have := sz.out; omega)⟩, ⟨Nat.le_trans sz.out hs'.1.2.2.2⟩⟩
    case h0 => exact ⟨[], .slice none 0 0, ⟨rfl⟩, H0L, ⟨Kd.R_nil _ _ _ _ _⟩, T0, T1, T2, T3, B2, ⟨Nat.le_refl _⟩⟩
    case hAx =>
      rintro i a₁ P Q h hs'
      exact h
    case assign =>
      intro m l i x P K hx hI hle hK
      simp only [encP, List.zip_toArray, List.zip_cons_cons, List.zip_nil_right, List.size_toArray, List.foldl_toArray', List.foldl_cons, List.foldl_nil]
      gi_wp2
      exact hK _ _ (Below.refl _ P) ⟨x, hx, _, _, _, _, _, _, _, _, _, _, _, _, _, _, _, _, _, _, _, _, _, _, _, _, _, _, _, _, _, _, _, _, _, _, _, _, _, _, _, _, _, _, _, _, _, _, _, _, rfl⟩
    case body =>
      rintro m l0 i x a₁ P hx ⟨l, v, g1, q1, q2, q3, q4, q5, q6, bl, sz⟩ ⟨x', hx', x0, x5, x6, x8, x11, x12, x13, x14, x15, x16, x17, x18, x19, x20, x21, x22, x23, x24, x25, x26, x27, x28, x29, x30, x31, x32, x33, x34, x35, x36, x37, x38, x39, x40, x41, x42, x43, x44, x45, x46, x47, x48, x49, x50, x51, x52, x53, x54, rfl⟩ hle
      obtain rfl : x' = x := Option.some.inj (hx'.symm.trans hx)
      clear hx'
      have hil : i < L.length := (List.getElem?_eq_some_iff.1 hx).1
      have hxm := HME.out _ (List.mem_of_getElem? hx)
      have htk : L.take (i + 1) = L.take i ++ [x'] := by rw [List.take_succ_eq_append_getElem hil]; congr 1; rw [← Option.some.inj ((List.getElem?_eq_getElem hil).symm.trans hx)]
      have hgo : ∀ B, goT kwM s (L.take i ++ B) [] = goT kwM s B l := fun B => goT_append kwM s _ B [] l g1.out
      have hsz2 : w2.heap.size ≤ P.heap.size := sz.out
      by_cases hx0 : x'.2.size = 0
      · have hnil : x'.2.toList.isEmpty = true := by have := (toList_nil_iff x'.2).2 hx0; rw [this]; rfl
        have h00 : P.cell? ⟨w.heap.size, 0, none⟩ = some (.string s) := (blk_cell q3.out 0).trans rfl
        have hat : (0 : Int) ≤ (x'.1 : Int) := by omega
        have hat2 : (x'.1 : Int) ≤ (s.size : Int) := by omega
        have hF := first_any (s.extract x'.1 s.size) P (HGL.out.mono bl.out) (by rw [size_ex]; omega)
        have hstp : ∀ F, firstM kwM (s.extract x'.1 s.size) = F → stepT kwM s l x' = if F.2 ≠ 0 then ([], (x'.1 : Int), F.2) else if l.length = 900 then ([], (x'.1 : Int), 5) else (l ++ [⟨F.1.1, F.1.2, (x'.1 : Int)⟩], 0, 0) := by
          rintro F rfl
          unfold stepT
          rw [if_neg (show ¬ (x'.2.size ≠ 0) from fun h => h hx0)]
        obtain ⟨F, hFe⟩ : ∃ F, firstM kwM (s.extract x'.1 s.size) = F := ⟨_, rfl⟩
        have hst := hstp F hFe
        rw [hFe] at hF
        obtain ⟨⟨fk, ft⟩, fe⟩ := F
        have HX := Aside0.mk hx
        have HTK := Aside0.mk htk
        have HGO := Aside0.mk hgo
        have HST := Aside0.mk hst
        obtain ⟨A, c, rfl⟩ := Kd.R_slice q2.out
        clear hx htk hgo hst hstp hFe
        by_cases hfe : fe = 0
        · subst hfe
          have hres := HST.out
          rw [if_neg (show ¬ (((fk, ft), (0 : Int)).2 ≠ 0) from fun h => h rfl)] at hres
          by_cases h9 : l.length = 900
          · rw [if_pos h9] at hres
            have h9b : ((l.length : Int) == 900) = true := by rw [h9]; rfl
            have HGL2 := Aside0.mk (show goT kwM s L [] = ([], (x'.1 : Int), 5) by
              have h1 := HGO.out (L.drop i)
              rw [List.take_append_drop] at h1
              rw [h1, List.drop_eq_getElem_cons hil, goT_cons, Option.some.inj ((List.getElem?_eq_getElem hil).symm.trans HX.out), hres, if_neg (show ¬ ((([] : List Tk), (x'.1 : Int), (5 : Int)).2.2 = 0) from (by decide : ¬ (5 : Int) = 0))])
            have H9 := Aside0.mk h9
            clear hres h9
            gi_wp2_with (first | (gi_at_call 43; refine CallsIn.mono (callsIn_wide.2 hF) ?_; rintro e w3 ⟨rfl, hb3⟩; have HB3 := Aside0.mk hb3; have hs3 := hb3.size; have Y1 := Aside0.mk ((hb3.block _ (blk_lt q1.out)).trans q1.out); have Y2 := Aside0.mk (RT_below q2.out hb3); have Y3 := Aside0.mk ((hb3.block _ (blk_lt q3.out)).trans q3.out); have Y4 := Aside0.mk ((hb3.block _ (blk_lt q4.out)).trans q4.out); have Y5 := Aside0.mk ((hb3.block _ (blk_lt q5.out)).trans q5.out); have Y6 := Aside0.mk ((hb3.block _ (blk_lt q6.out)).trans q6.out); have u1 : w3.cell? ⟨w1.heap.size, 0, none⟩ = some (.slice A l.length c) := (blk_cell Y1.out 0).trans rfl; have u4 : w3.cell? ⟨w.heap.size + 1, 0, none⟩ = some (.slice none 0 0) := (blk_cell Y4.out 0).trans rfl; have u5 : w3.cell? ⟨w.heap.size + 1 + 1, 0, none⟩ = some (.int .i64 0) := (blk_cell Y5.out 0).trans rfl; have u6 : w3.cell? ⟨w.heap.size + 1 + 1 + 1, 0, none⟩ = some (.int .i64 0) := (blk_cell Y6.out 0).trans rfl; have z1 := blk_frozen Y1.out 0; have z4 := blk_frozen Y4.out 0; have z5 := blk_frozen Y5.out 0; have z6 := blk_frozen Y6.out 0; have za1 := (fun o => blk_frozen (blk_alloc Y1.out o) 0); have za4 := (fun o => blk_frozen (blk_alloc Y4.out o) 0); have za5 := (fun o => blk_frozen (blk_alloc Y5.out o) 0); have za6 := (fun o => blk_frozen (blk_alloc Y6.out o) 0); have ua1 : ∀ o, (w3.alloc o).cell? ⟨w1.heap.size, 0, none⟩ = some (.slice A l.length c) := (fun o => (blk_cell (blk_alloc Y1.out o) 0).trans rfl); have ua4 : ∀ o, (w3.alloc o).cell? ⟨w.heap.size + 1, 0, none⟩ = some (.slice none 0 0) := (fun o => (blk_cell (blk_alloc Y4.out o) 0).trans rfl); have ua5 : ∀ o, (w3.alloc o).cell? ⟨w.heap.size + 1 + 1, 0, none⟩ = some (.int .i64 0) := (fun o => (blk_cell (blk_alloc Y5.out o) 0).trans rfl); have ua6 : ∀ o, (w3.alloc o).cell? ⟨w.heap.size + 1 + 1 + 1, 0, none⟩ = some (.int .i64 0) := (fun o => (blk_cell (blk_alloc Y6.out o) 0).trans rfl); have n1 : w1.heap.size ≠ w3.heap.size := (by omega); have n4 : w.heap.size + 1 ≠ w3.heap.size := (by omega); have n5 : w.heap.size + 1 + 1 ≠ w3.heap.size := (by omega); have n6 : w.heap.size + 1 + 1 + 1 ≠ w3.heap.size := (by omega); skip; clear hb3))
            obtain ⟨r1, r2, r3⟩ := store3 (blk_alloc Y4.out (.cells #[.int .u8 fk, .string ft, .int .i64 0] 58)) (blk_alloc Y5.out (.cells #[.int .u8 fk, .string ft, .int .i64 0] 58)) (blk_alloc Y6.out (.cells #[.int .u8 fk, .string ft, .int .i64 0] 58)) (by omega) (by omega) (by omega) (.slice none 0 0) (.int .i64 (x'.1 : Int)) (.int .i64 5)
            have hbA : Below P.heap.size P (w3.alloc (.cells #[.int .u8 fk, .string ft, .int .i64 0] 58)) := HB3.out.alloc hs3 _
            refine ⟨(((Keeps.of_below hbA).setCell _ (by omega) (by omega) (by omega)).setCell _ (by omega) (by omega) (by omega)).setCell _ (by omega) (by omega) (by omega), rfl, _, _, HGL2, ⟨r1⟩, ⟨r2⟩, ⟨r3⟩, ⟨below3 (bl.out.trans (hbA.mono (by omega))) (by omega) (by omega) (by omega) _ _ _⟩, ⟨by simp; omega⟩⟩
          · rw [if_neg h9] at hres
            have h9b : ((l.length : Int) == 900) = false := beq_false_of_ne (by omega)
            have hl9 := goT_len kwM s (L.take i) [] (by decide)
            rw [g1.out] at hl9
            have hl9' : l.length ≤ 900 := hl9
            have HGN := Aside0.mk (show goT kwM s (L.take (i + 1)) [] = (l ++ [⟨fk, ft, (x'.1 : Int)⟩], 0, 0) by
              rw [HTK.out, HGO.out, goT_one, hres]; rfl)
            have H9 := Aside0.mk h9
            clear hres h9 hl9
            obtain ⟨i0, e1, e2, e3, e4⟩ := info_parts info58
            gi_wp2_with (first | (gi_at_call 43; refine CallsIn.mono (callsIn_wide.2 hF) ?_; rintro e w3 ⟨rfl, hb3⟩; have HB3 := Aside0.mk hb3; have hs3 := hb3.size; have Y1 := Aside0.mk ((hb3.block _ (blk_lt q1.out)).trans q1.out); have Y2 := Aside0.mk (RT_below q2.out hb3); have Y3 := Aside0.mk ((hb3.block _ (blk_lt q3.out)).trans q3.out); have Y4 := Aside0.mk ((hb3.block _ (blk_lt q4.out)).trans q4.out); have Y5 := Aside0.mk ((hb3.block _ (blk_lt q5.out)).trans q5.out); have Y6 := Aside0.mk ((hb3.block _ (blk_lt q6.out)).trans q6.out); have u1 : w3.cell? ⟨w1.heap.size, 0, none⟩ = some (.slice A l.length c) := (blk_cell Y1.out 0).trans rfl; have u4 : w3.cell? ⟨w.heap.size + 1, 0, none⟩ = some (.slice none 0 0) := (blk_cell Y4.out 0).trans rfl; have u5 : w3.cell? ⟨w.heap.size + 1 + 1, 0, none⟩ = some (.int .i64 0) := (blk_cell Y5.out 0).trans rfl; have u6 : w3.cell? ⟨w.heap.size + 1 + 1 + 1, 0, none⟩ = some (.int .i64 0) := (blk_cell Y6.out 0).trans rfl; have z1 := blk_frozen Y1.out 0; have z4 := blk_frozen Y4.out 0; have z5 := blk_frozen Y5.out 0; have z6 := blk_frozen Y6.out 0; have za1 := (fun o => blk_frozen (blk_alloc Y1.out o) 0); have za4 := (fun o => blk_frozen (blk_alloc Y4.out o) 0); have za5 := (fun o => blk_frozen (blk_alloc Y5.out o) 0); have za6 := (fun o => blk_frozen (blk_alloc Y6.out o) 0); have ua1 : ∀ o, (w3.alloc o).cell? ⟨w1.heap.size, 0, none⟩ = some (.slice A l.length c) := (fun o => (blk_cell (blk_alloc Y1.out o) 0).trans rfl); have ua4 : ∀ o, (w3.alloc o).cell? ⟨w.heap.size + 1, 0, none⟩ = some (.slice none 0 0) := (fun o => (blk_cell (blk_alloc Y4.out o) 0).trans rfl); have ua5 : ∀ o, (w3.alloc o).cell? ⟨w.heap.size + 1 + 1, 0, none⟩ = some (.int .i64 0) := (fun o => (blk_cell (blk_alloc Y5.out o) 0).trans rfl); have ua6 : ∀ o, (w3.alloc o).cell? ⟨w.heap.size + 1 + 1 + 1, 0, none⟩ = some (.int .i64 0) := (fun o => (blk_cell (blk_alloc Y6.out o) 0).trans rfl); have n1 : w1.heap.size ≠ w3.heap.size := (by omega); have n4 : w.heap.size + 1 ≠ w3.heap.size := (by omega); have n5 : w.heap.size + 1 + 1 ≠ w3.heap.size := (by omega); have n6 : w.heap.size + 1 + 1 + 1 ≠ w3.heap.size := (by omega); have YA := Aside0.mk (RT_below Y2.out ((((Below.refl _ w3).alloc (Nat.le_refl _) (.cells #[.int .u8 fk, .string ft, .int .i64 (x'.1 : Int)] 58)).alloc (by simp) (.cells #[.int .u8 fk, .string ft, .int .i64 (x'.1 : Int)] 58)))); obtain ⟨inner, hown, hback⟩ := RT_app YA.out; have HOW := Aside0.mk hown; have HBK := Aside0.mk hback; clear hown hback; clear hb3) | (gi_at_builtin; refine wpListIn_append_own _ rfl (.tmp 50) (.tmp 52) 23 rfl (w1.heap.size + 3) 58 i0 (.agg #[(.int .u8 0), (.string ⟨#[]⟩), (.int .i64 0)]) 3 32 Tryd.underlying23 e1 e2 e3 e4 rfl (by decide) (.slice A l.length c) l.length inner rfl HOW.out ⟨w3.heap.size + 1, 0, none⟩ 1 1 [.int .u8 fk, .string ft, .int .i64 (x'.1 : Int)] rfl rfl (news_tok w3 fk ft (x'.1 : Int)) (by intro u hu; simp at hu; rcases hu with rfl | rfl | rfl <;> rfl) (by unfold maxLen; omega) (by omega) (by simp; omega) ?_; intro v2 w4 ho hg hz; have HG := Aside0.mk hg; have HO := Aside0.mk (HBK.out w4 v2 ⟨fk, ft, (x'.1 : Int)⟩ ho); have V1 := Aside0.mk (blk_grown (blk_alloc (blk_alloc Y1.out (.cells #[.int .u8 fk, .string ft, .int .i64 (x'.1 : Int)] 58)) (.cells #[.int .u8 fk, .string ft, .int .i64 (x'.1 : Int)] 58)) hg (Kd.R_ne YA.out (blk_alloc (blk_alloc Y1.out (.cells #[.int .u8 fk, .string ft, .int .i64 (x'.1 : Int)] 58)) (.cells #[.int .u8 fk, .string ft, .int .i64 (x'.1 : Int)] 58)) (by decide))); obtain ⟨A2, c2, rfl⟩ := Kd.R_slice HO.out; have hln : (l ++ [(⟨fk, ft, (x'.1 : Int)⟩ : Tk)]).length = l.length + 1 := (by rw [List.length_append, List.length_singleton]); rw [hln] at HO; have vc1 : w4.cell? ⟨w1.heap.size, 0, none⟩ = some (.slice A l.length c) := (blk_cell V1.out 0).trans rfl; have vz1 := blk_frozen V1.out 0; clear ho hg hz))
            have hgs := HG.out.size
            have hs4 : w3.heap.size + 2 ≤ w4.heap.size := by simpa using hgs
            have HK2 := Aside0.mk (blk_put V1.out 0 (.slice A2 (l.length + 1) c2) rfl)
            have HR3 := Aside0.mk (Kd.R_set (d := k58) HO.out V1.out (by decide) 0 (.slice A2 (l.length + 1) c2))
            have hrow : ∀ k, (Value.slice A l.length c).ownBlock = some k → w1.heap.size + 3 ≤ k ∧ ∃ cells, P.heap[k]? = some (.cells cells 58 (0, 0)) := by
              intro k hk
              obtain ⟨inn, hown⟩ := Kd.R_own q2.out
              exact ⟨own_base hown k hk, own_typed hown k hk⟩
            have hkeep : ∀ k o, P.heap[k]? = some o → k ≠ w1.heap.size → some k ≠ (Value.slice A l.length c).ownBlock → (w4.setCell ⟨w1.heap.size, 0, none⟩ (.slice A2 (l.length + 1) c2)).heap[k]? = some o := by
              intro k o hk hne hrw
              have hkl := blk_lt hk
              refine (Below.heap_setCell _ ⟨w1.heap.size, 0, none⟩ _ k hne).trans ((HG.out.block k (by simp; omega) hrw).trans ?_)
              exact blk_alloc (blk_alloc ((HB3.out.block k hkl).trans hk) _) _
            have hk2 : ∀ k o, P.heap[k]? = some o → (k < w.heap.size ∨ (k = w1.heap.size + 1 ∨ k = w1.heap.size + 1 + 1) ∨ (w2.heap.size ≤ k ∧ ∀ cs t f, o = .cells cs t f → False)) → (w4.setCell ⟨w1.heap.size, 0, none⟩ (.slice A2 (l.length + 1) c2)).heap[k]? = some o := by
              intro k o hk ho
              refine hkeep k o hk (by rcases ho with ho | ho | ho <;> omega) (fun e => ?_)
              obtain ⟨h1, cells, h2⟩ := hrow k e.symm
              rw [h2] at hk
              cases hk
              rcases ho with ho | ho | ⟨_, ho⟩
              · omega
              · omega
              · exact ho _ _ _ rfl
            have hty : ∀ (k : Nat) (t : TypeId) (cs : Array Value), P.heap[k]? = some (.cells cs t (0, 0)) → t ≠ 58 → some k ≠ (Value.slice A l.length c).ownBlock := by
              intro k t cs hk ht e
              obtain ⟨_, cells, h2⟩ := hrow k e.symm
              rw [h2] at hk
              cases hk
              exact ht rfl
            have hos : (w4.setCell ⟨w1.heap.size, 0, none⟩ (.slice A2 (l.length + 1) c2)).os = P.os ∧ (w4.setCell ⟨w1.heap.size, 0, none⟩ (.slice A2 (l.length + 1) c2)).tape = P.tape ∧ (w4.setCell ⟨w1.heap.size, 0, none⟩ (.slice A2 (l.length + 1) c2)).output = P.output ∧ P.heap.size ≤ (w4.setCell ⟨w1.heap.size, 0, none⟩ (.slice A2 (l.length + 1) c2)).heap.size := by
              refine ⟨HG.out.os.trans HB3.out.os, HG.out.tape.trans HB3.out.tape, HG.out.output.trans HB3.out.output, by simp; omega⟩
            gi_wp2
            refine ⟨⟨hos, hk2⟩, l ++ [⟨fk, ft, (x'.1 : Int)⟩], .slice A2 (l.length + 1) c2, HGN, HK2, HR3, ⟨hkeep _ _ q3.out (by omega) (hty _ _ _ q3.out (by decide))⟩, ⟨hkeep _ _ q4.out (by omega) (hty _ _ _ q4.out (by decide))⟩, ⟨hkeep _ _ q5.out (by omega) (hty _ _ _ q5.out (by decide))⟩, ⟨hkeep _ _ q6.out (by omega) (hty _ _ _ q6.out (by decide))⟩, ⟨bl.out.trans ⟨hos.1, hos.2.1, hos.2.2.1, hos.2.2.2, fun k hk => ?_⟩⟩, ⟨by simp; omega⟩⟩
            have hkl : k < P.heap.size := by omega
            exact (hk2 k _ (Array.getElem?_eq_getElem hkl) (.inl hk)).trans (Array.getElem?_eq_getElem hkl).symm
        · have hb1 : (fe == 0) = false := beq_false_of_ne hfe
          have hb2 : (fe != 0) = true := bne_iff_ne.2 hfe
          have hres := HST.out
          rw [if_pos hfe] at hres
          have HGL2 := Aside0.mk (show goT kwM s L [] = ([], (x'.1 : Int), fe) by
            have h1 := HGO.out (L.drop i)
            rw [List.take_append_drop] at h1
            rw [h1, List.drop_eq_getElem_cons hil, goT_cons, Option.some.inj ((List.getElem?_eq_getElem hil).symm.trans HX.out), hres, if_neg (show ¬ ((([] : List Tk), (x'.1 : Int), fe).2.2 = 0) from hfe)])
          clear hres
          gi_wp2_with (first | (gi_at_call 43; refine CallsIn.mono (callsIn_wide.2 hF) ?_; rintro e w3 ⟨rfl, hb3⟩; have HB3 := Aside0.mk hb3; have hs3 := hb3.size; have Y1 := Aside0.mk ((hb3.block _ (blk_lt q1.out)).trans q1.out); have Y2 := Aside0.mk (RT_below q2.out hb3); have Y3 := Aside0.mk ((hb3.block _ (blk_lt q3.out)).trans q3.out); have Y4 := Aside0.mk ((hb3.block _ (blk_lt q4.out)).trans q4.out); have Y5 := Aside0.mk ((hb3.block _ (blk_lt q5.out)).trans q5.out); have Y6 := Aside0.mk ((hb3.block _ (blk_lt q6.out)).trans q6.out); have u1 : w3.cell? ⟨w1.heap.size, 0, none⟩ = some (.slice A l.length c) := (blk_cell Y1.out 0).trans rfl; have u4 : w3.cell? ⟨w.heap.size + 1, 0, none⟩ = some (.slice none 0 0) := (blk_cell Y4.out 0).trans rfl; have u5 : w3.cell? ⟨w.heap.size + 1 + 1, 0, none⟩ = some (.int .i64 0) := (blk_cell Y5.out 0).trans rfl; have u6 : w3.cell? ⟨w.heap.size + 1 + 1 + 1, 0, none⟩ = some (.int .i64 0) := (blk_cell Y6.out 0).trans rfl; have z1 := blk_frozen Y1.out 0; have z4 := blk_frozen Y4.out 0; have z5 := blk_frozen Y5.out 0; have z6 := blk_frozen Y6.out 0; have za1 := (fun o => blk_frozen (blk_alloc Y1.out o) 0); have za4 := (fun o => blk_frozen (blk_alloc Y4.out o) 0); have za5 := (fun o => blk_frozen (blk_alloc Y5.out o) 0); have za6 := (fun o => blk_frozen (blk_alloc Y6.out o) 0); have ua1 : ∀ o, (w3.alloc o).cell? ⟨w1.heap.size, 0, none⟩ = some (.slice A l.length c) := (fun o => (blk_cell (blk_alloc Y1.out o) 0).trans rfl); have ua4 : ∀ o, (w3.alloc o).cell? ⟨w.heap.size + 1, 0, none⟩ = some (.slice none 0 0) := (fun o => (blk_cell (blk_alloc Y4.out o) 0).trans rfl); have ua5 : ∀ o, (w3.alloc o).cell? ⟨w.heap.size + 1 + 1, 0, none⟩ = some (.int .i64 0) := (fun o => (blk_cell (blk_alloc Y5.out o) 0).trans rfl); have ua6 : ∀ o, (w3.alloc o).cell? ⟨w.heap.size + 1 + 1 + 1, 0, none⟩ = some (.int .i64 0) := (fun o => (blk_cell (blk_alloc Y6.out o) 0).trans rfl); have n1 : w1.heap.size ≠ w3.heap.size := (by omega); have n4 : w.heap.size + 1 ≠ w3.heap.size := (by omega); have n5 : w.heap.size + 1 + 1 ≠ w3.heap.size := (by omega); have n6 : w.heap.size + 1 + 1 + 1 ≠ w3.heap.size := (by omega); skip; clear hb3))
          obtain ⟨r1, r2, r3⟩ := store3 (blk_alloc Y4.out (.cells #[.int .u8 fk, .string ft, .int .i64 0] 58)) (blk_alloc Y5.out (.cells #[.int .u8 fk, .string ft, .int .i64 0] 58)) (blk_alloc Y6.out (.cells #[.int .u8 fk, .string ft, .int .i64 0] 58)) (by omega) (by omega) (by omega) (.slice none 0 0) (.int .i64 (x'.1 : Int)) (.int .i64 fe)
          have hbA : Below P.heap.size P (w3.alloc (.cells #[.int .u8 fk, .string ft, .int .i64 0] 58)) := HB3.out.alloc hs3 _
          refine ⟨(((Keeps.of_below hbA).setCell _ (by omega) (by omega) (by omega)).setCell _ (by omega) (by omega) (by omega)).setCell _ (by omega) (by omega) (by omega), rfl, _, _, HGL2, ⟨r1⟩, ⟨r2⟩, ⟨r3⟩, ⟨below3 (bl.out.trans (hbA.mono (by omega))) (by omega) (by omega) (by omega) _ _ _⟩, ⟨by simp; omega⟩⟩
      · have hnil : x'.2.toList.isEmpty = false := by
          cases h : x'.2.toList with
          | nil => exact absurd ((toList_nil_iff x'.2).1 h) hx0
          | cons _ _ => rfl
        have hgn : goT kwM s (L.take (i + 1)) [] = (l, 0, 0) := by
          rw [htk, hgo, goT_one]
          unfold stepT
          rw [if_pos hx0]
          rfl
        clear hx htk hgo hx0
        gi_wp2
        exact ⟨Keeps.refl _ _ _ _ _, l, v, ⟨hgn⟩, q1, q2, q3, q4, q5, q6, bl, sz⟩
    case ask =>
      rintro i x V hx ht ⟨l, v, g1, q1, q2, q3, q4, q5, q6, bl, sz⟩ hle
      have hil : i < L.length := (List.getElem?_eq_some_iff.1 hx).1
      have hg1 := g1.out
      rw [show L.take (i + 1) = L.take i ++ [x] by rw [List.take_succ_eq_append_getElem hil]; congr 1; rw [← Option.some.inj ((List.getElem?_eq_getElem hil).symm.trans hx)]] at hg1
      obtain ⟨l1, h1, h2⟩ := goT_snoc kwM s _ _ _ _ hg1
      have hx0 : x.2.size = 0 := of_decide_eq_true ht
      have hll := goT_len kwM s (L.take i ++ [x]) [] (by decide)
      rw [hg1] at hll
      have hl2 : (firstM kwM (s.extract x.1 s.size)).2 = 0 ∧ l = l1 ++ [⟨(firstM kwM (s.extract x.1 s.size)).1.1, (firstM kwM (s.extract x.1 s.size)).1.2, (x.1 : Int)⟩] := by
        unfold stepT at h2
        rw [if_neg (show ¬ (x.2.size ≠ 0) from fun h => h hx0)] at h2
        by_cases c2 : (firstM kwM (s.extract x.1 s.size)).2 ≠ 0
        · rw [if_pos c2] at h2; exact absurd (congrArg (fun y => y.2.2) h2) c2
        · rw [if_neg c2] at h2
          by_cases c3 : l1.length = 900
          · rw [if_pos c3] at h2; exact absurd (show (5 : Int) = 0 from congrArg (fun y => y.2.2) h2) (by decide)
          · rw [if_neg c3] at h2
            exact ⟨by simpa using c2, (congrArg Prod.fst h2).symm⟩
      obtain ⟨e1, e2⟩ := hl2
      refine VCall.of_calls enters_last ((last_any w1.heap.size (w1.heap.size + 3) v l (x.1 : Int) V q1.out q2.out (by rw [e2]; simp) (by simp only at hll; omega)).mono ?_)
      rintro e W' ⟨⟨v', rfl, rfl⟩, hb⟩
      refine ⟨_, rfl, ?_, ?_, Keeps.of_below hb⟩
      · have : (rd_T58 l ((l.length : Int) - 1)).f1 = (firstM kwM (s.extract x.1 s.size)).1.2 := by
          rw [e2]
          unfold rd_T58
          rw [List.length_append, List.length_singleton, show (((l1.length + 1 : Nat) : Int) - 1).toNat = l1.length by omega, List.getD_eq_getElem?_getD, List.getElem?_append_right (Nat.le_refl _), Nat.sub_self]
          rfl
        rw [this]
        unfold lenT
        rw [if_pos e1]
      · exact ⟨l, v, g1, ⟨(hb.block _ (blk_lt q1.out)).trans q1.out⟩, ⟨RT_below q2.out hb⟩, ⟨(hb.block _ (blk_lt q3.out)).trans q3.out⟩, ⟨(hb.block _ (blk_lt q4.out)).trans q4.out⟩, ⟨(hb.block _ (blk_lt q5.out)).trans q5.out⟩, ⟨(hb.block _ (blk_lt q6.out)).trans q6.out⟩, ⟨bl.out.trans (hb.mono (by have := sz.out; omega))⟩, ⟨Nat.le_trans sz.out hb.size⟩⟩
    case done =>
      rintro D V hle ⟨l, v, g1, q1, q2, q3, q4, q5, q6, bl, sz⟩ hD hDle
      have hg1 := g1.out
      rw [List.take_length] at hg1
      have hTT := HT.out.symm.trans hg1
      subst hTT
      have HD := Aside0.mk hD
      have hc1 : V.cell? ⟨w1.heap.size, 0, none⟩ = some v := (blk_cell q1.out 0).trans rfl
      have z4 := blk_frozen q4.out 0
      have z5 := blk_frozen q5.out 0
      have z6 := blk_frozen q6.out 0
      have c4 : V.cell? ⟨w.heap.size + 1, 0, none⟩ = some (.slice none 0 0) := (blk_cell q4.out 0).trans rfl
      have c5 : V.cell? ⟨w.heap.size + 1 + 1, 0, none⟩ = some (.int .i64 0) := (blk_cell q5.out 0).trans rfl
      have c6 : V.cell? ⟨w.heap.size + 1 + 1 + 1, 0, none⟩ = some (.int .i64 0) := (blk_cell q6.out 0).trans rfl
      obtain ⟨A, c, rfl⟩ := Kd.R_slice q2.out
      clear hD
      gi_wp2
      obtain ⟨r1, r2, r3⟩ := store3 q4.out q5.out q6.out (by omega) (by omega) (by omega) (.slice A l.length c) (.int .i64 0) (.int .i64 0)
      have e1 := putObj_blk (D := D) (o' := .deferred none) r1 (by omega)
      have e2 := putObj_blk (D := D) (o' := .deferred none) r2 (by omega)
      have e3 := putObj_blk (D := D) (o' := .deferred none) r3 (by omega)
      refine leavesM1 (v := .tuple #[.slice A l.length c, .int .i64 0, .int .i64 0]) (far3 HD.out (by omega) (by omega) (by omega) _ _ _) ?_ ?_
      · have c1 := (blk_cell e1 0).trans rfl
        have c2 := (blk_cell e2 0).trans rfl
        have c3 := (blk_cell e3 0).trans rfl
        simp [results, Tryd.results12, go_sem, c1, c2, c3]
      · refine ⟨_, rfl, ?_, below_putObj (below3 bl.out (by omega) (by omega) (by omega) _ _ _) (by omega)⟩
        have h1 := Kd.R_set (d := k58) q2.out q4.out (by decide) 0 (.slice A l.length c)
        have h2 := Kd.R_set (d := k58) h1 (blk_far (p := ⟨w.heap.size + 1, 0, none⟩) q5.out (show w.heap.size + 1 + 1 ≠ w.heap.size + 1 by omega) (.slice A l.length c)) (by decide) 0 (.int .i64 0)
        have h3 := Kd.R_set (d := k58) h2 (blk_far (p := ⟨w.heap.size + 1 + 1, 0, none⟩) (blk_far (p := ⟨w.heap.size + 1, 0, none⟩) q6.out (show w.heap.size + 1 + 1 + 1 ≠ w.heap.size + 1 by omega) (.slice A l.length c)) (show w.heap.size + 1 + 1 + 1 ≠ w.heap.size + 1 + 1 by omega) (.int .i64 0)) (by decide) 0 (.int .i64 0)
        have h4 := R_st2 h3 (St.putObj (ex := fun _ => False) (b := D) (.deferred none) (far3 HD.out (by omega) (by omega) (by omega) _ _ _) rfl (Nat.le_refl _)) (fun _ h => h.elim)
        exact Kd.R_lower h4 (by omega)
    case stop =>
      rintro D c i V hle hil ⟨rfl, p, e, g1, q4, q5, q6, bl, sz⟩ hD hDle
      gi_wp2
      have r4 := putObj_blk (D := D) (o' := .deferred none) q4.out (by omega)
      have r5 := putObj_blk (D := D) (o' := .deferred none) q5.out (by omega)
      have r6 := putObj_blk (D := D) (o' := .deferred none) q6.out (by omega)
      have hTT := HT.out.symm.trans g1.out
      subst hTT
      refine leavesM1 (v := .tuple #[.slice none 0 0, .int .i64 p, .int .i64 e]) hD ?_ ?_
      · have c4 := (blk_cell r4 0).trans rfl
        have c5 := (blk_cell r5 0).trans rfl
        have c6 := (blk_cell r6 0).trans rfl
        simp [results, Tryd.results12, go_sem, c4, c5, c6]
      · exact ⟨_, rfl, Kd.R_nil _ _ _ _ _, below_putObj bl.out (by omega)⟩
  · rw [if_pos (show (ca, ce).2 ≠ 0 from hce)] at hT
    subst hT
    have hc1 : (ce == 0) = false := beq_false_of_ne hce
    have hc2 : (ce != 0) = true := bne_iff_ne.2 hce
    clear hch
    gi_wp2_with (first | (gi_at_call 40; refine CallsIn.mono (callsIn_wide.2 (hchk _)) ?_; rintro e w1 ⟨rfl, hb1⟩; obtain ⟨hz1, Q0', Q1', Q2', Q3', B1'⟩ := boxes4 hb1; have Q0 := Aside0.mk Q0'; have Q1 := Aside0.mk Q1'; have Q2 := Aside0.mk Q2'; have Q3 := Aside0.mk Q3'; have B1 := Aside0.mk B1'; clear Q0' Q1' Q2' Q3' B1'; have q0 : w1.cell? ⟨w.heap.size, 0, none⟩ = some (.string s) := (blk_cell Q0.out 0).trans rfl; have q1 : w1.cell? ⟨w.heap.size + 1, 0, none⟩ = some (.slice none 0 0) := (blk_cell Q1.out 0).trans rfl; have q2 : w1.cell? ⟨w.heap.size + 1 + 1, 0, none⟩ = some (.int .i64 0) := (blk_cell Q2.out 0).trans rfl; have q3 : w1.cell? ⟨w.heap.size + 1 + 1 + 1, 0, none⟩ = some (.int .i64 0) := (blk_cell Q3.out 0).trans rfl; have f1 := blk_frozen Q1.out 0; have f2 := blk_frozen Q2.out 0; have f3 := blk_frozen Q3.out 0; have qa0 : ∀ o, (w1.alloc o).cell? ⟨w.heap.size, 0, none⟩ = some (.string s) := (fun o => (World.cell?_alloc_old w1 o ⟨w.heap.size, 0, none⟩ (show w.heap.size ≠ w1.heap.size by omega)).trans q0); clear hb1))
    obtain ⟨r1, r2, r3⟩ := store3 Q1.out Q2.out Q3.out (by omega) (by omega) (by omega) (.slice none 0 0) (.int .i64 ca) (.int .i64 ce)
    refine leavesM0 (v := .tuple #[.slice none 0 0, .int .i64 ca, .int .i64 ce]) ?_ ?_
    · have c1 := (blk_cell r1 0).trans rfl
      have c2 := (blk_cell r2 0).trans rfl
      have c3 := (blk_cell r3 0).trans rfl
      simp [results, Tryd.results12, go_sem, c1, c2, c3]
    · exact ⟨_, rfl, Kd.R_nil _ _ _ _ _, below3 B1.out (by omega) (by omega) (by omega) _ _ _⟩
end Go.Proofs.YtebidpcmcekbgaaDoor.P
