/- What the claim's law needs, many texts in one (Xm). No conditions of its own. -/
import Derived.Test.YtebidpcmcekbgaaDoorZo7
import Derived.Test.YtebidpcmcekbgaaDoorZo8
set_option linter.unusedVariables false
set_option linter.unusedSimpArgs false
namespace Go.Proofs.YtebidpcmcekbgaaDoor.P
open Go.RowKit Go.Shelf Go.Maps Go.Proofs.YtebidpcmcekbgaaDoorW.PrintWords Go.Proofs.YtebidpcmcekbgaaDoorW.PrintLast Go.Proofs.YtebidpcmcekbgaaDoorW.PrintMore
attribute [local go_sem] Oper.semAt_some
set_option linter.unusedVariables false
set_option linter.unusedSimpArgs false
theorem notesL_snoc (A : List (Nat × ByteArray)) (x : Nat × ByteArray) : notesL (A ++ [x]) = notesL A ++ (if x.2.size ≠ 0 then [⟨5, x.2.extract 1 x.2.size, (x.1 : Int)⟩] else []) := by
  unfold notesL
  rw [List.filterMap_append]
  congr 1
  by_cases c : x.2.size ≠ 0
  · rw [if_pos c]; simp only [List.filterMap_cons, if_pos c, List.filterMap_nil]
  · rw [if_neg c]; simp only [List.filterMap_cons, if_neg c, List.filterMap_nil]
theorem notesL_len : ∀ A : List (Nat × ByteArray), (notesL A).length ≤ A.length := fun A => List.length_filterMap_le _ _
theorem pcs_len (s : ByteArray) (len : Nat → Nat) : ∀ (f i : Nat), (pcs s len f i).length ≤ f
  | 0, i => Nat.le_refl _
  | f + 1, i => by
    unfold pcs
    by_cases c : i < s.size
    · rw [if_pos c]
      by_cases c2 : spB (bt s (i : Int)) = true
      · rw [if_pos c2]; have := pcs_len s len f (i + 1); omega
      · rw [if_neg c2]
        by_cases c3 : bt s (i : Int) = 126
        · rw [if_pos c3, List.length_cons]; have := pcs_len s len f (i + noteL s i); omega
        · rw [if_neg c3, List.length_cons]; have := pcs_len s len f (i + len i); omega
    · rw [if_neg c]; exact Nat.zero_le _
theorem enters_one : ∀ args w, (callFunc 46 args).run Tryd.prog w = .ok (.enter 46 args) w := enters_of Tryd.func46 (by kernel_rfl) rfl
theorem one_any (a : Int) (w : World) : Calls Tryd.prog 46 (#[] ++ #[.int .i64 a] ++ #[]) w fun e w' => (∃ v, e = .returned v ∧ v = .int .i64 1) ∧ Below w.heap.size w w' := by
  simp only [List.append_toArray, List.cons_append, List.nil_append, List.append_nil]
  go_enter Tryd.func46, Tryd.ntmps46
  go_wp2
  go_ret
  exact ⟨⟨_, rfl, rfl⟩, Below.refl _ w⟩
theorem box1 {w w1 : World} (h : Below (w.alloc (.cells #[.slice none 0 0] 23)).heap.size (w.alloc (.cells #[.slice none 0 0] 23)) w1) : w.heap.size + 1 ≤ w1.heap.size ∧ w1.heap[w.heap.size]? = some (.cells #[.slice none 0 0] 23 (0, 0)) ∧ Below w.heap.size w w1 := by
  have hz : (w.alloc (.cells #[.slice none 0 0] 23)).heap.size = w.heap.size + 1 := by simp
  have h0 := h.size
  exact ⟨by omega, (h.block _ (by omega)).trans (heap_alloc_new w _), ((Below.refl w.heap.size w).alloc (Nat.le_refl _) _).trans (h.mono (by omega))⟩
theorem stepIn_append {F : Fence} {n : Nat} {P : Program} {ops : Array Oper} {o : Oper} {a : Act} {w w' : World} {K : Act → World → Prop} {Q : Exit → Act → World → Prop} {alt : Prop} {v y v' : Value} (hw : Region.wanted o (yielded ops a.tmps) = true) (s x : Operand) (t : TypeId)
    (hop : o.op = Op.call { callee := Callee.builtin Builtin.append, args := #[s, x], argTypes := #[t, t] }) (hs : a.eval s = v) (hx : a.eval x = y) (hrun : (Builtin.append_ #[t, t] o.type #[v, y]).run P w = .ok v' w') (h : K (a.put o.dst v') w') :
    if Region.wanted o (yielded ops a.tmps) = true then o.wpIn F n P a w K Q else alt := by
  rw [if_pos hw]
  unfold Oper.wpIn
  refine ⟨?_, ?_⟩
  · simp [Oper.about, hop, resolve, Target.leads, Sem.run_pure]
  · rw [Oper.semAt_plain F _ _ (by rw [hop]; intro c hc'; cases hc')]
    simp [execOp, hop, resolve, invoke, builtin, hs, hx, hrun, Result.andThen]
    exact h
theorem news_note (W : World) (ft : ByteArray) (a : Int) : ∀ (j : Nat) (u : Value), [Value.int .u8 5, .string ft, .int .i64 a][j]? = some u → (W.alloc (.cells #[.int .u8 5, .string ft, .int .i64 a] 58)).cell? ((⟨W.heap.size, 0, none⟩ : Addr).add j) = some u := by
  simpa using World.news_of_block (cs := #[.int .u8 5, .string ft, .int .i64 a]) (t := 58) (fr := (0, 0)) (heap_alloc_new W (.cells #[.int .u8 5, .string ft, .int .i64 a] 58))
set_option maxRecDepth 8000 in
set_option maxHeartbeats 4000000 in
theorem Notes_any (s : ByteArray) (w : World) (hs : s.size ≤ 1000000000) :
    Calls Tryd.prog 14 #[.string s] w fun e w' => ∃ v, e = .returned (.tuple #[v, .int .i64 (notesM s).2]) ∧ RT w' w.heap.size v (notesM s).1 ∧ Below w.heap.size w w' := by
  have hchk := fun W => check_any s W (by omega)
  obtain ⟨T, hT⟩ : ∃ T, notesM s = T := ⟨_, rfl⟩
  rw [hT]
  unfold notesM at hT
  refine (callsIn_wide (n := 9)).1 ?_
  show CallsIn (FW none) 9 Tryd.prog 14 _ w _
  refine callsIn_of_wp_marks Tryd.func14 rfl trivial ?_ rfl
  simp only [Tryd.ntmps14, List.size_toArray, List.length_cons, List.length_nil, Nat.reduceAdd, Nat.reduceSub, Array.replicate_succ, Array.replicate_zero, List.push_toArray, List.append_toArray, List.nil_append, List.cons_append]
  generalize hch : chkT s = ch at *
  obtain ⟨ca, ce⟩ := ch
  by_cases hce : ce = 0
  · subst hce
    rw [if_neg (show ¬ ((ca, (0 : Int)).2 ≠ 0) from fun h => h rfl)] at hT
    have HT := Aside0.mk hT
    clear hT hch
    gi_wp2_with (first | (gi_at_call 40; refine CallsIn.mono (callsIn_wide.2 (hchk _)) ?_; rintro e w1 ⟨rfl, hb1⟩; obtain ⟨hz1, Q1', B1'⟩ := box1 hb1; have Q1 := Aside0.mk Q1'; have B1 := Aside0.mk B1'; clear Q1' B1' hb1; have q1 : w1.cell? ⟨w.heap.size, 0, none⟩ = some (.slice none 0 0) := (blk_cell Q1.out 0).trans rfl; have f1 := blk_frozen Q1.out 0) | (gi_at_call 42; refine CallsIn.mono (callsIn_wide.2 (pieces_any s (.func 46) #[] #[] _)) ?_; rintro e w2 ⟨rfl, hw2⟩))
    have hz2 : w2.heap.size = w1.heap.size + 2 := by rw [hw2]; simp
    have H1L := Aside0.mk (show w2.heap[w1.heap.size]? = some (.cells #[.string s] 9 (0, 0)) by rw [hw2]; exact blk_alloc (heap_alloc_new w1 _) _)
    have H2L := Aside0.mk (show w2.heap[w1.heap.size + 1]? = some (.cells #[.func (.func 46) #[] #[]] 64 (0, 0)) by rw [hw2]; exact heap_alloc_new' _ _ (by simp))
    have B12 := Aside0.mk (show Below w1.heap.size w1 w2 by rw [hw2]; exact ((Below.refl w1.heap.size w1).alloc (Nat.le_refl _) _).alloc (by simp) _)
    have B2 := Aside0.mk (B1.out.trans (B12.out.mono (by omega)))
    have T1 := Aside0.mk ((B12.out.block w.heap.size (by omega)).trans Q1.out)
    rw [← hw2]
    clear hw2
    have HGi := Aside0.mk (pieces1_gives (n₀ := w.heap.size) (w0 := w) w1.heap.size (w1.heap.size + 1) s (.func (.func 46) #[] #[]) (fun _ => 1) (fun _ => Nat.one_pos) (fun i => by omega) (by omega))
    have HLN := Aside0.mk (pcs_len s (fun _ => 1) s.size 0)
    have HME := Aside0.mk (fun (x : Nat × ByteArray) (h : x ∈ pcsA s (fun _ => 1) 0) => pcs_mem s (fun _ => 1) s.size 0 x h)
    change Aside0 ((pcsA s (fun _ => 1) 0).length ≤ s.size) at HLN
    generalize hLe : pcsA s (fun _ => 1) 0 = L at *
    clear hLe q1 f1
    refine wp_rangeD (gf := 76) (bs := #[]) (lb := #[.pointer (some ⟨w1.heap.size, 0, none⟩), .pointer (some ⟨w1.heap.size + 1, 0, none⟩)]) rfl enters_pieces1 HGi.out (hb0 := B2.out) (hn := by omega) (hwr := fun k h => h.elim) (hown := fun k h => by rcases h with h | h <;> omega)
      (hPre := fun W hW => ⟨(hW.block _ (by omega)).trans H1L.out, (hW.block _ (by omega)).trans H2L.out⟩) (hps := fun _ => rfl)
      (fun i V => ∃ v, Aside0 (V.heap[w.heap.size]? = some (.cells #[v] 23 (0, 0))) ∧ Aside0 (RT V (w1.heap.size + 2) v (notesL (L.take i))) ∧ Aside0 (Below w.heap.size w V) ∧ Aside0 (w2.heap.size ≤ V.heap.size))
      (fun c i V => False)
      ?hI (fun _ _ _ _ h _ => h) ?h0
      (fun i a₁ V => ∃ x : Nat × ByteArray, L[i]? = some x ∧ ∃ x0 x1 x3 x4 x5 x6 x9 x10 x11 x12 x13 x14 x15 x16 x17 x18 x19 x20 x21 x22 x23 x24 x25 x26 x27 x28 x29 x30 x31 : Value, a₁ = { tmps := #[x0, x1, (.pointer (some ⟨w.heap.size, 0, none⟩)), x3, x4, x5, x6, (.int .i64 (x.1 : Int)), (.string x.2), x9, x10, x11, x12, x13, x14, x15, x16, x17, x18, x19, x20, x21, x22, x23, x24, x25, x26, x27, x28, x29, x30, x31], defers := [] }) ?hAx ?assign ?body ?ask ?done (fun _ _ _ _ _ _ h _ _ => h.elim)
    case hI =>
      rintro i P Q ⟨v, q1, q2, bl, sz⟩ hs'
      exact ⟨v, ⟨hs'.blk q1.out (fun h => h)⟩, ⟨R_st2 q2.out hs' (fun _ h => h.elim)⟩, ⟨hs'.below bl.out (by omega) (fun k h => h.elim) (by have := sz.out; omega)⟩, ⟨Nat.le_trans sz.out hs'.1.2.2.2⟩⟩
    case h0 => exact ⟨.slice none 0 0, T1, ⟨Kd.R_nil _ _ _ _ _⟩, B2, ⟨Nat.le_refl _⟩⟩
    case hAx =>
      rintro i a₁ P Q h hs'
      exact h
    case assign =>
      intro m l i x P K hx hI hle hK
      simp only [encP, List.zip_toArray, List.zip_cons_cons, List.zip_nil_right, List.size_toArray, List.foldl_toArray', List.foldl_cons, List.foldl_nil]
      gi_wp2
      exact hK _ _ (Below.refl _ P) ⟨x, hx, _, _, _, _, _, _, _, _, _, _, _, _, _, _, _, _, _, _, _, _, _, _, _, _, _, _, _, _, _, rfl⟩
    case body =>
      rintro m l0 i x a₁ P hx ⟨v, q1, q2, bl, sz⟩ ⟨x', hx', x0, x1, x3, x4, x5, x6, x9, x10, x11, x12, x13, x14, x15, x16, x17, x18, x19, x20, x21, x22, x23, x24, x25, x26, x27, x28, x29, x30, x31, rfl⟩ hle
      obtain rfl : x' = x := Option.some.inj (hx'.symm.trans hx)
      clear hx'
      have hil : i < L.length := (List.getElem?_eq_some_iff.1 hx).1
      have htk : L.take (i + 1) = L.take i ++ [x'] := by rw [List.take_succ_eq_append_getElem hil]; congr 1; rw [← Option.some.inj ((List.getElem?_eq_getElem hil).symm.trans hx)]
      have hns := notesL_snoc (L.take i) x'
      rw [← htk] at hns
      have hnl : (notesL (L.take i)).length ≤ 1000000000 := by have := notesL_len (L.take i); rw [List.length_take] at this; have := HLN.out; omega
      have hsz2 : w2.heap.size ≤ P.heap.size := sz.out
      by_cases hx0 : x'.2.size = 0
      · have hnil : x'.2.toList.isEmpty = true := by have := (toList_nil_iff x'.2).2 hx0; rw [this]; rfl
        rw [if_neg (show ¬ (x'.2.size ≠ 0) from fun h => h hx0), List.append_nil] at hns
        have q2' : Aside0 (RT P (w1.heap.size + 2) v (notesL (L.take (i + 1)))) := by rw [hns]; exact q2
        clear hx htk hns
        gi_wp2
        exact ⟨Keeps.refl _ _ _ _ _, v, q1, q2', bl, sz⟩
      · have hnil : x'.2.toList.isEmpty = false := by
          cases h : x'.2.toList with
          | nil => exact absurd ((toList_nil_iff x'.2).1 h) hx0
          | cons _ _ => rfl
        rw [if_pos hx0] at hns
        have HNS := Aside0.mk hns
        have h1n : (1 : Int) ≤ (x'.2.size : Int) := by omega
        obtain ⟨A, c, rfl⟩ := Kd.R_slice q2.out
        have hc1 : P.cell? ⟨w.heap.size, 0, none⟩ = some (.slice A (notesL (L.take i)).length c) := (blk_cell q1.out 0).trans rfl
        have hf1 := blk_frozen q1.out 0
        clear hx htk hns hx0
        generalize notesL (L.take i) = l at *
        gi_wp2
        have YA := Aside0.mk (RT_below q2.out (((Below.refl _ P).alloc (Nat.le_refl _) (.cells #[.int .u8 5, .string (x'.2.extract 1 x'.2.size), .int .i64 (x'.1 : Int)] 58)).drew))
        obtain ⟨inner, hown, hback⟩ := RT_app YA.out
        have HOW := Aside0.mk hown
        have HBK := Aside0.mk hback
        obtain ⟨i0, e1, e2, e3, e4⟩ := info_parts info58
        have VB := Aside0.mk (blk_drew (blk_alloc q1.out (.cells #[.int .u8 5, .string (x'.2.extract 1 x'.2.size), .int .i64 (x'.1 : Int)] 58)))
        clear hown hback
        obtain ⟨v2, w4, hrun, ho, hg, hz⟩ := run_append_own (P := Tryd.prog) ((P.alloc (.cells #[.int .u8 5, .string (x'.2.extract 1 x'.2.size), .int .i64 (x'.1 : Int)] 58)).drew) (w1.heap.size + 2) 23 23 58 i0 (.agg #[(.int .u8 0), (.string ⟨#[]⟩), (.int .i64 0)]) 3 32 Tryd.underlying23 e1 e2 e3 e4 rfl (by decide) (.slice A l.length c) l.length inner HOW.out ⟨P.heap.size, 0, none⟩ 1 1 [.int .u8 5, .string (x'.2.extract 1 x'.2.size), .int .i64 (x'.1 : Int)] rfl (news_note P (x'.2.extract 1 x'.2.size) (x'.1 : Int)) (by intro u hu; simp at hu; rcases hu with rfl | rfl | rfl <;> rfl) (by unfold maxLen; omega) (by omega) (by simp; omega)
        have HG := Aside0.mk hg
        have HO := Aside0.mk (HBK.out w4 v2 ⟨5, x'.2.extract 1 x'.2.size, (x'.1 : Int)⟩ ho)
        have V1 := Aside0.mk (blk_grown VB.out hg (Kd.R_ne YA.out VB.out (by decide)))
        obtain ⟨A2, c2, rfl⟩ := Kd.R_slice HO.out
        have hln : (l ++ [(⟨5, x'.2.extract 1 x'.2.size, (x'.1 : Int)⟩ : Tk)]).length = l.length + 1 := by rw [List.length_append, List.length_singleton]
        rw [hln] at HO hrun
        have vc1 : w4.cell? ⟨w.heap.size, 0, none⟩ = some (.slice A l.length c) := (blk_cell V1.out 0).trans rfl
        have vz1 := blk_frozen V1.out 0
        have hca : ∀ o, (P.alloc o).cell? ⟨w.heap.size, 0, none⟩ = some (.slice A l.length c) := fun o => (blk_cell (blk_alloc q1.out o) 0).trans rfl
        clear ho hg hz hln
        have hgs := HG.out.size
        have hs4 : P.heap.size + 1 ≤ w4.heap.size := by simpa using hgs
        have HK2 := Aside0.mk (blk_put V1.out 0 (.slice A2 (l.length + 1) c2) rfl)
        have HR3 := Aside0.mk (Kd.R_set (d := k58) HO.out V1.out (by decide) 0 (.slice A2 (l.length + 1) c2))
        have hrow : ∀ k, (Value.slice A l.length c).ownBlock = some k → w1.heap.size + 2 ≤ k ∧ ∃ cells, P.heap[k]? = some (.cells cells 58 (0, 0)) := by
          intro k hk
          obtain ⟨inn, hown⟩ := Kd.R_own q2.out
          exact ⟨own_base hown k hk, own_typed hown k hk⟩
        have hkeep : ∀ k o, P.heap[k]? = some o → k ≠ w.heap.size → some k ≠ (Value.slice A l.length c).ownBlock → (w4.setCell ⟨w.heap.size, 0, none⟩ (.slice A2 (l.length + 1) c2)).heap[k]? = some o := by
          intro k o hk hne hrw
          have hkl := blk_lt hk
          refine (Below.heap_setCell _ ⟨w.heap.size, 0, none⟩ _ k hne).trans ((HG.out.block k (by simp; omega) hrw).trans ?_)
          exact blk_drew (blk_alloc hk _)
        have hk2 : ∀ k o, P.heap[k]? = some o → (k < w.heap.size ∨ (k = w1.heap.size ∨ k = w1.heap.size + 1) ∨ (w2.heap.size ≤ k ∧ ∀ cs t f, o = .cells cs t f → False)) → (w4.setCell ⟨w.heap.size, 0, none⟩ (.slice A2 (l.length + 1) c2)).heap[k]? = some o := by
          intro k o hk ho
          refine hkeep k o hk (by rcases ho with ho | ho | ho <;> omega) (fun e => ?_)
          obtain ⟨h1, cells, h2⟩ := hrow k e.symm
          rw [h2] at hk
          cases hk
          rcases ho with ho | ho | ⟨_, ho⟩
          · omega
          · omega
          · exact ho _ _ _ rfl
        have hos : (w4.setCell ⟨w.heap.size, 0, none⟩ (.slice A2 (l.length + 1) c2)).os = P.os ∧ (w4.setCell ⟨w.heap.size, 0, none⟩ (.slice A2 (l.length + 1) c2)).tape = P.tape ∧ (w4.setCell ⟨w.heap.size, 0, none⟩ (.slice A2 (l.length + 1) c2)).output = P.output ∧ P.heap.size ≤ (w4.setCell ⟨w.heap.size, 0, none⟩ (.slice A2 (l.length + 1) c2)).heap.size := by
          refine ⟨HG.out.os, HG.out.tape, HG.out.output, by simp; omega⟩
        have hbl : Aside0 (Below w.heap.size w (w4.setCell ⟨w.heap.size, 0, none⟩ (.slice A2 (l.length + 1) c2))) := ⟨bl.out.trans ⟨hos.1, hos.2.1, hos.2.2.1, hos.2.2.2, fun k hk => (hk2 k _ (Array.getElem?_eq_getElem (show k < P.heap.size by omega)) (.inl hk)).trans (Array.getElem?_eq_getElem (show k < P.heap.size by omega)).symm⟩⟩
        have hszz : Aside0 (w2.heap.size ≤ (w4.setCell ⟨w.heap.size, 0, none⟩ (.slice A2 (l.length + 1) c2)).heap.size) := ⟨by simp; omega⟩
        have HKK := Aside0.mk hk2
        have HOS := Aside0.mk hos
        have HR4 : Aside0 (RT (w4.setCell ⟨w.heap.size, 0, none⟩ (.slice A2 (l.length + 1) c2)) (w1.heap.size + 2) (.slice A2 (l.length + 1) c2) (notesL (L.take (i + 1)))) := ⟨by rw [HNS.out]; exact HR3.out⟩
        clear hk2 hos hkeep hrow hgs
        refine wpIn_region_any (by kernel_rfl) ?_
        refine wpAnyIn_ready (rs := [0, 1, 3]) (by kernel_rfl) (by simp) ?_
        refine AllReadyIn.cons rfl (fun K hK => ?_) (AllReadyIn.cons rfl (fun K hK => ?_) (AllReadyIn.cons rfl (fun K hK => ?_) AllReadyIn.nil))
        · go_simp
          refine hK _ _ ?_
          clear hK K
          refine wpAnyIn_ready (rs := [1, 3]) (by kernel_rfl) (by simp) ?_
          refine AllReadyIn.cons rfl (fun K hK => ?_) (AllReadyIn.cons rfl (fun K hK => ?_) AllReadyIn.nil)
          · go_simp
            refine hK _ _ ?_
            clear hK K
            refine wpAnyIn_ready (rs := [2, 3]) (by kernel_rfl) (by simp) ?_
            refine AllReadyIn.cons rfl (fun K hK => ?_) (AllReadyIn.cons rfl (fun K hK => ?_) AllReadyIn.nil)
            · go_simp
              refine hK _ _ ?_
              clear hK K
              refine wpAnyIn_ready (rs := [3]) (by kernel_rfl) (by simp) ?_
              refine AllReadyIn.cons rfl (fun K hK => ?_) AllReadyIn.nil
              go_simp
              refine hK _ _ ?_
              clear hK K
              refine wpAnyIn_ready (rs := [4]) (by kernel_rfl) (by simp) ?_
              refine AllReadyIn.cons rfl (fun K hK => ?_) AllReadyIn.nil
              go_simp
              refine hK _ _ ?_
              clear hK K
              refine wpAnyIn_ready (rs := [5]) (by kernel_rfl) (by simp) ?_
              refine AllReadyIn.cons rfl (fun K hK => ?_) AllReadyIn.nil
              go_simp
              refine hK _ _ ?_
              clear hK K
              refine wpAnyIn_ready (rs := [6]) (by kernel_rfl) (by simp) ?_
              refine AllReadyIn.cons rfl (fun K hK => ?_) AllReadyIn.nil
              refine stepIn_append rfl (.tmp 24) (.tmp 29) 23 rfl rfl rfl hrun ?_
              refine hK _ _ ?_
              clear hK K
              refine wpAnyIn_ready (rs := [7]) (by kernel_rfl) (by simp) ?_
              refine AllReadyIn.cons rfl (fun K hK => ?_) AllReadyIn.nil
              go_simp
              refine hK _ _ ?_
              clear hK K
              refine wpAnyIn_done (by kernel_rfl) ?_ _
              exact ⟨⟨HOS.out, HKK.out⟩, .slice A2 (l.length + 1) c2, HK2, HR4, hbl, hszz⟩
            · go_simp
              refine hK _ _ ?_
              clear hK K
              refine wpAnyIn_ready (rs := [2]) (by kernel_rfl) (by simp) ?_
              refine AllReadyIn.cons rfl (fun K hK => ?_) AllReadyIn.nil
              go_simp
              refine hK _ _ ?_
              clear hK K
              refine wpAnyIn_ready (rs := [4]) (by kernel_rfl) (by simp) ?_
              refine AllReadyIn.cons rfl (fun K hK => ?_) AllReadyIn.nil
              go_simp
              refine hK _ _ ?_
              clear hK K
              refine wpAnyIn_ready (rs := [5]) (by kernel_rfl) (by simp) ?_
              refine AllReadyIn.cons rfl (fun K hK => ?_) AllReadyIn.nil
              go_simp
              refine hK _ _ ?_
              clear hK K
              refine wpAnyIn_ready (rs := [6]) (by kernel_rfl) (by simp) ?_
              refine AllReadyIn.cons rfl (fun K hK => ?_) AllReadyIn.nil
              refine stepIn_append rfl (.tmp 24) (.tmp 29) 23 rfl rfl rfl hrun ?_
              refine hK _ _ ?_
              clear hK K
              refine wpAnyIn_ready (rs := [7]) (by kernel_rfl) (by simp) ?_
              refine AllReadyIn.cons rfl (fun K hK => ?_) AllReadyIn.nil
              go_simp
              refine hK _ _ ?_
              clear hK K
              refine wpAnyIn_done (by kernel_rfl) ?_ _
              exact ⟨⟨HOS.out, HKK.out⟩, .slice A2 (l.length + 1) c2, HK2, HR4, hbl, hszz⟩
          · go_simp
            refine hK _ _ ?_
            clear hK K
            refine wpAnyIn_ready (rs := [1]) (by kernel_rfl) (by simp) ?_
            refine AllReadyIn.cons rfl (fun K hK => ?_) AllReadyIn.nil
            go_simp
            refine hK _ _ ?_
            clear hK K
            refine wpAnyIn_ready (rs := [2]) (by kernel_rfl) (by simp) ?_
            refine AllReadyIn.cons rfl (fun K hK => ?_) AllReadyIn.nil
            go_simp
            refine hK _ _ ?_
            clear hK K
            refine wpAnyIn_ready (rs := [4]) (by kernel_rfl) (by simp) ?_
            refine AllReadyIn.cons rfl (fun K hK => ?_) AllReadyIn.nil
            go_simp
            refine hK _ _ ?_
            clear hK K
            refine wpAnyIn_ready (rs := [5]) (by kernel_rfl) (by simp) ?_
            refine AllReadyIn.cons rfl (fun K hK => ?_) AllReadyIn.nil
            go_simp
            refine hK _ _ ?_
            clear hK K
            refine wpAnyIn_ready (rs := [6]) (by kernel_rfl) (by simp) ?_
            refine AllReadyIn.cons rfl (fun K hK => ?_) AllReadyIn.nil
            refine stepIn_append rfl (.tmp 24) (.tmp 29) 23 rfl rfl rfl hrun ?_
            refine hK _ _ ?_
            clear hK K
            refine wpAnyIn_ready (rs := [7]) (by kernel_rfl) (by simp) ?_
            refine AllReadyIn.cons rfl (fun K hK => ?_) AllReadyIn.nil
            go_simp
            refine hK _ _ ?_
            clear hK K
            refine wpAnyIn_done (by kernel_rfl) ?_ _
            exact ⟨⟨HOS.out, HKK.out⟩, .slice A2 (l.length + 1) c2, HK2, HR4, hbl, hszz⟩
        · go_simp
          refine hK _ _ ?_
          clear hK K
          refine wpAnyIn_ready (rs := [0, 2, 3]) (by kernel_rfl) (by simp) ?_
          refine AllReadyIn.cons rfl (fun K hK => ?_) (AllReadyIn.cons rfl (fun K hK => ?_) (AllReadyIn.cons rfl (fun K hK => ?_) AllReadyIn.nil))
          · go_simp
            refine hK _ _ ?_
            clear hK K
            refine wpAnyIn_ready (rs := [2, 3]) (by kernel_rfl) (by simp) ?_
            refine AllReadyIn.cons rfl (fun K hK => ?_) (AllReadyIn.cons rfl (fun K hK => ?_) AllReadyIn.nil)
            · go_simp
              refine hK _ _ ?_
              clear hK K
              refine wpAnyIn_ready (rs := [3]) (by kernel_rfl) (by simp) ?_
              refine AllReadyIn.cons rfl (fun K hK => ?_) AllReadyIn.nil
              go_simp
              refine hK _ _ ?_
              clear hK K
              refine wpAnyIn_ready (rs := [4]) (by kernel_rfl) (by simp) ?_
              refine AllReadyIn.cons rfl (fun K hK => ?_) AllReadyIn.nil
              go_simp
              refine hK _ _ ?_
              clear hK K
              refine wpAnyIn_ready (rs := [5]) (by kernel_rfl) (by simp) ?_
              refine AllReadyIn.cons rfl (fun K hK => ?_) AllReadyIn.nil
              go_simp
              refine hK _ _ ?_
              clear hK K
              refine wpAnyIn_ready (rs := [6]) (by kernel_rfl) (by simp) ?_
              refine AllReadyIn.cons rfl (fun K hK => ?_) AllReadyIn.nil
              refine stepIn_append rfl (.tmp 24) (.tmp 29) 23 rfl rfl rfl hrun ?_
              refine hK _ _ ?_
              clear hK K
              refine wpAnyIn_ready (rs := [7]) (by kernel_rfl) (by simp) ?_
              refine AllReadyIn.cons rfl (fun K hK => ?_) AllReadyIn.nil
              go_simp
              refine hK _ _ ?_
              clear hK K
              refine wpAnyIn_done (by kernel_rfl) ?_ _
              exact ⟨⟨HOS.out, HKK.out⟩, .slice A2 (l.length + 1) c2, HK2, HR4, hbl, hszz⟩
            · go_simp
              refine hK _ _ ?_
              clear hK K
              refine wpAnyIn_ready (rs := [2]) (by kernel_rfl) (by simp) ?_
              refine AllReadyIn.cons rfl (fun K hK => ?_) AllReadyIn.nil
              go_simp
              refine hK _ _ ?_
              clear hK K
              refine wpAnyIn_ready (rs := [4]) (by kernel_rfl) (by simp) ?_
              refine AllReadyIn.cons rfl (fun K hK => ?_) AllReadyIn.nil
              go_simp
              refine hK _ _ ?_
              clear hK K
              refine wpAnyIn_ready (rs := [5]) (by kernel_rfl) (by simp) ?_
              refine AllReadyIn.cons rfl (fun K hK => ?_) AllReadyIn.nil
              go_simp
              refine hK _ _ ?_
              clear hK K
              refine wpAnyIn_ready (rs := [6]) (by kernel_rfl) (by simp) ?_
              refine AllReadyIn.cons rfl (fun K hK => ?_) AllReadyIn.nil
              refine stepIn_append rfl (.tmp 24) (.tmp 29) 23 rfl rfl rfl hrun ?_
              refine hK _ _ ?_
              clear hK K
              refine wpAnyIn_ready (rs := [7]) (by kernel_rfl) (by simp) ?_
              refine AllReadyIn.cons rfl (fun K hK => ?_) AllReadyIn.nil
              go_simp
              refine hK _ _ ?_
              clear hK K
              refine wpAnyIn_done (by kernel_rfl) ?_ _
              exact ⟨⟨HOS.out, HKK.out⟩, .slice A2 (l.length + 1) c2, HK2, HR4, hbl, hszz⟩
          · go_simp
            refine hK _ _ ?_
            clear hK K
            refine wpAnyIn_ready (rs := [0, 3]) (by kernel_rfl) (by simp) ?_
            refine AllReadyIn.cons rfl (fun K hK => ?_) (AllReadyIn.cons rfl (fun K hK => ?_) AllReadyIn.nil)
            · go_simp
              refine hK _ _ ?_
              clear hK K
              refine wpAnyIn_ready (rs := [3]) (by kernel_rfl) (by simp) ?_
              refine AllReadyIn.cons rfl (fun K hK => ?_) AllReadyIn.nil
              go_simp
              refine hK _ _ ?_
              clear hK K
              refine wpAnyIn_ready (rs := [4]) (by kernel_rfl) (by simp) ?_
              refine AllReadyIn.cons rfl (fun K hK => ?_) AllReadyIn.nil
              go_simp
              refine hK _ _ ?_
              clear hK K
              refine wpAnyIn_ready (rs := [5]) (by kernel_rfl) (by simp) ?_
              refine AllReadyIn.cons rfl (fun K hK => ?_) AllReadyIn.nil
              go_simp
              refine hK _ _ ?_
              clear hK K
              refine wpAnyIn_ready (rs := [6]) (by kernel_rfl) (by simp) ?_
              refine AllReadyIn.cons rfl (fun K hK => ?_) AllReadyIn.nil
              refine stepIn_append rfl (.tmp 24) (.tmp 29) 23 rfl rfl rfl hrun ?_
              refine hK _ _ ?_
              clear hK K
              refine wpAnyIn_ready (rs := [7]) (by kernel_rfl) (by simp) ?_
              refine AllReadyIn.cons rfl (fun K hK => ?_) AllReadyIn.nil
              go_simp
              refine hK _ _ ?_
              clear hK K
              refine wpAnyIn_done (by kernel_rfl) ?_ _
              exact ⟨⟨HOS.out, HKK.out⟩, .slice A2 (l.length + 1) c2, HK2, HR4, hbl, hszz⟩
            · go_simp
              refine hK _ _ ?_
              clear hK K
              refine wpAnyIn_ready (rs := [0, 4]) (by kernel_rfl) (by simp) ?_
              refine AllReadyIn.cons rfl (fun K hK => ?_) (AllReadyIn.cons rfl (fun K hK => ?_) AllReadyIn.nil)
              · go_simp
                refine hK _ _ ?_
                clear hK K
                refine wpAnyIn_ready (rs := [4]) (by kernel_rfl) (by simp) ?_
                refine AllReadyIn.cons rfl (fun K hK => ?_) AllReadyIn.nil
                go_simp
                refine hK _ _ ?_
                clear hK K
                refine wpAnyIn_ready (rs := [5]) (by kernel_rfl) (by simp) ?_
                refine AllReadyIn.cons rfl (fun K hK => ?_) AllReadyIn.nil
                go_simp
                refine hK _ _ ?_
                clear hK K
                refine wpAnyIn_ready (rs := [6]) (by kernel_rfl) (by simp) ?_
                refine AllReadyIn.cons rfl (fun K hK => ?_) AllReadyIn.nil
                refine stepIn_append rfl (.tmp 24) (.tmp 29) 23 rfl rfl rfl hrun ?_
                refine hK _ _ ?_
                clear hK K
                refine wpAnyIn_ready (rs := [7]) (by kernel_rfl) (by simp) ?_
                refine AllReadyIn.cons rfl (fun K hK => ?_) AllReadyIn.nil
                go_simp
                refine hK _ _ ?_
                clear hK K
                refine wpAnyIn_done (by kernel_rfl) ?_ _
                exact ⟨⟨HOS.out, HKK.out⟩, .slice A2 (l.length + 1) c2, HK2, HR4, hbl, hszz⟩
              · go_simp
                refine hK _ _ ?_
                clear hK K
                refine wpAnyIn_ready (rs := [0, 5]) (by kernel_rfl) (by simp) ?_
                refine AllReadyIn.cons rfl (fun K hK => ?_) (AllReadyIn.cons rfl (fun K hK => ?_) AllReadyIn.nil)
                · go_simp
                  refine hK _ _ ?_
                  clear hK K
                  refine wpAnyIn_ready (rs := [5]) (by kernel_rfl) (by simp) ?_
                  refine AllReadyIn.cons rfl (fun K hK => ?_) AllReadyIn.nil
                  go_simp
                  refine hK _ _ ?_
                  clear hK K
                  refine wpAnyIn_ready (rs := [6]) (by kernel_rfl) (by simp) ?_
                  refine AllReadyIn.cons rfl (fun K hK => ?_) AllReadyIn.nil
                  refine stepIn_append rfl (.tmp 24) (.tmp 29) 23 rfl rfl rfl hrun ?_
                  refine hK _ _ ?_
                  clear hK K
                  refine wpAnyIn_ready (rs := [7]) (by kernel_rfl) (by simp) ?_
                  refine AllReadyIn.cons rfl (fun K hK => ?_) AllReadyIn.nil
                  go_simp
                  refine hK _ _ ?_
                  clear hK K
                  refine wpAnyIn_done (by kernel_rfl) ?_ _
                  exact ⟨⟨HOS.out, HKK.out⟩, .slice A2 (l.length + 1) c2, HK2, HR4, hbl, hszz⟩
                · go_simp
                  refine hK _ _ ?_
                  clear hK K
                  refine wpAnyIn_ready (rs := [0]) (by kernel_rfl) (by simp) ?_
                  refine AllReadyIn.cons rfl (fun K hK => ?_) AllReadyIn.nil
                  go_simp
                  refine hK _ _ ?_
                  clear hK K
                  refine wpAnyIn_ready (rs := [6]) (by kernel_rfl) (by simp) ?_
                  refine AllReadyIn.cons rfl (fun K hK => ?_) AllReadyIn.nil
                  refine stepIn_append rfl (.tmp 24) (.tmp 29) 23 rfl rfl rfl hrun ?_
                  refine hK _ _ ?_
                  clear hK K
                  refine wpAnyIn_ready (rs := [7]) (by kernel_rfl) (by simp) ?_
                  refine AllReadyIn.cons rfl (fun K hK => ?_) AllReadyIn.nil
                  go_simp
                  refine hK _ _ ?_
                  clear hK K
                  refine wpAnyIn_done (by kernel_rfl) ?_ _
                  exact ⟨⟨HOS.out, HKK.out⟩, .slice A2 (l.length + 1) c2, HK2, HR4, hbl, hszz⟩
          · go_simp
            refine hK _ _ ?_
            clear hK K
            refine wpAnyIn_ready (rs := [0, 2]) (by kernel_rfl) (by simp) ?_
            refine AllReadyIn.cons rfl (fun K hK => ?_) (AllReadyIn.cons rfl (fun K hK => ?_) AllReadyIn.nil)
            · go_simp
              refine hK _ _ ?_
              clear hK K
              refine wpAnyIn_ready (rs := [2]) (by kernel_rfl) (by simp) ?_
              refine AllReadyIn.cons rfl (fun K hK => ?_) AllReadyIn.nil
              go_simp
              refine hK _ _ ?_
              clear hK K
              refine wpAnyIn_ready (rs := [4]) (by kernel_rfl) (by simp) ?_
              refine AllReadyIn.cons rfl (fun K hK => ?_) AllReadyIn.nil
              go_simp
              refine hK _ _ ?_
              clear hK K
              refine wpAnyIn_ready (rs := [5]) (by kernel_rfl) (by simp) ?_
              refine AllReadyIn.cons rfl (fun K hK => ?_) AllReadyIn.nil
              go_simp
              refine hK _ _ ?_
              clear hK K
              refine wpAnyIn_ready (rs := [6]) (by kernel_rfl) (by simp) ?_
              refine AllReadyIn.cons rfl (fun K hK => ?_) AllReadyIn.nil
              refine stepIn_append rfl (.tmp 24) (.tmp 29) 23 rfl rfl rfl hrun ?_
              refine hK _ _ ?_
              clear hK K
              refine wpAnyIn_ready (rs := [7]) (by kernel_rfl) (by simp) ?_
              refine AllReadyIn.cons rfl (fun K hK => ?_) AllReadyIn.nil
              go_simp
              refine hK _ _ ?_
              clear hK K
              refine wpAnyIn_done (by kernel_rfl) ?_ _
              exact ⟨⟨HOS.out, HKK.out⟩, .slice A2 (l.length + 1) c2, HK2, HR4, hbl, hszz⟩
            · go_simp
              refine hK _ _ ?_
              clear hK K
              refine wpAnyIn_ready (rs := [0, 4]) (by kernel_rfl) (by simp) ?_
              refine AllReadyIn.cons rfl (fun K hK => ?_) (AllReadyIn.cons rfl (fun K hK => ?_) AllReadyIn.nil)
              · go_simp
                refine hK _ _ ?_
                clear hK K
                refine wpAnyIn_ready (rs := [4]) (by kernel_rfl) (by simp) ?_
                refine AllReadyIn.cons rfl (fun K hK => ?_) AllReadyIn.nil
                go_simp
                refine hK _ _ ?_
                clear hK K
                refine wpAnyIn_ready (rs := [5]) (by kernel_rfl) (by simp) ?_
                refine AllReadyIn.cons rfl (fun K hK => ?_) AllReadyIn.nil
                go_simp
                refine hK _ _ ?_
                clear hK K
                refine wpAnyIn_ready (rs := [6]) (by kernel_rfl) (by simp) ?_
                refine AllReadyIn.cons rfl (fun K hK => ?_) AllReadyIn.nil
                refine stepIn_append rfl (.tmp 24) (.tmp 29) 23 rfl rfl rfl hrun ?_
                refine hK _ _ ?_
                clear hK K
                refine wpAnyIn_ready (rs := [7]) (by kernel_rfl) (by simp) ?_
                refine AllReadyIn.cons rfl (fun K hK => ?_) AllReadyIn.nil
                go_simp
                refine hK _ _ ?_
                clear hK K
                refine wpAnyIn_done (by kernel_rfl) ?_ _
                exact ⟨⟨HOS.out, HKK.out⟩, .slice A2 (l.length + 1) c2, HK2, HR4, hbl, hszz⟩
              · go_simp
                refine hK _ _ ?_
                clear hK K
                refine wpAnyIn_ready (rs := [0, 5]) (by kernel_rfl) (by simp) ?_
                refine AllReadyIn.cons rfl (fun K hK => ?_) (AllReadyIn.cons rfl (fun K hK => ?_) AllReadyIn.nil)
                · go_simp
                  refine hK _ _ ?_
                  clear hK K
                  refine wpAnyIn_ready (rs := [5]) (by kernel_rfl) (by simp) ?_
                  refine AllReadyIn.cons rfl (fun K hK => ?_) AllReadyIn.nil
                  go_simp
                  refine hK _ _ ?_
                  clear hK K
                  refine wpAnyIn_ready (rs := [6]) (by kernel_rfl) (by simp) ?_
                  refine AllReadyIn.cons rfl (fun K hK => ?_) AllReadyIn.nil
                  refine stepIn_append rfl (.tmp 24) (.tmp 29) 23 rfl rfl rfl hrun ?_
                  refine hK _ _ ?_
                  clear hK K
                  refine wpAnyIn_ready (rs := [7]) (by kernel_rfl) (by simp) ?_
                  refine AllReadyIn.cons rfl (fun K hK => ?_) AllReadyIn.nil
                  go_simp
                  refine hK _ _ ?_
                  clear hK K
                  refine wpAnyIn_done (by kernel_rfl) ?_ _
                  exact ⟨⟨HOS.out, HKK.out⟩, .slice A2 (l.length + 1) c2, HK2, HR4, hbl, hszz⟩
                · go_simp
                  refine hK _ _ ?_
                  clear hK K
                  refine wpAnyIn_ready (rs := [0]) (by kernel_rfl) (by simp) ?_
                  refine AllReadyIn.cons rfl (fun K hK => ?_) AllReadyIn.nil
                  go_simp
                  refine hK _ _ ?_
                  clear hK K
                  refine wpAnyIn_ready (rs := [6]) (by kernel_rfl) (by simp) ?_
                  refine AllReadyIn.cons rfl (fun K hK => ?_) AllReadyIn.nil
                  refine stepIn_append rfl (.tmp 24) (.tmp 29) 23 rfl rfl rfl hrun ?_
                  refine hK _ _ ?_
                  clear hK K
                  refine wpAnyIn_ready (rs := [7]) (by kernel_rfl) (by simp) ?_
                  refine AllReadyIn.cons rfl (fun K hK => ?_) AllReadyIn.nil
                  go_simp
                  refine hK _ _ ?_
                  clear hK K
                  refine wpAnyIn_done (by kernel_rfl) ?_ _
                  exact ⟨⟨HOS.out, HKK.out⟩, .slice A2 (l.length + 1) c2, HK2, HR4, hbl, hszz⟩
        · go_simp
          refine hK _ _ ?_
          clear hK K
          refine wpAnyIn_ready (rs := [0, 1]) (by kernel_rfl) (by simp) ?_
          refine AllReadyIn.cons rfl (fun K hK => ?_) (AllReadyIn.cons rfl (fun K hK => ?_) AllReadyIn.nil)
          · go_simp
            refine hK _ _ ?_
            clear hK K
            refine wpAnyIn_ready (rs := [1]) (by kernel_rfl) (by simp) ?_
            refine AllReadyIn.cons rfl (fun K hK => ?_) AllReadyIn.nil
            go_simp
            refine hK _ _ ?_
            clear hK K
            refine wpAnyIn_ready (rs := [2]) (by kernel_rfl) (by simp) ?_
            refine AllReadyIn.cons rfl (fun K hK => ?_) AllReadyIn.nil
            go_simp
            refine hK _ _ ?_
            clear hK K
            refine wpAnyIn_ready (rs := [4]) (by kernel_rfl) (by simp) ?_
            refine AllReadyIn.cons rfl (fun K hK => ?_) AllReadyIn.nil
            go_simp
            refine hK _ _ ?_
            clear hK K
            refine wpAnyIn_ready (rs := [5]) (by kernel_rfl) (by simp) ?_
            refine AllReadyIn.cons rfl (fun K hK => ?_) AllReadyIn.nil
            go_simp
            refine hK _ _ ?_
            clear hK K
            refine wpAnyIn_ready (rs := [6]) (by kernel_rfl) (by simp) ?_
            refine AllReadyIn.cons rfl (fun K hK => ?_) AllReadyIn.nil
            refine stepIn_append rfl (.tmp 24) (.tmp 29) 23 rfl rfl rfl hrun ?_
            refine hK _ _ ?_
            clear hK K
            refine wpAnyIn_ready (rs := [7]) (by kernel_rfl) (by simp) ?_
            refine AllReadyIn.cons rfl (fun K hK => ?_) AllReadyIn.nil
            go_simp
            refine hK _ _ ?_
            clear hK K
            refine wpAnyIn_done (by kernel_rfl) ?_ _
            exact ⟨⟨HOS.out, HKK.out⟩, .slice A2 (l.length + 1) c2, HK2, HR4, hbl, hszz⟩
          · go_simp
            refine hK _ _ ?_
            clear hK K
            refine wpAnyIn_ready (rs := [0, 2]) (by kernel_rfl) (by simp) ?_
            refine AllReadyIn.cons rfl (fun K hK => ?_) (AllReadyIn.cons rfl (fun K hK => ?_) AllReadyIn.nil)
            · go_simp
              refine hK _ _ ?_
              clear hK K
              refine wpAnyIn_ready (rs := [2]) (by kernel_rfl) (by simp) ?_
              refine AllReadyIn.cons rfl (fun K hK => ?_) AllReadyIn.nil
              go_simp
              refine hK _ _ ?_
              clear hK K
              refine wpAnyIn_ready (rs := [4]) (by kernel_rfl) (by simp) ?_
              refine AllReadyIn.cons rfl (fun K hK => ?_) AllReadyIn.nil
              go_simp
              refine hK _ _ ?_
              clear hK K
              refine wpAnyIn_ready (rs := [5]) (by kernel_rfl) (by simp) ?_
              refine AllReadyIn.cons rfl (fun K hK => ?_) AllReadyIn.nil
              go_simp
              refine hK _ _ ?_
              clear hK K
              refine wpAnyIn_ready (rs := [6]) (by kernel_rfl) (by simp) ?_
              refine AllReadyIn.cons rfl (fun K hK => ?_) AllReadyIn.nil
              refine stepIn_append rfl (.tmp 24) (.tmp 29) 23 rfl rfl rfl hrun ?_
              refine hK _ _ ?_
              clear hK K
              refine wpAnyIn_ready (rs := [7]) (by kernel_rfl) (by simp) ?_
              refine AllReadyIn.cons rfl (fun K hK => ?_) AllReadyIn.nil
              go_simp
              refine hK _ _ ?_
              clear hK K
              refine wpAnyIn_done (by kernel_rfl) ?_ _
              exact ⟨⟨HOS.out, HKK.out⟩, .slice A2 (l.length + 1) c2, HK2, HR4, hbl, hszz⟩
            · go_simp
              refine hK _ _ ?_
              clear hK K
              refine wpAnyIn_ready (rs := [0, 4]) (by kernel_rfl) (by simp) ?_
              refine AllReadyIn.cons rfl (fun K hK => ?_) (AllReadyIn.cons rfl (fun K hK => ?_) AllReadyIn.nil)
              · go_simp
                refine hK _ _ ?_
                clear hK K
                refine wpAnyIn_ready (rs := [4]) (by kernel_rfl) (by simp) ?_
                refine AllReadyIn.cons rfl (fun K hK => ?_) AllReadyIn.nil
                go_simp
                refine hK _ _ ?_
                clear hK K
                refine wpAnyIn_ready (rs := [5]) (by kernel_rfl) (by simp) ?_
                refine AllReadyIn.cons rfl (fun K hK => ?_) AllReadyIn.nil
                go_simp
                refine hK _ _ ?_
                clear hK K
                refine wpAnyIn_ready (rs := [6]) (by kernel_rfl) (by simp) ?_
                refine AllReadyIn.cons rfl (fun K hK => ?_) AllReadyIn.nil
                refine stepIn_append rfl (.tmp 24) (.tmp 29) 23 rfl rfl rfl hrun ?_
                refine hK _ _ ?_
                clear hK K
                refine wpAnyIn_ready (rs := [7]) (by kernel_rfl) (by simp) ?_
                refine AllReadyIn.cons rfl (fun K hK => ?_) AllReadyIn.nil
                go_simp
                refine hK _ _ ?_
                clear hK K
                refine wpAnyIn_done (by kernel_rfl) ?_ _
                exact ⟨⟨HOS.out, HKK.out⟩, .slice A2 (l.length + 1) c2, HK2, HR4, hbl, hszz⟩
              · go_simp
                refine hK _ _ ?_
                clear hK K
                refine wpAnyIn_ready (rs := [0, 5]) (by kernel_rfl) (by simp) ?_
                refine AllReadyIn.cons rfl (fun K hK => ?_) (AllReadyIn.cons rfl (fun K hK => ?_) AllReadyIn.nil)
                · go_simp
                  refine hK _ _ ?_
                  clear hK K
                  refine wpAnyIn_ready (rs := [5]) (by kernel_rfl) (by simp) ?_
                  refine AllReadyIn.cons rfl (fun K hK => ?_) AllReadyIn.nil
                  go_simp
                  refine hK _ _ ?_
                  clear hK K
                  refine wpAnyIn_ready (rs := [6]) (by kernel_rfl) (by simp) ?_
                  refine AllReadyIn.cons rfl (fun K hK => ?_) AllReadyIn.nil
                  refine stepIn_append rfl (.tmp 24) (.tmp 29) 23 rfl rfl rfl hrun ?_
                  refine hK _ _ ?_
                  clear hK K
                  refine wpAnyIn_ready (rs := [7]) (by kernel_rfl) (by simp) ?_
                  refine AllReadyIn.cons rfl (fun K hK => ?_) AllReadyIn.nil
                  go_simp
                  refine hK _ _ ?_
                  clear hK K
                  refine wpAnyIn_done (by kernel_rfl) ?_ _
                  exact ⟨⟨HOS.out, HKK.out⟩, .slice A2 (l.length + 1) c2, HK2, HR4, hbl, hszz⟩
                · go_simp
                  refine hK _ _ ?_
                  clear hK K
                  refine wpAnyIn_ready (rs := [0]) (by kernel_rfl) (by simp) ?_
                  refine AllReadyIn.cons rfl (fun K hK => ?_) AllReadyIn.nil
                  go_simp
                  refine hK _ _ ?_
                  clear hK K
                  refine wpAnyIn_ready (rs := [6]) (by kernel_rfl) (by simp) ?_
                  refine AllReadyIn.cons rfl (fun K hK => ?_) AllReadyIn.nil
                  refine stepIn_append rfl (.tmp 24) (.tmp 29) 23 rfl rfl rfl hrun ?_
                  refine hK _ _ ?_
                  clear hK K
                  refine wpAnyIn_ready (rs := [7]) (by kernel_rfl) (by simp) ?_
                  refine AllReadyIn.cons rfl (fun K hK => ?_) AllReadyIn.nil
                  go_simp
                  refine hK _ _ ?_
                  clear hK K
                  refine wpAnyIn_done (by kernel_rfl) ?_ _
                  exact ⟨⟨HOS.out, HKK.out⟩, .slice A2 (l.length + 1) c2, HK2, HR4, hbl, hszz⟩
    case ask =>
      rintro i x V hx ht hI hle
      refine VCall.of_calls enters_one ((one_any (x.1 : Int) V).mono ?_)
      rintro e W' ⟨⟨v', rfl, rfl⟩, hb⟩
      obtain ⟨v, q1, q2, bl, sz⟩ := hI
      exact ⟨_, rfl, rfl, ⟨v, ⟨(hb.block _ (blk_lt q1.out)).trans q1.out⟩, ⟨RT_below q2.out hb⟩, ⟨bl.out.trans (hb.mono (by have := sz.out; omega))⟩, ⟨Nat.le_trans sz.out hb.size⟩⟩, Keeps.of_below hb⟩
    case done =>
      rintro D V hle ⟨v, q1, q2, bl, sz⟩ hD hDle
      have hq2 := q2.out
      rw [List.take_length] at hq2
      have hTT := HT.out
      subst hTT
      have HD := Aside0.mk hD
      have hc1 : V.cell? ⟨w.heap.size, 0, none⟩ = some v := (blk_cell q1.out 0).trans rfl
      have z1 := blk_frozen q1.out 0
      obtain ⟨A, c, rfl⟩ := Kd.R_slice hq2
      have HQ2 := Aside0.mk hq2
      clear hD hq2
      gi_wp2
      have r1 := putObj_blk (D := D) (o' := .deferred none) (blk_put q1.out 0 (.slice A (notesL L).length c) rfl) (by omega)
      refine leavesM1 (v := .tuple #[.slice A (notesL L).length c, .int .i64 0]) ((Below.heap_setCell _ ⟨w.heap.size, 0, none⟩ _ D (by show D ≠ w.heap.size; omega)).trans HD.out) ?_ ?_
      · have c1 := (blk_cell r1 0).trans rfl
        simp [results, Tryd.results14, go_sem, c1]
      · refine ⟨_, rfl, ?_, below_putObj (bl.out.setCell (p := ⟨w.heap.size, 0, none⟩) (Nat.le_refl _) _) (by omega)⟩
        have h1 := Kd.R_set (d := k58) HQ2.out q1.out (by decide) 0 (.slice A (notesL L).length c)
        have h4 := R_st2 h1 (St.putObj (ex := fun _ => False) (b := D) (.deferred none) ((Below.heap_setCell _ ⟨w.heap.size, 0, none⟩ _ D (by show D ≠ w.heap.size; omega)).trans HD.out) rfl (Nat.le_refl _)) (fun _ h => h.elim)
        exact Kd.R_lower h4 (by omega)
  · rw [if_pos (show (ca, ce).2 ≠ 0 from hce)] at hT
    subst hT
    have hc1 : (ce == 0) = false := beq_false_of_ne hce
    have hc2 : (ce != 0) = true := bne_iff_ne.2 hce
    clear hch
    gi_wp2_with (first | (gi_at_call 40; refine CallsIn.mono (callsIn_wide.2 (hchk _)) ?_; rintro e w1 ⟨rfl, hb1⟩; obtain ⟨hz1, Q1', B1'⟩ := box1 hb1; have Q1 := Aside0.mk Q1'; have B1 := Aside0.mk B1'; clear Q1' B1' hb1; have q1 : w1.cell? ⟨w.heap.size, 0, none⟩ = some (.slice none 0 0) := (blk_cell Q1.out 0).trans rfl; have f1 := blk_frozen Q1.out 0))
    have r1 := blk_put Q1.out 0 (.slice none 0 0) rfl
    refine leavesM0 (v := .tuple #[.slice none 0 0, .int .i64 ce]) ?_ ?_
    · have c1 := (blk_cell r1 0).trans rfl
      simp [results, Tryd.results14, go_sem, c1]
    · exact ⟨_, rfl, Kd.R_nil _ _ _ _ _, B1.out.setCell (p := ⟨w.heap.size, 0, none⟩) (Nat.le_refl _) _⟩
end Go.Proofs.YtebidpcmcekbgaaDoor.P
