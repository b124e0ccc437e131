/- What the claim's law needs, many texts in one (Xn Xo P9 Xu). No conditions of its own. -/
import Derived.Test.YtggfcmondffodaaDoorZb9
import Derived.Deep.RegionWith
import Derived.BigCall
import Derived.Test.YtggfcmondffodaaDoorZb2
import Derived.Test.YtggfcmondffodaaDoorZb3
import Derived.Test.YtggfcmondffodaaDoorZb4
set_option linter.unusedVariables false
set_option linter.unusedSimpArgs false
namespace Go.Proofs.YtggfcmondffodaaDoor.P
open Go.RowKit Go.Shelf Go.Maps Go.Proofs.YtggfcmondffodaaDoorW.PrintWords Go.Proofs.YtggfcmondffodaaDoorW.PrintLast Go.Proofs.YtggfcmondffodaaDoorW.PrintMore
set_option linter.unusedVariables false
set_option linter.unusedSimpArgs false
abbrev Sp := S48
/-- Splices that stand in order, from a place on, within so many bytes. -/
def OrdS (n : Nat) : List Sp → Int → Prop
  | [], a => 0 ≤ a ∧ a ≤ n
  | x :: r, a => 0 ≤ a ∧ a ≤ x.f0 ∧ x.f0 ≤ x.f1 ∧ x.f1 ≤ n ∧ OrdS n r x.f1
/-- The bytes behind a place, after splices. -/
def splB (s : ByteArray) : List Sp → Int → List UInt8
  | [], a => (s.extract a.toNat s.size).data.toList
  | x :: r, a => (s.extract a.toNat x.f0.toNat).data.toList ++ (x.f2.data.toList ++ splB s r x.f1)
def splM (s : ByteArray) (l : List Sp) : ByteArray := ba (splB s l 0)
theorem OrdS.range {n : Nat} : ∀ {l : List Sp} {a : Int}, OrdS n l a → 0 ≤ a ∧ a ≤ n
  | [], _, h => h
  | x :: r, _, h => ⟨h.1, by have := h.2; omega⟩
theorem drop_rd (l : List Sp) (i : Nat) (h : i < l.length) : l.drop i = rd_T48 l (i : Int) :: l.drop (i + 1) := by
  rw [List.drop_eq_getElem_cons h]
  congr 1
  unfold rd_T48
  simp [List.getD, List.getElem?_eq_getElem h]
theorem ba_data (l : List UInt8) : (ba l).data.toList = l := rfl
theorem app_ba (s t : ByteArray) : s ++ t = ba (s.data.toList ++ t.data.toList) := by
  apply ba_ext
  rw [ba_data]
  simp
theorem size_len (s : ByteArray) : s.size = s.data.toList.length := by rw [data_length]
set_option maxRecDepth 8000 in
set_option maxHeartbeats 4000000 in
theorem spliced_any (s : ByteArray) (A : Option Addr) (c : Nat) (l : List Sp) (w : World) (hr : Kd.C k48 w A l.length l) (hs : s.size ≤ 1000000000) (hll : l.length ≤ 1000000000) (ho : OrdS s.size l 0) (hb : (splB s l 0).length ≤ 1000000000) :
    Calls Tryd.prog 51 #[.string s, .slice A l.length c] w fun e w' => e = .returned (.string (splM s l)) ∧ Below w.heap.size w w' := by
  have HR := Aside0.mk hr
  have HO := Aside0.mk ho
  obtain ⟨RES, hRES⟩ : ∃ R, splB s l 0 = R := ⟨_, rfl⟩
  rw [hRES] at hb
  unfold splM
  rw [hRES]
  have HS := Aside0.mk hRES
  clear hr ho hRES
  have h0 := Aside0.mk (show Lib.IsBuilderF 85 5 w.heap.size w.heap.size (Lib.byteCells []) (w.alloc (.cells #[.pointer none, .slice none 0 0] 85)) from Lib.IsBuilderF.of (Lib.fresh_isBuilder 85 5 w))
  have b0 := Aside0.mk ((Below.refl _ w).alloc (Nat.le_refl _) (.cells #[.pointer none, .slice none 0 0] 85))
  go_enter Tryd.func51, Tryd.ntmps51
  go_wp2
  go_loopg [6, 11] l.length (fun gg s6 s11 wr => ∃ (i : Nat) (a : Int) (acc : List UInt8), s6 = .int .i64 a ∧ s11 = .int .i64 i ∧ i ≤ l.length ∧ l.length - i ≤ gg ∧ Aside0 (OrdS s.size (l.drop i) a) ∧ Aside0 (acc ++ splB s (l.drop i) a = RES) ∧ Aside0 (Lib.IsBuilderF 85 5 w.heap.size w.heap.size (Lib.byteCells acc) wr) ∧ Aside0 (Below w.heap.size w wr) ∧ w.heap.size + 1 ≤ wr.heap.size)
  case atStart => exact ⟨0, 0, [], rfl, rfl, Nat.zero_le _, by omega, HO, ⟨HS.out⟩, h0, b0, by simp⟩
  case round =>
    obtain ⟨i, a, acc, rfl, rfl, hi, hg, HOi, HA, HBu, HB, hsz⟩ := hrel
    obtain ⟨ha0, ha1⟩ := HOi.out.range
    by_cases hlt : i < l.length
    · have hltz : (i : Int) < (l.length : Int) := by omega
      obtain ⟨ad, e0, x0, x1, x2⟩ := at_T48 HR.out (i : Int) (by omega) hltz
      have hO2 := HOi.out
      have hA2 := HA.out
      rw [drop_rd l i hlt] at hO2 hA2
      obtain ⟨o1, o2, o3, o4, o5⟩ := hO2
      rw [Int.toNat_natCast] at x0 x1 x2
      generalize rd_T48 l (i : Int) = y at *
      obtain ⟨yf, yt, yx⟩ := y
      simp only at o2 o3 o4
      replace x0 := (HB.out.cell (World.block_lt_of_cell? w _ x0)).trans x0
      replace x1 := (HB.out.cell (World.block_lt_of_cell? w _ x1)).trans x1
      replace x2 := (HB.out.cell (World.block_lt_of_cell? w _ x2)).trans x2
      have hA3 := Aside0.mk (show (acc ++ (s.extract a.toNat yf.toNat ++ yx).data.toList) ++ splB s (l.drop (i + 1)) yt = RES by
        rw [app_ba, ba_data, ← hA2, splB, List.append_assoc, List.append_assoc])
      have hal : (acc ++ (s.extract a.toNat yf.toNat ++ yx).data.toList).length ≤ 1000000000 := by
        have := congrArg List.length hA3.out
        rw [List.length_append] at this
        omega
      have O5 := Aside0.mk o5
      have hf1 : yf ≤ (s.size : Int) := by omega
      have hwl : (acc ++ (s.extract a.toNat yf.toNat ++ yx).data.toList).length = acc.length + (s.extract a.toNat yf.toNat ++ yx).size := by rw [List.length_append, ← size_len]
      have hcat : (s.extract a.toNat yf.toNat).size + yx.size ≤ 9223372036854775807 := by
        rw [app_ba] at hal
        rw [ba_data, List.length_append, List.length_append, ← size_len, ← size_len] at hal
        omega
      have hcatr : ∀ W : World, (Op.stringOp .add (s.extract a.toNat yf.toNat) yx).run Tryd.prog W = .ok (.string (s.extract a.toNat yf.toNat ++ yx)) W := fun W => run_string_add_sum W _ _ hcat
      subst e0
      clear hA2 o5
      go_wp2
      obtain ⟨W2, hW2⟩ : ∃ W2, W2 = wr.alloc (.cells #[.int .i64 yf, .int .i64 yt, .string yx] 48) := ⟨_, rfl⟩
      rw [← hW2]
      have HB2 := Aside0.mk (show Below w.heap.size w W2 by rw [hW2]; exact HB.out.alloc (by omega) _)
      have hBA := Aside0.mk (show Lib.IsBuilderF 85 5 w.heap.size w.heap.size (Lib.byteCells acc) W2.drew by
        rw [hW2]
        rcases HBu.out with h | h
        · exact .inl ((h.alloc _).drew)
        · exact .inr ((h.alloc _).drew))
      have HK := Aside0.mk (show W2.heap[wr.heap.size]? = some (.cells #[.int .i64 yf, .int .i64 yt, .string yx] 48 (0, 0)) by rw [hW2]; exact heap_alloc_new wr _)
      have hsz2 : W2.heap.size = wr.heap.size + 1 := by rw [hW2]; simp
      have k0 : W2.cell? ⟨wr.heap.size, 0, none⟩ = some (.int .i64 yf) := (blk_cell HK.out 0).trans rfl
      have k1 : W2.cell? ⟨wr.heap.size, 1, none⟩ = some (.int .i64 yt) := (blk_cell HK.out 1).trans rfl
      have k2 : W2.cell? ⟨wr.heap.size, 2, none⟩ = some (.string yx) := (blk_cell HK.out 2).trans rfl
      clear hW2
      go_still_tail 8, (by kernel_rfl)
      change wpList _ _ _ _ _ W2.drew
      go_wp2_with (go_at_call 67; refine (Tryd.Builder_WriteString_k w.heap.size w.heap.size _ (s.extract a.toNat yf.toNat ++ yx) _ hBA.out (by rw [Lib.byteCells_length]; omega) (show w.heap.size ≤ W2.heap.size by omega)).mono ?_; rintro e w3 ⟨rfl, hb3, bb3, ok3⟩; have HB3 := Aside0.mk hb3; have HBB3 := Aside0.mk bb3; have HOK := Aside0.mk ok3; have HK3 := Aside0.mk (ok3 _ _ (blk_drew HK.out) (by simp; omega) (by intro c' fz e; cases e)); have k30 : w3.cell? ⟨wr.heap.size, 1, none⟩ = some (.int .i64 yt) := (blk_cell HK3.out 1).trans rfl; clear hb3 bb3 ok3)
      have hs3 := HBB3.out.size
      go_roundg (l.length - (i + 1))
      case measure => omega
      case rel => exact ⟨i + 1, yt, acc ++ (s.extract a.toNat yf.toNat ++ yx).data.toList, rfl, by go_num, by omega, by omega, O5, hA3, ⟨by rw [Lib.byteCells_append]; exact .inr HB3.out⟩, ⟨HB2.out.drew.trans HBB3.out⟩, by have : W2.drew.heap.size = W2.heap.size := rfl; omega⟩
    · have hlt2 : decide ((i : Int) < (l.length : Int)) = false := decide_eq_false (by omega)
      have hlt3 : decide (i < l.length) = false := decide_eq_false hlt
      have hA2 := HA.out
      rw [List.drop_eq_nil_of_le (by omega), splB] at hA2
      have HA2 := Aside0.mk hA2
      have hf1 : a ≤ (s.size : Int) := by omega
      have hBD := Aside0.mk (show Lib.IsBuilderF 85 5 w.heap.size w.heap.size (Lib.byteCells acc) wr.drew by
        rcases HBu.out with h | h
        · exact .inl h.drew
        · exact .inr h.drew)
      have hcat : (⟨acc.toArray⟩ : ByteArray).size + (s.extract a.toNat s.size).size ≤ 9223372036854775807 := by
        have h1 := congrArg List.length hA2
        rw [List.length_append, ← size_len] at h1
        have h2 : (⟨acc.toArray⟩ : ByteArray).size = acc.length := by rw [size_len]
        omega
      have hcatr : ∀ W : World, (Op.stringOp .add ⟨acc.toArray⟩ (s.extract a.toNat s.size)).run Tryd.prog W = .ok (.string (⟨acc.toArray⟩ ++ (s.extract a.toNat s.size))) W := fun W => run_string_add_sum W _ _ hcat
      have HFIN := Aside0.mk (show (⟨acc.toArray⟩ : ByteArray) ++ s.extract a.toNat s.size = ba RES by rw [app_ba]; exact congrArg ba hA2)
      clear hA2
      go_wp2
      go_region_with (go_at_call 69; refine (Tryd.Builder_String_any_k w.heap.size w.heap.size acc _ hBD.out (show w.heap.size ≤ wr.drew.heap.size from (by have : wr.drew.heap.size = wr.heap.size := rfl; omega))).mono ?_; rintro e w3 ⟨rfl, hb3, bb3, ok3⟩; have HBB3 := Aside0.mk bb3; clear hb3 bb3 ok3)
      all_goals (go_wp2; go_ret; exact ⟨by rw [HFIN.out]; rfl, HB.out.drew.trans HBB3.out⟩)
theorem runRight_aux (a b : ByteArray) : (a.toList == b.toList) = decide (a = b) := Bl a b
/-- Is a token right as it stands alone? -/
def rightB (k : Int) (t : ByteArray) : Bool := decide ((firstM kwM t).2 = 0) && (decide ((firstM kwM t).1.1 = k) && decide ((firstM kwM t).1.2 = t))
set_option maxRecDepth 8000 in
set_option maxHeartbeats 4000000 in
theorem isRight_any (k : Int) (t : ByteArray) (a : Int) (w : World) (hg : Gl w) (hs : t.size ≤ 140737488351232) :
    Calls Tryd.prog 83 #[.agg #[.int .u8 k, .string t, .int .i64 a]] w fun e w' => e = .returned (.bool (rightB k t)) ∧ Below w.heap.size w w' := by
  have b0 := Aside0.mk ((Below.refl _ w).alloc (Nat.le_refl _) (.cells #[.int .u8 k, .string t, .int .i64 a] 35))
  have hF := first_any t (w.alloc (.cells #[.int .u8 k, .string t, .int .i64 a] 35)) (hg.mono b0.out) hs
  unfold rightB
  generalize firstM kwM t = F at *
  obtain ⟨⟨fk, ft⟩, fe⟩ := F
  simp only at hF ⊢
  have hbl := runRight_aux ft t
  generalize hq : decide (ft = t) = qb at *
  clear hg
  go_enter Tryd.func83, Tryd.ntmps83
  go_wp2_with (go_at_call 45; refine hF.mono ?_; rintro e w3 ⟨rfl, hb3⟩; have HB3 := Aside0.mk hb3; have HK3 := Aside0.mk ((hb3.block w.heap.size (by simp)).trans (heap_alloc_new w _)); have hn3 : w.heap.size ≠ w3.heap.size := (by have := hb3.size; simp at this; omega); have k0 : w3.cell? ⟨w.heap.size, 0, none⟩ = some (.int .u8 k) := (blk_cell HK3.out 0).trans rfl; have k1 : w3.cell? ⟨w.heap.size, 1, none⟩ = some (.string t) := (blk_cell HK3.out 1).trans rfl; have ka0 : ∀ o, (w3.alloc o).cell? ⟨w.heap.size, 0, none⟩ = some (.int .u8 k) := (fun o => (blk_cell (blk_alloc HK3.out o) 0).trans rfl); have ka1 : ∀ o, (w3.alloc o).cell? ⟨w.heap.size, 1, none⟩ = some (.string t) := (fun o => (blk_cell (blk_alloc HK3.out o) 1).trans rfl); clear hb3)
  all_goals (go_ret; refine ⟨by simp_all, ?_⟩; exact b0.out.trans ((HB3.out.mono (by simp)).alloc (by have := HB3.out.size; simp at this; omega) _))
def nameB (t : ByteArray) : Bool := rightB 1 t
theorem isName_any (t : ByteArray) (w : World) (hg : Gl w) (hs : t.size ≤ 140737488351232) :
    Calls Tryd.prog 50 #[.string t] w fun e w' => e = .returned (.bool (nameB t)) ∧ Below w.heap.size w w' := by
  have hR := isRight_any 1 t 0 w hg hs
  unfold nameB
  generalize rightB 1 t = b at *
  go_enter Tryd.func50, Tryd.ntmps50
  go_wp2_with (go_at_call 83; refine hR.mono ?_; rintro e w3 ⟨rfl, hb3⟩)
  go_ret
  exact ⟨rfl, hb3⟩
end Go.Proofs.YtggfcmondffodaaDoor.P
namespace Go.Proofs.YtggfcmondffodaaDoor.P
open Go.RowKit Go.Proofs.YtggfcmondffodaaDoorW.PrintWords
set_option linter.unusedVariables false
set_option linter.unusedSimpArgs false
/-- Tokens that stand in order, from a place on, within so many bytes. -/
def TOrd (n : Nat) : List Tk → Int → Prop
  | [], a => a ≤ n
  | x :: r, a => a ≤ x.f2 ∧ x.f2 + (x.f1.size : Int) ≤ n ∧ TOrd n r (x.f2 + (x.f1.size : Int))
theorem TOrd.le {n : Nat} : ∀ {l : List Tk} {a b : Int}, TOrd n l a → b ≤ a → TOrd n l b
  | [], a, b, h, hb => Int.le_trans hb h
  | x :: r, a, b, h, hb => ⟨Int.le_trans hb h.1, h.2⟩
theorem goT_ord (kw : ByteArray → Bool) (s : ByteArray) : ∀ (d i : Nat) (l l' : List Tk), s.size - i ≤ d → i ≤ s.size → goT kw s (pcsA s (lenT kw s) i) l = (l', 0, 0) → ∃ r, l' = l ++ r ∧ TOrd s.size r (i : Int) := by
  intro d
  induction d with
  | zero =>
    intro i l l' hd hi h
    rw [pcsA_end s _ (lenT_pos kw s) i (by omega)] at h
    exact ⟨[], by rw [List.append_nil]; exact (congrArg Prod.fst h).symm, by show (i : Int) ≤ s.size; omega⟩
  | succ d ih =>
    intro i l l' hd hi h
    by_cases hlt : i < s.size
    · rw [pcsA_step s _ (lenT_pos kw s) i hlt] at h
      by_cases c1 : spB (bt s (i : Int)) = true
      · rw [if_pos c1] at h
        obtain ⟨r, h1, h2⟩ := ih (i + 1) l l' (by omega) (by omega) h
        exact ⟨r, h1, h2.le (by omega)⟩
      · rw [if_neg c1] at h
        by_cases c2 : bt s (i : Int) = 126
        · have hp := noteL_pos s i hlt c2
          have hle : i + noteL s i ≤ s.size := ll_le s s.size i hi
          have hz := noteT_size s i hi
          rw [if_pos c2, goT_cons] at h
          have e : stepT kw s l (i, noteT s i) = (l, 0, 0) := by unfold stepT; rw [if_pos (show (noteT s i).size ≠ 0 by omega)]
          rw [e, if_pos rfl] at h
          obtain ⟨r, h1, h2⟩ := ih (i + noteL s i) l l' (by omega) (by omega) h
          exact ⟨r, h1, h2.le (by omega)⟩
        · rw [if_neg c2, goT_cons] at h
          have hst : stepT kw s l (i, ByteArray.empty) = if (firstM kw (s.extract i s.size)).2 ≠ 0 then ([], (i : Int), (firstM kw (s.extract i s.size)).2) else if l.length = 900 then ([], (i : Int), 5) else (l ++ [⟨(firstM kw (s.extract i s.size)).1.1, (firstM kw (s.extract i s.size)).1.2, (i : Int)⟩], 0, 0) := by
            unfold stepT
            rw [if_neg (show ¬ (ByteArray.empty.size ≠ 0) by decide)]
          rw [hst] at h
          by_cases c3 : (firstM kw (s.extract i s.size)).2 ≠ 0
          · rw [if_pos c3, if_neg c3] at h
            exact absurd (congrArg (fun y => y.2.2) h) c3
          · rw [if_neg c3] at h
            by_cases c4 : l.length = 900
            · rw [if_pos c4, if_neg (show ¬ (5 : Int) = 0 by decide)] at h
              exact absurd (show (5 : Int) = 0 from congrArg (fun y => y.2.2) h) (by decide)
            · rw [if_neg c4, if_pos rfl] at h
              have hz : (firstM kw (s.extract i s.size)).2 = 0 := by simpa using c3
              have hsz := firstM_size kw _ hz
              rw [size_ex, Nat.min_self] at hsz
              have hlen : lenT kw s i = (firstM kw (s.extract i s.size)).1.2.size := by unfold lenT; rw [if_pos hz]
              rw [hlen] at h
              obtain ⟨r, h1, h2⟩ := ih _ _ l' (by omega) (by omega) h
              refine ⟨_ :: r, by rw [h1, List.append_assoc]; rfl, ?_⟩
              exact ⟨Int.le_refl _, by simp only; omega, by
                have : ((i + (firstM kw (s.extract i s.size)).1.2.size : Nat) : Int) = (i : Int) + ((firstM kw (s.extract i s.size)).1.2.size : Int) := by omega
                rw [this] at h2; exact h2⟩
    · rw [pcsA_end s _ (lenT_pos kw s) i (by omega)] at h
      exact ⟨[], by rw [List.append_nil]; exact (congrArg Prod.fst h).symm, by show (i : Int) ≤ s.size; omega⟩
theorem toks_ord (s : ByteArray) (h : (toksM kwM s).2.2 = 0) : TOrd s.size (toksM kwM s).1 0 ∧ (toksM kwM s).1.length ≤ 900 ∧ s.size ≤ 2500 := by
  unfold toksM at h ⊢
  by_cases c : (chkT s).2 = 0
  · rw [if_neg (by simpa using c)] at h ⊢
    have hl := goT_len kwM s (pcsA s (lenT kwM s) 0) [] (by decide)
    have hs : s.size ≤ 2500 := by
      rw [chkT_eq] at c
      by_cases c2 : 2500 < s.size
      · rw [if_pos c2] at c; exact absurd (show (5 : Int) = 0 from c) (by decide)
      · omega
    refine ⟨?_, hl, hs⟩
    generalize hg : goT kwM s (pcsA s (lenT kwM s) 0) [] = G at *
    obtain ⟨g1, g2, g3⟩ := G
    have h3 : g3 = 0 := h
    subst h3
    have hp : g2 = 0 := by
      have : ∀ (L : List (Nat × ByteArray)) (l l' : List Tk) (p : Int), goT kwM s L l = (l', p, 0) → p = 0 := by
        intro L
        induction L with
        | nil => intro l l' p h; exact (congrArg (fun y => y.2.1) h).symm
        | cons x L ih =>
          intro l l' p h
          rw [goT_cons] at h
          by_cases c : (stepT kwM s l x).2.2 = 0
          · rw [if_pos c] at h; exact ih _ _ _ h
          · rw [if_neg c] at h; exact absurd (congrArg (fun y => y.2.2) h) c
      exact this _ _ _ _ hg
    subst hp
    obtain ⟨r, h1, h2⟩ := goT_ord kwM s s.size 0 [] g1 (by omega) (by omega) hg
    rw [List.nil_append] at h1
    subst h1
    exact h2
  · rw [if_pos c] at h; exact absurd h c
/-- The splices of a renaming. -/
def renS (old name : ByteArray) (l : List Tk) : List Sp := (l.filter fun t => decide (t.f1 = old)).map fun t => ⟨t.f2, t.f2 + (old.size : Int), name⟩
theorem renS_ord (n : Nat) (old name : ByteArray) : ∀ (l : List Tk) (a b : Int), TOrd n l a → 0 ≤ b → b ≤ a → OrdS n (renS old name l) b
  | [], a, b, h, h0, hb => ⟨h0, Int.le_trans hb h⟩
  | x :: r, a, b, h, h0, hb => by
    obtain ⟨h1, h2, h3⟩ := h
    unfold renS
    by_cases c : x.f1 = old
    · rw [List.filter_cons_of_pos (by exact decide_eq_true c), List.map_cons]
      have := renS_ord n old name r _ (x.f2 + (old.size : Int)) h3 (by omega) (by rw [← c]; exact Int.le_refl _)
      exact ⟨h0, by show b ≤ x.f2; omega, by show x.f2 ≤ x.f2 + (old.size : Int); omega, by show x.f2 + (old.size : Int) ≤ n; rw [← c]; exact h2, this⟩
    · rw [List.filter_cons_of_neg (by simpa using c)]
      exact renS_ord n old name r _ b h3 h0 (by omega)
theorem renS_len (old name : ByteArray) (l : List Tk) : (renS old name l).length ≤ l.length := by
  unfold renS
  rw [List.length_map]
  exact List.length_filter_le _ _
theorem splB_len (s : ByteArray) (m : Nat) : ∀ (l : List Sp) (a : Int), (∀ x ∈ l, x.f2.size ≤ m) → OrdS s.size l a → (splB s l a).length + a.toNat ≤ s.size + l.length * m
  | [], a, _, h => by
    unfold splB
    rw [← size_len, size_ex]
    have := h.1; have := h.2
    simp only [List.length_nil]
    omega
  | x :: r, a, hm, h => by
    obtain ⟨h1, h2, h3, h4, h5⟩ := h
    have ih := splB_len s m r x.f1 (fun y hy => hm y (List.mem_cons_of_mem _ hy)) h5
    have hx := hm x List.mem_cons_self
    unfold splB
    rw [List.length_append, List.length_append, ← size_len, ← size_len, size_ex, List.length_cons, Nat.succ_mul]
    omega
theorem nameB_size (t : ByteArray) (h : nameB t = true) : t.size ≤ 12 := by
  unfold nameB rightB at h
  simp only [Bool.and_eq_true, decide_eq_true_eq] at h
  obtain ⟨h0, h1, h2⟩ := h
  unfold firstM at h0 h1 h2
  by_cases c : wlen t = 0
  · rw [if_pos c] at h1
    cases hs : signM t with
    | none => rw [hs] at h1; exact absurd (show (0 : Int) = 1 from h1) (by decide)
    | some z => rw [hs] at h1; exact absurd (show (4 : Int) = 1 from h1) (by decide)
  · rw [if_neg c] at h0 h1 h2
    by_cases c2 : dgB (bt t 0) = true
    · rw [if_pos c2] at h1; exact absurd (show (2 : Int) = 1 from h1) (by decide)
    · rw [if_neg c2] at h0 h1 h2
      by_cases c3 : smB (bt t 0) = false
      · rw [if_pos c3] at h1; exact absurd (show (0 : Int) = 1 from h1) (by decide)
      · rw [if_neg c3] at h0 h1 h2
        by_cases c4 : kwM (t.extract 0 (wlen t)) = true
        · rw [if_pos c4] at h1; exact absurd (show (3 : Int) = 1 from h1) (by decide)
        · rw [if_neg c4] at h0 h1 h2
          by_cases c5 : 12 < (t.extract 0 (wlen t)).size
          · rw [if_pos c5] at h1; exact absurd (show (0 : Int) = 1 from h1) (by decide)
          · rw [if_neg c5] at h2
            have h3 : t.extract 0 (wlen t) = t := h2
            rw [h3] at c5; omega
/-- lex.Rename. -/
def renM (s old name : ByteArray) : ByteArray × Int :=
  if (toksM kwM s).2.2 ≠ 0 then (ByteArray.empty, (toksM kwM s).2.2)
  else if nameB old = false ∨ nameB name = false then (ByteArray.empty, 2)
  else if renS old name (toksM kwM s).1 = [] then (ByteArray.empty, 7)
  else if ((toksM kwM s).1.any fun t => decide (t.f1 = name)) = true then (ByteArray.empty, 6)
  else if 2500 < (splM s (renS old name (toksM kwM s).1)).size then (ByteArray.empty, 5)
  else (splM s (renS old name (toksM kwM s).1), 0)
end Go.Proofs.YtggfcmondffodaaDoor.P
namespace Go.Proofs.YtggfcmondffodaaDoor.P
open Go.RowKit Go.Proofs.YtggfcmondffodaaDoorW.PrintWords Go.Proofs.YtggfcmondffodaaDoorW.PrintLast Go.Proofs.YtggfcmondffodaaDoorW.PrintMore
attribute [local go_sem] min2_int min_two -- for this text's walks alone
set_option linter.unusedVariables false
set_option linter.unusedSimpArgs false

/-! ### riposteref01_Rename: function 22 -/
mutual
def riposteref01_Rename.j0 : Nat → ByteArray → ByteArray → ByteArray → List (S35) → Bool → Option (ByteArray × Int)
  | 0, _, _, _, _, _ => none
  | k + 1, x0, x1, x2, x8, x32 => if x32 = true then (some ((⟨#[]⟩ : ByteArray), 2)) else (riposteref01_Rename.l0 k x0 x1 x2 x8 (⟨#[]⟩ : ByteArray) 0 0 false 0)
def riposteref01_Rename.l0 : Nat → ByteArray → ByteArray → ByteArray → List (S35) → ByteArray → Int → Int → Bool → Int → Option (ByteArray × Int)
  | 0, _, _, _, _, _, _, _, _, _ => none
  | k + 1, x0, x1, x2, x8, x11, x12, x13, x14, x15 => if x15 < (x8.length : Int) then (if 0 ≤ x15 then (if ((rd_T35 x8 x15).f0) = 1 then (riposteref01_Rename.j2 k x0 x1 x2 x8 x11 x12 x13 x14 x15 (((rd_T35 x8 x15).f1).toList == x2.toList)) else (riposteref01_Rename.j2 k x0 x1 x2 x8 x11 x12 x13 x14 x15 false)) else (none)) else (if 0 ≤ x12 then (if x12 ≤ (x0.size : Int) then (if x11.size + (x0.extract (x12 : Int).toNat x0.size).size ≤ 9223372036854775807 then (if x13 = 0 then (some ((⟨#[]⟩ : ByteArray), 7)) else (if x14 = true then (some ((⟨#[]⟩ : ByteArray), 6)) else (if ((x11 ++ (x0.extract (x12 : Int).toNat x0.size)).size : Int) > 2500 then (some ((⟨#[]⟩ : ByteArray), 5)) else (some (x11 ++ (x0.extract (x12 : Int).toNat x0.size), 0))))) else (none)) else (none)) else (none))
def riposteref01_Rename.j2 : Nat → ByteArray → ByteArray → ByteArray → List (S35) → ByteArray → Int → Int → Bool → Int → Bool → Option (ByteArray × Int)
  | 0, _, _, _, _, _, _, _, _, _, _ => none
  | k + 1, x0, x1, x2, x8, x11, x12, x13, x14, x15, x53 => if x53 = true then (if 0 ≤ x15 then (if x15 < (x8.length : Int) then (if ((rd_T35 x8 x15).f0) = 1 then (if ((rd_T35 x8 x15).f1).toList = x1.toList then (if 0 ≤ x12 then (if x12 ≤ ((rd_T35 x8 x15).f2) then (if ((rd_T35 x8 x15).f2) ≤ (x0.size : Int) then (if (x0.extract (x12 : Int).toNat (((rd_T35 x8 x15).f2) : Int).toNat).size + x2.size ≤ 9223372036854775807 then (if x11.size + ((x0.extract (x12 : Int).toNat (((rd_T35 x8 x15).f2) : Int).toNat) ++ x2).size ≤ 9223372036854775807 then (riposteref01_Rename.l0 k x0 x1 x2 x8 (x11 ++ ((x0.extract (x12 : Int).toNat (((rd_T35 x8 x15).f2) : Int).toNat) ++ x2)) (wrap64 (((rd_T35 x8 x15).f2) + (x1.size : Int))) (wrap64 (x13 + 1)) true (wrap64 (x15 + 1))) else (none)) else (none)) else (none)) else (none)) else (none)) else (riposteref01_Rename.l0 k x0 x1 x2 x8 x11 x12 x13 true (wrap64 (x15 + 1)))) else (riposteref01_Rename.l0 k x0 x1 x2 x8 x11 x12 x13 true (wrap64 (x15 + 1)))) else (none)) else (none)) else (if 0 ≤ x15 then (if x15 < (x8.length : Int) then (if ((rd_T35 x8 x15).f0) = 1 then (if ((rd_T35 x8 x15).f1).toList = x1.toList then (if 0 ≤ x12 then (if x12 ≤ ((rd_T35 x8 x15).f2) then (if ((rd_T35 x8 x15).f2) ≤ (x0.size : Int) then (if (x0.extract (x12 : Int).toNat (((rd_T35 x8 x15).f2) : Int).toNat).size + x2.size ≤ 9223372036854775807 then (if x11.size + ((x0.extract (x12 : Int).toNat (((rd_T35 x8 x15).f2) : Int).toNat) ++ x2).size ≤ 9223372036854775807 then (riposteref01_Rename.l0 k x0 x1 x2 x8 (x11 ++ ((x0.extract (x12 : Int).toNat (((rd_T35 x8 x15).f2) : Int).toNat) ++ x2)) (wrap64 (((rd_T35 x8 x15).f2) + (x1.size : Int))) (wrap64 (x13 + 1)) x14 (wrap64 (x15 + 1))) else (none)) else (none)) else (none)) else (none)) else (none)) else (riposteref01_Rename.l0 k x0 x1 x2 x8 x11 x12 x13 x14 (wrap64 (x15 + 1)))) else (riposteref01_Rename.l0 k x0 x1 x2 x8 x11 x12 x13 x14 (wrap64 (x15 + 1)))) else (none)) else (none))
end
def riposteref01_Rename.f (k : Nat) (a0 : ByteArray) (a1 : ByteArray) (a2 : ByteArray) : Option (ByteArray × Int) := (riposteref01_Tokens.f k a0).bind fun bt200 => (if bt200.2.2 = 0 then ((riposteref01_IsName.f k a1).bind fun t205 => (if t205 = true then ((riposteref01_IsName.f k a2).bind fun t206 => (riposteref01_Rename.j0 k a0 a1 a2 bt200.1 (!t206))) else (riposteref01_Rename.j0 k a0 a1 a2 bt200.1 true))) else (some ((⟨#[]⟩ : ByteArray), bt200.2.2)))
set_option maxHeartbeats 8000000 in
set_option maxRecDepth 100000 in
theorem riposteref01_Rename.calls (k : Nat) (a0 : ByteArray) (a1 : ByteArray) (a2 : ByteArray) (r1 : ByteArray) (r2 : Int) (w : World) (h : riposteref01_Rename.f k a0 a1 a2 = some (r1, r2)) :
    Calls Tryd.prog 22 #[.string a0, .string a1, .string a2] w fun e w' => e = .returned (.tuple #[.string r1, .int .i64 r2]) ∧ Below w.heap.size w w' := by
  have HB := Aside0.mk (Below.refl w.heap.size w)
  have H : ((riposteref01_Tokens.f k a0).bind fun bt200 => (if bt200.2.2 = 0 then ((riposteref01_IsName.f k a1).bind fun t205 => (if t205 = true then ((riposteref01_IsName.f k a2).bind fun t206 => (riposteref01_Rename.j0 k a0 a1 a2 bt200.1 (!t206))) else (riposteref01_Rename.j0 k a0 a1 a2 bt200.1 true))) else (some ((⟨#[]⟩ : ByteArray), bt200.2.2)))) = some (r1, r2) := h
  clear h
  replace H := Option.bind_eq_some_iff.mp H
  obtain ⟨⟨t200, t201, t202⟩, A40, H⟩ := H
  replace H : (if t202 = 0 then ((riposteref01_IsName.f k a1).bind fun t205 => (if t205 = true then ((riposteref01_IsName.f k a2).bind fun t206 => (riposteref01_Rename.j0 k a0 a1 a2 t200 (!t206))) else (riposteref01_Rename.j0 k a0 a1 a2 t200 true))) else (some ((⟨#[]⟩ : ByteArray), t202))) = some (r1, r2) := H
  have A4 := Aside0.mk A40
  clear A40
  by_cases c5 : t202 = 0
  · rw [if_pos c5] at H
    have c5b0 : (t202 == 0) = true := beq_iff_eq.mpr c5
    have c5b1 : (t202 != 0) = false := bne_eq_false_iff_eq.mpr c5
    clear c5
    have HC6 := Aside0.mk H
    clear H
    go_enter Tryd.func22, Tryd.ntmps22
    go_upto_region 4 with (first | ((with_reducible refine gate_callee (f := 17) rfl ?_); refine goesL_ (some 18) rfl rfl Tryd.func17 (by kernel_rfl) rfl #[.string a0] rfl (by (try simp only [List.map_toArray, List.map_cons, List.map_nil]); first | done | rfl | (simp only [List.length_drop, List.length_take]; rfl)) ?_; (with_reducible refine (riposteref01_Tokens.calls k a0 t200 t201 t202 _ A4.out).mono ?_); rintro e w7 ⟨v203, rfl, ho0, hb⟩; refine ⟨_, rfl, ?_⟩; have n0_ := Aside0.mk (Kd.R_lower ho0 (below_size (by repeat (first | (with_reducible first | exact HB.out | apply below_alloc | apply pw_below_drewN | apply below_drew1) | exact HB.out)))); have n1_ := Aside0.mk (below_step (by repeat (first | (with_reducible first | exact HB.out | apply below_alloc | apply pw_below_drewN | apply below_drew1) | exact HB.out)) hb); clear HB; have HO204 := n0_; have HB := n1_; clear n0_ n1_; (try clear hb); (try clear hb2); (try clear hk); (try clear hi); (try clear ho0)))
    (try simp only [Act.put, List.setIfInBounds_toArray, List.set_cons_zero, List.set_cons_succ])
    go_cut [32] (fun v32 wc => ∃ (kq : Nat) (x32_5 : Bool), v32 = .bool x32_5 ∧ Aside0 (riposteref01_Rename.j0 kq a0 a1 a2 t200 x32_5 = some (r1, r2)) ∧ Aside0 (kq ≤ k) ∧ Aside0 (Kd.R k35 35 wc w.heap.size (fun _ => True) v203 t200) ∧ Aside0 (Below w.heap.size w wc))
    case first =>
      have H := HC6.out
      clear HC6
      replace H := Option.bind_eq_some_iff.mp H
      obtain ⟨t205, A80, H⟩ := H
      replace H : (if t205 = true then ((riposteref01_IsName.f k a2).bind fun t206 => (riposteref01_Rename.j0 k a0 a1 a2 t200 (!t206))) else (riposteref01_Rename.j0 k a0 a1 a2 t200 true)) = some (r1, r2) := H
      have A8 := Aside0.mk A80
      clear A80
      by_cases c9 : t205 = true
      · subst c9
        have H1 : ((riposteref01_IsName.f k a2).bind fun t206 => (riposteref01_Rename.j0 k a0 a1 a2 t200 (!t206))) = some (r1, r2) := by rw [if_pos rfl] at H; exact H
        clear H
        have H := H1
        clear H1
        replace H := Option.bind_eq_some_iff.mp H
        obtain ⟨t206, A100, H⟩ := H
        replace H : (riposteref01_Rename.j0 k a0 a1 a2 t200 (!t206)) = some (r1, r2) := H
        have A10 := Aside0.mk A100
        clear A100
        have H' := Aside0.mk H
        clear H
        go_wp2_with (first | ((with_reducible refine gate_callee (f := 52) rfl ?_); refine goesL_ (some 26) rfl rfl Tryd.func52 (by kernel_rfl) rfl #[.string a1] rfl (by (try simp only [List.map_toArray, List.map_cons, List.map_nil]); first | done | rfl | (simp only [List.length_drop, List.length_take]; rfl)) ?_; (with_reducible refine (riposteref01_IsName.calls k a1 true _ A8.out).mono ?_); rintro e w11 ⟨rfl, hb⟩; refine ⟨_, rfl, ?_⟩; have n0_ := Aside0.mk (Kd.R_below (by (with_reducible repeat (first | apply Kd.R_alloc | apply Kd.R_drewN | apply Kd.R_drew)); exact HO204.out) hb); have n1_ := Aside0.mk (below_step (by repeat (first | (with_reducible first | exact HB.out | apply below_alloc | apply pw_below_drewN | apply below_drew1) | exact HB.out)) hb); clear HO204; clear HB; have HO204 := n0_; have HB := n1_; clear n0_ n1_; (try clear hb); (try clear hb2); (try clear hk); (try clear hi)) | (go_at_call 52; (with_reducible refine (riposteref01_IsName.calls k a2 t206 _ A10.out).mono ?_); rintro e w12 ⟨rfl, hb⟩; have n0_ := Aside0.mk (Kd.R_below (by (with_reducible repeat (first | apply Kd.R_alloc | apply Kd.R_drewN | apply Kd.R_drew)); exact HO204.out) hb); have n1_ := Aside0.mk (below_step (by repeat (first | (with_reducible first | exact HB.out | apply below_alloc | apply pw_below_drewN | apply below_drew1) | exact HB.out)) hb); clear HO204; clear HB; have HO204 := n0_; have HB := n1_; clear n0_ n1_; (try clear hb); (try clear hb2); (try clear hk); (try clear hi)))
        go_meet
        case rel => exact ⟨_, (!t206), (by first | rfl | (simp; done) | (simp [*]; done)), H', ⟨by first | omega | exact Nat.le_refl _⟩, ⟨by (with_reducible repeat (first | apply Kd.R_alloc | apply Kd.R_drewN | apply Kd.R_drew)); exact HO204.out⟩, ⟨by repeat (first | (with_reducible first | exact HB.out | apply below_alloc | apply pw_below_drewN | apply below_drew1) | exact HB.out)⟩⟩
      · replace c9 := Bool.eq_false_iff.mpr c9
        subst c9
        have H1 : (riposteref01_Rename.j0 k a0 a1 a2 t200 true) = some (r1, r2) := by rw [if_neg (show ¬ (false = true) by decide)] at H; exact H
        clear H
        have H := H1
        clear H1
        have H' := Aside0.mk H
        clear H
        go_wp2_with (first | ((with_reducible refine gate_callee (f := 52) rfl ?_); refine goesL_ (some 26) rfl rfl Tryd.func52 (by kernel_rfl) rfl #[.string a1] rfl (by (try simp only [List.map_toArray, List.map_cons, List.map_nil]); first | done | rfl | (simp only [List.length_drop, List.length_take]; rfl)) ?_; (with_reducible refine (riposteref01_IsName.calls k a1 false _ A8.out).mono ?_); rintro e w13 ⟨rfl, hb⟩; refine ⟨_, rfl, ?_⟩; have n0_ := Aside0.mk (Kd.R_below (by (with_reducible repeat (first | apply Kd.R_alloc | apply Kd.R_drewN | apply Kd.R_drew)); exact HO204.out) hb); have n1_ := Aside0.mk (below_step (by repeat (first | (with_reducible first | exact HB.out | apply below_alloc | apply pw_below_drewN | apply below_drew1) | exact HB.out)) hb); clear HO204; clear HB; have HO204 := n0_; have HB := n1_; clear n0_ n1_; (try clear hb); (try clear hb2); (try clear hk); (try clear hi)))
        go_meet
        case rel => exact ⟨_, (true), (by first | rfl | (simp; done) | (simp [*]; done)), H', ⟨by first | omega | exact Nat.le_refl _⟩, ⟨by (with_reducible repeat (first | apply Kd.R_alloc | apply Kd.R_drewN | apply Kd.R_drew)); exact HO204.out⟩, ⟨by repeat (first | (with_reducible first | exact HB.out | apply below_alloc | apply pw_below_drewN | apply below_drew1) | exact HB.out)⟩⟩
    case rest =>
      clear HC6
      try clear c1
      try clear c2
      try clear p2
      try clear c5
      try clear c5b0
      try clear c5b1
      try clear c9
      obtain ⟨kq, x32_5, rfl, HA, HJ5, HO_8, HB⟩ := hcut
      cases kq with
      | zero => exact absurd HA.out (by simp [riposteref01_Rename.j0])
      | succ kj5 =>
        have H := HA.out
        clear HA
        simp only [riposteref01_Rename.j0] at H
        by_cases c14 : x32_5 = true
        · subst c14
          have H1 : (some ((⟨#[]⟩ : ByteArray), 2)) = some (r1, r2) := by rw [if_pos rfl] at H; exact H
          clear H
          have H := H1
          clear H1
          simp only [Option.some.injEq, Prod.mk.injEq] at H
          obtain ⟨rfl, rfl⟩ := H
          go_wp2
          go_ret2
          exact ⟨by first | rfl | (simp [errW_none, errW_some] <;> rfl) | (simp [*, errW_none, errW_some] <;> rfl), by repeat (first | (with_reducible first | exact HB.out | apply below_alloc | apply pw_below_drewN | apply below_drew1) | exact HB.out)⟩
        · replace c14 := Bool.eq_false_iff.mpr c14
          subst c14
          have H1 : (riposteref01_Rename.l0 kj5 a0 a1 a2 t200 (⟨#[]⟩ : ByteArray) 0 0 false 0) = some (r1, r2) := by rw [if_neg (show ¬ (false = true) by decide)] at H; exact H
          clear H
          have H := H1
          clear H1
          have H' := Aside0.mk H
          clear H
          go_wp2
          go_loopg [11, 12, 13, 14, 15] kj5 (fun kq v11 v12 v13 v14 v15 w' => ∃ (x11_2 : ByteArray) (x12_2 : Int) (x13_2 : Int) (x14_2 : Bool) (x15_2 : Int), v11 = .string x11_2 ∧ v12 = .int .i64 x12_2 ∧ v13 = .int .i64 x13_2 ∧ v14 = .bool x14_2 ∧ v15 = .int .i64 x15_2 ∧ Aside0 (riposteref01_Rename.l0 kq a0 a1 a2 t200 x11_2 x12_2 x13_2 x14_2 x15_2 = some (r1, r2)) ∧ Aside0 (kq ≤ kj5) ∧ Aside0 (Kd.R k35 35 w' w.heap.size (fun _ => True) v203 t200) ∧ Aside0 (Below w.heap.size w w'))
          case atStart => exact ⟨((⟨#[]⟩ : ByteArray)), (0), (0), (false), (0), (by first | rfl | (simp; done) | (simp [*]; done)), (by first | rfl | (simp; done) | (simp [*]; done)), (by first | rfl | (simp; done) | (simp [*]; done)), (by first | rfl | (simp; done) | (simp [*]; done)), (by first | rfl | (simp; done) | (simp [*]; done)), H', ⟨Nat.le_refl _⟩, ⟨by (with_reducible repeat (first | apply Kd.R_alloc | apply Kd.R_drewN | apply Kd.R_drew)); exact HO_8.out⟩, ⟨by repeat (first | (with_reducible first | exact HB.out | apply below_alloc | apply pw_below_drewN | apply below_drew1) | exact HB.out)⟩⟩
          case round =>
            clear H'
            try clear c1
            try clear c2
            try clear p2
            try clear c5
            try clear c5b0
            try clear c5b1
            try clear c9
            try clear c14
            try clear p2
            obtain ⟨x11_2, x12_2, x13_2, x14_2, x15_2, rfl, rfl, rfl, rfl, rfl, HA, HK2, HO_8, HB⟩ := hrel
            cases gk with
            | zero => exact absurd HA.out (by simp [riposteref01_Rename.l0])
            | succ k2 =>
              have H := HA.out
              clear HA
              simp only [riposteref01_Rename.l0] at H
              by_cases c15 : x15_2 < (t200.length : Int)
              · rw [if_pos c15] at H
                have c15b0 : decide (x15_2 < (t200.length : Int)) = true := decide_eq_true c15
                clear c15
                have HC16 := Aside0.mk H
                clear H
                obtain ⟨Ao17, co17, eo17⟩ := Kd.R_slice HO_8.out
                subst eo17
                go_upto_region 10 with (fail)
                go_cut [53] (fun v53 wc => ∃ (kq : Nat) (x53_15 : Bool), v53 = .bool x53_15 ∧ Aside0 (riposteref01_Rename.j2 kq a0 a1 a2 t200 x11_2 x12_2 x13_2 x14_2 x15_2 x53_15 = some (r1, r2)) ∧ Aside0 (kq ≤ k2) ∧ Aside0 (Kd.R k35 35 wc w.heap.size (fun _ => True) (.slice Ao17 t200.length co17) t200) ∧ Aside0 (Below w.heap.size w wc))
                case first =>
                  have H := HC16.out
                  clear HC16
                  by_cases c18 : 0 ≤ x15_2
                  · rw [if_pos c18] at H
                    have c18b0 : decide (0 ≤ x15_2) = true := decide_eq_true c18
                    clear c18
                    (first | rw [c18b0] | (simp only [i64_w, i32_w]; rw [c18b0]) | skip)
                    by_cases c19 : ((rd_T35 t200 x15_2).f0) = 1
                    · rw [if_pos c19] at H
                      have c19b0 : (((rd_T35 t200 x15_2).f0) == 1) = true := beq_iff_eq.mpr c19
                      have c19b1 : (((rd_T35 t200 x15_2).f0) != 1) = false := bne_eq_false_iff_eq.mpr c19
                      clear c19
                      have H' := Aside0.mk H
                      clear H
                      have p207 : 0 ≤ (x15_2 : Int) := of_decide_eq_true (by first | (with_reducible assumption) | assumption)
                      have q207 : x15_2 < (t200.length : Int) := of_decide_eq_true (by first | (with_reducible assumption) | assumption)
                      obtain ⟨ad207, e207, hx207_0, hx207_1, hx207_2⟩ := at_T35 (Kd.R_reads' HO_8.out).2.2 x15_2 p207 q207
                      cases e207
                      replace p207 := eq_true p207
                      replace q207 := eq_true q207
                      have p208 : 0 ≤ (x15_2 : Int) := of_decide_eq_true (by first | (with_reducible assumption) | assumption)
                      have q208 : x15_2 < (t200.length : Int) := of_decide_eq_true (by first | (with_reducible assumption) | assumption)
                      obtain ⟨ad208, e208, hx208_0, hx208_1, hx208_2⟩ := at_T35 (Kd.R_reads' HO_8.out).2.2 x15_2 p208 q208
                      obtain rfl : ad207 = ad208 := (by injection e208)
                      replace p208 := eq_true p208
                      replace q208 := eq_true q208
                      go_wp2
                      go_meet
                      case rel => exact ⟨_, ((((rd_T35 t200 x15_2).f1).toList == a2.toList)), (by first | rfl | (simp; done) | (simp [*]; done)), H', ⟨by have := HJ5.out; have := HK2.out; first | omega | exact Nat.le_refl _⟩, ⟨by (with_reducible repeat (first | apply Kd.R_alloc | apply Kd.R_drewN | apply Kd.R_drew)); exact HO_8.out⟩, ⟨by repeat (first | (with_reducible first | exact HB.out | apply below_alloc | apply pw_below_drewN | apply below_drew1) | exact HB.out)⟩⟩
                    · rw [if_neg c19] at H
                      have c19b0 : (((rd_T35 t200 x15_2).f0) == 1) = false := beq_eq_false_iff_ne.mpr c19
                      have c19b1 : (((rd_T35 t200 x15_2).f0) != 1) = true := bne_iff_ne.mpr c19
                      have H' := Aside0.mk H
                      clear H
                      have p207 : 0 ≤ (x15_2 : Int) := of_decide_eq_true (by first | (with_reducible assumption) | assumption)
                      have q207 : x15_2 < (t200.length : Int) := of_decide_eq_true (by first | (with_reducible assumption) | assumption)
                      obtain ⟨ad207, e207, hx207_0, hx207_1, hx207_2⟩ := at_T35 (Kd.R_reads' HO_8.out).2.2 x15_2 p207 q207
                      cases e207
                      replace p207 := eq_true p207
                      replace q207 := eq_true q207
                      go_wp2
                      go_meet
                      case rel => exact ⟨_, (false), (by first | rfl | (simp; done) | (simp [*]; done)), H', ⟨by have := HJ5.out; have := HK2.out; first | omega | exact Nat.le_refl _⟩, ⟨by (with_reducible repeat (first | apply Kd.R_alloc | apply Kd.R_drewN | apply Kd.R_drew)); exact HO_8.out⟩, ⟨by repeat (first | (with_reducible first | exact HB.out | apply below_alloc | apply pw_below_drewN | apply below_drew1) | exact HB.out)⟩⟩
                  · rw [if_neg c18] at H
                    exact absurd H (by simp)
                case rest =>
                  clear HC16
                  try clear c1
                  try clear c2
                  try clear p2
                  try clear q2
                  try clear hx2
                  try clear c5
                  try clear c5b0
                  try clear c5b1
                  try clear c9
                  try clear c14
                  try clear c15
                  try clear c15b0
                  try clear c17
                  try clear c18
                  try clear c18b0
                  try clear c19
                  try clear c19b0
                  try clear c19b1
                  try clear hx207_0
                  try clear hx207_1
                  try clear hx207_2
                  try clear hx208_0
                  try clear hx208_1
                  try clear hx208_2
                  try clear p2
                  try clear p207
                  try clear p208
                  try clear q207
                  try clear q208
                  obtain ⟨kq, x53_15, rfl, HA, HJ15, HO_8, HB⟩ := hcut
                  cases kq with
                  | zero => exact absurd HA.out (by simp [riposteref01_Rename.j2])
                  | succ kj15 =>
                    have H := HA.out
                    clear HA
                    simp only [riposteref01_Rename.j2] at H
                    by_cases c20 : x53_15 = true
                    · subst c20
                      have H1 : (if 0 ≤ x15_2 then (if x15_2 < (t200.length : Int) then (if ((rd_T35 t200 x15_2).f0) = 1 then (if ((rd_T35 t200 x15_2).f1).toList = a1.toList then (if 0 ≤ x12_2 then (if x12_2 ≤ ((rd_T35 t200 x15_2).f2) then (if ((rd_T35 t200 x15_2).f2) ≤ (a0.size : Int) then (if (a0.extract (x12_2 : Int).toNat (((rd_T35 t200 x15_2).f2) : Int).toNat).size + a2.size ≤ 9223372036854775807 then (if x11_2.size + ((a0.extract (x12_2 : Int).toNat (((rd_T35 t200 x15_2).f2) : Int).toNat) ++ a2).size ≤ 9223372036854775807 then (riposteref01_Rename.l0 kj15 a0 a1 a2 t200 (x11_2 ++ ((a0.extract (x12_2 : Int).toNat (((rd_T35 t200 x15_2).f2) : Int).toNat) ++ a2)) (wrap64 (((rd_T35 t200 x15_2).f2) + (a1.size : Int))) (wrap64 (x13_2 + 1)) true (wrap64 (x15_2 + 1))) else (none)) else (none)) else (none)) else (none)) else (none)) else (riposteref01_Rename.l0 kj15 a0 a1 a2 t200 x11_2 x12_2 x13_2 true (wrap64 (x15_2 + 1)))) else (riposteref01_Rename.l0 kj15 a0 a1 a2 t200 x11_2 x12_2 x13_2 true (wrap64 (x15_2 + 1)))) else (none)) else (none)) = some (r1, r2) := by rw [if_pos rfl] at H; exact H
                      clear H
                      have H := H1
                      clear H1
                      by_cases c21 : 0 ≤ x15_2
                      · rw [if_pos c21] at H
                        have c21b0 : decide (0 ≤ x15_2) = true := decide_eq_true c21
                        clear c21
                        by_cases c22 : x15_2 < (t200.length : Int)
                        · rw [if_pos c22] at H
                          have c22b0 : decide (x15_2 < (t200.length : Int)) = true := decide_eq_true c22
                          clear c22
                          by_cases c23 : ((rd_T35 t200 x15_2).f0) = 1
                          · rw [if_pos c23] at H
                            have c23b0 : (((rd_T35 t200 x15_2).f0) == 1) = true := beq_iff_eq.mpr c23
                            have c23b1 : (((rd_T35 t200 x15_2).f0) != 1) = false := bne_eq_false_iff_eq.mpr c23
                            clear c23
                            by_cases c24 : ((rd_T35 t200 x15_2).f1).toList = a1.toList
                            · rw [if_pos c24] at H
                              have c24b0 : (((rd_T35 t200 x15_2).f1).toList == a1.toList) = true := beq_iff_eq.mpr c24
                              have c24b1 : (((rd_T35 t200 x15_2).f1).toList != a1.toList) = false := bne_eq_false_iff_eq.mpr c24
                              clear c24
                              by_cases c25 : 0 ≤ x12_2
                              · rw [if_pos c25] at H
                                have c25b0 := eq_true c25
                                have c25b1 : decide (0 ≤ x12_2) = true := decide_eq_true c25
                                clear c25
                                by_cases c26 : x12_2 ≤ ((rd_T35 t200 x15_2).f2)
                                · rw [if_pos c26] at H
                                  have c26b0 := eq_true c26
                                  have c26b1 : decide (x12_2 ≤ ((rd_T35 t200 x15_2).f2)) = true := decide_eq_true c26
                                  clear c26
                                  by_cases c27 : ((rd_T35 t200 x15_2).f2) ≤ (a0.size : Int)
                                  · rw [if_pos c27] at H
                                    have c27b0 := eq_true c27
                                    have c27b1 : decide (((rd_T35 t200 x15_2).f2) ≤ (a0.size : Int)) = true := decide_eq_true c27
                                    clear c27
                                    by_cases c28 : (a0.extract (x12_2 : Int).toNat (((rd_T35 t200 x15_2).f2) : Int).toNat).size + a2.size ≤ 9223372036854775807
                                    · rw [if_pos c28] at H
                                      have c28b0 := eq_true c28
                                      have c28b1 : decide ((a0.extract (x12_2 : Int).toNat (((rd_T35 t200 x15_2).f2) : Int).toNat).size + a2.size ≤ 9223372036854775807) = true := decide_eq_true c28
                                      try have c28b2 : (9223372036854775807 < (a0.extract (x12_2 : Int).toNat (((rd_T35 t200 x15_2).f2) : Int).toNat).size + a2.size) = False := eq_false (Nat.not_lt.2 c28)
                                      by_cases c29 : x11_2.size + ((a0.extract (x12_2 : Int).toNat (((rd_T35 t200 x15_2).f2) : Int).toNat) ++ a2).size ≤ 9223372036854775807
                                      · rw [if_pos c29] at H
                                        have c29b0 := eq_true c29
                                        have c29b1 : decide (x11_2.size + ((a0.extract (x12_2 : Int).toNat (((rd_T35 t200 x15_2).f2) : Int).toNat) ++ a2).size ≤ 9223372036854775807) = true := decide_eq_true c29
                                        try have c29b2 : (9223372036854775807 < x11_2.size + ((a0.extract (x12_2 : Int).toNat (((rd_T35 t200 x15_2).f2) : Int).toNat) ++ a2).size) = False := eq_false (Nat.not_lt.2 c29)
                                        have H' := Aside0.mk H
                                        clear H
                                        have p209 : 0 ≤ (x15_2 : Int) := of_decide_eq_true (by first | (with_reducible assumption) | assumption)
                                        have q209 : x15_2 < (t200.length : Int) := of_decide_eq_true (by first | (with_reducible assumption) | assumption)
                                        obtain ⟨ad209, e209, hx209_0, hx209_1, hx209_2⟩ := at_T35 (Kd.R_reads' HO_8.out).2.2 x15_2 p209 q209
                                        cases e209
                                        replace p209 := eq_true p209
                                        replace q209 := eq_true q209
                                        have p210 : 0 ≤ (x15_2 : Int) := of_decide_eq_true (by first | (with_reducible assumption) | assumption)
                                        have q210 : x15_2 < (t200.length : Int) := of_decide_eq_true (by first | (with_reducible assumption) | assumption)
                                        obtain ⟨ad210, e210, hx210_0, hx210_1, hx210_2⟩ := at_T35 (Kd.R_reads' HO_8.out).2.2 x15_2 p210 q210
                                        obtain rfl : ad209 = ad210 := (by injection e210)
                                        replace p210 := eq_true p210
                                        replace q210 := eq_true q210
                                        have p211 : 0 ≤ (x15_2 : Int) := of_decide_eq_true (by first | (with_reducible assumption) | assumption)
                                        have q211 : x15_2 < (t200.length : Int) := of_decide_eq_true (by first | (with_reducible assumption) | assumption)
                                        obtain ⟨ad211, e211, hx211_0, hx211_1, hx211_2⟩ := at_T35 (Kd.R_reads' HO_8.out).2.2 x15_2 p211 q211
                                        obtain rfl : ad209 = ad211 := (by injection e211)
                                        replace p211 := eq_true p211
                                        replace q211 := eq_true q211
                                        have p212 : 0 ≤ (x15_2 : Int) := of_decide_eq_true (by first | (with_reducible assumption) | assumption)
                                        have q212 : x15_2 < (t200.length : Int) := of_decide_eq_true (by first | (with_reducible assumption) | assumption)
                                        obtain ⟨ad212, e212, hx212_0, hx212_1, hx212_2⟩ := at_T35 (Kd.R_reads' HO_8.out).2.2 x15_2 p212 q212
                                        obtain rfl : ad209 = ad212 := (by injection e212)
                                        replace p212 := eq_true p212
                                        replace q212 := eq_true q212
                                        go_wp2
                                        go_roundg kj15
                                        case measure => have := HJ5.out; have := HK2.out; have := HJ15.out; omega
                                        case rel => exact ⟨(x11_2 ++ ((a0.extract (x12_2 : Int).toNat (((rd_T35 t200 x15_2).f2) : Int).toNat) ++ a2)), (wrap64 (((rd_T35 t200 x15_2).f2) + (a1.size : Int))), (wrap64 (x13_2 + 1)), (true), (wrap64 (x15_2 + 1)), (by first | rfl | (simp; done) | (simp [*]; done)), (by first | rfl | (simp; done) | (simp [*]; done)), (by first | rfl | (simp; done) | (simp [*]; done)), (by first | rfl | (simp; done) | (simp [*]; done)), (by first | rfl | (simp; done) | (simp [*]; done)), H', ⟨by have := HJ5.out; have := HK2.out; have := HJ15.out; omega⟩, ⟨by (with_reducible repeat (first | apply Kd.R_alloc | apply Kd.R_drewN | apply Kd.R_drew)); exact HO_8.out⟩, ⟨by repeat (first | (with_reducible first | exact HB.out | apply below_alloc | apply pw_below_drewN | apply below_drew1) | exact HB.out)⟩⟩
                                      · rw [if_neg c29] at H
                                        exact absurd H (by simp)
                                    · rw [if_neg c28] at H
                                      exact absurd H (by simp)
                                  · rw [if_neg c27] at H
                                    exact absurd H (by simp)
                                · rw [if_neg c26] at H
                                  exact absurd H (by simp)
                              · rw [if_neg c25] at H
                                exact absurd H (by simp)
                            · rw [if_neg c24] at H
                              have c24b0 : (((rd_T35 t200 x15_2).f1).toList == a1.toList) = false := beq_eq_false_iff_ne.mpr c24
                              have c24b1 : (((rd_T35 t200 x15_2).f1).toList != a1.toList) = true := bne_iff_ne.mpr c24
                              have H' := Aside0.mk H
                              clear H
                              have p209 : 0 ≤ (x15_2 : Int) := of_decide_eq_true (by first | (with_reducible assumption) | assumption)
                              have q209 : x15_2 < (t200.length : Int) := of_decide_eq_true (by first | (with_reducible assumption) | assumption)
                              obtain ⟨ad209, e209, hx209_0, hx209_1, hx209_2⟩ := at_T35 (Kd.R_reads' HO_8.out).2.2 x15_2 p209 q209
                              cases e209
                              replace p209 := eq_true p209
                              replace q209 := eq_true q209
                              have p210 : 0 ≤ (x15_2 : Int) := of_decide_eq_true (by first | (with_reducible assumption) | assumption)
                              have q210 : x15_2 < (t200.length : Int) := of_decide_eq_true (by first | (with_reducible assumption) | assumption)
                              obtain ⟨ad210, e210, hx210_0, hx210_1, hx210_2⟩ := at_T35 (Kd.R_reads' HO_8.out).2.2 x15_2 p210 q210
                              obtain rfl : ad209 = ad210 := (by injection e210)
                              replace p210 := eq_true p210
                              replace q210 := eq_true q210
                              go_wp2
                              go_roundg kj15
                              case measure => have := HJ5.out; have := HK2.out; have := HJ15.out; omega
                              case rel => exact ⟨(x11_2), (x12_2), (x13_2), (true), (wrap64 (x15_2 + 1)), (by first | rfl | (simp; done) | (simp [*]; done)), (by first | rfl | (simp; done) | (simp [*]; done)), (by first | rfl | (simp; done) | (simp [*]; done)), (by first | rfl | (simp; done) | (simp [*]; done)), (by first | rfl | (simp; done) | (simp [*]; done)), H', ⟨by have := HJ5.out; have := HK2.out; have := HJ15.out; omega⟩, ⟨by (with_reducible repeat (first | apply Kd.R_alloc | apply Kd.R_drewN | apply Kd.R_drew)); exact HO_8.out⟩, ⟨by repeat (first | (with_reducible first | exact HB.out | apply below_alloc | apply pw_below_drewN | apply below_drew1) | exact HB.out)⟩⟩
                          · rw [if_neg c23] at H
                            have c23b0 : (((rd_T35 t200 x15_2).f0) == 1) = false := beq_eq_false_iff_ne.mpr c23
                            have c23b1 : (((rd_T35 t200 x15_2).f0) != 1) = true := bne_iff_ne.mpr c23
                            have H' := Aside0.mk H
                            clear H
                            have p209 : 0 ≤ (x15_2 : Int) := of_decide_eq_true (by first | (with_reducible assumption) | assumption)
                            have q209 : x15_2 < (t200.length : Int) := of_decide_eq_true (by first | (with_reducible assumption) | assumption)
                            obtain ⟨ad209, e209, hx209_0, hx209_1, hx209_2⟩ := at_T35 (Kd.R_reads' HO_8.out).2.2 x15_2 p209 q209
                            cases e209
                            replace p209 := eq_true p209
                            replace q209 := eq_true q209
                            go_wp2
                            go_roundg kj15
                            case measure => have := HJ5.out; have := HK2.out; have := HJ15.out; omega
                            case rel => exact ⟨(x11_2), (x12_2), (x13_2), (true), (wrap64 (x15_2 + 1)), (by first | rfl | (simp; done) | (simp [*]; done)), (by first | rfl | (simp; done) | (simp [*]; done)), (by first | rfl | (simp; done) | (simp [*]; done)), (by first | rfl | (simp; done) | (simp [*]; done)), (by first | rfl | (simp; done) | (simp [*]; done)), H', ⟨by have := HJ5.out; have := HK2.out; have := HJ15.out; omega⟩, ⟨by (with_reducible repeat (first | apply Kd.R_alloc | apply Kd.R_drewN | apply Kd.R_drew)); exact HO_8.out⟩, ⟨by repeat (first | (with_reducible first | exact HB.out | apply below_alloc | apply pw_below_drewN | apply below_drew1) | exact HB.out)⟩⟩
                        · rw [if_neg c22] at H
                          exact absurd H (by simp)
                      · rw [if_neg c21] at H
                        exact absurd H (by simp)
                    · replace c20 := Bool.eq_false_iff.mpr c20
                      subst c20
                      have H1 : (if 0 ≤ x15_2 then (if x15_2 < (t200.length : Int) then (if ((rd_T35 t200 x15_2).f0) = 1 then (if ((rd_T35 t200 x15_2).f1).toList = a1.toList then (if 0 ≤ x12_2 then (if x12_2 ≤ ((rd_T35 t200 x15_2).f2) then (if ((rd_T35 t200 x15_2).f2) ≤ (a0.size : Int) then (if (a0.extract (x12_2 : Int).toNat (((rd_T35 t200 x15_2).f2) : Int).toNat).size + a2.size ≤ 9223372036854775807 then (if x11_2.size + ((a0.extract (x12_2 : Int).toNat (((rd_T35 t200 x15_2).f2) : Int).toNat) ++ a2).size ≤ 9223372036854775807 then (riposteref01_Rename.l0 kj15 a0 a1 a2 t200 (x11_2 ++ ((a0.extract (x12_2 : Int).toNat (((rd_T35 t200 x15_2).f2) : Int).toNat) ++ a2)) (wrap64 (((rd_T35 t200 x15_2).f2) + (a1.size : Int))) (wrap64 (x13_2 + 1)) x14_2 (wrap64 (x15_2 + 1))) else (none)) else (none)) else (none)) else (none)) else (none)) else (riposteref01_Rename.l0 kj15 a0 a1 a2 t200 x11_2 x12_2 x13_2 x14_2 (wrap64 (x15_2 + 1)))) else (riposteref01_Rename.l0 kj15 a0 a1 a2 t200 x11_2 x12_2 x13_2 x14_2 (wrap64 (x15_2 + 1)))) else (none)) else (none)) = some (r1, r2) := by rw [if_neg (show ¬ (false = true) by decide)] at H; exact H
                      clear H
                      have H := H1
                      clear H1
                      by_cases c30 : 0 ≤ x15_2
                      · rw [if_pos c30] at H
                        have c30b0 : decide (0 ≤ x15_2) = true := decide_eq_true c30
                        clear c30
                        by_cases c31 : x15_2 < (t200.length : Int)
                        · rw [if_pos c31] at H
                          have c31b0 : decide (x15_2 < (t200.length : Int)) = true := decide_eq_true c31
                          clear c31
                          by_cases c32 : ((rd_T35 t200 x15_2).f0) = 1
                          · rw [if_pos c32] at H
                            have c32b0 : (((rd_T35 t200 x15_2).f0) == 1) = true := beq_iff_eq.mpr c32
                            have c32b1 : (((rd_T35 t200 x15_2).f0) != 1) = false := bne_eq_false_iff_eq.mpr c32
                            clear c32
                            by_cases c33 : ((rd_T35 t200 x15_2).f1).toList = a1.toList
                            · rw [if_pos c33] at H
                              have c33b0 : (((rd_T35 t200 x15_2).f1).toList == a1.toList) = true := beq_iff_eq.mpr c33
                              have c33b1 : (((rd_T35 t200 x15_2).f1).toList != a1.toList) = false := bne_eq_false_iff_eq.mpr c33
                              clear c33
                              by_cases c34 : 0 ≤ x12_2
                              · rw [if_pos c34] at H
                                have c34b0 := eq_true c34
                                have c34b1 : decide (0 ≤ x12_2) = true := decide_eq_true c34
                                clear c34
                                by_cases c35 : x12_2 ≤ ((rd_T35 t200 x15_2).f2)
                                · rw [if_pos c35] at H
                                  have c35b0 := eq_true c35
                                  have c35b1 : decide (x12_2 ≤ ((rd_T35 t200 x15_2).f2)) = true := decide_eq_true c35
                                  clear c35
                                  by_cases c36 : ((rd_T35 t200 x15_2).f2) ≤ (a0.size : Int)
                                  · rw [if_pos c36] at H
                                    have c36b0 := eq_true c36
                                    have c36b1 : decide (((rd_T35 t200 x15_2).f2) ≤ (a0.size : Int)) = true := decide_eq_true c36
                                    clear c36
                                    by_cases c37 : (a0.extract (x12_2 : Int).toNat (((rd_T35 t200 x15_2).f2) : Int).toNat).size + a2.size ≤ 9223372036854775807
                                    · rw [if_pos c37] at H
                                      have c37b0 := eq_true c37
                                      have c37b1 : decide ((a0.extract (x12_2 : Int).toNat (((rd_T35 t200 x15_2).f2) : Int).toNat).size + a2.size ≤ 9223372036854775807) = true := decide_eq_true c37
                                      try have c37b2 : (9223372036854775807 < (a0.extract (x12_2 : Int).toNat (((rd_T35 t200 x15_2).f2) : Int).toNat).size + a2.size) = False := eq_false (Nat.not_lt.2 c37)
                                      by_cases c38 : x11_2.size + ((a0.extract (x12_2 : Int).toNat (((rd_T35 t200 x15_2).f2) : Int).toNat) ++ a2).size ≤ 9223372036854775807
                                      · rw [if_pos c38] at H
                                        have c38b0 := eq_true c38
                                        have c38b1 : decide (x11_2.size + ((a0.extract (x12_2 : Int).toNat (((rd_T35 t200 x15_2).f2) : Int).toNat) ++ a2).size ≤ 9223372036854775807) = true := decide_eq_true c38
                                        try have c38b2 : (9223372036854775807 < x11_2.size + ((a0.extract (x12_2 : Int).toNat (((rd_T35 t200 x15_2).f2) : Int).toNat) ++ a2).size) = False := eq_false (Nat.not_lt.2 c38)
                                        have H' := Aside0.mk H
                                        clear H
                                        have p213 : 0 ≤ (x15_2 : Int) := of_decide_eq_true (by first | (with_reducible assumption) | assumption)
                                        have q213 : x15_2 < (t200.length : Int) := of_decide_eq_true (by first | (with_reducible assumption) | assumption)
                                        obtain ⟨ad213, e213, hx213_0, hx213_1, hx213_2⟩ := at_T35 (Kd.R_reads' HO_8.out).2.2 x15_2 p213 q213
                                        cases e213
                                        replace p213 := eq_true p213
                                        replace q213 := eq_true q213
                                        have p214 : 0 ≤ (x15_2 : Int) := of_decide_eq_true (by first | (with_reducible assumption) | assumption)
                                        have q214 : x15_2 < (t200.length : Int) := of_decide_eq_true (by first | (with_reducible assumption) | assumption)
                                        obtain ⟨ad214, e214, hx214_0, hx214_1, hx214_2⟩ := at_T35 (Kd.R_reads' HO_8.out).2.2 x15_2 p214 q214
                                        obtain rfl : ad213 = ad214 := (by injection e214)
                                        replace p214 := eq_true p214
                                        replace q214 := eq_true q214
                                        have p215 : 0 ≤ (x15_2 : Int) := of_decide_eq_true (by first | (with_reducible assumption) | assumption)
                                        have q215 : x15_2 < (t200.length : Int) := of_decide_eq_true (by first | (with_reducible assumption) | assumption)
                                        obtain ⟨ad215, e215, hx215_0, hx215_1, hx215_2⟩ := at_T35 (Kd.R_reads' HO_8.out).2.2 x15_2 p215 q215
                                        obtain rfl : ad213 = ad215 := (by injection e215)
                                        replace p215 := eq_true p215
                                        replace q215 := eq_true q215
                                        have p216 : 0 ≤ (x15_2 : Int) := of_decide_eq_true (by first | (with_reducible assumption) | assumption)
                                        have q216 : x15_2 < (t200.length : Int) := of_decide_eq_true (by first | (with_reducible assumption) | assumption)
                                        obtain ⟨ad216, e216, hx216_0, hx216_1, hx216_2⟩ := at_T35 (Kd.R_reads' HO_8.out).2.2 x15_2 p216 q216
                                        obtain rfl : ad213 = ad216 := (by injection e216)
                                        replace p216 := eq_true p216
                                        replace q216 := eq_true q216
                                        go_wp2
                                        go_roundg kj15
                                        case measure => have := HJ5.out; have := HK2.out; have := HJ15.out; omega
                                        case rel => exact ⟨(x11_2 ++ ((a0.extract (x12_2 : Int).toNat (((rd_T35 t200 x15_2).f2) : Int).toNat) ++ a2)), (wrap64 (((rd_T35 t200 x15_2).f2) + (a1.size : Int))), (wrap64 (x13_2 + 1)), (x14_2), (wrap64 (x15_2 + 1)), (by first | rfl | (simp; done) | (simp [*]; done)), (by first | rfl | (simp; done) | (simp [*]; done)), (by first | rfl | (simp; done) | (simp [*]; done)), (by first | rfl | (simp; done) | (simp [*]; done)), (by first | rfl | (simp; done) | (simp [*]; done)), H', ⟨by have := HJ5.out; have := HK2.out; have := HJ15.out; omega⟩, ⟨by (with_reducible repeat (first | apply Kd.R_alloc | apply Kd.R_drewN | apply Kd.R_drew)); exact HO_8.out⟩, ⟨by repeat (first | (with_reducible first | exact HB.out | apply below_alloc | apply pw_below_drewN | apply below_drew1) | exact HB.out)⟩⟩
                                      · rw [if_neg c38] at H
                                        exact absurd H (by simp)
                                    · rw [if_neg c37] at H
                                      exact absurd H (by simp)
                                  · rw [if_neg c36] at H
                                    exact absurd H (by simp)
                                · rw [if_neg c35] at H
                                  exact absurd H (by simp)
                              · rw [if_neg c34] at H
                                exact absurd H (by simp)
                            · rw [if_neg c33] at H
                              have c33b0 : (((rd_T35 t200 x15_2).f1).toList == a1.toList) = false := beq_eq_false_iff_ne.mpr c33
                              have c33b1 : (((rd_T35 t200 x15_2).f1).toList != a1.toList) = true := bne_iff_ne.mpr c33
                              have H' := Aside0.mk H
                              clear H
                              have p213 : 0 ≤ (x15_2 : Int) := of_decide_eq_true (by first | (with_reducible assumption) | assumption)
                              have q213 : x15_2 < (t200.length : Int) := of_decide_eq_true (by first | (with_reducible assumption) | assumption)
                              obtain ⟨ad213, e213, hx213_0, hx213_1, hx213_2⟩ := at_T35 (Kd.R_reads' HO_8.out).2.2 x15_2 p213 q213
                              cases e213
                              replace p213 := eq_true p213
                              replace q213 := eq_true q213
                              have p214 : 0 ≤ (x15_2 : Int) := of_decide_eq_true (by first | (with_reducible assumption) | assumption)
                              have q214 : x15_2 < (t200.length : Int) := of_decide_eq_true (by first | (with_reducible assumption) | assumption)
                              obtain ⟨ad214, e214, hx214_0, hx214_1, hx214_2⟩ := at_T35 (Kd.R_reads' HO_8.out).2.2 x15_2 p214 q214
                              obtain rfl : ad213 = ad214 := (by injection e214)
                              replace p214 := eq_true p214
                              replace q214 := eq_true q214
                              go_wp2
                              go_roundg kj15
                              case measure => have := HJ5.out; have := HK2.out; have := HJ15.out; omega
                              case rel => exact ⟨(x11_2), (x12_2), (x13_2), (x14_2), (wrap64 (x15_2 + 1)), (by first | rfl | (simp; done) | (simp [*]; done)), (by first | rfl | (simp; done) | (simp [*]; done)), (by first | rfl | (simp; done) | (simp [*]; done)), (by first | rfl | (simp; done) | (simp [*]; done)), (by first | rfl | (simp; done) | (simp [*]; done)), H', ⟨by have := HJ5.out; have := HK2.out; have := HJ15.out; omega⟩, ⟨by (with_reducible repeat (first | apply Kd.R_alloc | apply Kd.R_drewN | apply Kd.R_drew)); exact HO_8.out⟩, ⟨by repeat (first | (with_reducible first | exact HB.out | apply below_alloc | apply pw_below_drewN | apply below_drew1) | exact HB.out)⟩⟩
                          · rw [if_neg c32] at H
                            have c32b0 : (((rd_T35 t200 x15_2).f0) == 1) = false := beq_eq_false_iff_ne.mpr c32
                            have c32b1 : (((rd_T35 t200 x15_2).f0) != 1) = true := bne_iff_ne.mpr c32
                            have H' := Aside0.mk H
                            clear H
                            have p213 : 0 ≤ (x15_2 : Int) := of_decide_eq_true (by first | (with_reducible assumption) | assumption)
                            have q213 : x15_2 < (t200.length : Int) := of_decide_eq_true (by first | (with_reducible assumption) | assumption)
                            obtain ⟨ad213, e213, hx213_0, hx213_1, hx213_2⟩ := at_T35 (Kd.R_reads' HO_8.out).2.2 x15_2 p213 q213
                            cases e213
                            replace p213 := eq_true p213
                            replace q213 := eq_true q213
                            go_wp2
                            go_roundg kj15
                            case measure => have := HJ5.out; have := HK2.out; have := HJ15.out; omega
                            case rel => exact ⟨(x11_2), (x12_2), (x13_2), (x14_2), (wrap64 (x15_2 + 1)), (by first | rfl | (simp; done) | (simp [*]; done)), (by first | rfl | (simp; done) | (simp [*]; done)), (by first | rfl | (simp; done) | (simp [*]; done)), (by first | rfl | (simp; done) | (simp [*]; done)), (by first | rfl | (simp; done) | (simp [*]; done)), H', ⟨by have := HJ5.out; have := HK2.out; have := HJ15.out; omega⟩, ⟨by (with_reducible repeat (first | apply Kd.R_alloc | apply Kd.R_drewN | apply Kd.R_drew)); exact HO_8.out⟩, ⟨by repeat (first | (with_reducible first | exact HB.out | apply below_alloc | apply pw_below_drewN | apply below_drew1) | exact HB.out)⟩⟩
                        · rw [if_neg c31] at H
                          exact absurd H (by simp)
                      · rw [if_neg c30] at H
                        exact absurd H (by simp)
              · rw [if_neg c15] at H
                have c15b0 : decide (x15_2 < (t200.length : Int)) = false := decide_eq_false c15
                clear c15
                by_cases c39 : 0 ≤ x12_2
                · rw [if_pos c39] at H
                  have c39b0 := eq_true c39
                  have c39b1 : decide (0 ≤ x12_2) = true := decide_eq_true c39
                  clear c39
                  by_cases c40 : x12_2 ≤ (a0.size : Int)
                  · rw [if_pos c40] at H
                    have c40b0 := eq_true c40
                    have c40b1 : decide (x12_2 ≤ (a0.size : Int)) = true := decide_eq_true c40
                    clear c40
                    by_cases c41 : x11_2.size + (a0.extract (x12_2 : Int).toNat a0.size).size ≤ 9223372036854775807
                    · rw [if_pos c41] at H
                      have c41b0 := eq_true c41
                      have c41b1 : decide (x11_2.size + (a0.extract (x12_2 : Int).toNat a0.size).size ≤ 9223372036854775807) = true := decide_eq_true c41
                      try have c41b2 : (9223372036854775807 < x11_2.size + (a0.extract (x12_2 : Int).toNat a0.size).size) = False := eq_false (Nat.not_lt.2 c41)
                      by_cases c42 : x13_2 = 0
                      · rw [if_pos c42] at H
                        have c42b0 : (x13_2 == 0) = true := beq_iff_eq.mpr c42
                        have c42b1 : (x13_2 != 0) = false := bne_eq_false_iff_eq.mpr c42
                        clear c42
                        simp only [Option.some.injEq, Prod.mk.injEq] at H
                        obtain ⟨rfl, rfl⟩ := H
                        obtain ⟨Ao43, co43, eo43⟩ := Kd.R_slice HO_8.out
                        subst eo43
                        go_wp2
                        go_ret2
                        exact ⟨by first | rfl | (simp [errW_none, errW_some] <;> rfl) | (simp [*, errW_none, errW_some] <;> rfl), by repeat (first | (with_reducible first | exact HB.out | apply below_alloc | apply pw_below_drewN | apply below_drew1) | exact HB.out)⟩
                      · rw [if_neg c42] at H
                        have c42b0 : (x13_2 == 0) = false := beq_eq_false_iff_ne.mpr c42
                        have c42b1 : (x13_2 != 0) = true := bne_iff_ne.mpr c42
                        by_cases c44 : x14_2 = true
                        · subst c44
                          have H1 : (some ((⟨#[]⟩ : ByteArray), 6)) = some (r1, r2) := by rw [if_pos rfl] at H; exact H
                          clear H
                          have H := H1
                          clear H1
                          simp only [Option.some.injEq, Prod.mk.injEq] at H
                          obtain ⟨rfl, rfl⟩ := H
                          obtain ⟨Ao45, co45, eo45⟩ := Kd.R_slice HO_8.out
                          subst eo45
                          go_wp2
                          go_ret2
                          exact ⟨by first | rfl | (simp [errW_none, errW_some] <;> rfl) | (simp [*, errW_none, errW_some] <;> rfl), by repeat (first | (with_reducible first | exact HB.out | apply below_alloc | apply pw_below_drewN | apply below_drew1) | exact HB.out)⟩
                        · replace c44 := Bool.eq_false_iff.mpr c44
                          subst c44
                          have H1 : (if ((x11_2 ++ (a0.extract (x12_2 : Int).toNat a0.size)).size : Int) > 2500 then (some ((⟨#[]⟩ : ByteArray), 5)) else (some (x11_2 ++ (a0.extract (x12_2 : Int).toNat a0.size), 0))) = some (r1, r2) := by rw [if_neg (show ¬ (false = true) by decide)] at H; exact H
                          clear H
                          have H := H1
                          clear H1
                          by_cases c46 : ((x11_2 ++ (a0.extract (x12_2 : Int).toNat a0.size)).size : Int) > 2500
                          · rw [if_pos c46] at H
                            have c46b0 : decide (2500 < ((x11_2 ++ (a0.extract (x12_2 : Int).toNat a0.size)).size : Int)) = true := decide_eq_true c46
                            have c46b1 : decide (2500 < (x11_2 ++ (a0.extract (x12_2 : Int).toNat a0.size)).size) = true := decide_eq_true (by omega)
                            have c46b9 : decide ((2500 : Int) < (x11_2.size : Int) + ((a0.size - (x12_2 : Int).toNat : Nat) : Int)) = true := by rw [ByteArray.size_append, ByteArray.size_extract, Nat.min_self] at c46; first | exact decide_eq_true (by omega) | exact decide_eq_false (by omega)
                            clear c46
                            simp only [Option.some.injEq, Prod.mk.injEq] at H
                            obtain ⟨rfl, rfl⟩ := H
                            obtain ⟨Ao47, co47, eo47⟩ := Kd.R_slice HO_8.out
                            subst eo47
                            go_wp2
                            go_ret2
                            exact ⟨by first | rfl | (simp [errW_none, errW_some] <;> rfl) | (simp [*, errW_none, errW_some] <;> rfl), by repeat (first | (with_reducible first | exact HB.out | apply below_alloc | apply pw_below_drewN | apply below_drew1) | exact HB.out)⟩
                          · rw [if_neg c46] at H
                            have c46b0 : decide (2500 < ((x11_2 ++ (a0.extract (x12_2 : Int).toNat a0.size)).size : Int)) = false := decide_eq_false c46
                            have c46b1 : decide (2500 < (x11_2 ++ (a0.extract (x12_2 : Int).toNat a0.size)).size) = false := decide_eq_false (by omega)
                            have c46b9 : decide ((2500 : Int) < (x11_2.size : Int) + ((a0.size - (x12_2 : Int).toNat : Nat) : Int)) = false := by rw [ByteArray.size_append, ByteArray.size_extract, Nat.min_self] at c46; first | exact decide_eq_true (by omega) | exact decide_eq_false (by omega)
                            clear c46
                            simp only [Option.some.injEq, Prod.mk.injEq] at H
                            obtain ⟨rfl, rfl⟩ := H
                            obtain ⟨Ao48, co48, eo48⟩ := Kd.R_slice HO_8.out
                            subst eo48
                            go_wp2
                            go_ret2
                            exact ⟨by first | rfl | (simp [errW_none, errW_some] <;> rfl) | (simp [*, errW_none, errW_some] <;> rfl), by repeat (first | (with_reducible first | exact HB.out | apply below_alloc | apply pw_below_drewN | apply below_drew1) | exact HB.out)⟩
                    · rw [if_neg c41] at H
                      exact absurd H (by simp)
                  · rw [if_neg c40] at H
                    exact absurd H (by simp)
                · rw [if_neg c39] at H
                  exact absurd H (by simp)
  · rw [if_neg c5] at H
    have c5b0 : (t202 == 0) = false := beq_eq_false_iff_ne.mpr c5
    have c5b1 : (t202 != 0) = true := bne_iff_ne.mpr c5
    simp only [Option.some.injEq, Prod.mk.injEq] at H
    obtain ⟨rfl, rfl⟩ := H
    go_enter Tryd.func22, Tryd.ntmps22
    go_wp2_with (first | ((with_reducible refine gate_callee (f := 17) rfl ?_); refine goesL_ (some 18) rfl rfl Tryd.func17 (by kernel_rfl) rfl #[.string a0] rfl (by (try simp only [List.map_toArray, List.map_cons, List.map_nil]); first | done | rfl | (simp only [List.length_drop, List.length_take]; rfl)) ?_; (with_reducible refine (riposteref01_Tokens.calls k a0 t200 t201 t202 _ A4.out).mono ?_); rintro e w49 ⟨v203, rfl, ho0, hb⟩; refine ⟨_, rfl, ?_⟩; have n0_ := Aside0.mk (Kd.R_lower ho0 (below_size (by repeat (first | (with_reducible first | exact HB.out | apply below_alloc | apply pw_below_drewN | apply below_drew1) | exact HB.out)))); have n1_ := Aside0.mk (below_step (by repeat (first | (with_reducible first | exact HB.out | apply below_alloc | apply pw_below_drewN | apply below_drew1) | exact HB.out)) hb); clear HB; have HO204 := n0_; have HB := n1_; clear n0_ n1_; (try clear hb); (try clear hb2); (try clear hk); (try clear hi); (try clear ho0)))
    go_ret2
    exact ⟨by first | rfl | (simp [errW_none, errW_some] <;> rfl) | (simp [*, errW_none, errW_some] <;> rfl), by repeat (first | (with_reducible first | exact HB.out | apply below_alloc | apply pw_below_drewN | apply below_drew1) | exact HB.out)⟩

-- NOT PRINTED: function 4 (ripostelaw01_LexRenames)

-- NOT PRINTED: function 5 (ripostelaw01_LexRenamed)

-- NOT PRINTED: function 54 (lex_common_byte)

-- NOT PRINTED: function 55 (lex_ending_byte)

-- NOT PRINTED: function 23 (lex_Diff)

end Go.Proofs.YtggfcmondffodaaDoor.P
namespace Go.Proofs.YtggfcmondffodaaDoor.P
open Go.RowKit Go.Proofs.YtggfcmondffodaaDoorW.PrintWords
set_option linter.unusedVariables false
set_option linter.unusedSimpArgs false
theorem tk_drop (l : List Tk) (i : Nat) (h : i < l.length) : l.drop i = rd_T35 l (i : Int) :: l.drop (i + 1) := by
  rw [List.drop_eq_getElem_cons h]
  congr 1
  unfold rd_T35
  simp [List.getD, List.getElem?_eq_getElem h]
theorem firstM_empty : firstM kwM ByteArray.empty = ((0, ByteArray.empty), 4) := rfl
theorem rRight (k : Nat) (y : Tk) (hs : y.f1.size ≤ 140737488351232) (hk : y.f1.size + 40 < k) : riposteref01_IsRight.f k y.f0 y.f1 y.f2 = some (rightB y.f0 y.f1) := by
  obtain ⟨y0, y1, y2⟩ := y
  simp only at hs hk
  unfold riposteref01_IsRight.f rightB
  by_cases c : y1.size = 0
  · have hy : y1 = ByteArray.empty := ba_ext (by rw [List.length_eq_zero_iff.1 (show y1.data.toList.length = 0 by rw [data_length]; exact c)]; rfl)
    rw [if_pos ((toList_nil_iff y1).2 c)]
    simp only
    subst hy
    rw [firstM_empty]
    rfl
  · rw [if_neg (fun h => c ((toList_nil_iff y1).1 h)), show riposteref01_Token.f k y1 0 = some (tokR y1 0) from rToken y1 0 hs (Nat.zero_le _) k hk]
    simp only [Option.bind_some]
    unfold tokR
    rw [ex_self y1 _ (Nat.le_refl _)]
    generalize firstM kwM y1 = F
    obtain ⟨⟨f0, f1⟩, f2⟩ := F
    show (if (if f2 = 0 then (f0, f1, ((0 : Nat) : Int), (0 : Int)) else (0, ByteArray.empty, 0, f2)).2.2.2 = 0 then (if (if f2 = 0 then (f0, f1, ((0 : Nat) : Int), (0 : Int)) else (0, ByteArray.empty, 0, f2)).1 = y0 then some ((if f2 = 0 then (f0, f1, ((0 : Nat) : Int), (0 : Int)) else (0, ByteArray.empty, 0, f2)).2.1.toList == y1.toList) else some false) else some false) = some (decide (f2 = 0) && (decide (f0 = y0) && decide (f1 = y1)))
    by_cases c1 : f2 = 0
    · rw [if_pos c1, decide_eq_true c1, Bool.true_and]
      show (if f0 = y0 then some (f1.toList == y1.toList) else some false) = _
      by_cases c2 : f0 = y0
      · rw [if_pos c2, Bl, decide_eq_true c2, Bool.true_and]
      · rw [if_neg c2, decide_eq_false c2, Bool.false_and]
    · rw [if_neg c1, decide_eq_false c1, Bool.false_and]
      show (if f2 = 0 then _ else _) = _
      rw [if_neg c1]
theorem rName (k : Nat) (y : ByteArray) (hs : y.size ≤ 140737488351232) (hk : y.size + 40 < k) : riposteref01_IsName.f k y = some (nameB y) := by
  unfold riposteref01_IsName.f
  have := rRight k ⟨1, y, 0⟩ hs hk
  simp only at this
  rw [this]
  rfl
def finR (out : ByteArray) (many : Int) (tw : Bool) : ByteArray × Int :=
  if many = 0 then (ByteArray.empty, 7) else if tw = true then (ByteArray.empty, 6) else if 2500 < out.size then (ByteArray.empty, 5) else (out, 0)
theorem renS_cons_pos (old name : ByteArray) (x : Tk) (r : List Tk) (h : x.f1 = old) : renS old name (x :: r) = ⟨x.f2, x.f2 + (old.size : Int), name⟩ :: renS old name r := by
  unfold renS; rw [List.filter_cons_of_pos (by exact decide_eq_true h)]; rfl
theorem renS_cons_neg (old name : ByteArray) (x : Tk) (r : List Tk) (h : ¬ x.f1 = old) : renS old name (x :: r) = renS old name r := by
  unfold renS; rw [List.filter_cons_of_neg (by simpa using h)]
set_option maxHeartbeats 1000000 in
theorem rRename_step {R : Type} (s old name acc : ByteArray) (y : Tk) (a many : Int) (n i : Int) (G : ByteArray → Int → Int → Option R) (v : Option R)
    (h0 : 0 ≤ i) (h1 : i < n) (hk : y.f1 = old → y.f0 = 1)
    (hyes : y.f1 = old → 0 ≤ a ∧ a ≤ y.f2 ∧ y.f2 ≤ (s.size : Int) ∧ (s.extract a.toNat y.f2.toNat).size + name.size ≤ 9223372036854775807 ∧ acc.size + (s.extract a.toNat y.f2.toNat ++ name).size ≤ 9223372036854775807 ∧ G (acc ++ (s.extract a.toNat y.f2.toNat ++ name)) (wrap64 (y.f2 + (old.size : Int))) (wrap64 (many + 1)) = v)
    (hno : y.f1 ≠ old → G acc a many = v) :
    (if 0 ≤ i then (if i < n then (if y.f0 = 1 then (if y.f1.toList = old.toList then (if 0 ≤ a then (if a ≤ y.f2 then (if y.f2 ≤ (s.size : Int) then (if (s.extract (a : Int).toNat (y.f2 : Int).toNat).size + name.size ≤ 9223372036854775807 then (if acc.size + ((s.extract (a : Int).toNat (y.f2 : Int).toNat) ++ name).size ≤ 9223372036854775807 then (G (acc ++ ((s.extract (a : Int).toNat (y.f2 : Int).toNat) ++ name)) (wrap64 (y.f2 + (old.size : Int))) (wrap64 (many + 1))) else none) else none) else none) else none) else none) else (G acc a many)) else (G acc a many)) else none) else none) = v := by
  rw [if_pos h0, if_pos h1]
  by_cases c : y.f1 = old
  · obtain ⟨g1, g2, g3, g4, g5, g6⟩ := hyes c
    rw [if_pos (hk c), if_pos (by rw [c]), if_pos g1, if_pos g2, if_pos g3, if_pos g4, if_pos g5, g6]
  · have hn := hno c
    by_cases c3 : y.f0 = 1
    · rw [if_pos c3, if_neg (fun h => c (by rw [ByteArray.toList_eq, ByteArray.toList_eq] at h; exact ba_ext h)), hn]
    · rw [if_neg c3, hn]
set_option maxHeartbeats 1000000 in
theorem rRename0 (s old name : ByteArray) (l : List Tk) (hs : s.size ≤ 1000000) (ho : old.size ≤ 1000000) (hl : l.length ≤ 1000000) (hkd : ∀ x ∈ l, x.f1 = old ∨ x.f1 = name → x.f0 = 1) : ∀ (d i k : Nat) (acc : ByteArray) (a many : Int) (tw : Bool), l.length - i = d → i ≤ l.length → 2 * d + 1 < k → 0 ≤ many → many ≤ i → OrdS s.size (renS old name (l.drop i)) a → acc.size + (splB s (renS old name (l.drop i)) a).length ≤ 1000000000 →
    riposteref01_Rename.l0 k s old name l acc a many tw (i : Int) = some (finR (acc ++ ba (splB s (renS old name (l.drop i)) a)) (many + (renS old name (l.drop i)).length) (tw || (l.drop i).any fun t => decide (t.f1 = name))) := by
  intro d
  induction d with
  | zero =>
    intro i k acc a many tw hd hi hk hm0 hm1 hO hB
    obtain ⟨k, rfl, _⟩ := succ_of hk
    obtain ⟨ha0, ha1⟩ := hO.range
    have z1 : ¬ ((i : Int) < (l.length : Int)) := by clear hB; omega
    rw [riposteref01_Rename.l0.eq_2, if_neg z1]
    rw [List.drop_eq_nil_of_le (show l.length ≤ i by clear hB; omega)] at hB ⊢
    rw [show renS old name ([] : List Tk) = [] from rfl] at hB ⊢
    unfold splB at hB ⊢
    rw [if_pos ha0, if_pos ha1]
    rw [show ba (s.extract a.toNat s.size).data.toList = s.extract a.toNat s.size from ba_ext rfl]
    rw [← size_len] at hB
    generalize s.extract a.toNat s.size = z at *
    rw [if_pos (by omega)]
    unfold finR
    have e0 : many + (([] : List Sp).length : Int) = many := Int.add_zero _
    rw [e0, List.any_nil, Bool.or_false]
    by_cases c1 : many = 0
    · rw [if_pos c1, if_pos c1]; rfl
    · rw [if_neg c1, if_neg c1]
      by_cases c2 : tw = true
      · rw [if_pos c2, if_pos c2]; rfl
      · rw [if_neg c2, if_neg c2]
        by_cases c3 : 2500 < (acc ++ z).size
        · rw [if_pos (by omega), if_pos c3]; rfl
        · rw [if_neg (by omega), if_neg c3]
  | succ d ih =>
    intro i k acc a many tw hd hi hk hm0 hm1 hO hB
    obtain ⟨k, rfl⟩ : ∃ m, k = m + 2 := ⟨k - 2, by clear hB; omega⟩
    have hlt : i < l.length := by clear hB; omega
    have hdr := tk_drop l i hlt
    have hmem : rd_T35 l (i : Int) ∈ l := List.mem_of_mem_drop (i := i) (by rw [hdr]; exact List.mem_cons_self)
    have hk1 := hkd _ hmem
    obtain ⟨y, hy⟩ : ∃ y, rd_T35 l (i : Int) = y := ⟨_, rfl⟩
    rw [hy] at hdr hmem hk1
    have i0' : (0 : Int) ≤ (i : Int) := Int.natCast_nonneg i
    have i1' : (i : Int) < (l.length : Int) := Int.ofNat_lt.2 hlt
    rw [hdr] at hO hB ⊢
    rw [riposteref01_Rename.l0.eq_2, if_pos i1', if_pos i0', hy]
    have q1 : l.length - (i + 1) = d := by clear hB; omega
    have q2 : i + 1 ≤ l.length := hlt
    have q3 : 2 * d + 1 < k := by clear hB; omega
    have q4 : many ≤ ((i + 1 : Nat) : Int) := by clear hB; omega
    have e2 : wrap64 ((i : Int) + 1) = ((i + 1 : Nat) : Int) := by clear hB; rw [w64 (by omega) (by omega)]; omega
    have i0 : (0 : Int) ≤ (i : Int) := Int.natCast_nonneg i
    have i1 : (i : Int) < (l.length : Int) := Int.ofNat_lt.2 hlt
    have m1 : wrap64 (many + 1) = many + 1 := by clear hB; rw [w64 (by omega) (by omega)]
    have m2 : (0 : Int) ≤ many + 1 := by clear hB; omega
    have m3 : many + 1 ≤ ((i + 1 : Nat) : Int) := by clear hB; omega
    have step : ∀ b : Bool, b = decide ((y).f1 = name) → riposteref01_Rename.j2 (k + 1) s old name l acc a many tw (i : Int) b = some (finR (acc ++ ba (splB s (renS old name (y :: l.drop (i + 1))) a)) (many + (renS old name (y :: l.drop (i + 1))).length) (tw || (y :: l.drop (i + 1)).any fun t => decide (t.f1 = name))) := by
      intro b hb
      have hyes : ∀ tw' : Bool, tw' = (tw || b) → y.f1 = old → 0 ≤ a ∧ a ≤ y.f2 ∧ y.f2 ≤ (s.size : Int) ∧ (s.extract a.toNat y.f2.toNat).size + name.size ≤ 9223372036854775807 ∧ acc.size + (s.extract a.toNat y.f2.toNat ++ name).size ≤ 9223372036854775807 ∧ riposteref01_Rename.l0 k s old name l (acc ++ (s.extract a.toNat y.f2.toNat ++ name)) (wrap64 (y.f2 + (old.size : Int))) (wrap64 (many + 1)) tw' (wrap64 ((i : Int) + 1)) = some (finR (acc ++ ba (splB s (renS old name (y :: l.drop (i + 1))) a)) (many + (renS old name (y :: l.drop (i + 1))).length) (tw || (y :: l.drop (i + 1)).any fun t => decide (t.f1 = name))) := by
        intro tw' htw c
        rw [List.any_cons, ← hb, ← Bool.or_assoc, ← htw, e2]
        rw [renS_cons_pos old name _ _ c] at hO hB ⊢
        obtain ⟨o1, o2, o3, o4, o5⟩ := hO
        simp only at o2 o3 o4
        rw [splB] at hB ⊢
        simp only at o5 hB ⊢
        rw [List.length_append, List.length_append, ← size_len, ← size_len] at hB
        obtain ⟨n1, hn1⟩ : ∃ n, (splB s (renS old name (l.drop (i + 1))) (y.f2 + (old.size : Int))).length = n := ⟨_, rfl⟩
        rw [hn1] at hB
        have HN := Aside0.mk hn1
        clear hn1
        have hz : (s.extract a.toNat y.f2.toNat ++ name).size = (s.extract a.toNat y.f2.toNat).size + name.size := ByteArray.size_append
        refine ⟨o1, o2, by omega, by omega, by omega, ?_⟩
        have o6 : y.f2 + (old.size : Int) ≤ 9223372036854775807 := by omega
        have o7 : -9223372036854775808 ≤ y.f2 + (old.size : Int) := by omega
        rw [w64 o7 o6, m1]
        refine (ih (i + 1) k _ _ (many + 1) tw' q1 q2 q3 m2 m3 o5 (by rw [ByteArray.size_append, hz, HN.out]; omega)).trans ?_
        have e3 : acc ++ (s.extract a.toNat y.f2.toNat ++ name) ++ ba (splB s (renS old name (l.drop (i + 1))) (y.f2 + (old.size : Int))) = acc ++ ba ((s.extract a.toNat y.f2.toNat).data.toList ++ (name.data.toList ++ splB s (renS old name (l.drop (i + 1))) (y.f2 + (old.size : Int)))) := by
          apply ba_ext
          simp [ba]
        rw [e3, List.length_cons, show many + (((renS old name (l.drop (i + 1))).length + 1 : Nat) : Int) = many + 1 + ((renS old name (l.drop (i + 1))).length : Int) by omega]
      have hno : ∀ tw' : Bool, tw' = (tw || b) → y.f1 ≠ old → riposteref01_Rename.l0 k s old name l acc a many tw' (wrap64 ((i : Int) + 1)) = some (finR (acc ++ ba (splB s (renS old name (y :: l.drop (i + 1))) a)) (many + (renS old name (y :: l.drop (i + 1))).length) (tw || (y :: l.drop (i + 1)).any fun t => decide (t.f1 = name))) := by
        intro tw' htw c
        rw [List.any_cons, ← hb, ← Bool.or_assoc, ← htw, e2]
        rw [renS_cons_neg old name _ _ c] at hO hB ⊢
        exact ih (i + 1) k acc a many tw' q1 q2 q3 hm0 q4 hO hB
      generalize some (finR (acc ++ ba (splB s (renS old name (y :: l.drop (i + 1))) a)) (many + (renS old name (y :: l.drop (i + 1))).length) (tw || (y :: l.drop (i + 1)).any fun t => decide (t.f1 = name))) = V at hyes hno ⊢
      rw [riposteref01_Rename.j2.eq_2, hy]
      clear hdr hmem hO hB ih
      cases hbb : b with
      | true =>
        rw [if_pos rfl]
        exact rRename_step s old name acc y a many l.length i (fun p q r => riposteref01_Rename.l0 k s old name l p q r true (wrap64 ((i : Int) + 1))) V i0 i1 (fun h => hk1 (.inl h)) (hyes true (by rw [hbb, Bool.or_true])) (hno true (by rw [hbb, Bool.or_true]))
      | false =>
        rw [if_neg (by decide)]
        exact rRename_step s old name acc y a many l.length i (fun p q r => riposteref01_Rename.l0 k s old name l p q r tw (wrap64 ((i : Int) + 1))) V i0 i1 (fun h => hk1 (.inl h)) (hyes tw (by rw [hbb, Bool.or_false])) (hno tw (by rw [hbb, Bool.or_false]))
    by_cases c0 : y.f0 = 1
    · rw [if_pos c0]; exact step _ (Bl _ _)
    · rw [if_neg c0]; exact step false (decide_eq_false fun h => c0 (hk1 (.inr h))).symm
theorem tok_name {s : ByteArray} {l : List Tk} {i j : Nat} (h : Scan s i l j) {t : ByteArray} (ht : nameB t = true) : ∀ x ∈ l, x.f1 = t → x.f0 = 1 := by
  intro x hx e
  obtain ⟨n, -, -, -, hf⟩ := h.mem x hx
  have h1 := (firstM_self kwM hf).1
  rw [e] at h1
  unfold nameB rightB at ht
  have ht2 : (decide ((firstM kwM t).2 = 0) && (decide ((firstM kwM t).1.1 = 1) && decide ((firstM kwM t).1.2 = t))) = true := ht
  rw [h1] at ht2
  simpa using ht2
theorem rRename (s old name : ByteArray) (hs : s.size ≤ 3000) (h1 : old.size ≤ 1000) (h2 : name.size ≤ 1000) (k : Nat) (hk : 20001 < k) : riposteref01_Rename.f k s old name = some (renM s old name) := by
  unfold riposteref01_Rename.f renM
  rw [rTokens s hs k (by omega)]
  simp only [Option.bind_some]
  by_cases c : (toksM kwM s).2.2 = 0
  · obtain ⟨ho, hl, hz⟩ := toks_ord s c
    have hsc := ((toks_iff s _).1 ⟨rfl, c⟩).2.1
    rw [if_pos c, if_neg (by simpa using c), rName k old (by omega) (by omega), rName k name (by omega) (by omega)]
    simp only [Option.bind_some]
    obtain ⟨k, rfl, _⟩ : ∃ m, k = m + 1 ∧ 20000 < m := ⟨k - 1, by omega, by omega⟩
    cases n1 : nameB old with
    | false =>
      rw [if_neg (by decide), if_pos (.inl rfl), riposteref01_Rename.j0.eq_2, if_pos rfl]
      rfl
    | true =>
      rw [if_pos rfl]
      cases n2 : nameB name with
      | false => rw [if_pos (.inr rfl), riposteref01_Rename.j0.eq_2, if_pos (by decide)]; rfl
      | true =>
        rw [if_neg (by simp), riposteref01_Rename.j0.eq_2, if_neg (by decide)]
        have hkd : ∀ x ∈ (toksM kwM s).1, x.f1 = old ∨ x.f1 = name → x.f0 = 1 := by
          intro x hx h
          rcases h with h | h
          · exact tok_name hsc n1 x hx h
          · exact tok_name hsc n2 x hx h
        generalize (toksM kwM s).1 = l at *
        have hO := renS_ord s.size old name l 0 0 ho (Int.le_refl _) (Int.le_refl _)
        have hB := splB_len s 1000 (renS old name l) 0 (fun x hx => by
          unfold renS at hx
          obtain ⟨y, -, rfl⟩ := List.mem_map.1 hx
          exact h2) hO
        have hr := renS_len old name l
        have := rRename0 s old name l (by omega) (by omega) (by omega) hkd l.length 0 k ByteArray.empty 0 0 false (by omega) (by omega) (by omega) (by omega) (by omega) (by rw [List.drop_zero]; exact hO) (by
          rw [List.drop_zero]
          have e : (ByteArray.empty).size = 0 := rfl
          rw [e]; omega)
        rw [List.drop_zero] at this
        refine this.trans ?_
        have e1 : ByteArray.empty ++ ba (splB s (renS old name l) 0) = splM s (renS old name l) := by
          apply ba_ext
          simp [ba, splM]
        rw [e1, Int.zero_add, Bool.false_or]
        unfold finR
        congr 1
        by_cases c1 : renS old name l = []
        · rw [if_pos c1, c1]; rfl
        · have c2 : ¬ ((renS old name l).length : Int) = 0 := fun h => c1 (List.length_eq_zero_iff.1 (Int.ofNat.inj h))
          rw [if_neg c1, if_neg c2]
  · rw [if_neg c, if_pos (by simpa using c)]; rfl
end Go.Proofs.YtggfcmondffodaaDoor.P
