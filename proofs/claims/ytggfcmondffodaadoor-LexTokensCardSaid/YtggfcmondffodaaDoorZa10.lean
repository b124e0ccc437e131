/- What the claim's law needs, many texts in one (Xn Xo). No conditions of its own. -/
import Derived.Test.YtggfcmondffodaaDoorZa9
import Derived.Deep.RegionWith
import Derived.BigCall
set_option linter.unusedVariables false
set_option linter.unusedSimpArgs false
namespace Go.Proofs.YtggfcmondffodaaDoor.P
open Go.RowKit Go.Shelf Go.Maps Go.Proofs.YtggfcmondffodaaDoorW.PrintWords Go.Proofs.YtggfcmondffodaaDoorW.PrintLast Go.Proofs.YtggfcmondffodaaDoorW.PrintMore
set_option linter.unusedVariables false
set_option linter.unusedSimpArgs false
abbrev Sp := S48
/-- Splices that stand in order, from a place on, within so many bytes. -/
def OrdS (n : Nat) : List Sp → Int → Prop
  | [], a => 0 ≤ a ∧ a ≤ n
  | x :: r, a => 0 ≤ a ∧ a ≤ x.f0 ∧ x.f0 ≤ x.f1 ∧ x.f1 ≤ n ∧ OrdS n r x.f1
/-- The bytes behind a place, after splices. -/
def splB (s : ByteArray) : List Sp → Int → List UInt8
  | [], a => (s.extract a.toNat s.size).data.toList
  | x :: r, a => (s.extract a.toNat x.f0.toNat).data.toList ++ (x.f2.data.toList ++ splB s r x.f1)
def splM (s : ByteArray) (l : List Sp) : ByteArray := ba (splB s l 0)
theorem OrdS.range {n : Nat} : ∀ {l : List Sp} {a : Int}, OrdS n l a → 0 ≤ a ∧ a ≤ n
  | [], _, h => h
  | x :: r, _, h => ⟨h.1, by have := h.2; omega⟩
theorem drop_rd (l : List Sp) (i : Nat) (h : i < l.length) : l.drop i = rd_T48 l (i : Int) :: l.drop (i + 1) := by
  rw [List.drop_eq_getElem_cons h]
  congr 1
  unfold rd_T48
  simp [List.getD, List.getElem?_eq_getElem h]
theorem ba_data (l : List UInt8) : (ba l).data.toList = l := rfl
theorem app_ba (s t : ByteArray) : s ++ t = ba (s.data.toList ++ t.data.toList) := by
  apply ba_ext
  rw [ba_data]
  simp
theorem size_len (s : ByteArray) : s.size = s.data.toList.length := by rw [data_length]
set_option maxRecDepth 8000 in
set_option maxHeartbeats 4000000 in
theorem spliced_any (s : ByteArray) (A : Option Addr) (c : Nat) (l : List Sp) (w : World) (hr : Kd.C k48 w A l.length l) (hs : s.size ≤ 1000000000) (hll : l.length ≤ 1000000000) (ho : OrdS s.size l 0) (hb : (splB s l 0).length ≤ 1000000000) :
    Calls Tryd.prog 51 #[.string s, .slice A l.length c] w fun e w' => e = .returned (.string (splM s l)) ∧ Below w.heap.size w w' := by
  have HR := Aside0.mk hr
  have HO := Aside0.mk ho
  obtain ⟨RES, hRES⟩ : ∃ R, splB s l 0 = R := ⟨_, rfl⟩
  rw [hRES] at hb
  unfold splM
  rw [hRES]
  have HS := Aside0.mk hRES
  clear hr ho hRES
  have h0 := Aside0.mk (show Lib.IsBuilderF 85 5 w.heap.size w.heap.size (Lib.byteCells []) (w.alloc (.cells #[.pointer none, .slice none 0 0] 85)) from Lib.IsBuilderF.of (Lib.fresh_isBuilder 85 5 w))
  have b0 := Aside0.mk ((Below.refl _ w).alloc (Nat.le_refl _) (.cells #[.pointer none, .slice none 0 0] 85))
  go_enter Tryd.func51, Tryd.ntmps51
  go_wp2
  go_loopg [6, 11] l.length (fun gg s6 s11 wr => ∃ (i : Nat) (a : Int) (acc : List UInt8), s6 = .int .i64 a ∧ s11 = .int .i64 i ∧ i ≤ l.length ∧ l.length - i ≤ gg ∧ Aside0 (OrdS s.size (l.drop i) a) ∧ Aside0 (acc ++ splB s (l.drop i) a = RES) ∧ Aside0 (Lib.IsBuilderF 85 5 w.heap.size w.heap.size (Lib.byteCells acc) wr) ∧ Aside0 (Below w.heap.size w wr) ∧ w.heap.size + 1 ≤ wr.heap.size)
  case atStart => exact ⟨0, 0, [], rfl, rfl, Nat.zero_le _, by omega, HO, ⟨HS.out⟩, h0, b0, by simp⟩
  case round =>
    obtain ⟨i, a, acc, rfl, rfl, hi, hg, HOi, HA, HBu, HB, hsz⟩ := hrel
    obtain ⟨ha0, ha1⟩ := HOi.out.range
    by_cases hlt : i < l.length
    · have hltz : (i : Int) < (l.length : Int) := by omega
      obtain ⟨ad, e0, x0, x1, x2⟩ := at_T48 HR.out (i : Int) (by omega) hltz
      have hO2 := HOi.out
      have hA2 := HA.out
      rw [drop_rd l i hlt] at hO2 hA2
      obtain ⟨o1, o2, o3, o4, o5⟩ := hO2
      rw [Int.toNat_natCast] at x0 x1 x2
      generalize rd_T48 l (i : Int) = y at *
      obtain ⟨yf, yt, yx⟩ := y
      simp only at o2 o3 o4
      replace x0 := (HB.out.cell (World.block_lt_of_cell? w _ x0)).trans x0
      replace x1 := (HB.out.cell (World.block_lt_of_cell? w _ x1)).trans x1
      replace x2 := (HB.out.cell (World.block_lt_of_cell? w _ x2)).trans x2
      have hA3 := Aside0.mk (show (acc ++ (s.extract a.toNat yf.toNat ++ yx).data.toList) ++ splB s (l.drop (i + 1)) yt = RES by
        rw [app_ba, ba_data, ← hA2, splB, List.append_assoc, List.append_assoc])
      have hal : (acc ++ (s.extract a.toNat yf.toNat ++ yx).data.toList).length ≤ 1000000000 := by
        have := congrArg List.length hA3.out
        rw [List.length_append] at this
        omega
      have O5 := Aside0.mk o5
      have hf1 : yf ≤ (s.size : Int) := by omega
      have hwl : (acc ++ (s.extract a.toNat yf.toNat ++ yx).data.toList).length = acc.length + (s.extract a.toNat yf.toNat ++ yx).size := by rw [List.length_append, ← size_len]
      have hcat : (s.extract a.toNat yf.toNat).size + yx.size ≤ 9223372036854775807 := by
        rw [app_ba] at hal
        rw [ba_data, List.length_append, List.length_append, ← size_len, ← size_len] at hal
        omega
      have hcatr : ∀ W : World, (Op.stringOp .add (s.extract a.toNat yf.toNat) yx).run Tryd.prog W = .ok (.string (s.extract a.toNat yf.toNat ++ yx)) W := fun W => run_string_add_sum W _ _ hcat
      subst e0
      clear hA2 o5
      go_wp2
      obtain ⟨W2, hW2⟩ : ∃ W2, W2 = wr.alloc (.cells #[.int .i64 yf, .int .i64 yt, .string yx] 48) := ⟨_, rfl⟩
      rw [← hW2]
      have HB2 := Aside0.mk (show Below w.heap.size w W2 by rw [hW2]; exact HB.out.alloc (by omega) _)
      have hBA := Aside0.mk (show Lib.IsBuilderF 85 5 w.heap.size w.heap.size (Lib.byteCells acc) W2.drew by
        rw [hW2]
        rcases HBu.out with h | h
        · exact .inl ((h.alloc _).drew)
        · exact .inr ((h.alloc _).drew))
      have HK := Aside0.mk (show W2.heap[wr.heap.size]? = some (.cells #[.int .i64 yf, .int .i64 yt, .string yx] 48 (0, 0)) by rw [hW2]; exact heap_alloc_new wr _)
      have hsz2 : W2.heap.size = wr.heap.size + 1 := by rw [hW2]; simp
      have k0 : W2.cell? ⟨wr.heap.size, 0, none⟩ = some (.int .i64 yf) := (blk_cell HK.out 0).trans rfl
      have k1 : W2.cell? ⟨wr.heap.size, 1, none⟩ = some (.int .i64 yt) := (blk_cell HK.out 1).trans rfl
      have k2 : W2.cell? ⟨wr.heap.size, 2, none⟩ = some (.string yx) := (blk_cell HK.out 2).trans rfl
      clear hW2
      go_still_tail 8, (by kernel_rfl)
      change wpList _ _ _ _ _ W2.drew
      go_wp2_with (go_at_call 67; refine (Tryd.Builder_WriteString_k w.heap.size w.heap.size _ (s.extract a.toNat yf.toNat ++ yx) _ hBA.out (by rw [Lib.byteCells_length]; omega) (show w.heap.size ≤ W2.heap.size by omega)).mono ?_; rintro e w3 ⟨rfl, hb3, bb3, ok3⟩; have HB3 := Aside0.mk hb3; have HBB3 := Aside0.mk bb3; have HOK := Aside0.mk ok3; have HK3 := Aside0.mk (ok3 _ _ (blk_drew HK.out) (by simp; omega) (by intro c' fz e; cases e)); have k30 : w3.cell? ⟨wr.heap.size, 1, none⟩ = some (.int .i64 yt) := (blk_cell HK3.out 1).trans rfl; clear hb3 bb3 ok3)
      have hs3 := HBB3.out.size
      go_roundg (l.length - (i + 1))
      case measure => omega
      case rel => exact ⟨i + 1, yt, acc ++ (s.extract a.toNat yf.toNat ++ yx).data.toList, rfl, by go_num, by omega, by omega, O5, hA3, ⟨by rw [Lib.byteCells_append]; exact .inr HB3.out⟩, ⟨HB2.out.drew.trans HBB3.out⟩, by have : W2.drew.heap.size = W2.heap.size := rfl; omega⟩
    · have hlt2 : decide ((i : Int) < (l.length : Int)) = false := decide_eq_false (by omega)
      have hlt3 : decide (i < l.length) = false := decide_eq_false hlt
      have hA2 := HA.out
      rw [List.drop_eq_nil_of_le (by omega), splB] at hA2
      have HA2 := Aside0.mk hA2
      have hf1 : a ≤ (s.size : Int) := by omega
      have hBD := Aside0.mk (show Lib.IsBuilderF 85 5 w.heap.size w.heap.size (Lib.byteCells acc) wr.drew by
        rcases HBu.out with h | h
        · exact .inl h.drew
        · exact .inr h.drew)
      have hcat : (⟨acc.toArray⟩ : ByteArray).size + (s.extract a.toNat s.size).size ≤ 9223372036854775807 := by
        have h1 := congrArg List.length hA2
        rw [List.length_append, ← size_len] at h1
        have h2 : (⟨acc.toArray⟩ : ByteArray).size = acc.length := by rw [size_len]
        omega
      have hcatr : ∀ W : World, (Op.stringOp .add ⟨acc.toArray⟩ (s.extract a.toNat s.size)).run Tryd.prog W = .ok (.string (⟨acc.toArray⟩ ++ (s.extract a.toNat s.size))) W := fun W => run_string_add_sum W _ _ hcat
      have HFIN := Aside0.mk (show (⟨acc.toArray⟩ : ByteArray) ++ s.extract a.toNat s.size = ba RES by rw [app_ba]; exact congrArg ba hA2)
      clear hA2
      go_wp2
      go_region_with (go_at_call 69; refine (Tryd.Builder_String_any_k w.heap.size w.heap.size acc _ hBD.out (show w.heap.size ≤ wr.drew.heap.size from (by have : wr.drew.heap.size = wr.heap.size := rfl; omega))).mono ?_; rintro e w3 ⟨rfl, hb3, bb3, ok3⟩; have HBB3 := Aside0.mk bb3; clear hb3 bb3 ok3)
      all_goals (go_wp2; go_ret; exact ⟨by rw [HFIN.out]; rfl, HB.out.drew.trans HBB3.out⟩)
theorem runRight_aux (a b : ByteArray) : (a.toList == b.toList) = decide (a = b) := Bl a b
/-- Is a token right as it stands alone? -/
def rightB (k : Int) (t : ByteArray) : Bool := decide ((firstM kwM t).2 = 0) && (decide ((firstM kwM t).1.1 = k) && decide ((firstM kwM t).1.2 = t))
set_option maxRecDepth 8000 in
set_option maxHeartbeats 4000000 in
theorem isRight_any (k : Int) (t : ByteArray) (a : Int) (w : World) (hg : Gl w) (hs : t.size ≤ 140737488351232) :
    Calls Tryd.prog 83 #[.agg #[.int .u8 k, .string t, .int .i64 a]] w fun e w' => e = .returned (.bool (rightB k t)) ∧ Below w.heap.size w w' := by
  have b0 := Aside0.mk ((Below.refl _ w).alloc (Nat.le_refl _) (.cells #[.int .u8 k, .string t, .int .i64 a] 35))
  have hF := first_any t (w.alloc (.cells #[.int .u8 k, .string t, .int .i64 a] 35)) (hg.mono b0.out) hs
  unfold rightB
  generalize firstM kwM t = F at *
  obtain ⟨⟨fk, ft⟩, fe⟩ := F
  simp only at hF ⊢
  have hbl := runRight_aux ft t
  generalize hq : decide (ft = t) = qb at *
  clear hg
  go_enter Tryd.func83, Tryd.ntmps83
  go_wp2_with (go_at_call 45; refine hF.mono ?_; rintro e w3 ⟨rfl, hb3⟩; have HB3 := Aside0.mk hb3; have HK3 := Aside0.mk ((hb3.block w.heap.size (by simp)).trans (heap_alloc_new w _)); have hn3 : w.heap.size ≠ w3.heap.size := (by have := hb3.size; simp at this; omega); have k0 : w3.cell? ⟨w.heap.size, 0, none⟩ = some (.int .u8 k) := (blk_cell HK3.out 0).trans rfl; have k1 : w3.cell? ⟨w.heap.size, 1, none⟩ = some (.string t) := (blk_cell HK3.out 1).trans rfl; have ka0 : ∀ o, (w3.alloc o).cell? ⟨w.heap.size, 0, none⟩ = some (.int .u8 k) := (fun o => (blk_cell (blk_alloc HK3.out o) 0).trans rfl); have ka1 : ∀ o, (w3.alloc o).cell? ⟨w.heap.size, 1, none⟩ = some (.string t) := (fun o => (blk_cell (blk_alloc HK3.out o) 1).trans rfl); clear hb3)
  all_goals (go_ret; refine ⟨by simp_all, ?_⟩; exact b0.out.trans ((HB3.out.mono (by simp)).alloc (by have := HB3.out.size; simp at this; omega) _))
def nameB (t : ByteArray) : Bool := rightB 1 t
theorem isName_any (t : ByteArray) (w : World) (hg : Gl w) (hs : t.size ≤ 140737488351232) :
    Calls Tryd.prog 50 #[.string t] w fun e w' => e = .returned (.bool (nameB t)) ∧ Below w.heap.size w w' := by
  have hR := isRight_any 1 t 0 w hg hs
  unfold nameB
  generalize rightB 1 t = b at *
  go_enter Tryd.func50, Tryd.ntmps50
  go_wp2_with (go_at_call 83; refine hR.mono ?_; rintro e w3 ⟨rfl, hb3⟩)
  go_ret
  exact ⟨rfl, hb3⟩
end Go.Proofs.YtggfcmondffodaaDoor.P
namespace Go.Proofs.YtggfcmondffodaaDoor.P
open Go.RowKit Go.Proofs.YtggfcmondffodaaDoorW.PrintWords
set_option linter.unusedVariables false
set_option linter.unusedSimpArgs false
/-- Tokens that stand in order, from a place on, within so many bytes. -/
def TOrd (n : Nat) : List Tk → Int → Prop
  | [], a => a ≤ n
  | x :: r, a => a ≤ x.f2 ∧ x.f2 + (x.f1.size : Int) ≤ n ∧ TOrd n r (x.f2 + (x.f1.size : Int))
theorem TOrd.le {n : Nat} : ∀ {l : List Tk} {a b : Int}, TOrd n l a → b ≤ a → TOrd n l b
  | [], a, b, h, hb => Int.le_trans hb h
  | x :: r, a, b, h, hb => ⟨Int.le_trans hb h.1, h.2⟩
theorem goT_ord (kw : ByteArray → Bool) (s : ByteArray) : ∀ (d i : Nat) (l l' : List Tk), s.size - i ≤ d → i ≤ s.size → goT kw s (pcsA s (lenT kw s) i) l = (l', 0, 0) → ∃ r, l' = l ++ r ∧ TOrd s.size r (i : Int) := by
  intro d
  induction d with
  | zero =>
    intro i l l' hd hi h
    rw [pcsA_end s _ (lenT_pos kw s) i (by omega)] at h
    exact ⟨[], by rw [List.append_nil]; exact (congrArg Prod.fst h).symm, by show (i : Int) ≤ s.size; omega⟩
  | succ d ih =>
    intro i l l' hd hi h
    by_cases hlt : i < s.size
    · rw [pcsA_step s _ (lenT_pos kw s) i hlt] at h
      by_cases c1 : spB (bt s (i : Int)) = true
      · rw [if_pos c1] at h
        obtain ⟨r, h1, h2⟩ := ih (i + 1) l l' (by omega) (by omega) h
        exact ⟨r, h1, h2.le (by omega)⟩
      · rw [if_neg c1] at h
        by_cases c2 : bt s (i : Int) = 126
        · have hp := noteL_pos s i hlt c2
          have hle : i + noteL s i ≤ s.size := ll_le s s.size i hi
          have hz := noteT_size s i hi
          rw [if_pos c2, goT_cons] at h
          have e : stepT kw s l (i, noteT s i) = (l, 0, 0) := by unfold stepT; rw [if_pos (show (noteT s i).size ≠ 0 by omega)]
          rw [e, if_pos rfl] at h
          obtain ⟨r, h1, h2⟩ := ih (i + noteL s i) l l' (by omega) (by omega) h
          exact ⟨r, h1, h2.le (by omega)⟩
        · rw [if_neg c2, goT_cons] at h
          have hst : stepT kw s l (i, ByteArray.empty) = if (firstM kw (s.extract i s.size)).2 ≠ 0 then ([], (i : Int), (firstM kw (s.extract i s.size)).2) else if l.length = 900 then ([], (i : Int), 5) else (l ++ [⟨(firstM kw (s.extract i s.size)).1.1, (firstM kw (s.extract i s.size)).1.2, (i : Int)⟩], 0, 0) := by
            unfold stepT
            rw [if_neg (show ¬ (ByteArray.empty.size ≠ 0) by decide)]
          rw [hst] at h
          by_cases c3 : (firstM kw (s.extract i s.size)).2 ≠ 0
          · rw [if_pos c3, if_neg c3] at h
            exact absurd (congrArg (fun y => y.2.2) h) c3
          · rw [if_neg c3] at h
            by_cases c4 : l.length = 900
            · rw [if_pos c4, if_neg (show ¬ (5 : Int) = 0 by decide)] at h
              exact absurd (show (5 : Int) = 0 from congrArg (fun y => y.2.2) h) (by decide)
            · rw [if_neg c4, if_pos rfl] at h
              have hz : (firstM kw (s.extract i s.size)).2 = 0 := by simpa using c3
              have hsz := firstM_size kw _ hz
              rw [size_ex, Nat.min_self] at hsz
              have hlen : lenT kw s i = (firstM kw (s.extract i s.size)).1.2.size := by unfold lenT; rw [if_pos hz]
              rw [hlen] at h
              obtain ⟨r, h1, h2⟩ := ih _ _ l' (by omega) (by omega) h
              refine ⟨_ :: r, by rw [h1, List.append_assoc]; rfl, ?_⟩
              exact ⟨Int.le_refl _, by simp only; omega, by
                have : ((i + (firstM kw (s.extract i s.size)).1.2.size : Nat) : Int) = (i : Int) + ((firstM kw (s.extract i s.size)).1.2.size : Int) := by omega
                rw [this] at h2; exact h2⟩
    · rw [pcsA_end s _ (lenT_pos kw s) i (by omega)] at h
      exact ⟨[], by rw [List.append_nil]; exact (congrArg Prod.fst h).symm, by show (i : Int) ≤ s.size; omega⟩
theorem toks_ord (s : ByteArray) (h : (toksM kwM s).2.2 = 0) : TOrd s.size (toksM kwM s).1 0 ∧ (toksM kwM s).1.length ≤ 900 ∧ s.size ≤ 2500 := by
  unfold toksM at h ⊢
  by_cases c : (chkT s).2 = 0
  · rw [if_neg (by simpa using c)] at h ⊢
    have hl := goT_len kwM s (pcsA s (lenT kwM s) 0) [] (by decide)
    have hs : s.size ≤ 2500 := by
      rw [chkT_eq] at c
      by_cases c2 : 2500 < s.size
      · rw [if_pos c2] at c; exact absurd (show (5 : Int) = 0 from c) (by decide)
      · omega
    refine ⟨?_, hl, hs⟩
    generalize hg : goT kwM s (pcsA s (lenT kwM s) 0) [] = G at *
    obtain ⟨g1, g2, g3⟩ := G
    have h3 : g3 = 0 := h
    subst h3
    have hp : g2 = 0 := by
      have : ∀ (L : List (Nat × ByteArray)) (l l' : List Tk) (p : Int), goT kwM s L l = (l', p, 0) → p = 0 := by
        intro L
        induction L with
        | nil => intro l l' p h; exact (congrArg (fun y => y.2.1) h).symm
        | cons x L ih =>
          intro l l' p h
          rw [goT_cons] at h
          by_cases c : (stepT kwM s l x).2.2 = 0
          · rw [if_pos c] at h; exact ih _ _ _ h
          · rw [if_neg c] at h; exact absurd (congrArg (fun y => y.2.2) h) c
      exact this _ _ _ _ hg
    subst hp
    obtain ⟨r, h1, h2⟩ := goT_ord kwM s s.size 0 [] g1 (by omega) (by omega) hg
    rw [List.nil_append] at h1
    subst h1
    exact h2
  · rw [if_pos c] at h; exact absurd h c
/-- The splices of a renaming. -/
def renS (old name : ByteArray) (l : List Tk) : List Sp := (l.filter fun t => decide (t.f1 = old)).map fun t => ⟨t.f2, t.f2 + (old.size : Int), name⟩
theorem renS_ord (n : Nat) (old name : ByteArray) : ∀ (l : List Tk) (a b : Int), TOrd n l a → 0 ≤ b → b ≤ a → OrdS n (renS old name l) b
  | [], a, b, h, h0, hb => ⟨h0, Int.le_trans hb h⟩
  | x :: r, a, b, h, h0, hb => by
    obtain ⟨h1, h2, h3⟩ := h
    unfold renS
    by_cases c : x.f1 = old
    · rw [List.filter_cons_of_pos (by exact decide_eq_true c), List.map_cons]
      have := renS_ord n old name r _ (x.f2 + (old.size : Int)) h3 (by omega) (by rw [← c]; exact Int.le_refl _)
      exact ⟨h0, by show b ≤ x.f2; omega, by show x.f2 ≤ x.f2 + (old.size : Int); omega, by show x.f2 + (old.size : Int) ≤ n; rw [← c]; exact h2, this⟩
    · rw [List.filter_cons_of_neg (by simpa using c)]
      exact renS_ord n old name r _ b h3 h0 (by omega)
theorem renS_len (old name : ByteArray) (l : List Tk) : (renS old name l).length ≤ l.length := by
  unfold renS
  rw [List.length_map]
  exact List.length_filter_le _ _
theorem splB_len (s : ByteArray) (m : Nat) : ∀ (l : List Sp) (a : Int), (∀ x ∈ l, x.f2.size ≤ m) → OrdS s.size l a → (splB s l a).length + a.toNat ≤ s.size + l.length * m
  | [], a, _, h => by
    unfold splB
    rw [← size_len, size_ex]
    have := h.1; have := h.2
    simp only [List.length_nil]
    omega
  | x :: r, a, hm, h => by
    obtain ⟨h1, h2, h3, h4, h5⟩ := h
    have ih := splB_len s m r x.f1 (fun y hy => hm y (List.mem_cons_of_mem _ hy)) h5
    have hx := hm x List.mem_cons_self
    unfold splB
    rw [List.length_append, List.length_append, ← size_len, ← size_len, size_ex, List.length_cons, Nat.succ_mul]
    omega
theorem nameB_size (t : ByteArray) (h : nameB t = true) : t.size ≤ 12 := by
  unfold nameB rightB at h
  simp only [Bool.and_eq_true, decide_eq_true_eq] at h
  obtain ⟨h0, h1, h2⟩ := h
  unfold firstM at h0 h1 h2
  by_cases c : wlen t = 0
  · rw [if_pos c] at h1
    cases hs : signM t with
    | none => rw [hs] at h1; exact absurd (show (0 : Int) = 1 from h1) (by decide)
    | some z => rw [hs] at h1; exact absurd (show (4 : Int) = 1 from h1) (by decide)
  · rw [if_neg c] at h0 h1 h2
    by_cases c2 : dgB (bt t 0) = true
    · rw [if_pos c2] at h1; exact absurd (show (2 : Int) = 1 from h1) (by decide)
    · rw [if_neg c2] at h0 h1 h2
      by_cases c3 : smB (bt t 0) = false
      · rw [if_pos c3] at h1; exact absurd (show (0 : Int) = 1 from h1) (by decide)
      · rw [if_neg c3] at h0 h1 h2
        by_cases c4 : kwM (t.extract 0 (wlen t)) = true
        · rw [if_pos c4] at h1; exact absurd (show (3 : Int) = 1 from h1) (by decide)
        · rw [if_neg c4] at h0 h1 h2
          by_cases c5 : 12 < (t.extract 0 (wlen t)).size
          · rw [if_pos c5] at h1; exact absurd (show (0 : Int) = 1 from h1) (by decide)
          · rw [if_neg c5] at h2
            have h3 : t.extract 0 (wlen t) = t := h2
            rw [h3] at c5; omega
/-- lex.Rename. -/
def renM (s old name : ByteArray) : ByteArray × Int :=
  if (toksM kwM s).2.2 ≠ 0 then (ByteArray.empty, (toksM kwM s).2.2)
  else if nameB old = false ∨ nameB name = false then (ByteArray.empty, 2)
  else if renS old name (toksM kwM s).1 = [] then (ByteArray.empty, 7)
  else if ((toksM kwM s).1.any fun t => decide (t.f1 = name)) = true then (ByteArray.empty, 6)
  else if 2500 < (splM s (renS old name (toksM kwM s).1)).size then (ByteArray.empty, 5)
  else (splM s (renS old name (toksM kwM s).1), 0)
end Go.Proofs.YtggfcmondffodaaDoor.P
