/- What the claim's law needs, many texts in one (Xn Xo P2 P10 P11 P12 P13 Ya Yb). No conditions of its own. -/
import Derived.Test.YtggfcmondffodaaDoorZg9
import Derived.Deep.RegionWith
import Derived.BigCall
import Derived.Test.YtggfcmondffodaaDoorZg2
import Derived.Test.YtggfcmondffodaaDoorZg4
set_option linter.unusedVariables false
set_option linter.unusedSimpArgs false
namespace Go.Proofs.YtggfcmondffodaaDoor.P
open Go.RowKit Go.Shelf Go.Maps Go.Proofs.YtggfcmondffodaaDoorW.PrintWords Go.Proofs.YtggfcmondffodaaDoorW.PrintLast Go.Proofs.YtggfcmondffodaaDoorW.PrintMore
set_option linter.unusedVariables false
set_option linter.unusedSimpArgs false
abbrev Sp := S48
/-- Splices that stand in order, from a place on, within so many bytes. -/
def OrdS (n : Nat) : List Sp → Int → Prop
  | [], a => 0 ≤ a ∧ a ≤ n
  | x :: r, a => 0 ≤ a ∧ a ≤ x.f0 ∧ x.f0 ≤ x.f1 ∧ x.f1 ≤ n ∧ OrdS n r x.f1
/-- The bytes behind a place, after splices. -/
def splB (s : ByteArray) : List Sp → Int → List UInt8
  | [], a => (s.extract a.toNat s.size).data.toList
  | x :: r, a => (s.extract a.toNat x.f0.toNat).data.toList ++ (x.f2.data.toList ++ splB s r x.f1)
def splM (s : ByteArray) (l : List Sp) : ByteArray := ba (splB s l 0)
theorem OrdS.range {n : Nat} : ∀ {l : List Sp} {a : Int}, OrdS n l a → 0 ≤ a ∧ a ≤ n
  | [], _, h => h
  | x :: r, _, h => ⟨h.1, by have := h.2; omega⟩
theorem drop_rd (l : List Sp) (i : Nat) (h : i < l.length) : l.drop i = rd_T48 l (i : Int) :: l.drop (i + 1) := by
  rw [List.drop_eq_getElem_cons h]
  congr 1
  unfold rd_T48
  simp [List.getD, List.getElem?_eq_getElem h]
theorem ba_data (l : List UInt8) : (ba l).data.toList = l := rfl
theorem app_ba (s t : ByteArray) : s ++ t = ba (s.data.toList ++ t.data.toList) := by
  apply ba_ext
  rw [ba_data]
  simp
theorem size_len (s : ByteArray) : s.size = s.data.toList.length := by rw [data_length]
set_option maxRecDepth 8000 in
set_option maxHeartbeats 4000000 in
theorem spliced_any (s : ByteArray) (A : Option Addr) (c : Nat) (l : List Sp) (w : World) (hr : Kd.C k48 w A l.length l) (hs : s.size ≤ 1000000000) (hll : l.length ≤ 1000000000) (ho : OrdS s.size l 0) (hb : (splB s l 0).length ≤ 1000000000) :
    Calls Tryd.prog 51 #[.string s, .slice A l.length c] w fun e w' => e = .returned (.string (splM s l)) ∧ Below w.heap.size w w' := by
  have HR := Aside0.mk hr
  have HO := Aside0.mk ho
  obtain ⟨RES, hRES⟩ : ∃ R, splB s l 0 = R := ⟨_, rfl⟩
  rw [hRES] at hb
  unfold splM
  rw [hRES]
  have HS := Aside0.mk hRES
  clear hr ho hRES
  have h0 := Aside0.mk (show Lib.IsBuilderF 85 5 w.heap.size w.heap.size (Lib.byteCells []) (w.alloc (.cells #[.pointer none, .slice none 0 0] 85)) from Lib.IsBuilderF.of (Lib.fresh_isBuilder 85 5 w))
  have b0 := Aside0.mk ((Below.refl _ w).alloc (Nat.le_refl _) (.cells #[.pointer none, .slice none 0 0] 85))
  go_enter Tryd.func51, Tryd.ntmps51
  go_wp2
  go_loopg [6, 11] l.length (fun gg s6 s11 wr => ∃ (i : Nat) (a : Int) (acc : List UInt8), s6 = .int .i64 a ∧ s11 = .int .i64 i ∧ i ≤ l.length ∧ l.length - i ≤ gg ∧ Aside0 (OrdS s.size (l.drop i) a) ∧ Aside0 (acc ++ splB s (l.drop i) a = RES) ∧ Aside0 (Lib.IsBuilderF 85 5 w.heap.size w.heap.size (Lib.byteCells acc) wr) ∧ Aside0 (Below w.heap.size w wr) ∧ w.heap.size + 1 ≤ wr.heap.size)
  case atStart => exact ⟨0, 0, [], rfl, rfl, Nat.zero_le _, by omega, HO, ⟨HS.out⟩, h0, b0, by simp⟩
  case round =>
    obtain ⟨i, a, acc, rfl, rfl, hi, hg, HOi, HA, HBu, HB, hsz⟩ := hrel
    obtain ⟨ha0, ha1⟩ := HOi.out.range
    by_cases hlt : i < l.length
    · have hltz : (i : Int) < (l.length : Int) := by omega
      obtain ⟨ad, e0, x0, x1, x2⟩ := at_T48 HR.out (i : Int) (by omega) hltz
      have hO2 := HOi.out
      have hA2 := HA.out
      rw [drop_rd l i hlt] at hO2 hA2
      obtain ⟨o1, o2, o3, o4, o5⟩ := hO2
      rw [Int.toNat_natCast] at x0 x1 x2
      generalize rd_T48 l (i : Int) = y at *
      obtain ⟨yf, yt, yx⟩ := y
      simp only at o2 o3 o4
      replace x0 := (HB.out.cell (World.block_lt_of_cell? w _ x0)).trans x0
      replace x1 := (HB.out.cell (World.block_lt_of_cell? w _ x1)).trans x1
      replace x2 := (HB.out.cell (World.block_lt_of_cell? w _ x2)).trans x2
      have hA3 := Aside0.mk (show (acc ++ (s.extract a.toNat yf.toNat ++ yx).data.toList) ++ splB s (l.drop (i + 1)) yt = RES by
        rw [app_ba, ba_data, ← hA2, splB, List.append_assoc, List.append_assoc])
      have hal : (acc ++ (s.extract a.toNat yf.toNat ++ yx).data.toList).length ≤ 1000000000 := by
        have := congrArg List.length hA3.out
        rw [List.length_append] at this
        omega
      have O5 := Aside0.mk o5
      have hf1 : yf ≤ (s.size : Int) := by omega
      have hwl : (acc ++ (s.extract a.toNat yf.toNat ++ yx).data.toList).length = acc.length + (s.extract a.toNat yf.toNat ++ yx).size := by rw [List.length_append, ← size_len]
      have hcat : (s.extract a.toNat yf.toNat).size + yx.size ≤ 9223372036854775807 := by
        rw [app_ba] at hal
        rw [ba_data, List.length_append, List.length_append, ← size_len, ← size_len] at hal
        omega
      have hcatr : ∀ W : World, (Op.stringOp .add (s.extract a.toNat yf.toNat) yx).run Tryd.prog W = .ok (.string (s.extract a.toNat yf.toNat ++ yx)) W := fun W => run_string_add_sum W _ _ hcat
      subst e0
      clear hA2 o5
      go_wp2
      obtain ⟨W2, hW2⟩ : ∃ W2, W2 = wr.alloc (.cells #[.int .i64 yf, .int .i64 yt, .string yx] 48) := ⟨_, rfl⟩
      rw [← hW2]
      have HB2 := Aside0.mk (show Below w.heap.size w W2 by rw [hW2]; exact HB.out.alloc (by omega) _)
      have hBA := Aside0.mk (show Lib.IsBuilderF 85 5 w.heap.size w.heap.size (Lib.byteCells acc) W2.drew by
        rw [hW2]
        rcases HBu.out with h | h
        · exact .inl ((h.alloc _).drew)
        · exact .inr ((h.alloc _).drew))
      have HK := Aside0.mk (show W2.heap[wr.heap.size]? = some (.cells #[.int .i64 yf, .int .i64 yt, .string yx] 48 (0, 0)) by rw [hW2]; exact heap_alloc_new wr _)
      have hsz2 : W2.heap.size = wr.heap.size + 1 := by rw [hW2]; simp
      have k0 : W2.cell? ⟨wr.heap.size, 0, none⟩ = some (.int .i64 yf) := (blk_cell HK.out 0).trans rfl
      have k1 : W2.cell? ⟨wr.heap.size, 1, none⟩ = some (.int .i64 yt) := (blk_cell HK.out 1).trans rfl
      have k2 : W2.cell? ⟨wr.heap.size, 2, none⟩ = some (.string yx) := (blk_cell HK.out 2).trans rfl
      clear hW2
      go_still_tail 8, (by kernel_rfl)
      change wpList _ _ _ _ _ W2.drew
      go_wp2_with (go_at_call 67; refine (Tryd.Builder_WriteString_k w.heap.size w.heap.size _ (s.extract a.toNat yf.toNat ++ yx) _ hBA.out (by rw [Lib.byteCells_length]; omega) (show w.heap.size ≤ W2.heap.size by omega)).mono ?_; rintro e w3 ⟨rfl, hb3, bb3, ok3⟩; have HB3 := Aside0.mk hb3; have HBB3 := Aside0.mk bb3; have HOK := Aside0.mk ok3; have HK3 := Aside0.mk (ok3 _ _ (blk_drew HK.out) (by simp; omega) (by intro c' fz e; cases e)); have k30 : w3.cell? ⟨wr.heap.size, 1, none⟩ = some (.int .i64 yt) := (blk_cell HK3.out 1).trans rfl; clear hb3 bb3 ok3)
      have hs3 := HBB3.out.size
      go_roundg (l.length - (i + 1))
      case measure => omega
      case rel => exact ⟨i + 1, yt, acc ++ (s.extract a.toNat yf.toNat ++ yx).data.toList, rfl, by go_num, by omega, by omega, O5, hA3, ⟨by rw [Lib.byteCells_append]; exact .inr HB3.out⟩, ⟨HB2.out.drew.trans HBB3.out⟩, by have : W2.drew.heap.size = W2.heap.size := rfl; omega⟩
    · have hlt2 : decide ((i : Int) < (l.length : Int)) = false := decide_eq_false (by omega)
      have hlt3 : decide (i < l.length) = false := decide_eq_false hlt
      have hA2 := HA.out
      rw [List.drop_eq_nil_of_le (by omega), splB] at hA2
      have HA2 := Aside0.mk hA2
      have hf1 : a ≤ (s.size : Int) := by omega
      have hBD := Aside0.mk (show Lib.IsBuilderF 85 5 w.heap.size w.heap.size (Lib.byteCells acc) wr.drew by
        rcases HBu.out with h | h
        · exact .inl h.drew
        · exact .inr h.drew)
      have hcat : (⟨acc.toArray⟩ : ByteArray).size + (s.extract a.toNat s.size).size ≤ 9223372036854775807 := by
        have h1 := congrArg List.length hA2
        rw [List.length_append, ← size_len] at h1
        have h2 : (⟨acc.toArray⟩ : ByteArray).size = acc.length := by rw [size_len]
        omega
      have hcatr : ∀ W : World, (Op.stringOp .add ⟨acc.toArray⟩ (s.extract a.toNat s.size)).run Tryd.prog W = .ok (.string (⟨acc.toArray⟩ ++ (s.extract a.toNat s.size))) W := fun W => run_string_add_sum W _ _ hcat
      have HFIN := Aside0.mk (show (⟨acc.toArray⟩ : ByteArray) ++ s.extract a.toNat s.size = ba RES by rw [app_ba]; exact congrArg ba hA2)
      clear hA2
      go_wp2
      go_region_with (go_at_call 69; refine (Tryd.Builder_String_any_k w.heap.size w.heap.size acc _ hBD.out (show w.heap.size ≤ wr.drew.heap.size from (by have : wr.drew.heap.size = wr.heap.size := rfl; omega))).mono ?_; rintro e w3 ⟨rfl, hb3, bb3, ok3⟩; have HBB3 := Aside0.mk bb3; clear hb3 bb3 ok3)
      all_goals (go_wp2; go_ret; exact ⟨by rw [HFIN.out]; rfl, HB.out.drew.trans HBB3.out⟩)
theorem runRight_aux (a b : ByteArray) : (a.toList == b.toList) = decide (a = b) := Bl a b
/-- Is a token right as it stands alone? -/
def rightB (k : Int) (t : ByteArray) : Bool := decide ((firstM kwM t).2 = 0) && (decide ((firstM kwM t).1.1 = k) && decide ((firstM kwM t).1.2 = t))
set_option maxRecDepth 8000 in
set_option maxHeartbeats 4000000 in
theorem isRight_any (k : Int) (t : ByteArray) (a : Int) (w : World) (hg : Gl w) (hs : t.size ≤ 140737488351232) :
    Calls Tryd.prog 83 #[.agg #[.int .u8 k, .string t, .int .i64 a]] w fun e w' => e = .returned (.bool (rightB k t)) ∧ Below w.heap.size w w' := by
  have b0 := Aside0.mk ((Below.refl _ w).alloc (Nat.le_refl _) (.cells #[.int .u8 k, .string t, .int .i64 a] 35))
  have hF := first_any t (w.alloc (.cells #[.int .u8 k, .string t, .int .i64 a] 35)) (hg.mono b0.out) hs
  unfold rightB
  generalize firstM kwM t = F at *
  obtain ⟨⟨fk, ft⟩, fe⟩ := F
  simp only at hF ⊢
  have hbl := runRight_aux ft t
  generalize hq : decide (ft = t) = qb at *
  clear hg
  go_enter Tryd.func83, Tryd.ntmps83
  go_wp2_with (go_at_call 45; refine hF.mono ?_; rintro e w3 ⟨rfl, hb3⟩; have HB3 := Aside0.mk hb3; have HK3 := Aside0.mk ((hb3.block w.heap.size (by simp)).trans (heap_alloc_new w _)); have hn3 : w.heap.size ≠ w3.heap.size := (by have := hb3.size; simp at this; omega); have k0 : w3.cell? ⟨w.heap.size, 0, none⟩ = some (.int .u8 k) := (blk_cell HK3.out 0).trans rfl; have k1 : w3.cell? ⟨w.heap.size, 1, none⟩ = some (.string t) := (blk_cell HK3.out 1).trans rfl; have ka0 : ∀ o, (w3.alloc o).cell? ⟨w.heap.size, 0, none⟩ = some (.int .u8 k) := (fun o => (blk_cell (blk_alloc HK3.out o) 0).trans rfl); have ka1 : ∀ o, (w3.alloc o).cell? ⟨w.heap.size, 1, none⟩ = some (.string t) := (fun o => (blk_cell (blk_alloc HK3.out o) 1).trans rfl); clear hb3)
  all_goals (go_ret; refine ⟨by simp_all, ?_⟩; exact b0.out.trans ((HB3.out.mono (by simp)).alloc (by have := HB3.out.size; simp at this; omega) _))
def nameB (t : ByteArray) : Bool := rightB 1 t
theorem isName_any (t : ByteArray) (w : World) (hg : Gl w) (hs : t.size ≤ 140737488351232) :
    Calls Tryd.prog 50 #[.string t] w fun e w' => e = .returned (.bool (nameB t)) ∧ Below w.heap.size w w' := by
  have hR := isRight_any 1 t 0 w hg hs
  unfold nameB
  generalize rightB 1 t = b at *
  go_enter Tryd.func50, Tryd.ntmps50
  go_wp2_with (go_at_call 83; refine hR.mono ?_; rintro e w3 ⟨rfl, hb3⟩)
  go_ret
  exact ⟨rfl, hb3⟩
end Go.Proofs.YtggfcmondffodaaDoor.P
namespace Go.Proofs.YtggfcmondffodaaDoor.P
open Go.RowKit Go.Proofs.YtggfcmondffodaaDoorW.PrintWords
set_option linter.unusedVariables false
set_option linter.unusedSimpArgs false
/-- Tokens that stand in order, from a place on, within so many bytes. -/
def TOrd (n : Nat) : List Tk → Int → Prop
  | [], a => a ≤ n
  | x :: r, a => a ≤ x.f2 ∧ x.f2 + (x.f1.size : Int) ≤ n ∧ TOrd n r (x.f2 + (x.f1.size : Int))
theorem TOrd.le {n : Nat} : ∀ {l : List Tk} {a b : Int}, TOrd n l a → b ≤ a → TOrd n l b
  | [], a, b, h, hb => Int.le_trans hb h
  | x :: r, a, b, h, hb => ⟨Int.le_trans hb h.1, h.2⟩
theorem goT_ord (kw : ByteArray → Bool) (s : ByteArray) : ∀ (d i : Nat) (l l' : List Tk), s.size - i ≤ d → i ≤ s.size → goT kw s (pcsA s (lenT kw s) i) l = (l', 0, 0) → ∃ r, l' = l ++ r ∧ TOrd s.size r (i : Int) := by
  intro d
  induction d with
  | zero =>
    intro i l l' hd hi h
    rw [pcsA_end s _ (lenT_pos kw s) i (by omega)] at h
    exact ⟨[], by rw [List.append_nil]; exact (congrArg Prod.fst h).symm, by show (i : Int) ≤ s.size; omega⟩
  | succ d ih =>
    intro i l l' hd hi h
    by_cases hlt : i < s.size
    · rw [pcsA_step s _ (lenT_pos kw s) i hlt] at h
      by_cases c1 : spB (bt s (i : Int)) = true
      · rw [if_pos c1] at h
        obtain ⟨r, h1, h2⟩ := ih (i + 1) l l' (by omega) (by omega) h
        exact ⟨r, h1, h2.le (by omega)⟩
      · rw [if_neg c1] at h
        by_cases c2 : bt s (i : Int) = 126
        · have hp := noteL_pos s i hlt c2
          have hle : i + noteL s i ≤ s.size := ll_le s s.size i hi
          have hz := noteT_size s i hi
          rw [if_pos c2, goT_cons] at h
          have e : stepT kw s l (i, noteT s i) = (l, 0, 0) := by unfold stepT; rw [if_pos (show (noteT s i).size ≠ 0 by omega)]
          rw [e, if_pos rfl] at h
          obtain ⟨r, h1, h2⟩ := ih (i + noteL s i) l l' (by omega) (by omega) h
          exact ⟨r, h1, h2.le (by omega)⟩
        · rw [if_neg c2, goT_cons] at h
          have hst : stepT kw s l (i, ByteArray.empty) = if (firstM kw (s.extract i s.size)).2 ≠ 0 then ([], (i : Int), (firstM kw (s.extract i s.size)).2) else if l.length = 900 then ([], (i : Int), 5) else (l ++ [⟨(firstM kw (s.extract i s.size)).1.1, (firstM kw (s.extract i s.size)).1.2, (i : Int)⟩], 0, 0) := by
            unfold stepT
            rw [if_neg (show ¬ (ByteArray.empty.size ≠ 0) by decide)]
          rw [hst] at h
          by_cases c3 : (firstM kw (s.extract i s.size)).2 ≠ 0
          · rw [if_pos c3, if_neg c3] at h
            exact absurd (congrArg (fun y => y.2.2) h) c3
          · rw [if_neg c3] at h
            by_cases c4 : l.length = 900
            · rw [if_pos c4, if_neg (show ¬ (5 : Int) = 0 by decide)] at h
              exact absurd (show (5 : Int) = 0 from congrArg (fun y => y.2.2) h) (by decide)
            · rw [if_neg c4, if_pos rfl] at h
              have hz : (firstM kw (s.extract i s.size)).2 = 0 := by simpa using c3
              have hsz := firstM_size kw _ hz
              rw [size_ex, Nat.min_self] at hsz
              have hlen : lenT kw s i = (firstM kw (s.extract i s.size)).1.2.size := by unfold lenT; rw [if_pos hz]
              rw [hlen] at h
              obtain ⟨r, h1, h2⟩ := ih _ _ l' (by omega) (by omega) h
              refine ⟨_ :: r, by rw [h1, List.append_assoc]; rfl, ?_⟩
              exact ⟨Int.le_refl _, by simp only; omega, by
                have : ((i + (firstM kw (s.extract i s.size)).1.2.size : Nat) : Int) = (i : Int) + ((firstM kw (s.extract i s.size)).1.2.size : Int) := by omega
                rw [this] at h2; exact h2⟩
    · rw [pcsA_end s _ (lenT_pos kw s) i (by omega)] at h
      exact ⟨[], by rw [List.append_nil]; exact (congrArg Prod.fst h).symm, by show (i : Int) ≤ s.size; omega⟩
theorem toks_ord (s : ByteArray) (h : (toksM kwM s).2.2 = 0) : TOrd s.size (toksM kwM s).1 0 ∧ (toksM kwM s).1.length ≤ 900 ∧ s.size ≤ 2500 := by
  unfold toksM at h ⊢
  by_cases c : (chkT s).2 = 0
  · rw [if_neg (by simpa using c)] at h ⊢
    have hl := goT_len kwM s (pcsA s (lenT kwM s) 0) [] (by decide)
    have hs : s.size ≤ 2500 := by
      rw [chkT_eq] at c
      by_cases c2 : 2500 < s.size
      · rw [if_pos c2] at c; exact absurd (show (5 : Int) = 0 from c) (by decide)
      · omega
    refine ⟨?_, hl, hs⟩
    generalize hg : goT kwM s (pcsA s (lenT kwM s) 0) [] = G at *
    obtain ⟨g1, g2, g3⟩ := G
    have h3 : g3 = 0 := h
    subst h3
    have hp : g2 = 0 := by
      have : ∀ (L : List (Nat × ByteArray)) (l l' : List Tk) (p : Int), goT kwM s L l = (l', p, 0) → p = 0 := by
        intro L
        induction L with
        | nil => intro l l' p h; exact (congrArg (fun y => y.2.1) h).symm
        | cons x L ih =>
          intro l l' p h
          rw [goT_cons] at h
          by_cases c : (stepT kwM s l x).2.2 = 0
          · rw [if_pos c] at h; exact ih _ _ _ h
          · rw [if_neg c] at h; exact absurd (congrArg (fun y => y.2.2) h) c
      exact this _ _ _ _ hg
    subst hp
    obtain ⟨r, h1, h2⟩ := goT_ord kwM s s.size 0 [] g1 (by omega) (by omega) hg
    rw [List.nil_append] at h1
    subst h1
    exact h2
  · rw [if_pos c] at h; exact absurd h c
/-- The splices of a renaming. -/
def renS (old name : ByteArray) (l : List Tk) : List Sp := (l.filter fun t => decide (t.f1 = old)).map fun t => ⟨t.f2, t.f2 + (old.size : Int), name⟩
theorem renS_ord (n : Nat) (old name : ByteArray) : ∀ (l : List Tk) (a b : Int), TOrd n l a → 0 ≤ b → b ≤ a → OrdS n (renS old name l) b
  | [], a, b, h, h0, hb => ⟨h0, Int.le_trans hb h⟩
  | x :: r, a, b, h, h0, hb => by
    obtain ⟨h1, h2, h3⟩ := h
    unfold renS
    by_cases c : x.f1 = old
    · rw [List.filter_cons_of_pos (by exact decide_eq_true c), List.map_cons]
      have := renS_ord n old name r _ (x.f2 + (old.size : Int)) h3 (by omega) (by rw [← c]; exact Int.le_refl _)
      exact ⟨h0, by show b ≤ x.f2; omega, by show x.f2 ≤ x.f2 + (old.size : Int); omega, by show x.f2 + (old.size : Int) ≤ n; rw [← c]; exact h2, this⟩
    · rw [List.filter_cons_of_neg (by simpa using c)]
      exact renS_ord n old name r _ b h3 h0 (by omega)
theorem renS_len (old name : ByteArray) (l : List Tk) : (renS old name l).length ≤ l.length := by
  unfold renS
  rw [List.length_map]
  exact List.length_filter_le _ _
theorem splB_len (s : ByteArray) (m : Nat) : ∀ (l : List Sp) (a : Int), (∀ x ∈ l, x.f2.size ≤ m) → OrdS s.size l a → (splB s l a).length + a.toNat ≤ s.size + l.length * m
  | [], a, _, h => by
    unfold splB
    rw [← size_len, size_ex]
    have := h.1; have := h.2
    simp only [List.length_nil]
    omega
  | x :: r, a, hm, h => by
    obtain ⟨h1, h2, h3, h4, h5⟩ := h
    have ih := splB_len s m r x.f1 (fun y hy => hm y (List.mem_cons_of_mem _ hy)) h5
    have hx := hm x List.mem_cons_self
    unfold splB
    rw [List.length_append, List.length_append, ← size_len, ← size_len, size_ex, List.length_cons, Nat.succ_mul]
    omega
theorem nameB_size (t : ByteArray) (h : nameB t = true) : t.size ≤ 12 := by
  unfold nameB rightB at h
  simp only [Bool.and_eq_true, decide_eq_true_eq] at h
  obtain ⟨h0, h1, h2⟩ := h
  unfold firstM at h0 h1 h2
  by_cases c : wlen t = 0
  · rw [if_pos c] at h1
    cases hs : signM t with
    | none => rw [hs] at h1; exact absurd (show (0 : Int) = 1 from h1) (by decide)
    | some z => rw [hs] at h1; exact absurd (show (4 : Int) = 1 from h1) (by decide)
  · rw [if_neg c] at h0 h1 h2
    by_cases c2 : dgB (bt t 0) = true
    · rw [if_pos c2] at h1; exact absurd (show (2 : Int) = 1 from h1) (by decide)
    · rw [if_neg c2] at h0 h1 h2
      by_cases c3 : smB (bt t 0) = false
      · rw [if_pos c3] at h1; exact absurd (show (0 : Int) = 1 from h1) (by decide)
      · rw [if_neg c3] at h0 h1 h2
        by_cases c4 : kwM (t.extract 0 (wlen t)) = true
        · rw [if_pos c4] at h1; exact absurd (show (3 : Int) = 1 from h1) (by decide)
        · rw [if_neg c4] at h0 h1 h2
          by_cases c5 : 12 < (t.extract 0 (wlen t)).size
          · rw [if_pos c5] at h1; exact absurd (show (0 : Int) = 1 from h1) (by decide)
          · rw [if_neg c5] at h2
            have h3 : t.extract 0 (wlen t) = t := h2
            rw [h3] at c5; omega
/-- lex.Rename. -/
def renM (s old name : ByteArray) : ByteArray × Int :=
  if (toksM kwM s).2.2 ≠ 0 then (ByteArray.empty, (toksM kwM s).2.2)
  else if nameB old = false ∨ nameB name = false then (ByteArray.empty, 2)
  else if renS old name (toksM kwM s).1 = [] then (ByteArray.empty, 7)
  else if ((toksM kwM s).1.any fun t => decide (t.f1 = name)) = true then (ByteArray.empty, 6)
  else if 2500 < (splM s (renS old name (toksM kwM s).1)).size then (ByteArray.empty, 5)
  else (splM s (renS old name (toksM kwM s).1), 0)
end Go.Proofs.YtggfcmondffodaaDoor.P
namespace Go.Proofs.YtggfcmondffodaaDoor.P
open Go.RowKit Go.Proofs.YtggfcmondffodaaDoorW.PrintWords Go.Proofs.YtggfcmondffodaaDoorW.PrintLast Go.Proofs.YtggfcmondffodaaDoorW.PrintMore
attribute [local go_sem] min2_int min_two -- for this text's walks alone
set_option linter.unusedVariables false
set_option linter.unusedSimpArgs false



/-! ### riposteref01_Diff: function 24 -/
mutual
def riposteref01_Diff.j1 : Nat → ByteArray → ByteArray → Int → Int → Option ((List (S48)) × Int)
  | 0, _, _, _, _ => none
  | k + 1, x0, x1, x10, x11 => riposteref01_Diff.l1 k x0 x1 x10 x11
def riposteref01_Diff.l1 : Nat → ByteArray → ByteArray → Int → Int → Option ((List (S48)) × Int)
  | 0, _, _, _, _ => none
  | k + 1, x0, x1, x10, x11 => if x11 < (wrap64 ((x0.size : Int) - x10)) then (if x11 < (wrap64 ((x1.size : Int) - x10)) then (if 0 ≤ (wrap64 ((wrap64 ((x0.size : Int) - 1)) - x11)) then (if (wrap64 ((wrap64 ((x0.size : Int) - 1)) - x11)) < (x0.size : Int) then (if 0 ≤ (wrap64 ((wrap64 ((x1.size : Int) - 1)) - x11)) then (if (wrap64 ((wrap64 ((x1.size : Int) - 1)) - x11)) < (x1.size : Int) then (if (bt x0 (wrap64 ((wrap64 ((x0.size : Int) - 1)) - x11))) = (bt x1 (wrap64 ((wrap64 ((x1.size : Int) - 1)) - x11))) then (riposteref01_Diff.l1 k x0 x1 x10 (wrap64 (x11 + 1))) else (if 0 ≤ x10 then (if x10 ≤ (wrap64 ((x1.size : Int) - x11)) then (if (wrap64 ((x1.size : Int) - x11)) ≤ (x1.size : Int) then (some ((([(⟨x10, wrap64 ((x0.size : Int) - x11), x1.extract (x10 : Int).toNat ((wrap64 ((x1.size : Int) - x11)) : Int).toNat⟩ : S48)] : List (S48))), 0)) else (none)) else (none)) else (none))) else (none)) else (none)) else (none)) else (none)) else (if 0 ≤ x10 then (if x10 ≤ (wrap64 ((x1.size : Int) - x11)) then (if (wrap64 ((x1.size : Int) - x11)) ≤ (x1.size : Int) then (some ((([(⟨x10, wrap64 ((x0.size : Int) - x11), x1.extract (x10 : Int).toNat ((wrap64 ((x1.size : Int) - x11)) : Int).toNat⟩ : S48)] : List (S48))), 0)) else (none)) else (none)) else (none))) else (if 0 ≤ x10 then (if x10 ≤ (wrap64 ((x1.size : Int) - x11)) then (if (wrap64 ((x1.size : Int) - x11)) ≤ (x1.size : Int) then (some ((([(⟨x10, wrap64 ((x0.size : Int) - x11), x1.extract (x10 : Int).toNat ((wrap64 ((x1.size : Int) - x11)) : Int).toNat⟩ : S48)] : List (S48))), 0)) else (none)) else (none)) else (none))
def riposteref01_Diff.l0 : Nat → ByteArray → ByteArray → Int → Int → Option ((List (S48)) × Int)
  | 0, _, _, _, _ => none
  | k + 1, x0, x1, x10, x11 => if x10 < (x0.size : Int) then (if x10 < (x1.size : Int) then (if 0 ≤ x10 then (if (bt x0 x10) = (bt x1 x10) then (riposteref01_Diff.l0 k x0 x1 (wrap64 (x10 + 1)) x11) else (riposteref01_Diff.j1 k x0 x1 x10 x11)) else (none)) else (riposteref01_Diff.j1 k x0 x1 x10 x11)) else (riposteref01_Diff.j1 k x0 x1 x10 x11)
end
def riposteref01_Diff.f (k : Nat) (a0 : ByteArray) (a1 : ByteArray) : Option ((List (S48)) × Int) := (riposteref01_TextError.f k a0).bind fun bt217 => (if bt217.2 = 0 then ((riposteref01_TextError.f k a1).bind fun bt219 => (if bt219.2 = 0 then (if a0.toList = a1.toList then (some (([] : List (S48)), 0)) else (riposteref01_Diff.l0 k a0 a1 0 0)) else (some (([] : List (S48)), bt219.2)))) else (some (([] : List (S48)), bt217.2)))
set_option maxHeartbeats 8000000 in
set_option maxRecDepth 100000 in
theorem riposteref01_Diff.calls (k : Nat) (a0 : ByteArray) (a1 : ByteArray) (r1 : List (S48)) (r2 : Int) (w : World) (h : riposteref01_Diff.f k a0 a1 = some (r1, r2)) :
    Calls Tryd.prog 24 #[.string a0, .string a1] w fun e w' => ∃ v0_ : Value, e = .returned (.tuple #[v0_, .int .i64 r2]) ∧ Kd.R k48 48 w' w.heap.size (fun _ => True) v0_ r1 ∧ Below w.heap.size w w' := by
  have hu48 := Tryd.underlying48
  have HB := Aside0.mk (Below.refl w.heap.size w)
  have H : ((riposteref01_TextError.f k a0).bind fun bt217 => (if bt217.2 = 0 then ((riposteref01_TextError.f k a1).bind fun bt219 => (if bt219.2 = 0 then (if a0.toList = a1.toList then (some (([] : List (S48)), 0)) else (riposteref01_Diff.l0 k a0 a1 0 0)) else (some (([] : List (S48)), bt219.2)))) else (some (([] : List (S48)), bt217.2)))) = some (r1, r2) := h
  clear h
  replace H := Option.bind_eq_some_iff.mp H
  obtain ⟨⟨t217, t218⟩, A30, H⟩ := H
  replace H : (if t218 = 0 then ((riposteref01_TextError.f k a1).bind fun bt219 => (if bt219.2 = 0 then (if a0.toList = a1.toList then (some (([] : List (S48)), 0)) else (riposteref01_Diff.l0 k a0 a1 0 0)) else (some (([] : List (S48)), bt219.2)))) else (some (([] : List (S48)), t218))) = some (r1, r2) := H
  have A3 := Aside0.mk A30
  clear A30
  by_cases c4 : t218 = 0
  · rw [if_pos c4] at H
    have c4b0 : (t218 == 0) = true := beq_iff_eq.mpr c4
    have c4b1 : (t218 != 0) = false := bne_eq_false_iff_eq.mpr c4
    clear c4
    replace H := Option.bind_eq_some_iff.mp H
    obtain ⟨⟨t219, t220⟩, A50, H⟩ := H
    replace H : (if t220 = 0 then (if a0.toList = a1.toList then (some (([] : List (S48)), 0)) else (riposteref01_Diff.l0 k a0 a1 0 0)) else (some (([] : List (S48)), t220))) = some (r1, r2) := H
    have A5 := Aside0.mk A50
    clear A50
    by_cases c6 : t220 = 0
    · rw [if_pos c6] at H
      have c6b0 : (t220 == 0) = true := beq_iff_eq.mpr c6
      have c6b1 : (t220 != 0) = false := bne_eq_false_iff_eq.mpr c6
      clear c6
      by_cases c7 : a0.toList = a1.toList
      · rw [if_pos c7] at H
        have c7b0 : (a0.toList == a1.toList) = true := beq_iff_eq.mpr c7
        have c7b1 : (a0.toList != a1.toList) = false := bne_eq_false_iff_eq.mpr c7
        clear c7
        simp only [Option.some.injEq, Prod.mk.injEq] at H
        obtain ⟨rfl, rfl⟩ := H
        go_enter Tryd.func24, Tryd.ntmps24
        go_wp2_with (first | (go_at_call 46; (with_reducible refine (riposteref01_TextError.calls k a0 t217 t218 _ A3.out).mono ?_); rintro e w' ⟨rfl, ⟨nd, rfl⟩⟩; (try first | exact ⟨rfl, _, World.drewN_drewN _ _ _⟩ | exact ⟨rfl, _, Eq.trans (World.drewN_drewN _ _ _) (congrArg (World.drewN _) (Nat.add_assoc _ _ _))⟩)) | (go_at_call 46; (with_reducible refine (riposteref01_TextError.calls k a1 t219 t220 _ A5.out).mono ?_); rintro e w' ⟨rfl, ⟨nd, rfl⟩⟩; (try first | exact ⟨rfl, _, World.drewN_drewN _ _ _⟩ | exact ⟨rfl, _, Eq.trans (World.drewN_drewN _ _ _) (congrArg (World.drewN _) (Nat.add_assoc _ _ _))⟩)))
        repeat (go_quiet (first | (go_at_call 46; (with_reducible refine (riposteref01_TextError.calls k a0 t217 t218 _ A3.out).mono ?_); rintro e w' ⟨rfl, ⟨nd, rfl⟩⟩; (try first | exact ⟨rfl, _, World.drewN_drewN _ _ _⟩ | exact ⟨rfl, _, Eq.trans (World.drewN_drewN _ _ _) (congrArg (World.drewN _) (Nat.add_assoc _ _ _))⟩)) | (go_at_call 46; (with_reducible refine (riposteref01_TextError.calls k a1 t219 t220 _ A5.out).mono ?_); rintro e w' ⟨rfl, ⟨nd, rfl⟩⟩; (try first | exact ⟨rfl, _, World.drewN_drewN _ _ _⟩ | exact ⟨rfl, _, Eq.trans (World.drewN_drewN _ _ _) (congrArg (World.drewN _) (Nat.add_assoc _ _ _))⟩))); try go_wp2_with (first | (go_at_call 46; (with_reducible refine (riposteref01_TextError.calls k a0 t217 t218 _ A3.out).mono ?_); rintro e w' ⟨rfl, ⟨nd, rfl⟩⟩; (try first | exact ⟨rfl, _, World.drewN_drewN _ _ _⟩ | exact ⟨rfl, _, Eq.trans (World.drewN_drewN _ _ _) (congrArg (World.drewN _) (Nat.add_assoc _ _ _))⟩)) | (go_at_call 46; (with_reducible refine (riposteref01_TextError.calls k a1 t219 t220 _ A5.out).mono ?_); rintro e w' ⟨rfl, ⟨nd, rfl⟩⟩; (try first | exact ⟨rfl, _, World.drewN_drewN _ _ _⟩ | exact ⟨rfl, _, Eq.trans (World.drewN_drewN _ _ _) (congrArg (World.drewN _) (Nat.add_assoc _ _ _))⟩))))
        go_ret2
        exact ⟨_, by first | rfl | (simp [errW_none, errW_some] <;> rfl) | (simp [*, errW_none, errW_some] <;> rfl), by first | exact Kd.R_nil _ _ _ _ _ | exact Kd.N_nil _ _ _ _ _ | exact Kd.V_nil _ _ _ _ _ | exact Kd.Q_nil _ _ _ _ _ | exact Kd.S_nil _ _ _ _ _, by repeat (first | (with_reducible first | exact HB.out | apply below_alloc | apply pw_below_drewN | apply below_drew1) | exact HB.out)⟩
      · rw [if_neg c7] at H
        have c7b0 : (a0.toList == a1.toList) = false := beq_eq_false_iff_ne.mpr c7
        have c7b1 : (a0.toList != a1.toList) = true := bne_iff_ne.mpr c7
        have HC8 := Aside0.mk H
        clear H
        go_enter Tryd.func24, Tryd.ntmps24
        go_upto_block 0 with (first | (go_at_call 46; (with_reducible refine (riposteref01_TextError.calls k a0 t217 t218 _ A3.out).mono ?_); rintro e w' ⟨rfl, ⟨nd, rfl⟩⟩; (try first | exact ⟨rfl, _, World.drewN_drewN _ _ _⟩ | exact ⟨rfl, _, Eq.trans (World.drewN_drewN _ _ _) (congrArg (World.drewN _) (Nat.add_assoc _ _ _))⟩)) | (go_at_call 46; (with_reducible refine (riposteref01_TextError.calls k a1 t219 t220 _ A5.out).mono ?_); rintro e w' ⟨rfl, ⟨nd, rfl⟩⟩; (try first | exact ⟨rfl, _, World.drewN_drewN _ _ _⟩ | exact ⟨rfl, _, Eq.trans (World.drewN_drewN _ _ _) (congrArg (World.drewN _) (Nat.add_assoc _ _ _))⟩)))
        repeat (go_quiet (first | (go_at_call 46; (with_reducible refine (riposteref01_TextError.calls k a0 t217 t218 _ A3.out).mono ?_); rintro e w' ⟨rfl, ⟨nd, rfl⟩⟩; (try first | exact ⟨rfl, _, World.drewN_drewN _ _ _⟩ | exact ⟨rfl, _, Eq.trans (World.drewN_drewN _ _ _) (congrArg (World.drewN _) (Nat.add_assoc _ _ _))⟩)) | (go_at_call 46; (with_reducible refine (riposteref01_TextError.calls k a1 t219 t220 _ A5.out).mono ?_); rintro e w' ⟨rfl, ⟨nd, rfl⟩⟩; (try first | exact ⟨rfl, _, World.drewN_drewN _ _ _⟩ | exact ⟨rfl, _, Eq.trans (World.drewN_drewN _ _ _) (congrArg (World.drewN _) (Nat.add_assoc _ _ _))⟩))); go_upto_block 0 with (first | (go_at_call 46; (with_reducible refine (riposteref01_TextError.calls k a0 t217 t218 _ A3.out).mono ?_); rintro e w' ⟨rfl, ⟨nd, rfl⟩⟩; (try first | exact ⟨rfl, _, World.drewN_drewN _ _ _⟩ | exact ⟨rfl, _, Eq.trans (World.drewN_drewN _ _ _) (congrArg (World.drewN _) (Nat.add_assoc _ _ _))⟩)) | (go_at_call 46; (with_reducible refine (riposteref01_TextError.calls k a1 t219 t220 _ A5.out).mono ?_); rintro e w' ⟨rfl, ⟨nd, rfl⟩⟩; (try first | exact ⟨rfl, _, World.drewN_drewN _ _ _⟩ | exact ⟨rfl, _, Eq.trans (World.drewN_drewN _ _ _) (congrArg (World.drewN _) (Nat.add_assoc _ _ _))⟩))))
        (try simp only [Act.put, List.setIfInBounds_toArray, List.set_cons_zero, List.set_cons_succ])
        go_cut [10] (fun v10 wc => ∃ (kq : Nat) (x10_7 : Int), v10 = .int .i64 x10_7 ∧ Aside0 (riposteref01_Diff.j1 kq a0 a1 x10_7 0 = some (r1, r2)) ∧ Aside0 (kq ≤ k) ∧ Aside0 (Below w.heap.size w wc))
        case first =>
          have H := HC8.out
          clear HC8
          have H' := Aside0.mk H
          clear H
          go_wp2
          repeat (go_quiet (fail); try go_wp2)
          go_loopg [10] k (fun kq v10 w' => ∃ (x10_1 : Int), v10 = .int .i64 x10_1 ∧ Aside0 (riposteref01_Diff.l0 kq a0 a1 x10_1 0 = some (r1, r2)) ∧ Aside0 (kq ≤ k) ∧ Aside0 (Below w.heap.size w w'))
          case atStart => exact ⟨(0), (by first | rfl | (simp; done) | (simp [*]; done)), H', ⟨Nat.le_refl _⟩, ⟨by repeat (first | (with_reducible first | exact HB.out | apply below_alloc | apply pw_below_drewN | apply below_drew1) | exact HB.out)⟩⟩
          case round =>
            clear H'
            try clear c2
            try clear p2
            try clear c4
            try clear c4b0
            try clear c4b1
            try clear c6
            try clear c6b0
            try clear c6b1
            try clear c7
            try clear c7b0
            try clear c7b1
            obtain ⟨x10_1, rfl, HA, HK1, HB⟩ := hrel
            cases gk with
            | zero => exact absurd HA.out (by simp [riposteref01_Diff.l0])
            | succ k1 =>
              have H := HA.out
              clear HA
              simp only [riposteref01_Diff.l0] at H
              by_cases c9 : x10_1 < (a0.size : Int)
              · rw [if_pos c9] at H
                have c9b0 : decide (x10_1 < (a0.size : Int)) = true := decide_eq_true c9
                clear c9
                (first | rw [c9b0] | (simp only [i64_w, i32_w]; rw [c9b0]) | skip)
                by_cases c10 : x10_1 < (a1.size : Int)
                · rw [if_pos c10] at H
                  have c10b0 : decide (x10_1 < (a1.size : Int)) = true := decide_eq_true c10
                  clear c10
                  by_cases c11 : 0 ≤ x10_1
                  · rw [if_pos c11] at H
                    have c11b0 : decide (0 ≤ x10_1) = true := decide_eq_true c11
                    clear c11
                    by_cases c14 : (bt a0 x10_1) = (bt a1 x10_1)
                    · rw [if_pos c14] at H
                      have c14b0 : ((bt a0 x10_1) == (bt a1 x10_1)) = true := beq_iff_eq.mpr c14
                      have c14b1 : ((bt a0 x10_1) != (bt a1 x10_1)) = false := bne_eq_false_iff_eq.mpr c14
                      clear c14
                      have H' := Aside0.mk H
                      clear H
                      have p12 : 0 ≤ (x10_1 : Int) := of_decide_eq_true (by first | (with_reducible assumption) | assumption)
                      have q12 : x10_1 < (a0.size : Int) := of_decide_eq_true (by first | (with_reducible assumption) | assumption)
                      have hx12 := bt_at a0 x10_1
                      replace p12 := eq_true p12
                      replace q12 := eq_true q12
                      have p13 : 0 ≤ (x10_1 : Int) := of_decide_eq_true (by first | (with_reducible assumption) | assumption)
                      have q13 : x10_1 < (a1.size : Int) := of_decide_eq_true (by first | (with_reducible assumption) | assumption)
                      have hx13 := bt_at a1 x10_1
                      replace p13 := eq_true p13
                      replace q13 := eq_true q13
                      go_wp2
                      repeat (go_quiet (fail); try go_wp2)
                      go_roundg k1
                      case measure => have := HK1.out; omega
                      case rel => exact ⟨(wrap64 (x10_1 + 1)), (by first | rfl | (simp; done) | (simp [*]; done)), H', ⟨by have := HK1.out; omega⟩, ⟨by repeat (first | (with_reducible first | exact HB.out | apply below_alloc | apply pw_below_drewN | apply below_drew1) | exact HB.out)⟩⟩
                    · rw [if_neg c14] at H
                      have c14b0 : ((bt a0 x10_1) == (bt a1 x10_1)) = false := beq_eq_false_iff_ne.mpr c14
                      have c14b1 : ((bt a0 x10_1) != (bt a1 x10_1)) = true := bne_iff_ne.mpr c14
                      have H' := Aside0.mk H
                      clear H
                      have p12 : 0 ≤ (x10_1 : Int) := of_decide_eq_true (by first | (with_reducible assumption) | assumption)
                      have q12 : x10_1 < (a0.size : Int) := of_decide_eq_true (by first | (with_reducible assumption) | assumption)
                      have hx12 := bt_at a0 x10_1
                      replace p12 := eq_true p12
                      replace q12 := eq_true q12
                      have p13 : 0 ≤ (x10_1 : Int) := of_decide_eq_true (by first | (with_reducible assumption) | assumption)
                      have q13 : x10_1 < (a1.size : Int) := of_decide_eq_true (by first | (with_reducible assumption) | assumption)
                      have hx13 := bt_at a1 x10_1
                      replace p13 := eq_true p13
                      replace q13 := eq_true q13
                      go_wp2
                      repeat (go_quiet (fail); try go_wp2)
                      go_meet
                      case rel => exact ⟨_, (x10_1), (by first | rfl | (simp; done) | (simp [*]; done)), H', ⟨by have := HK1.out; first | omega | exact Nat.le_refl _⟩, ⟨by repeat (first | (with_reducible first | exact HB.out | apply below_alloc | apply pw_below_drewN | apply below_drew1) | exact HB.out)⟩⟩
                  · rw [if_neg c11] at H
                    exact absurd H (by simp)
                · rw [if_neg c10] at H
                  have c10b0 : decide (x10_1 < (a1.size : Int)) = false := decide_eq_false c10
                  clear c10
                  have H' := Aside0.mk H
                  clear H
                  go_wp2
                  repeat (go_quiet (fail); try go_wp2)
                  go_meet
                  case rel => exact ⟨_, (x10_1), (by first | rfl | (simp; done) | (simp [*]; done)), H', ⟨by have := HK1.out; first | omega | exact Nat.le_refl _⟩, ⟨by repeat (first | (with_reducible first | exact HB.out | apply below_alloc | apply pw_below_drewN | apply below_drew1) | exact HB.out)⟩⟩
              · rw [if_neg c9] at H
                have c9b0 : decide (x10_1 < (a0.size : Int)) = false := decide_eq_false c9
                clear c9
                (first | rw [c9b0] | (simp only [i64_w, i32_w]; rw [c9b0]) | skip)
                have H' := Aside0.mk H
                clear H
                go_wp2
                repeat (go_quiet (fail); try go_wp2)
                go_meet
                case rel => exact ⟨_, (x10_1), (by first | rfl | (simp; done) | (simp [*]; done)), H', ⟨by have := HK1.out; first | omega | exact Nat.le_refl _⟩, ⟨by repeat (first | (with_reducible first | exact HB.out | apply below_alloc | apply pw_below_drewN | apply below_drew1) | exact HB.out)⟩⟩
        case rest =>
          clear HC8
          try clear c1
          try clear p1
          try clear q1
          try clear hx1
          try clear c2
          try clear p2
          try clear c4
          try clear c4b0
          try clear c4b1
          try clear c6
          try clear c6b0
          try clear c6b1
          try clear p6
          try clear c7
          try clear c7b0
          try clear c7b1
          try clear c9
          try clear c9b0
          try clear c10
          try clear c10b0
          try clear c11
          try clear c11b0
          try clear p12
          try clear q12
          try clear hx12
          try clear p13
          try clear q13
          try clear hx13
          try clear c14
          try clear c14b0
          try clear c14b1
          try clear p12
          try clear p13
          try clear p2
          try clear q12
          try clear q13
          obtain ⟨kq, x10_7, rfl, HA, HJ7, HB⟩ := hcut
          cases kq with
          | zero => exact absurd HA.out (by simp [riposteref01_Diff.j1])
          | succ kj7 =>
            have H := HA.out
            clear HA
            simp only [riposteref01_Diff.j1] at H
            have H' := Aside0.mk H
            clear H
            go_wp2
            repeat (go_quiet (fail); try go_wp2)
            go_loopg [11] kj7 (fun kq v11 w' => ∃ (x11_2 : Int), v11 = .int .i64 x11_2 ∧ Aside0 (riposteref01_Diff.l1 kq a0 a1 x10_7 x11_2 = some (r1, r2)) ∧ Aside0 (kq ≤ kj7) ∧ Aside0 (Below w.heap.size w w'))
            case atStart => exact ⟨(0), (by first | rfl | (simp; done) | (simp [*]; done)), H', ⟨Nat.le_refl _⟩, ⟨by repeat (first | (with_reducible first | exact HB.out | apply below_alloc | apply pw_below_drewN | apply below_drew1) | exact HB.out)⟩⟩
            case round =>
              clear H'
              try clear c1
              try clear p1
              try clear q1
              try clear hx1
              try clear c2
              try clear p2
              try clear c4
              try clear c4b0
              try clear c4b1
              try clear c6
              try clear c6b0
              try clear c6b1
              try clear p6
              try clear c7
              try clear c7b0
              try clear c7b1
              try clear c9
              try clear c9b0
              try clear c10
              try clear c10b0
              try clear c11
              try clear c11b0
              try clear p12
              try clear q12
              try clear hx12
              try clear p13
              try clear q13
              try clear hx13
              try clear c14
              try clear c14b0
              try clear c14b1
              try clear p1
              try clear p12
              try clear p13
              try clear p2
              try clear p6
              try clear q1
              try clear q12
              try clear q13
              obtain ⟨x11_2, rfl, HA, HK2, HB⟩ := hrel
              cases gk with
              | zero => exact absurd HA.out (by simp [riposteref01_Diff.l1])
              | succ k2 =>
                have H := HA.out
                clear HA
                simp only [riposteref01_Diff.l1] at H
                by_cases c15 : x11_2 < (wrap64 ((a0.size : Int) - x10_7))
                · rw [if_pos c15] at H
                  have c15b0 : decide (x11_2 < (wrap64 ((a0.size : Int) - x10_7))) = true := decide_eq_true c15
                  clear c15
                  by_cases c16 : x11_2 < (wrap64 ((a1.size : Int) - x10_7))
                  · rw [if_pos c16] at H
                    have c16b0 : decide (x11_2 < (wrap64 ((a1.size : Int) - x10_7))) = true := decide_eq_true c16
                    clear c16
                    obtain ⟨ji17, hji17⟩ : ∃ j_ : Int, (wrap64 ((wrap64 ((a0.size : Int) - 1)) - x11_2)) = j_ := ⟨_, rfl⟩
                    replace H : (if 0 ≤ (ji17) then (if (ji17) < (a0.size : Int) then (if 0 ≤ (wrap64 ((wrap64 ((a1.size : Int) - 1)) - x11_2)) then (if (wrap64 ((wrap64 ((a1.size : Int) - 1)) - x11_2)) < (a1.size : Int) then (if (bt a0 (ji17)) = (bt a1 (wrap64 ((wrap64 ((a1.size : Int) - 1)) - x11_2))) then (riposteref01_Diff.l1 k2 a0 a1 x10_7 (wrap64 (x11_2 + 1))) else (if 0 ≤ x10_7 then (if x10_7 ≤ (wrap64 ((a1.size : Int) - x11_2)) then (if (wrap64 ((a1.size : Int) - x11_2)) ≤ (a1.size : Int) then (some ((([(⟨x10_7, wrap64 ((a0.size : Int) - x11_2), a1.extract (x10_7 : Int).toNat ((wrap64 ((a1.size : Int) - x11_2)) : Int).toNat⟩ : S48)] : List (S48))), 0)) else (none)) else (none)) else (none))) else (none)) else (none)) else (none)) else (none)) = some (r1, r2) := by first | (rw [hji17] at H; exact H) | (simp only [hji17] at H ⊢; exact H)
                    have hji17w : (IntKind.i64.wrap ((wrap64 ((a0.size : Int) - 1)) - x11_2)) = ji17 := (i64_w _).trans hji17
                    by_cases c18 : 0 ≤ (ji17)
                    · rw [if_pos c18] at H
                      have c18b0 : decide (0 ≤ (ji17)) = true := decide_eq_true c18
                      clear c18
                      by_cases c19 : (ji17) < (a0.size : Int)
                      · rw [if_pos c19] at H
                        have c19b0 : decide ((ji17) < (a0.size : Int)) = true := decide_eq_true c19
                        clear c19
                        obtain ⟨ji21, hji21⟩ : ∃ j_ : Int, (wrap64 ((wrap64 ((a1.size : Int) - 1)) - x11_2)) = j_ := ⟨_, rfl⟩
                        replace H : (if 0 ≤ (ji21) then (if (ji21) < (a1.size : Int) then (if (bt a0 (ji17)) = (bt a1 (ji21)) then (riposteref01_Diff.l1 k2 a0 a1 x10_7 (wrap64 (x11_2 + 1))) else (if 0 ≤ x10_7 then (if x10_7 ≤ (wrap64 ((a1.size : Int) - x11_2)) then (if (wrap64 ((a1.size : Int) - x11_2)) ≤ (a1.size : Int) then (some ((([(⟨x10_7, wrap64 ((a0.size : Int) - x11_2), a1.extract (x10_7 : Int).toNat ((wrap64 ((a1.size : Int) - x11_2)) : Int).toNat⟩ : S48)] : List (S48))), 0)) else (none)) else (none)) else (none))) else (none)) else (none)) = some (r1, r2) := by first | (rw [hji21] at H; exact H) | (simp only [hji21] at H ⊢; exact H)
                        have hji21w : (IntKind.i64.wrap ((wrap64 ((a1.size : Int) - 1)) - x11_2)) = ji21 := (i64_w _).trans hji21
                        by_cases c22 : 0 ≤ (ji21)
                        · rw [if_pos c22] at H
                          have c22b0 : decide (0 ≤ (ji21)) = true := decide_eq_true c22
                          clear c22
                          by_cases c23 : (ji21) < (a1.size : Int)
                          · rw [if_pos c23] at H
                            have c23b0 : decide ((ji21) < (a1.size : Int)) = true := decide_eq_true c23
                            clear c23
                            by_cases c25 : (bt a0 (ji17)) = (bt a1 (ji21))
                            · rw [if_pos c25] at H
                              have c25b0 : ((bt a0 (ji17)) == (bt a1 (ji21))) = true := beq_iff_eq.mpr c25
                              have c25b1 : ((bt a0 (ji17)) != (bt a1 (ji21))) = false := bne_eq_false_iff_eq.mpr c25
                              clear c25
                              have H' := Aside0.mk H
                              clear H
                              have p20 : 0 ≤ ((ji17) : Int) := of_decide_eq_true (by first | (with_reducible assumption) | assumption)
                              have q20 : (ji17) < (a0.size : Int) := of_decide_eq_true (by first | (with_reducible assumption) | assumption)
                              have hx20 := bt_at a0 (ji17)
                              replace p20 := eq_true p20
                              replace q20 := eq_true q20
                              have p24 : 0 ≤ ((ji21) : Int) := of_decide_eq_true (by first | (with_reducible assumption) | assumption)
                              have q24 : (ji21) < (a1.size : Int) := of_decide_eq_true (by first | (with_reducible assumption) | assumption)
                              have hx24 := bt_at a1 (ji21)
                              replace p24 := eq_true p24
                              replace q24 := eq_true q24
                              go_wp2
                              repeat (go_quiet (fail); try go_wp2)
                              go_roundg k2
                              case measure => have := HJ7.out; have := HK2.out; omega
                              case rel => exact ⟨(wrap64 (x11_2 + 1)), (by first | rfl | (simp; done) | (simp [*]; done)), H', ⟨by have := HJ7.out; have := HK2.out; omega⟩, ⟨by repeat (first | (with_reducible first | exact HB.out | apply below_alloc | apply pw_below_drewN | apply below_drew1) | exact HB.out)⟩⟩
                            · rw [if_neg c25] at H
                              have c25b0 : ((bt a0 (ji17)) == (bt a1 (ji21))) = false := beq_eq_false_iff_ne.mpr c25
                              have c25b1 : ((bt a0 (ji17)) != (bt a1 (ji21))) = true := bne_iff_ne.mpr c25
                              by_cases c26 : 0 ≤ x10_7
                              · rw [if_pos c26] at H
                                have c26b0 := eq_true c26
                                have c26b1 : decide (0 ≤ x10_7) = true := decide_eq_true c26
                                clear c26
                                by_cases c27 : x10_7 ≤ (wrap64 ((a1.size : Int) - x11_2))
                                · rw [if_pos c27] at H
                                  have c27b0 := eq_true c27
                                  have c27b1 : decide (x10_7 ≤ (wrap64 ((a1.size : Int) - x11_2))) = true := decide_eq_true c27
                                  clear c27
                                  by_cases c28 : (wrap64 ((a1.size : Int) - x11_2)) ≤ (a1.size : Int)
                                  · rw [if_pos c28] at H
                                    have c28b0 := eq_true c28
                                    have c28b1 : decide ((wrap64 ((a1.size : Int) - x11_2)) ≤ (a1.size : Int)) = true := decide_eq_true c28
                                    clear c28
                                    obtain ⟨y221, hy221⟩ : ∃ y_ : List (S48), y_ = (([(⟨x10_7, wrap64 ((a0.size : Int) - x11_2), a1.extract (x10_7 : Int).toNat ((wrap64 ((a1.size : Int) - x11_2)) : Int).toNat⟩ : S48)] : List (S48))) := ⟨_, rfl⟩
                                    replace H : (some (y221, 0)) = some (r1, r2) := by first | (rw [hy221]; with_reducible exact H) | (have H2_ := (Option.bind_some _ _).symm.trans H; rw [hy221]; with_reducible exact H2_) | (have H2_ := (Option.bind_some _ _).symm.trans H; with_reducible exact H2_) | with_reducible exact H | (rw [hy221]; exact H) | exact H
                                    have Ny221 := Aside0.mk hy221
                                    clear hy221
                                    simp only [Option.some.injEq, Prod.mk.injEq] at H
                                    obtain ⟨rfl, rfl⟩ := H
                                    have p20 : 0 ≤ ((ji17) : Int) := of_decide_eq_true (by first | (with_reducible assumption) | assumption)
                                    have q20 : (ji17) < (a0.size : Int) := of_decide_eq_true (by first | (with_reducible assumption) | assumption)
                                    have hx20 := bt_at a0 (ji17)
                                    replace p20 := eq_true p20
                                    replace q20 := eq_true q20
                                    have p24 : 0 ≤ ((ji21) : Int) := of_decide_eq_true (by first | (with_reducible assumption) | assumption)
                                    have q24 : (ji21) < (a1.size : Int) := of_decide_eq_true (by first | (with_reducible assumption) | assumption)
                                    have hx24 := bt_at a1 (ji21)
                                    replace p24 := eq_true p24
                                    replace q24 := eq_true q24
                                    go_wp2_with (first | ((with_reducible refine gate_dst (N := 98) rfl ?_); (try (refine gate_guard (by rfl) ?_; dsimp only)); refine Kd.R_lit k48 _ 48 ?hg (N := 98) ?hd (xs := ([(⟨x10_7, wrap64 ((a0.size : Int) - x11_2), a1.extract (x10_7 : Int).toNat ((wrap64 ((a1.size : Int) - x11_2)) : Int).toNat⟩ : S48)] : List (S48))) (inner := [.int .i64 x10_7, .int .i64 (wrap64 ((a0.size : Int) - x11_2)), .string (a1.extract (x10_7 : Int).toNat ((wrap64 ((a1.size : Int) - x11_2)) : Int).toNat)]) (ok := fun _ => True) (okp := fun _ => True) ?hr ?hp (fun _ hk => hk) trivial (Below.refl _ _) (Nat.le_refl _) (by simp) ?_; (case hd => rfl); (case hg => rfl); (case hr => first | (go_simp; done) | (go_simp; rfl)); (case hp => exact (Reps.c3 (show Kd.M k48 _ _ _ (⟨x10_7, wrap64 ((a0.size : Int) - x11_2), a1.extract (x10_7 : Int).toNat ((wrap64 ((a1.size : Int) - x11_2)) : Int).toNat⟩ : S48) [.int .i64 x10_7, .int .i64 (wrap64 ((a0.size : Int) - x11_2)), .string (a1.extract (x10_7 : Int).toNat ((wrap64 ((a1.size : Int) - x11_2)) : Int).toNat)] from (k48_mkM _ _ _ (⟨x10_7, wrap64 ((a0.size : Int) - x11_2), a1.extract (x10_7 : Int).toNat ((wrap64 ((a1.size : Int) - x11_2)) : Int).toNat⟩ : S48) )) (Reps.none _ _))); intro v222 w29 ho30 hb hg_ hnew_; clear hg_ hnew_; (first | rw [← Ny221.out] at ho30 | (simp only [Int.reduceToNat] at ho30; rw [← Ny221.out] at ho30)); have n0_ := Aside0.mk (Kd.R_lower ho30 (below_size (by repeat (first | (with_reducible first | exact HB.out | apply below_alloc | apply pw_below_drewN | apply below_drew1) | exact HB.out)))); have n1_ := Aside0.mk (below_step (by repeat (first | (with_reducible first | exact HB.out | apply below_alloc | apply pw_below_drewN | apply below_drew1) | exact HB.out)) hb); clear HB; have HO223 := n0_; have HB := n1_; clear n0_ n1_; clear hb ho30))
                                    repeat (go_quiet (first | ((with_reducible refine gate_dst (N := 98) rfl ?_); (try (refine gate_guard (by rfl) ?_; dsimp only)); refine Kd.R_lit k48 _ 48 ?hg (N := 98) ?hd (xs := ([(⟨x10_7, wrap64 ((a0.size : Int) - x11_2), a1.extract (x10_7 : Int).toNat ((wrap64 ((a1.size : Int) - x11_2)) : Int).toNat⟩ : S48)] : List (S48))) (inner := [.int .i64 x10_7, .int .i64 (wrap64 ((a0.size : Int) - x11_2)), .string (a1.extract (x10_7 : Int).toNat ((wrap64 ((a1.size : Int) - x11_2)) : Int).toNat)]) (ok := fun _ => True) (okp := fun _ => True) ?hr ?hp (fun _ hk => hk) trivial (Below.refl _ _) (Nat.le_refl _) (by simp) ?_; (case hd => rfl); (case hg => rfl); (case hr => first | (go_simp; done) | (go_simp; rfl)); (case hp => exact (Reps.c3 (show Kd.M k48 _ _ _ (⟨x10_7, wrap64 ((a0.size : Int) - x11_2), a1.extract (x10_7 : Int).toNat ((wrap64 ((a1.size : Int) - x11_2)) : Int).toNat⟩ : S48) [.int .i64 x10_7, .int .i64 (wrap64 ((a0.size : Int) - x11_2)), .string (a1.extract (x10_7 : Int).toNat ((wrap64 ((a1.size : Int) - x11_2)) : Int).toNat)] from (k48_mkM _ _ _ (⟨x10_7, wrap64 ((a0.size : Int) - x11_2), a1.extract (x10_7 : Int).toNat ((wrap64 ((a1.size : Int) - x11_2)) : Int).toNat⟩ : S48) )) (Reps.none _ _))); intro v222 w29 ho30 hb hg_ hnew_; clear hg_ hnew_; (first | rw [← Ny221.out] at ho30 | (simp only [Int.reduceToNat] at ho30; rw [← Ny221.out] at ho30)); have n0_ := Aside0.mk (Kd.R_lower ho30 (below_size (by repeat (first | (with_reducible first | exact HB.out | apply below_alloc | apply pw_below_drewN | apply below_drew1) | exact HB.out)))); have n1_ := Aside0.mk (below_step (by repeat (first | (with_reducible first | exact HB.out | apply below_alloc | apply pw_below_drewN | apply below_drew1) | exact HB.out)) hb); clear HB; have HO223 := n0_; have HB := n1_; clear n0_ n1_; clear hb ho30)); try go_wp2_with (first | ((with_reducible refine gate_dst (N := 98) rfl ?_); (try (refine gate_guard (by rfl) ?_; dsimp only)); refine Kd.R_lit k48 _ 48 ?hg (N := 98) ?hd (xs := ([(⟨x10_7, wrap64 ((a0.size : Int) - x11_2), a1.extract (x10_7 : Int).toNat ((wrap64 ((a1.size : Int) - x11_2)) : Int).toNat⟩ : S48)] : List (S48))) (inner := [.int .i64 x10_7, .int .i64 (wrap64 ((a0.size : Int) - x11_2)), .string (a1.extract (x10_7 : Int).toNat ((wrap64 ((a1.size : Int) - x11_2)) : Int).toNat)]) (ok := fun _ => True) (okp := fun _ => True) ?hr ?hp (fun _ hk => hk) trivial (Below.refl _ _) (Nat.le_refl _) (by simp) ?_; (case hd => rfl); (case hg => rfl); (case hr => first | (go_simp; done) | (go_simp; rfl)); (case hp => exact (Reps.c3 (show Kd.M k48 _ _ _ (⟨x10_7, wrap64 ((a0.size : Int) - x11_2), a1.extract (x10_7 : Int).toNat ((wrap64 ((a1.size : Int) - x11_2)) : Int).toNat⟩ : S48) [.int .i64 x10_7, .int .i64 (wrap64 ((a0.size : Int) - x11_2)), .string (a1.extract (x10_7 : Int).toNat ((wrap64 ((a1.size : Int) - x11_2)) : Int).toNat)] from (k48_mkM _ _ _ (⟨x10_7, wrap64 ((a0.size : Int) - x11_2), a1.extract (x10_7 : Int).toNat ((wrap64 ((a1.size : Int) - x11_2)) : Int).toNat⟩ : S48) )) (Reps.none _ _))); intro v222 w29 ho30 hb hg_ hnew_; clear hg_ hnew_; (first | rw [← Ny221.out] at ho30 | (simp only [Int.reduceToNat] at ho30; rw [← Ny221.out] at ho30)); have n0_ := Aside0.mk (Kd.R_lower ho30 (below_size (by repeat (first | (with_reducible first | exact HB.out | apply below_alloc | apply pw_below_drewN | apply below_drew1) | exact HB.out)))); have n1_ := Aside0.mk (below_step (by repeat (first | (with_reducible first | exact HB.out | apply below_alloc | apply pw_below_drewN | apply below_drew1) | exact HB.out)) hb); clear HB; have HO223 := n0_; have HB := n1_; clear n0_ n1_; clear hb ho30)))
                                    go_ret2
                                    exact ⟨_, by first | rfl | (simp [errW_none, errW_some] <;> rfl) | (simp only [← hji17, ← hji21]; first | rfl | (simp [errW_none, errW_some] <;> rfl)) | (simp [*, errW_none, errW_some] <;> rfl), by (with_reducible repeat (first | apply Kd.R_alloc | apply Kd.R_drewN | apply Kd.R_drew)); exact HO223.out, by repeat (first | (with_reducible first | exact HB.out | apply below_alloc | apply pw_below_drewN | apply below_drew1) | exact HB.out)⟩
                                  · rw [if_neg c28] at H
                                    exact absurd H (by simp)
                                · rw [if_neg c27] at H
                                  exact absurd H (by simp)
                              · rw [if_neg c26] at H
                                exact absurd H (by simp)
                          · rw [if_neg c23] at H
                            exact absurd H (by simp)
                        · rw [if_neg c22] at H
                          exact absurd H (by simp)
                      · rw [if_neg c19] at H
                        exact absurd H (by simp)
                    · rw [if_neg c18] at H
                      exact absurd H (by simp)
                  · rw [if_neg c16] at H
                    have c16b0 : decide (x11_2 < (wrap64 ((a1.size : Int) - x10_7))) = false := decide_eq_false c16
                    clear c16
                    by_cases c31 : 0 ≤ x10_7
                    · rw [if_pos c31] at H
                      have c31b0 := eq_true c31
                      have c31b1 : decide (0 ≤ x10_7) = true := decide_eq_true c31
                      clear c31
                      by_cases c32 : x10_7 ≤ (wrap64 ((a1.size : Int) - x11_2))
                      · rw [if_pos c32] at H
                        have c32b0 := eq_true c32
                        have c32b1 : decide (x10_7 ≤ (wrap64 ((a1.size : Int) - x11_2))) = true := decide_eq_true c32
                        clear c32
                        by_cases c33 : (wrap64 ((a1.size : Int) - x11_2)) ≤ (a1.size : Int)
                        · rw [if_pos c33] at H
                          have c33b0 := eq_true c33
                          have c33b1 : decide ((wrap64 ((a1.size : Int) - x11_2)) ≤ (a1.size : Int)) = true := decide_eq_true c33
                          clear c33
                          obtain ⟨y224, hy224⟩ : ∃ y_ : List (S48), y_ = (([(⟨x10_7, wrap64 ((a0.size : Int) - x11_2), a1.extract (x10_7 : Int).toNat ((wrap64 ((a1.size : Int) - x11_2)) : Int).toNat⟩ : S48)] : List (S48))) := ⟨_, rfl⟩
                          replace H : (some (y224, 0)) = some (r1, r2) := by first | (rw [hy224]; with_reducible exact H) | (have H2_ := (Option.bind_some _ _).symm.trans H; rw [hy224]; with_reducible exact H2_) | (have H2_ := (Option.bind_some _ _).symm.trans H; with_reducible exact H2_) | with_reducible exact H | (rw [hy224]; exact H) | exact H
                          have Ny224 := Aside0.mk hy224
                          clear hy224
                          simp only [Option.some.injEq, Prod.mk.injEq] at H
                          obtain ⟨rfl, rfl⟩ := H
                          go_wp2_with (first | ((with_reducible refine gate_dst (N := 98) rfl ?_); (try (refine gate_guard (by rfl) ?_; dsimp only)); refine Kd.R_lit k48 _ 48 ?hg (N := 98) ?hd (xs := ([(⟨x10_7, wrap64 ((a0.size : Int) - x11_2), a1.extract (x10_7 : Int).toNat ((wrap64 ((a1.size : Int) - x11_2)) : Int).toNat⟩ : S48)] : List (S48))) (inner := [.int .i64 x10_7, .int .i64 (wrap64 ((a0.size : Int) - x11_2)), .string (a1.extract (x10_7 : Int).toNat ((wrap64 ((a1.size : Int) - x11_2)) : Int).toNat)]) (ok := fun _ => True) (okp := fun _ => True) ?hr ?hp (fun _ hk => hk) trivial (Below.refl _ _) (Nat.le_refl _) (by simp) ?_; (case hd => rfl); (case hg => rfl); (case hr => first | (go_simp; done) | (go_simp; rfl)); (case hp => exact (Reps.c3 (show Kd.M k48 _ _ _ (⟨x10_7, wrap64 ((a0.size : Int) - x11_2), a1.extract (x10_7 : Int).toNat ((wrap64 ((a1.size : Int) - x11_2)) : Int).toNat⟩ : S48) [.int .i64 x10_7, .int .i64 (wrap64 ((a0.size : Int) - x11_2)), .string (a1.extract (x10_7 : Int).toNat ((wrap64 ((a1.size : Int) - x11_2)) : Int).toNat)] from (k48_mkM _ _ _ (⟨x10_7, wrap64 ((a0.size : Int) - x11_2), a1.extract (x10_7 : Int).toNat ((wrap64 ((a1.size : Int) - x11_2)) : Int).toNat⟩ : S48) )) (Reps.none _ _))); intro v225 w34 ho35 hb hg_ hnew_; clear hg_ hnew_; (first | rw [← Ny224.out] at ho35 | (simp only [Int.reduceToNat] at ho35; rw [← Ny224.out] at ho35)); have n0_ := Aside0.mk (Kd.R_lower ho35 (below_size (by repeat (first | (with_reducible first | exact HB.out | apply below_alloc | apply pw_below_drewN | apply below_drew1) | exact HB.out)))); have n1_ := Aside0.mk (below_step (by repeat (first | (with_reducible first | exact HB.out | apply below_alloc | apply pw_below_drewN | apply below_drew1) | exact HB.out)) hb); clear HB; have HO226 := n0_; have HB := n1_; clear n0_ n1_; clear hb ho35))
                          repeat (go_quiet (first | ((with_reducible refine gate_dst (N := 98) rfl ?_); (try (refine gate_guard (by rfl) ?_; dsimp only)); refine Kd.R_lit k48 _ 48 ?hg (N := 98) ?hd (xs := ([(⟨x10_7, wrap64 ((a0.size : Int) - x11_2), a1.extract (x10_7 : Int).toNat ((wrap64 ((a1.size : Int) - x11_2)) : Int).toNat⟩ : S48)] : List (S48))) (inner := [.int .i64 x10_7, .int .i64 (wrap64 ((a0.size : Int) - x11_2)), .string (a1.extract (x10_7 : Int).toNat ((wrap64 ((a1.size : Int) - x11_2)) : Int).toNat)]) (ok := fun _ => True) (okp := fun _ => True) ?hr ?hp (fun _ hk => hk) trivial (Below.refl _ _) (Nat.le_refl _) (by simp) ?_; (case hd => rfl); (case hg => rfl); (case hr => first | (go_simp; done) | (go_simp; rfl)); (case hp => exact (Reps.c3 (show Kd.M k48 _ _ _ (⟨x10_7, wrap64 ((a0.size : Int) - x11_2), a1.extract (x10_7 : Int).toNat ((wrap64 ((a1.size : Int) - x11_2)) : Int).toNat⟩ : S48) [.int .i64 x10_7, .int .i64 (wrap64 ((a0.size : Int) - x11_2)), .string (a1.extract (x10_7 : Int).toNat ((wrap64 ((a1.size : Int) - x11_2)) : Int).toNat)] from (k48_mkM _ _ _ (⟨x10_7, wrap64 ((a0.size : Int) - x11_2), a1.extract (x10_7 : Int).toNat ((wrap64 ((a1.size : Int) - x11_2)) : Int).toNat⟩ : S48) )) (Reps.none _ _))); intro v225 w34 ho35 hb hg_ hnew_; clear hg_ hnew_; (first | rw [← Ny224.out] at ho35 | (simp only [Int.reduceToNat] at ho35; rw [← Ny224.out] at ho35)); have n0_ := Aside0.mk (Kd.R_lower ho35 (below_size (by repeat (first | (with_reducible first | exact HB.out | apply below_alloc | apply pw_below_drewN | apply below_drew1) | exact HB.out)))); have n1_ := Aside0.mk (below_step (by repeat (first | (with_reducible first | exact HB.out | apply below_alloc | apply pw_below_drewN | apply below_drew1) | exact HB.out)) hb); clear HB; have HO226 := n0_; have HB := n1_; clear n0_ n1_; clear hb ho35)); try go_wp2_with (first | ((with_reducible refine gate_dst (N := 98) rfl ?_); (try (refine gate_guard (by rfl) ?_; dsimp only)); refine Kd.R_lit k48 _ 48 ?hg (N := 98) ?hd (xs := ([(⟨x10_7, wrap64 ((a0.size : Int) - x11_2), a1.extract (x10_7 : Int).toNat ((wrap64 ((a1.size : Int) - x11_2)) : Int).toNat⟩ : S48)] : List (S48))) (inner := [.int .i64 x10_7, .int .i64 (wrap64 ((a0.size : Int) - x11_2)), .string (a1.extract (x10_7 : Int).toNat ((wrap64 ((a1.size : Int) - x11_2)) : Int).toNat)]) (ok := fun _ => True) (okp := fun _ => True) ?hr ?hp (fun _ hk => hk) trivial (Below.refl _ _) (Nat.le_refl _) (by simp) ?_; (case hd => rfl); (case hg => rfl); (case hr => first | (go_simp; done) | (go_simp; rfl)); (case hp => exact (Reps.c3 (show Kd.M k48 _ _ _ (⟨x10_7, wrap64 ((a0.size : Int) - x11_2), a1.extract (x10_7 : Int).toNat ((wrap64 ((a1.size : Int) - x11_2)) : Int).toNat⟩ : S48) [.int .i64 x10_7, .int .i64 (wrap64 ((a0.size : Int) - x11_2)), .string (a1.extract (x10_7 : Int).toNat ((wrap64 ((a1.size : Int) - x11_2)) : Int).toNat)] from (k48_mkM _ _ _ (⟨x10_7, wrap64 ((a0.size : Int) - x11_2), a1.extract (x10_7 : Int).toNat ((wrap64 ((a1.size : Int) - x11_2)) : Int).toNat⟩ : S48) )) (Reps.none _ _))); intro v225 w34 ho35 hb hg_ hnew_; clear hg_ hnew_; (first | rw [← Ny224.out] at ho35 | (simp only [Int.reduceToNat] at ho35; rw [← Ny224.out] at ho35)); have n0_ := Aside0.mk (Kd.R_lower ho35 (below_size (by repeat (first | (with_reducible first | exact HB.out | apply below_alloc | apply pw_below_drewN | apply below_drew1) | exact HB.out)))); have n1_ := Aside0.mk (below_step (by repeat (first | (with_reducible first | exact HB.out | apply below_alloc | apply pw_below_drewN | apply below_drew1) | exact HB.out)) hb); clear HB; have HO226 := n0_; have HB := n1_; clear n0_ n1_; clear hb ho35)))
                          go_ret2
                          exact ⟨_, by first | rfl | (simp [errW_none, errW_some] <;> rfl) | (simp [*, errW_none, errW_some] <;> rfl), by (with_reducible repeat (first | apply Kd.R_alloc | apply Kd.R_drewN | apply Kd.R_drew)); exact HO226.out, by repeat (first | (with_reducible first | exact HB.out | apply below_alloc | apply pw_below_drewN | apply below_drew1) | exact HB.out)⟩
                        · rw [if_neg c33] at H
                          exact absurd H (by simp)
                      · rw [if_neg c32] at H
                        exact absurd H (by simp)
                    · rw [if_neg c31] at H
                      exact absurd H (by simp)
                · rw [if_neg c15] at H
                  have c15b0 : decide (x11_2 < (wrap64 ((a0.size : Int) - x10_7))) = false := decide_eq_false c15
                  clear c15
                  by_cases c36 : 0 ≤ x10_7
                  · rw [if_pos c36] at H
                    have c36b0 := eq_true c36
                    have c36b1 : decide (0 ≤ x10_7) = true := decide_eq_true c36
                    clear c36
                    by_cases c37 : x10_7 ≤ (wrap64 ((a1.size : Int) - x11_2))
                    · rw [if_pos c37] at H
                      have c37b0 := eq_true c37
                      have c37b1 : decide (x10_7 ≤ (wrap64 ((a1.size : Int) - x11_2))) = true := decide_eq_true c37
                      clear c37
                      by_cases c38 : (wrap64 ((a1.size : Int) - x11_2)) ≤ (a1.size : Int)
                      · rw [if_pos c38] at H
                        have c38b0 := eq_true c38
                        have c38b1 : decide ((wrap64 ((a1.size : Int) - x11_2)) ≤ (a1.size : Int)) = true := decide_eq_true c38
                        clear c38
                        obtain ⟨y227, hy227⟩ : ∃ y_ : List (S48), y_ = (([(⟨x10_7, wrap64 ((a0.size : Int) - x11_2), a1.extract (x10_7 : Int).toNat ((wrap64 ((a1.size : Int) - x11_2)) : Int).toNat⟩ : S48)] : List (S48))) := ⟨_, rfl⟩
                        replace H : (some (y227, 0)) = some (r1, r2) := by first | (rw [hy227]; with_reducible exact H) | (have H2_ := (Option.bind_some _ _).symm.trans H; rw [hy227]; with_reducible exact H2_) | (have H2_ := (Option.bind_some _ _).symm.trans H; with_reducible exact H2_) | with_reducible exact H | (rw [hy227]; exact H) | exact H
                        have Ny227 := Aside0.mk hy227
                        clear hy227
                        simp only [Option.some.injEq, Prod.mk.injEq] at H
                        obtain ⟨rfl, rfl⟩ := H
                        go_wp2_with (first | ((with_reducible refine gate_dst (N := 98) rfl ?_); (try (refine gate_guard (by rfl) ?_; dsimp only)); refine Kd.R_lit k48 _ 48 ?hg (N := 98) ?hd (xs := ([(⟨x10_7, wrap64 ((a0.size : Int) - x11_2), a1.extract (x10_7 : Int).toNat ((wrap64 ((a1.size : Int) - x11_2)) : Int).toNat⟩ : S48)] : List (S48))) (inner := [.int .i64 x10_7, .int .i64 (wrap64 ((a0.size : Int) - x11_2)), .string (a1.extract (x10_7 : Int).toNat ((wrap64 ((a1.size : Int) - x11_2)) : Int).toNat)]) (ok := fun _ => True) (okp := fun _ => True) ?hr ?hp (fun _ hk => hk) trivial (Below.refl _ _) (Nat.le_refl _) (by simp) ?_; (case hd => rfl); (case hg => rfl); (case hr => first | (go_simp; done) | (go_simp; rfl)); (case hp => exact (Reps.c3 (show Kd.M k48 _ _ _ (⟨x10_7, wrap64 ((a0.size : Int) - x11_2), a1.extract (x10_7 : Int).toNat ((wrap64 ((a1.size : Int) - x11_2)) : Int).toNat⟩ : S48) [.int .i64 x10_7, .int .i64 (wrap64 ((a0.size : Int) - x11_2)), .string (a1.extract (x10_7 : Int).toNat ((wrap64 ((a1.size : Int) - x11_2)) : Int).toNat)] from (k48_mkM _ _ _ (⟨x10_7, wrap64 ((a0.size : Int) - x11_2), a1.extract (x10_7 : Int).toNat ((wrap64 ((a1.size : Int) - x11_2)) : Int).toNat⟩ : S48) )) (Reps.none _ _))); intro v228 w39 ho40 hb hg_ hnew_; clear hg_ hnew_; (first | rw [← Ny227.out] at ho40 | (simp only [Int.reduceToNat] at ho40; rw [← Ny227.out] at ho40)); have n0_ := Aside0.mk (Kd.R_lower ho40 (below_size (by repeat (first | (with_reducible first | exact HB.out | apply below_alloc | apply pw_below_drewN | apply below_drew1) | exact HB.out)))); have n1_ := Aside0.mk (below_step (by repeat (first | (with_reducible first | exact HB.out | apply below_alloc | apply pw_below_drewN | apply below_drew1) | exact HB.out)) hb); clear HB; have HO229 := n0_; have HB := n1_; clear n0_ n1_; clear hb ho40))
                        repeat (go_quiet (first | ((with_reducible refine gate_dst (N := 98) rfl ?_); (try (refine gate_guard (by rfl) ?_; dsimp only)); refine Kd.R_lit k48 _ 48 ?hg (N := 98) ?hd (xs := ([(⟨x10_7, wrap64 ((a0.size : Int) - x11_2), a1.extract (x10_7 : Int).toNat ((wrap64 ((a1.size : Int) - x11_2)) : Int).toNat⟩ : S48)] : List (S48))) (inner := [.int .i64 x10_7, .int .i64 (wrap64 ((a0.size : Int) - x11_2)), .string (a1.extract (x10_7 : Int).toNat ((wrap64 ((a1.size : Int) - x11_2)) : Int).toNat)]) (ok := fun _ => True) (okp := fun _ => True) ?hr ?hp (fun _ hk => hk) trivial (Below.refl _ _) (Nat.le_refl _) (by simp) ?_; (case hd => rfl); (case hg => rfl); (case hr => first | (go_simp; done) | (go_simp; rfl)); (case hp => exact (Reps.c3 (show Kd.M k48 _ _ _ (⟨x10_7, wrap64 ((a0.size : Int) - x11_2), a1.extract (x10_7 : Int).toNat ((wrap64 ((a1.size : Int) - x11_2)) : Int).toNat⟩ : S48) [.int .i64 x10_7, .int .i64 (wrap64 ((a0.size : Int) - x11_2)), .string (a1.extract (x10_7 : Int).toNat ((wrap64 ((a1.size : Int) - x11_2)) : Int).toNat)] from (k48_mkM _ _ _ (⟨x10_7, wrap64 ((a0.size : Int) - x11_2), a1.extract (x10_7 : Int).toNat ((wrap64 ((a1.size : Int) - x11_2)) : Int).toNat⟩ : S48) )) (Reps.none _ _))); intro v228 w39 ho40 hb hg_ hnew_; clear hg_ hnew_; (first | rw [← Ny227.out] at ho40 | (simp only [Int.reduceToNat] at ho40; rw [← Ny227.out] at ho40)); have n0_ := Aside0.mk (Kd.R_lower ho40 (below_size (by repeat (first | (with_reducible first | exact HB.out | apply below_alloc | apply pw_below_drewN | apply below_drew1) | exact HB.out)))); have n1_ := Aside0.mk (below_step (by repeat (first | (with_reducible first | exact HB.out | apply below_alloc | apply pw_below_drewN | apply below_drew1) | exact HB.out)) hb); clear HB; have HO229 := n0_; have HB := n1_; clear n0_ n1_; clear hb ho40)); try go_wp2_with (first | ((with_reducible refine gate_dst (N := 98) rfl ?_); (try (refine gate_guard (by rfl) ?_; dsimp only)); refine Kd.R_lit k48 _ 48 ?hg (N := 98) ?hd (xs := ([(⟨x10_7, wrap64 ((a0.size : Int) - x11_2), a1.extract (x10_7 : Int).toNat ((wrap64 ((a1.size : Int) - x11_2)) : Int).toNat⟩ : S48)] : List (S48))) (inner := [.int .i64 x10_7, .int .i64 (wrap64 ((a0.size : Int) - x11_2)), .string (a1.extract (x10_7 : Int).toNat ((wrap64 ((a1.size : Int) - x11_2)) : Int).toNat)]) (ok := fun _ => True) (okp := fun _ => True) ?hr ?hp (fun _ hk => hk) trivial (Below.refl _ _) (Nat.le_refl _) (by simp) ?_; (case hd => rfl); (case hg => rfl); (case hr => first | (go_simp; done) | (go_simp; rfl)); (case hp => exact (Reps.c3 (show Kd.M k48 _ _ _ (⟨x10_7, wrap64 ((a0.size : Int) - x11_2), a1.extract (x10_7 : Int).toNat ((wrap64 ((a1.size : Int) - x11_2)) : Int).toNat⟩ : S48) [.int .i64 x10_7, .int .i64 (wrap64 ((a0.size : Int) - x11_2)), .string (a1.extract (x10_7 : Int).toNat ((wrap64 ((a1.size : Int) - x11_2)) : Int).toNat)] from (k48_mkM _ _ _ (⟨x10_7, wrap64 ((a0.size : Int) - x11_2), a1.extract (x10_7 : Int).toNat ((wrap64 ((a1.size : Int) - x11_2)) : Int).toNat⟩ : S48) )) (Reps.none _ _))); intro v228 w39 ho40 hb hg_ hnew_; clear hg_ hnew_; (first | rw [← Ny227.out] at ho40 | (simp only [Int.reduceToNat] at ho40; rw [← Ny227.out] at ho40)); have n0_ := Aside0.mk (Kd.R_lower ho40 (below_size (by repeat (first | (with_reducible first | exact HB.out | apply below_alloc | apply pw_below_drewN | apply below_drew1) | exact HB.out)))); have n1_ := Aside0.mk (below_step (by repeat (first | (with_reducible first | exact HB.out | apply below_alloc | apply pw_below_drewN | apply below_drew1) | exact HB.out)) hb); clear HB; have HO229 := n0_; have HB := n1_; clear n0_ n1_; clear hb ho40)))
                        go_ret2
                        exact ⟨_, by first | rfl | (simp [errW_none, errW_some] <;> rfl) | (simp [*, errW_none, errW_some] <;> rfl), by (with_reducible repeat (first | apply Kd.R_alloc | apply Kd.R_drewN | apply Kd.R_drew)); exact HO229.out, by repeat (first | (with_reducible first | exact HB.out | apply below_alloc | apply pw_below_drewN | apply below_drew1) | exact HB.out)⟩
                      · rw [if_neg c38] at H
                        exact absurd H (by simp)
                    · rw [if_neg c37] at H
                      exact absurd H (by simp)
                  · rw [if_neg c36] at H
                    exact absurd H (by simp)
    · rw [if_neg c6] at H
      have c6b0 : (t220 == 0) = false := beq_eq_false_iff_ne.mpr c6
      have c6b1 : (t220 != 0) = true := bne_iff_ne.mpr c6
      simp only [Option.some.injEq, Prod.mk.injEq] at H
      obtain ⟨rfl, rfl⟩ := H
      go_enter Tryd.func24, Tryd.ntmps24
      go_wp2_with (first | (go_at_call 46; (with_reducible refine (riposteref01_TextError.calls k a0 t217 t218 _ A3.out).mono ?_); rintro e w' ⟨rfl, ⟨nd, rfl⟩⟩; (try first | exact ⟨rfl, _, World.drewN_drewN _ _ _⟩ | exact ⟨rfl, _, Eq.trans (World.drewN_drewN _ _ _) (congrArg (World.drewN _) (Nat.add_assoc _ _ _))⟩)) | (go_at_call 46; (with_reducible refine (riposteref01_TextError.calls k a1 t219 t220 _ A5.out).mono ?_); rintro e w' ⟨rfl, ⟨nd, rfl⟩⟩; (try first | exact ⟨rfl, _, World.drewN_drewN _ _ _⟩ | exact ⟨rfl, _, Eq.trans (World.drewN_drewN _ _ _) (congrArg (World.drewN _) (Nat.add_assoc _ _ _))⟩)))
      repeat (go_quiet (first | (go_at_call 46; (with_reducible refine (riposteref01_TextError.calls k a0 t217 t218 _ A3.out).mono ?_); rintro e w' ⟨rfl, ⟨nd, rfl⟩⟩; (try first | exact ⟨rfl, _, World.drewN_drewN _ _ _⟩ | exact ⟨rfl, _, Eq.trans (World.drewN_drewN _ _ _) (congrArg (World.drewN _) (Nat.add_assoc _ _ _))⟩)) | (go_at_call 46; (with_reducible refine (riposteref01_TextError.calls k a1 t219 t220 _ A5.out).mono ?_); rintro e w' ⟨rfl, ⟨nd, rfl⟩⟩; (try first | exact ⟨rfl, _, World.drewN_drewN _ _ _⟩ | exact ⟨rfl, _, Eq.trans (World.drewN_drewN _ _ _) (congrArg (World.drewN _) (Nat.add_assoc _ _ _))⟩))); try go_wp2_with (first | (go_at_call 46; (with_reducible refine (riposteref01_TextError.calls k a0 t217 t218 _ A3.out).mono ?_); rintro e w' ⟨rfl, ⟨nd, rfl⟩⟩; (try first | exact ⟨rfl, _, World.drewN_drewN _ _ _⟩ | exact ⟨rfl, _, Eq.trans (World.drewN_drewN _ _ _) (congrArg (World.drewN _) (Nat.add_assoc _ _ _))⟩)) | (go_at_call 46; (with_reducible refine (riposteref01_TextError.calls k a1 t219 t220 _ A5.out).mono ?_); rintro e w' ⟨rfl, ⟨nd, rfl⟩⟩; (try first | exact ⟨rfl, _, World.drewN_drewN _ _ _⟩ | exact ⟨rfl, _, Eq.trans (World.drewN_drewN _ _ _) (congrArg (World.drewN _) (Nat.add_assoc _ _ _))⟩))))
      go_ret2
      exact ⟨_, by first | rfl | (simp [errW_none, errW_some] <;> rfl) | (simp [*, errW_none, errW_some] <;> rfl), by first | exact Kd.R_nil _ _ _ _ _ | exact Kd.N_nil _ _ _ _ _ | exact Kd.V_nil _ _ _ _ _ | exact Kd.Q_nil _ _ _ _ _ | exact Kd.S_nil _ _ _ _ _, by repeat (first | (with_reducible first | exact HB.out | apply below_alloc | apply pw_below_drewN | apply below_drew1) | exact HB.out)⟩
  · rw [if_neg c4] at H
    have c4b0 : (t218 == 0) = false := beq_eq_false_iff_ne.mpr c4
    have c4b1 : (t218 != 0) = true := bne_iff_ne.mpr c4
    simp only [Option.some.injEq, Prod.mk.injEq] at H
    obtain ⟨rfl, rfl⟩ := H
    go_enter Tryd.func24, Tryd.ntmps24
    go_wp2_with (first | (go_at_call 46; (with_reducible refine (riposteref01_TextError.calls k a0 t217 t218 _ A3.out).mono ?_); rintro e w' ⟨rfl, ⟨nd, rfl⟩⟩; (try first | exact ⟨rfl, _, World.drewN_drewN _ _ _⟩ | exact ⟨rfl, _, Eq.trans (World.drewN_drewN _ _ _) (congrArg (World.drewN _) (Nat.add_assoc _ _ _))⟩)))
    repeat (go_quiet (first | (go_at_call 46; (with_reducible refine (riposteref01_TextError.calls k a0 t217 t218 _ A3.out).mono ?_); rintro e w' ⟨rfl, ⟨nd, rfl⟩⟩; (try first | exact ⟨rfl, _, World.drewN_drewN _ _ _⟩ | exact ⟨rfl, _, Eq.trans (World.drewN_drewN _ _ _) (congrArg (World.drewN _) (Nat.add_assoc _ _ _))⟩))); try go_wp2_with (first | (go_at_call 46; (with_reducible refine (riposteref01_TextError.calls k a0 t217 t218 _ A3.out).mono ?_); rintro e w' ⟨rfl, ⟨nd, rfl⟩⟩; (try first | exact ⟨rfl, _, World.drewN_drewN _ _ _⟩ | exact ⟨rfl, _, Eq.trans (World.drewN_drewN _ _ _) (congrArg (World.drewN _) (Nat.add_assoc _ _ _))⟩))))
    go_ret2
    exact ⟨_, by first | rfl | (simp [errW_none, errW_some] <;> rfl) | (simp [*, errW_none, errW_some] <;> rfl), by first | exact Kd.R_nil _ _ _ _ _ | exact Kd.N_nil _ _ _ _ _ | exact Kd.V_nil _ _ _ _ _ | exact Kd.Q_nil _ _ _ _ _ | exact Kd.S_nil _ _ _ _ _, by repeat (first | (with_reducible first | exact HB.out | apply below_alloc | apply pw_below_drewN | apply below_drew1) | exact HB.out)⟩

/-! ### riposteref01_SameSplices: function 25 -/

-- NOT PRINTED: function 6 (ripostelaw01_LexDiffs)

/-! ### ripostelaw01_few: function 26 -/
def ripostelaw01_few.l0 : Nat → List (S48) → Int → Int → Option (Bool)
  | 0, _, _, _ => none
  | k + 1, x0, x3, x4 => if x4 < (x0.length : Int) then (if 0 ≤ x4 then (if (wrap64 (x3 + (((rd_T48 x0 x4).f2).size : Int))) > 3000 then (some false) else (ripostelaw01_few.l0 k x0 (wrap64 (x3 + (((rd_T48 x0 x4).f2).size : Int))) (wrap64 (x4 + 1)))) else (none)) else (some (decide ((x0.length : Int) ≤ 1000)))
def ripostelaw01_few.f (k : Nat) (l0 : List (S48)) : Option (Bool) := ripostelaw01_few.l0 k l0 0 0
set_option maxHeartbeats 8000000 in
set_option maxRecDepth 100000 in
theorem ripostelaw01_few.calls (k : Nat) (A0 : Option Addr) (c0 : Nat) (l0 : List (S48)) (r : Bool) (w : World) (hr0 : Kd.C k48 w A0 l0.length l0) (hc0 : l0.length ≤ c0) (h : ripostelaw01_few.f k l0 = some r) :
    Calls Tryd.prog 26 #[.slice A0 l0.length c0] w fun e w' => e = .returned (.bool r) ∧ Drawn0 w w' := by
  have HR0 := Aside0.mk hr0
  have HC0 := Aside0.mk hc0
  clear hr0 hc0
  have H : (ripostelaw01_few.l0 k l0 0 0) = some r := h
  clear h
  have H' := Aside0.mk H
  clear H
  go_enter Tryd.func26, Tryd.ntmps26
  go_wp2
  go_loopg [3, 4] k (fun kq v3 v4 w' => ∃ (x3_1 : Int) (x4_1 : Int), v3 = .int .i64 x3_1 ∧ v4 = .int .i64 x4_1 ∧ Aside0 (ripostelaw01_few.l0 kq l0 x3_1 x4_1 = some r) ∧ Aside0 (kq ≤ k) ∧ Drawn0 w w')
  case atStart => exact ⟨(0), (0), (by first | rfl | (simp; done) | (simp [*]; done)), (by first | rfl | (simp; done) | (simp [*]; done)), H', ⟨Nat.le_refl _⟩, by repeat (first | exact Drawn0.refl _ | apply Drawn0.step)⟩
  case round =>
    clear H'
    obtain ⟨x3_1, x4_1, rfl, rfl, HA, HK1, ⟨m1, rfl⟩⟩ := hrel
    cases gk with
    | zero => exact absurd HA.out (by simp [ripostelaw01_few.l0])
    | succ k1 =>
      have H := HA.out
      clear HA
      simp only [ripostelaw01_few.l0] at H
      by_cases c2 : x4_1 < (l0.length : Int)
      · rw [if_pos c2] at H
        have c2b0 : decide (x4_1 < (l0.length : Int)) = true := decide_eq_true c2
        clear c2
        by_cases c3 : 0 ≤ x4_1
        · rw [if_pos c3] at H
          have c3b0 : decide (0 ≤ x4_1) = true := decide_eq_true c3
          clear c3
          by_cases c4 : (wrap64 (x3_1 + (((rd_T48 l0 x4_1).f2).size : Int))) > 3000
          · rw [if_pos c4] at H
            have c4b0 : decide (3000 < (wrap64 (x3_1 + (((rd_T48 l0 x4_1).f2).size : Int)))) = true := decide_eq_true c4
            clear c4
            obtain rfl := Option.some.inj H
            have p232 : 0 ≤ (x4_1 : Int) := of_decide_eq_true (by first | (with_reducible assumption) | assumption)
            have q232 : x4_1 < (l0.length : Int) := of_decide_eq_true (by first | (with_reducible assumption) | assumption)
            obtain ⟨ad232, e232, hx232_0, hx232_1, hx232_2⟩ := at_T48 HR0.out x4_1 p232 q232
            cases e232
            replace p232 := eq_true p232
            replace q232 := eq_true q232
            go_wp2
            go_ret
            exact ⟨by first | rfl | (simp; done) | (simp [*]; done), by repeat (first | exact Drawn0.refl _ | apply Drawn0.step)⟩
          · rw [if_neg c4] at H
            have c4b0 : decide (3000 < (wrap64 (x3_1 + (((rd_T48 l0 x4_1).f2).size : Int)))) = false := decide_eq_false c4
            clear c4
            have H' := Aside0.mk H
            clear H
            have p232 : 0 ≤ (x4_1 : Int) := of_decide_eq_true (by first | (with_reducible assumption) | assumption)
            have q232 : x4_1 < (l0.length : Int) := of_decide_eq_true (by first | (with_reducible assumption) | assumption)
            obtain ⟨ad232, e232, hx232_0, hx232_1, hx232_2⟩ := at_T48 HR0.out x4_1 p232 q232
            cases e232
            replace p232 := eq_true p232
            replace q232 := eq_true q232
            go_wp2
            go_roundg k1
            case measure => have := HK1.out; omega
            case rel => exact ⟨(wrap64 (x3_1 + (((rd_T48 l0 x4_1).f2).size : Int))), (wrap64 (x4_1 + 1)), (by first | rfl | (simp; done) | (simp [*]; done)), (by first | rfl | (simp; done) | (simp [*]; done)), H', ⟨by have := HK1.out; omega⟩, by repeat (first | exact Drawn0.refl _ | apply Drawn0.step)⟩
        · rw [if_neg c3] at H
          exact absurd H (by simp)
      · rw [if_neg c2] at H
        have c2b0 : decide (x4_1 < (l0.length : Int)) = false := decide_eq_false c2
        clear c2
        obtain rfl := Option.some.inj H
        go_wp2
        go_ret
        exact ⟨by first | rfl | (simp; done) | (simp [*]; done), by repeat (first | exact Drawn0.refl _ | apply Drawn0.step)⟩


/-! ### riposteref01_SplicesError: function 85 -/

/-! ### riposteref01_check: function 57 -/

/-! ### riposteref01_Spliced: function 58 -/

/-! ### riposteref01_Apply: function 28 -/


/-! ### lex_Moved: function 29 -/
mutual
def lex_Moved.j0 : Nat → List (S48) → Int → Bool → Option (Int × Int)
  | 0, _, _, _ => none
  | k + 1, x1, x2, x25 => if x25 = true then (some (0, 3)) else (lex_Moved.l0 k x2 x2 x1 (x1.length : Int) 0)
def lex_Moved.l0 : Nat → Int → Int → List (S48) → Int → Int → Option (Int × Int)
  | 0, _, _, _, _, _ => none
  | k + 1, x2, x9, x27, x28, x29 => if x29 < x28 then (if 0 ≤ x29 then (if x29 < (x27.length : Int) then (if ((rd_T48 x27 x29).f1) ≤ x2 then ((lex_splice_grown.f ((rd_T48 x27 x29).f0) ((rd_T48 x27 x29).f1) ((rd_T48 x27 x29).f2)).bind fun t255 => (lex_Moved.l0 k x2 (wrap64 (x9 + t255)) x27 x28 (wrap64 (x29 + 1)))) else (if ((rd_T48 x27 x29).f0) ≤ x2 then (some (0, 7)) else (lex_Moved.l0 k x2 x9 x27 x28 (wrap64 (x29 + 1))))) else (none)) else (none)) else (some (x9, 0))
end
def lex_Moved.f (k : Nat) (a0 : ByteArray) (l1 : List (S48)) (a2 : Int) : Option (Int × Int) := (lex_splices.f k a0 l1).bind fun t252 => (if t252 = 0 then (if a2 < 0 then (lex_Moved.j0 k l1 a2 true) else (lex_Moved.j0 k l1 a2 (decide (a2 > (a0.size : Int))))) else (some (0, t252)))
set_option maxHeartbeats 8000000 in
set_option maxRecDepth 100000 in
theorem lex_Moved.calls (k : Nat) (a0 : ByteArray) (A1 : Option Addr) (c1 : Nat) (l1 : List (S48)) (a2 : Int) (r1 : Int) (r2 : Int) (w : World) (hr1 : Kd.C k48 w A1 l1.length l1) (hc1 : l1.length ≤ c1) (h : lex_Moved.f k a0 l1 a2 = some (r1, r2)) :
    Calls Tryd.prog 29 #[.string a0, .slice A1 l1.length c1, .int .i64 a2] w fun e w' => e = .returned (.tuple #[.int .i64 r1, .int .i64 r2]) ∧ Below w.heap.size w w' := by
  have hu48 := Tryd.underlying48
  have hu76 := Tryd.underlying76
  have HR1 := Aside0.mk hr1
  have HC1 := Aside0.mk hc1
  clear hr1 hc1
  have HB := Aside0.mk (Below.refl w.heap.size w)
  have H : ((lex_splices.f k a0 l1).bind fun t252 => (if t252 = 0 then (if a2 < 0 then (lex_Moved.j0 k l1 a2 true) else (lex_Moved.j0 k l1 a2 (decide (a2 > (a0.size : Int))))) else (some (0, t252)))) = some (r1, r2) := h
  clear h
  replace H := Option.bind_eq_some_iff.mp H
  obtain ⟨t252, A40, H⟩ := H
  replace H : (if t252 = 0 then (if a2 < 0 then (lex_Moved.j0 k l1 a2 true) else (lex_Moved.j0 k l1 a2 (decide (a2 > (a0.size : Int))))) else (some (0, t252))) = some (r1, r2) := H
  have A4 := Aside0.mk A40
  clear A40
  by_cases c5 : t252 = 0
  · rw [if_pos c5] at H
    have c5b0 : (t252 == 0) = true := beq_iff_eq.mpr c5
    have c5b1 : (t252 != 0) = false := bne_eq_false_iff_eq.mpr c5
    clear c5
    have HC6 := Aside0.mk H
    clear H
    go_enter Tryd.func29, Tryd.ntmps29
    go_upto_region 4 with (first | ((with_reducible refine gate_callee (f := 56) rfl ?_); refine goesL_ (some 14) rfl rfl Tryd.func56 (by kernel_rfl) rfl #[.string a0, .slice A1 l1.length c1] rfl (by (try simp only [List.map_toArray, List.map_cons, List.map_nil]); first | done | rfl | (simp only [List.length_drop, List.length_take]; rfl)) ?_; (with_reducible refine (lex_splices.calls k a0 _ _ l1 t252 _ ?side1 ?side2 A4.out).mono ?_); (case side1 => repeat (first | exact HR1.out | (with_reducible refine Kd.C_alloc ?_ _) | (with_reducible refine Kd.C_drewN ?_ _) | (with_reducible refine Kd.C_drew ?_))); (case side2 => exact HC1.out); rintro e w7 ⟨rfl, hb⟩; refine ⟨_, rfl, ?_⟩; have n0_ := Aside0.mk (below_step (by repeat (first | (with_reducible first | exact HB.out | apply below_alloc | apply pw_below_drewN | apply below_drew1) | exact HB.out)) hb); clear HB; have HB := n0_; clear n0_; (try clear hb); (try clear hb2); (try clear hk); (try clear hi)))
    (try simp only [Act.put, List.setIfInBounds_toArray, List.set_cons_zero, List.set_cons_succ])
    go_cut [25] (fun v25 wc => ∃ (kq : Nat) (x25_5 : Bool), v25 = .bool x25_5 ∧ Aside0 (lex_Moved.j0 kq l1 a2 x25_5 = some (r1, r2)) ∧ Aside0 (kq ≤ k) ∧ Aside0 (Below w.heap.size w wc))
    case first =>
      have H := HC6.out
      clear HC6
      by_cases c8 : a2 < 0
      · rw [if_pos c8] at H
        have c8b0 : decide (a2 < 0) = true := decide_eq_true c8
        clear c8
        (first | rw [c8b0] | (simp only [i64_w, i32_w]; rw [c8b0]) | skip)
        have H' := Aside0.mk H
        clear H
        go_wp2
        go_meet
        case rel => exact ⟨_, (true), (by first | rfl | (simp; done) | (simp [*]; done)), H', ⟨by first | omega | exact Nat.le_refl _⟩, ⟨by repeat (first | (with_reducible first | exact HB.out | apply below_alloc | apply pw_below_drewN | apply below_drew1) | exact HB.out)⟩⟩
      · rw [if_neg c8] at H
        have c8b0 : decide (a2 < 0) = false := decide_eq_false c8
        clear c8
        (first | rw [c8b0] | (simp only [i64_w, i32_w]; rw [c8b0]) | skip)
        have H' := Aside0.mk H
        clear H
        go_wp2
        go_meet
        case rel => exact ⟨_, (decide (a2 > (a0.size : Int))), (by first | rfl | (simp; done) | (simp [*]; done)), H', ⟨by first | omega | exact Nat.le_refl _⟩, ⟨by repeat (first | (with_reducible first | exact HB.out | apply below_alloc | apply pw_below_drewN | apply below_drew1) | exact HB.out)⟩⟩
    case rest =>
      clear HC6
      try clear c1
      try clear c2
      try clear p2
      try clear c5
      try clear c5b0
      try clear c5b1
      try clear c8
      try clear c8b0
      obtain ⟨kq, x25_5, rfl, HA, HJ5, HB⟩ := hcut
      cases kq with
      | zero => exact absurd HA.out (by simp [lex_Moved.j0])
      | succ kj5 =>
        have H := HA.out
        clear HA
        simp only [lex_Moved.j0] at H
        by_cases c9 : x25_5 = true
        · subst c9
          have H1 : (some (0, 3)) = some (r1, r2) := by rw [if_pos rfl] at H; exact H
          clear H
          have H := H1
          clear H1
          simp only [Option.some.injEq, Prod.mk.injEq] at H
          obtain ⟨rfl, rfl⟩ := H
          go_wp2
          go_ret2
          exact ⟨by first | rfl | (simp [errW_none, errW_some] <;> rfl) | (simp [*, errW_none, errW_some] <;> rfl), by repeat (first | (with_reducible first | exact HB.out | apply below_alloc | apply pw_below_drewN | apply below_drew1) | exact HB.out)⟩
        · replace c9 := Bool.eq_false_iff.mpr c9
          subst c9
          have H1 : (lex_Moved.l0 kj5 a2 a2 l1 (l1.length : Int) 0) = some (r1, r2) := by rw [if_neg (show ¬ (false = true) by decide)] at H; exact H
          clear H
          have H := H1
          clear H1
          have H' := Aside0.mk H
          clear H
          go_wp2
          go_loopg [9, 29] kj5 (fun kq v9 v29 w' => ∃ (x9_2 : Int) (x29_2 : Int), v9 = .int .i64 x9_2 ∧ v29 = .int .i64 x29_2 ∧ Aside0 (lex_Moved.l0 kq a2 x9_2 l1 (l1.length : Int) x29_2 = some (r1, r2)) ∧ Aside0 (kq ≤ kj5) ∧ Aside0 (Below w.heap.size w w'))
          case atStart => exact ⟨(a2), (0), (by first | rfl | (simp; done) | (simp [*]; done)), (by first | rfl | (simp; done) | (simp [*]; done)), H', ⟨Nat.le_refl _⟩, ⟨by repeat (first | (with_reducible first | exact HB.out | apply below_alloc | apply pw_below_drewN | apply below_drew1) | exact HB.out)⟩⟩
          case round =>
            clear H'
            try clear c1
            try clear c2
            try clear p2
            try clear c5
            try clear c5b0
            try clear c5b1
            try clear c8
            try clear c8b0
            try clear c9
            try clear p2
            obtain ⟨x9_2, x29_2, rfl, rfl, HA, HK2, HB⟩ := hrel
            cases gk with
            | zero => exact absurd HA.out (by simp [lex_Moved.l0])
            | succ k2 =>
              have H := HA.out
              clear HA
              simp only [lex_Moved.l0] at H
              by_cases c10 : x29_2 < (l1.length : Int)
              · rw [if_pos c10] at H
                have c10b0 : decide (x29_2 < (l1.length : Int)) = true := decide_eq_true c10
                clear c10
                by_cases c11 : 0 ≤ x29_2
                · rw [if_pos c11] at H
                  have c11b0 : decide (0 ≤ x29_2) = true := decide_eq_true c11
                  clear c11
                  by_cases c12 : x29_2 < (l1.length : Int)
                  · rw [if_pos c12] at H
                    have c12b0 : decide (x29_2 < (l1.length : Int)) = true := decide_eq_true c12
                    clear c12
                    by_cases c13 : ((rd_T48 l1 x29_2).f1) ≤ a2
                    · rw [if_pos c13] at H
                      have c13b0 : decide (((rd_T48 l1 x29_2).f1) ≤ a2) = true := decide_eq_true c13
                      clear c13
                      replace H := Option.bind_eq_some_iff.mp H
                      obtain ⟨t255, A140, H⟩ := H
                      replace H : (lex_Moved.l0 k2 a2 (wrap64 (x9_2 + t255)) l1 (l1.length : Int) (wrap64 (x29_2 + 1))) = some (r1, r2) := H
                      have A14 := Aside0.mk A140
                      clear A140
                      have H' := Aside0.mk H
                      clear H
                      have p253 : 0 ≤ (x29_2 : Int) := of_decide_eq_true (by first | (with_reducible assumption) | assumption)
                      have q253 : x29_2 < (l1.length : Int) := of_decide_eq_true (by first | (with_reducible assumption) | assumption)
                      obtain ⟨ad253, e253, hx253_0, hx253_1, hx253_2⟩ := at_T48 HR1.out x29_2 p253 q253
                      cases e253
                      replace hx253_0 := (HB.out.cell (World.block_lt_of_cell? w _ hx253_0)).trans hx253_0
                      replace hx253_1 := (HB.out.cell (World.block_lt_of_cell? w _ hx253_1)).trans hx253_1
                      replace hx253_2 := (HB.out.cell (World.block_lt_of_cell? w _ hx253_2)).trans hx253_2
                      replace p253 := eq_true p253
                      replace q253 := eq_true q253
                      go_wp2_with (first | ((with_reducible refine gate_dst (N := 11) rfl ?_); (try (refine gate_guard (by rfl) ?_; dsimp only)); refine box_event ?hg (N := 11) ?hd (cs := #[.int .i64 0, .int .i64 0, .string (⟨#[]⟩ : ByteArray)]) (t := 48) ?hr ?_; (case hd => rfl); (case hg => rfl); (case hr => first | (go_simp; done) | (go_simp; rfl)); intro gb254 hg w15 hbox hb; have n0_ := Aside0.mk (below_step (by repeat (first | (with_reducible first | exact HB.out | apply below_alloc | apply pw_below_drewN | apply below_drew1) | exact HB.out)) hb); have n1_ := Aside0.mk (hbox); have n2_ := Aside0.mk ((by rw [hg]; exact (below_size (by repeat (first | (with_reducible first | exact HB.out | apply below_alloc | apply pw_below_drewN | apply below_drew1) | exact HB.out))) : w.heap.size ≤ gb254)); have n3_ := Aside0.mk ((by rw [hg]; exact (below_size (by repeat (first | (with_reducible first | exact HB.out | apply below_alloc | apply pw_below_drewN | apply below_drew1) | exact HB.out))) : w.heap.size ≤ gb254)); clear HB; have HB := n0_; have BK254 := n1_; have GW254 := n2_; have GE254 := n3_; clear n0_ n1_ n2_ n3_; clear hb hbox hg; have hcz16_0 : w15.cell? ⟨gb254, 0, none⟩ = some (.int .i64 0) := (blk_cell BK254.out 0).trans rfl; have hcz16_1 : w15.cell? ⟨gb254, 1, none⟩ = some (.int .i64 0) := (blk_cell BK254.out 1).trans rfl; have hcz16_2 : w15.cell? ⟨gb254, 2, none⟩ = some (.string (⟨#[]⟩ : ByteArray)) := (blk_cell BK254.out 2).trans rfl; have hfz16_0 := blk_frozen BK254.out 0; have hfz16_1 := blk_frozen BK254.out 1; have hfz16_2 := blk_frozen BK254.out 2) | ((with_reducible refine gate_callee (f := 59) rfl ?_); refine goesL_ (some 41) rfl rfl Tryd.func59 (by kernel_rfl) rfl #[.agg #[.int .i64 ((rd_T48 l1 x29_2).f0), .int .i64 ((rd_T48 l1 x29_2).f1), .string ((rd_T48 l1 x29_2).f2)]] rfl (by (try simp only [List.map_toArray, List.map_cons, List.map_nil]); first | done | rfl | (simp only [List.length_drop, List.length_take]; rfl)) ?_; (with_reducible refine (lex_splice_grown.calls ((rd_T48 l1 x29_2).f0) ((rd_T48 l1 x29_2).f1) ((rd_T48 l1 x29_2).f2) t255 _ A14.out).mono ?_); rintro e w17 ⟨rfl, hb⟩; refine ⟨_, rfl, ?_⟩; have n0_ := Aside0.mk (blk_below (g := gb254) (o := .cells #[.int .i64 ((rd_T48 l1 x29_2).f0), .int .i64 ((rd_T48 l1 x29_2).f1), .string ((rd_T48 l1 x29_2).f2)] 48 (0, 0)) (by (with_reducible repeat (first | refine blk_drewN ?_ _ | refine blk_drew ?_ | refine blk_alloc ?_ _)); refine blk_put (cs := #[.int .i64 ((rd_T48 l1 x29_2).f0), .int .i64 ((rd_T48 l1 x29_2).f1), .string (⟨#[]⟩ : ByteArray)]) ?_ 2 _ rfl; (with_reducible repeat (first | refine blk_drewN ?_ _ | refine blk_drew ?_ | refine blk_alloc ?_ _)); refine blk_put (cs := #[.int .i64 ((rd_T48 l1 x29_2).f0), .int .i64 0, .string (⟨#[]⟩ : ByteArray)]) ?_ 1 _ rfl; (with_reducible repeat (first | refine blk_drewN ?_ _ | refine blk_drew ?_ | refine blk_alloc ?_ _)); refine blk_put (cs := #[.int .i64 0, .int .i64 0, .string (⟨#[]⟩ : ByteArray)]) ?_ 0 _ rfl; (with_reducible repeat (first | refine blk_drewN ?_ _ | refine blk_drew ?_ | refine blk_alloc ?_ _)); exact BK254.out) hb); have n1_ := Aside0.mk (below_step (by repeat (first | (with_reducible first | exact HB.out | apply below_alloc | apply pw_below_drewN | apply below_drew1 | refine below_set ?_ GE254.out) | exact HB.out)) hb); clear BK254; clear HB; have BK254 := n0_; have HB := n1_; clear n0_ n1_; (try clear hb); (try clear hb2); (try clear hk); (try clear hi)))
                      go_roundg k2
                      case measure => have := HJ5.out; have := HK2.out; omega
                      case rel => exact ⟨(wrap64 (x9_2 + t255)), (wrap64 (x29_2 + 1)), (by first | rfl | (simp; done) | (simp [*]; done)), (by first | rfl | (simp; done) | (simp [*]; done)), H', ⟨by have := HJ5.out; have := HK2.out; omega⟩, ⟨by repeat (first | (with_reducible first | exact HB.out | apply below_alloc | apply pw_below_drewN | apply below_drew1 | refine below_set ?_ GE254.out) | exact HB.out)⟩⟩
                    · rw [if_neg c13] at H
                      have c13b0 : decide (((rd_T48 l1 x29_2).f1) ≤ a2) = false := decide_eq_false c13
                      clear c13
                      by_cases c18 : ((rd_T48 l1 x29_2).f0) ≤ a2
                      · rw [if_pos c18] at H
                        have c18b0 : decide (((rd_T48 l1 x29_2).f0) ≤ a2) = true := decide_eq_true c18
                        clear c18
                        simp only [Option.some.injEq, Prod.mk.injEq] at H
                        obtain ⟨rfl, rfl⟩ := H
                        have p253 : 0 ≤ (x29_2 : Int) := of_decide_eq_true (by first | (with_reducible assumption) | assumption)
                        have q253 : x29_2 < (l1.length : Int) := of_decide_eq_true (by first | (with_reducible assumption) | assumption)
                        obtain ⟨ad253, e253, hx253_0, hx253_1, hx253_2⟩ := at_T48 HR1.out x29_2 p253 q253
                        cases e253
                        replace hx253_0 := (HB.out.cell (World.block_lt_of_cell? w _ hx253_0)).trans hx253_0
                        replace hx253_1 := (HB.out.cell (World.block_lt_of_cell? w _ hx253_1)).trans hx253_1
                        replace hx253_2 := (HB.out.cell (World.block_lt_of_cell? w _ hx253_2)).trans hx253_2
                        replace p253 := eq_true p253
                        replace q253 := eq_true q253
                        go_wp2_with (first | ((with_reducible refine gate_dst (N := 11) rfl ?_); (try (refine gate_guard (by rfl) ?_; dsimp only)); refine box_event ?hg (N := 11) ?hd (cs := #[.int .i64 0, .int .i64 0, .string (⟨#[]⟩ : ByteArray)]) (t := 48) ?hr ?_; (case hd => rfl); (case hg => rfl); (case hr => first | (go_simp; done) | (go_simp; rfl)); intro gb254 hg w19 hbox hb; have n0_ := Aside0.mk (below_step (by repeat (first | (with_reducible first | exact HB.out | apply below_alloc | apply pw_below_drewN | apply below_drew1) | exact HB.out)) hb); have n1_ := Aside0.mk (hbox); have n2_ := Aside0.mk ((by rw [hg]; exact (below_size (by repeat (first | (with_reducible first | exact HB.out | apply below_alloc | apply pw_below_drewN | apply below_drew1) | exact HB.out))) : w.heap.size ≤ gb254)); have n3_ := Aside0.mk ((by rw [hg]; exact (below_size (by repeat (first | (with_reducible first | exact HB.out | apply below_alloc | apply pw_below_drewN | apply below_drew1) | exact HB.out))) : w.heap.size ≤ gb254)); clear HB; have HB := n0_; have BK254 := n1_; have GW254 := n2_; have GE254 := n3_; clear n0_ n1_ n2_ n3_; clear hb hbox hg; have hcz20_0 : w19.cell? ⟨gb254, 0, none⟩ = some (.int .i64 0) := (blk_cell BK254.out 0).trans rfl; have hcz20_1 : w19.cell? ⟨gb254, 1, none⟩ = some (.int .i64 0) := (blk_cell BK254.out 1).trans rfl; have hcz20_2 : w19.cell? ⟨gb254, 2, none⟩ = some (.string (⟨#[]⟩ : ByteArray)) := (blk_cell BK254.out 2).trans rfl; have hfz20_0 := blk_frozen BK254.out 0; have hfz20_1 := blk_frozen BK254.out 1; have hfz20_2 := blk_frozen BK254.out 2))
                        go_ret2
                        exact ⟨by first | rfl | (simp [errW_none, errW_some] <;> rfl) | (simp [*, errW_none, errW_some] <;> rfl), by repeat (first | (with_reducible first | exact HB.out | apply below_alloc | apply pw_below_drewN | apply below_drew1 | refine below_set ?_ GE254.out) | exact HB.out)⟩
                      · rw [if_neg c18] at H
                        have c18b0 : decide (((rd_T48 l1 x29_2).f0) ≤ a2) = false := decide_eq_false c18
                        clear c18
                        have H' := Aside0.mk H
                        clear H
                        have p253 : 0 ≤ (x29_2 : Int) := of_decide_eq_true (by first | (with_reducible assumption) | assumption)
                        have q253 : x29_2 < (l1.length : Int) := of_decide_eq_true (by first | (with_reducible assumption) | assumption)
                        obtain ⟨ad253, e253, hx253_0, hx253_1, hx253_2⟩ := at_T48 HR1.out x29_2 p253 q253
                        cases e253
                        replace hx253_0 := (HB.out.cell (World.block_lt_of_cell? w _ hx253_0)).trans hx253_0
                        replace hx253_1 := (HB.out.cell (World.block_lt_of_cell? w _ hx253_1)).trans hx253_1
                        replace hx253_2 := (HB.out.cell (World.block_lt_of_cell? w _ hx253_2)).trans hx253_2
                        replace p253 := eq_true p253
                        replace q253 := eq_true q253
                        go_wp2_with (first | ((with_reducible refine gate_dst (N := 11) rfl ?_); (try (refine gate_guard (by rfl) ?_; dsimp only)); refine box_event ?hg (N := 11) ?hd (cs := #[.int .i64 0, .int .i64 0, .string (⟨#[]⟩ : ByteArray)]) (t := 48) ?hr ?_; (case hd => rfl); (case hg => rfl); (case hr => first | (go_simp; done) | (go_simp; rfl)); intro gb254 hg w21 hbox hb; have n0_ := Aside0.mk (below_step (by repeat (first | (with_reducible first | exact HB.out | apply below_alloc | apply pw_below_drewN | apply below_drew1) | exact HB.out)) hb); have n1_ := Aside0.mk (hbox); have n2_ := Aside0.mk ((by rw [hg]; exact (below_size (by repeat (first | (with_reducible first | exact HB.out | apply below_alloc | apply pw_below_drewN | apply below_drew1) | exact HB.out))) : w.heap.size ≤ gb254)); have n3_ := Aside0.mk ((by rw [hg]; exact (below_size (by repeat (first | (with_reducible first | exact HB.out | apply below_alloc | apply pw_below_drewN | apply below_drew1) | exact HB.out))) : w.heap.size ≤ gb254)); clear HB; have HB := n0_; have BK254 := n1_; have GW254 := n2_; have GE254 := n3_; clear n0_ n1_ n2_ n3_; clear hb hbox hg; have hcz22_0 : w21.cell? ⟨gb254, 0, none⟩ = some (.int .i64 0) := (blk_cell BK254.out 0).trans rfl; have hcz22_1 : w21.cell? ⟨gb254, 1, none⟩ = some (.int .i64 0) := (blk_cell BK254.out 1).trans rfl; have hcz22_2 : w21.cell? ⟨gb254, 2, none⟩ = some (.string (⟨#[]⟩ : ByteArray)) := (blk_cell BK254.out 2).trans rfl; have hfz22_0 := blk_frozen BK254.out 0; have hfz22_1 := blk_frozen BK254.out 1; have hfz22_2 := blk_frozen BK254.out 2))
                        go_roundg k2
                        case measure => have := HJ5.out; have := HK2.out; omega
                        case rel => exact ⟨(x9_2), (wrap64 (x29_2 + 1)), (by first | rfl | (simp; done) | (simp [*]; done)), (by first | rfl | (simp; done) | (simp [*]; done)), H', ⟨by have := HJ5.out; have := HK2.out; omega⟩, ⟨by repeat (first | (with_reducible first | exact HB.out | apply below_alloc | apply pw_below_drewN | apply below_drew1 | refine below_set ?_ GE254.out) | exact HB.out)⟩⟩
                  · rw [if_neg c12] at H
                    exact absurd H (by simp)
                · rw [if_neg c11] at H
                  exact absurd H (by simp)
              · rw [if_neg c10] at H
                have c10b0 : decide (x29_2 < (l1.length : Int)) = false := decide_eq_false c10
                clear c10
                simp only [Option.some.injEq, Prod.mk.injEq] at H
                obtain ⟨rfl, rfl⟩ := H
                go_wp2
                go_ret2
                exact ⟨by first | rfl | (simp [errW_none, errW_some] <;> rfl) | (simp [*, errW_none, errW_some] <;> rfl), by repeat (first | (with_reducible first | exact HB.out | apply below_alloc | apply pw_below_drewN | apply below_drew1) | exact HB.out)⟩
  · rw [if_neg c5] at H
    have c5b0 : (t252 == 0) = false := beq_eq_false_iff_ne.mpr c5
    have c5b1 : (t252 != 0) = true := bne_iff_ne.mpr c5
    simp only [Option.some.injEq, Prod.mk.injEq] at H
    obtain ⟨rfl, rfl⟩ := H
    go_enter Tryd.func29, Tryd.ntmps29
    go_wp2_with (first | ((with_reducible refine gate_callee (f := 56) rfl ?_); refine goesL_ (some 14) rfl rfl Tryd.func56 (by kernel_rfl) rfl #[.string a0, .slice A1 l1.length c1] rfl (by (try simp only [List.map_toArray, List.map_cons, List.map_nil]); first | done | rfl | (simp only [List.length_drop, List.length_take]; rfl)) ?_; (with_reducible refine (lex_splices.calls k a0 _ _ l1 t252 _ ?side1 ?side2 A4.out).mono ?_); (case side1 => repeat (first | exact HR1.out | (with_reducible refine Kd.C_alloc ?_ _) | (with_reducible refine Kd.C_drewN ?_ _) | (with_reducible refine Kd.C_drew ?_))); (case side2 => exact HC1.out); rintro e w23 ⟨rfl, hb⟩; refine ⟨_, rfl, ?_⟩; have n0_ := Aside0.mk (below_step (by repeat (first | (with_reducible first | exact HB.out | apply below_alloc | apply pw_below_drewN | apply below_drew1) | exact HB.out)) hb); clear HB; have HB := n0_; clear n0_; (try clear hb); (try clear hb2); (try clear hk); (try clear hi)))
    go_ret2
    exact ⟨by first | rfl | (simp [errW_none, errW_some] <;> rfl) | (simp [*, errW_none, errW_some] <;> rfl), by repeat (first | (with_reducible first | exact HB.out | apply below_alloc | apply pw_below_drewN | apply below_drew1) | exact HB.out)⟩

/-! ### riposteref01_Moved: function 30 -/

/-! ### lex_splice_moved: function 60 -/
def lex_splice_moved.f (a0_0 : Int) (a0_1 : Int) (a0_2 : ByteArray) (a1 : ByteArray) (a2 : Int) : Option (Int × Int × ByteArray) := if 0 ≤ a0_0 then (if a0_0 ≤ a0_1 then (if a0_1 ≤ (a1.size : Int) then (some (wrap64 (a0_0 + a2), wrap64 ((wrap64 (a0_0 + a2)) + (a0_2.size : Int)), a1.extract (a0_0 : Int).toNat (a0_1 : Int).toNat)) else (none)) else (none)) else (none)
def lex_splice_moved.T2 : Bool × List (List Nat × List Nat) := (true, [([], []), ([], []), ([], []), ([2], [2]), ([3], [3]), ([4], [4]), ([1, 5], [1, 5]), ([], []), ([], []), ([8], [8]), ([9], [9]), ([], []), ([11], [11]), ([12], [12]), ([7, 10, 13], [7, 10, 13]), ([0, 6, 14], [0, 6, 14]), ([15, 0, 1, 2, 3, 4, 5, 6, 7, 8, 9, 10, 11, 12, 13, 14, 15], [15])])
def lex_splice_moved.B2 : List Nat := [0, 0, 0, 4, 12, 28, 62, 0, 0, 256, 768, 0, 2048, 6144, 16256, 32767, 65535]
theorem lex_splice_moved.tab2 : rtab .any (opsOf Tryd.f60 2) = lex_splice_moved.T2 := by kernel_rfl
theorem lex_splice_moved.bits2 : waitsOk lex_splice_moved.T2.2 lex_splice_moved.B2 = true := by kernel_rfl
set_option maxHeartbeats 8000000 in
set_option maxRecDepth 100000 in
theorem lex_splice_moved.calls (a0_0 : Int) (a0_1 : Int) (a0_2 : ByteArray) (a1 : ByteArray) (a2 : Int) (r1 : Int) (r2 : Int) (r3 : ByteArray) (w : World) (h : lex_splice_moved.f a0_0 a0_1 a0_2 a1 a2 = some (r1, r2, r3)) :
    Calls Tryd.prog 60 #[.agg #[.int .i64 a0_0, .int .i64 a0_1, .string a0_2], .string a1, .int .i64 a2] w fun e w' => e = .returned (.agg #[.int .i64 r1, .int .i64 r2, .string r3]) ∧ Below w.heap.size w w' := by
  have hu76 := Tryd.underlying76
  have hu48 := Tryd.underlying48
  have HB := Aside0.mk (Below.refl w.heap.size w)
  have H : (if 0 ≤ a0_0 then (if a0_0 ≤ a0_1 then (if a0_1 ≤ (a1.size : Int) then (some (wrap64 (a0_0 + a2), wrap64 ((wrap64 (a0_0 + a2)) + (a0_2.size : Int)), a1.extract (a0_0 : Int).toNat (a0_1 : Int).toNat)) else (none)) else (none)) else (none)) = some (r1, r2, r3) := h
  clear h
  by_cases c4 : 0 ≤ a0_0
  · rw [if_pos c4] at H
    have c4b0 := eq_true c4
    have c4b1 : decide (0 ≤ a0_0) = true := decide_eq_true c4
    clear c4
    by_cases c5 : a0_0 ≤ a0_1
    · rw [if_pos c5] at H
      have c5b0 := eq_true c5
      have c5b1 : decide (a0_0 ≤ a0_1) = true := decide_eq_true c5
      clear c5
      by_cases c6 : a0_1 ≤ (a1.size : Int)
      · rw [if_pos c6] at H
        have c6b0 := eq_true c6
        have c6b1 : decide (a0_1 ≤ (a1.size : Int)) = true := decide_eq_true c6
        clear c6
        simp only [Option.some.injEq, Prod.mk.injEq] at H
        obtain ⟨rfl, rfl, rfl⟩ := H
        go_enter Tryd.func60, Tryd.ntmps60
        try go_wp2_with (first | ((with_reducible refine gate_dst (N := 3) rfl ?_); refine box_event ?hg (N := 3) ?hd (cs := #[.int .i64 a0_0, .int .i64 a0_1, .string a0_2]) (t := 76) ?hr ?_; (case hd => rfl); (case hg => rfl); (case hr => first | (go_simp; done) | (go_simp; rfl)); intro gb263 hg w7 hbox hb; have n0_ := Aside0.mk (below_step (by repeat (first | (with_reducible first | exact HB.out | apply below_alloc | apply pw_below_drewN | apply below_drew1) | exact HB.out)) hb); have n1_ := Aside0.mk (hbox); have n2_ := Aside0.mk ((by rw [hg]; exact (below_size (by repeat (first | (with_reducible first | exact HB.out | apply below_alloc | apply pw_below_drewN | apply below_drew1) | exact HB.out))) : w.heap.size ≤ gb263)); have n3_ := Aside0.mk ((by rw [hg]; exact (below_size (by repeat (first | (with_reducible first | exact HB.out | apply below_alloc | apply pw_below_drewN | apply below_drew1) | exact HB.out))) : w.heap.size ≤ gb263)); clear HB; have HB := n0_; have BK263 := n1_; have GW263 := n2_; have GE263 := n3_; clear n0_ n1_ n2_ n3_; clear hb hbox hg) | ((with_reducible refine gate_dst (N := 6) rfl ?_); refine box_event ?hg (N := 6) ?hd (cs := #[.int .i64 0, .int .i64 0, .string (⟨#[]⟩ : ByteArray)]) (t := 48) ?hr ?_; (case hd => rfl); (case hg => rfl); (case hr => first | (go_simp; done) | (go_simp; rfl)); intro gb264 hg w8 hbox hb; have n0_ := Aside0.mk (blk_below (g := gb263) (o := .cells #[.int .i64 a0_0, .int .i64 a0_1, .string a0_2] 76 (0, 0)) (by (with_reducible repeat (first | refine blk_drewN ?_ _ | refine blk_drew ?_ | refine blk_alloc ?_ _)); exact BK263.out) hb); have n1_ := Aside0.mk (below_step (by repeat (first | (with_reducible first | exact HB.out | apply below_alloc | apply pw_below_drewN | apply below_drew1 | refine below_set ?_ GE263.out) | exact HB.out)) hb); have n2_ := Aside0.mk (hbox); have n3_ := Aside0.mk ((by rw [hg]; exact (below_size (by repeat (first | (with_reducible first | exact HB.out | apply below_alloc | apply pw_below_drewN | apply below_drew1 | refine below_set ?_ GE263.out) | exact HB.out))) : w.heap.size ≤ gb264)); have n4_ := Aside0.mk ((by rw [hg]; exact (below_size (by repeat (first | (with_reducible first | exact HB.out | apply below_alloc | apply pw_below_drewN | apply below_drew1 | refine below_set ?_ GE263.out) | exact HB.out))) : w.heap.size ≤ gb264)); have n5_ := Aside0.mk ((by rw [hg]; exact Nat.ne_of_lt (blk_lt (g := gb263) (o := .cells #[.int .i64 a0_0, .int .i64 a0_1, .string a0_2] 76 (0, 0)) (by (with_reducible repeat (first | refine blk_drewN ?_ _ | refine blk_drew ?_ | refine blk_alloc ?_ _)); exact BK263.out)) : gb263 ≠ gb264)); have n6_ := Aside0.mk ((by rw [hg]; exact Nat.ne_of_gt (blk_lt (g := gb263) (o := .cells #[.int .i64 a0_0, .int .i64 a0_1, .string a0_2] 76 (0, 0)) (by (with_reducible repeat (first | refine blk_drewN ?_ _ | refine blk_drew ?_ | refine blk_alloc ?_ _)); exact BK263.out)) : gb264 ≠ gb263)); clear BK263; clear HB; have BK263 := n0_; have HB := n1_; have BK264 := n2_; have GW264 := n3_; have GE264 := n4_; have NB263_264 := n5_; have NB264_263 := n6_; clear n0_ n1_ n2_ n3_ n4_ n5_ n6_; clear hb hbox hg; have hnb9 := NB263_264.out; have hnc9 := NB264_263.out; have hcz10_0 : w8.cell? ⟨gb263, 0, none⟩ = some (.int .i64 a0_0) := (blk_cell BK263.out 0).trans rfl; have hcz10_1 : w8.cell? ⟨gb263, 1, none⟩ = some (.int .i64 a0_1) := (blk_cell BK263.out 1).trans rfl; have hcz10_2 : w8.cell? ⟨gb263, 2, none⟩ = some (.string a0_2) := (blk_cell BK263.out 2).trans rfl; have hfz10_0 := blk_frozen BK263.out 0; have hfz10_1 := blk_frozen BK263.out 1; have hfz10_2 := blk_frozen BK263.out 2))
        have n0_ := Aside0.mk (blk_drew BK263.out)
        have n1_ := Aside0.mk (blk_drew BK264.out)
        have n2_ := Aside0.mk (below_drew1 HB.out)
        clear BK263
        clear BK264
        clear HB
        have BK263 := n0_
        have BK264 := n1_
        have HB := n2_
        clear n0_ n1_ n2_
        refine start_ (n := 17) (S := fun w' => w'.cell? ⟨gb263, 0, none⟩ = some (.int .i64 a0_0) ∧ w'.cell? ⟨gb263, 1, none⟩ = some (.int .i64 a0_1) ∧ w'.cell? ⟨gb263, 2, none⟩ = some (.string a0_2)) (ds := []) #[false, false, false, false, false, false, false, false, false, false, false, false, false, false, false, false, false] (by kernel_rfl) rfl rfl ⟨(blk_cell BK263.out 0).trans rfl, (blk_cell BK263.out 1).trans rfl, (blk_cell BK263.out 2).trans rfl⟩ (fun hHeld => ?_); refine with_tabW lex_splice_moved.tab2 lex_splice_moved.bits2 (fun HT_ HW_ => ?_)
        generalize w8.drew = w11 at BK263 BK264 HB hHeld ⊢
        refine pure_ (i := 0) (N := some 13) (v := ?_) (a' := ?_) #[true, false, false, false, false, false, false, false, false, false, false, false, false, false, false, false, false] rfl rfl (any_of HT_.out (by kernel_rfl)) (fun _ _ _ h => h) (Or.inl ⟨by rfl, ?_⟩) ?_ ?_
        rotate_left
        · intro w'
          go_simp
          with_reducible rfl
        rotate_left
        · simp only [Act.put, List.setIfInBounds_toArray, List.set_cons_zero, List.set_cons_succ, i64_w, i32_w]
          rfl
        refine pure_ (i := 1) (N := some 14) (v := ?_) (a' := ?_) #[true, true, false, false, false, false, false, false, false, false, false, false, false, false, false, false, false] rfl rfl (any_of HT_.out (by kernel_rfl)) (fun _ _ _ h => h) (Or.inl ⟨by rfl, ?_⟩) ?_ ?_
        rotate_left
        · intro w'
          go_simp
          with_reducible rfl
        rotate_left
        · simp only [Act.put, List.setIfInBounds_toArray, List.set_cons_zero, List.set_cons_succ, i64_w, i32_w]
          rfl
        refine pure_ (i := 2) (N := some 15) (v := ?_) (a' := ?_) #[true, true, true, false, false, false, false, false, false, false, false, false, false, false, false, false, false] rfl rfl (any_of HT_.out (by kernel_rfl)) (fun _ _ _ h => h) (Or.inl ⟨by rfl, ?_⟩) ?_ ?_
        rotate_left
        · intro w'
          go_simp
          with_reducible rfl
        rotate_left
        · simp only [Act.put, List.setIfInBounds_toArray, List.set_cons_zero, List.set_cons_succ, i64_w, i32_w]
          rfl
        refine pure_ (i := 3) (N := some 16) (v := ?_) (a' := ?_) #[true, true, true, true, false, false, false, false, false, false, false, false, false, false, false, false, false] rfl rfl (any_of HT_.out (by kernel_rfl)) (fun _ _ _ h => h) (Or.inl ⟨by rfl, ?_⟩) ?_ ?_
        rotate_left
        · intro w'
          go_simp
          with_reducible rfl
        rotate_left
        · simp only [Act.put, List.setIfInBounds_toArray, List.set_cons_zero, List.set_cons_succ, i64_w, i32_w]
          rfl
        refine pure_ (i := 7) (N := some 20) (v := ?_) (a' := ?_) #[true, true, true, true, false, false, false, true, false, false, false, false, false, false, false, false, false] rfl rfl (any_of HT_.out (by kernel_rfl)) (fun _ _ _ h => h) (Or.inl ⟨by rfl, ?_⟩) ?_ ?_
        rotate_left
        · intro w'
          go_simp
          with_reducible rfl
        rotate_left
        · simp only [Act.put, List.setIfInBounds_toArray, List.set_cons_zero, List.set_cons_succ, i64_w, i32_w]
          rfl
        refine pure_ (i := 8) (N := some 21) (v := ?_) (a' := ?_) #[true, true, true, true, false, false, false, true, true, false, false, false, false, false, false, false, false] rfl rfl (any_of HT_.out (by kernel_rfl)) (fun _ _ _ h => h) (Or.inl ⟨by rfl, ?_⟩) ?_ ?_
        rotate_left
        · intro w'
          go_simp
          with_reducible rfl
        rotate_left
        · simp only [Act.put, List.setIfInBounds_toArray, List.set_cons_zero, List.set_cons_succ, i64_w, i32_w]
          rfl
        refine pure_ (i := 9) (N := some 22) (v := ?_) (a' := ?_) #[true, true, true, true, false, false, false, true, true, true, false, false, false, false, false, false, false] rfl rfl (any_of HT_.out (by kernel_rfl)) (fun _ _ _ h => h) (Or.inl ⟨by rfl, ?_⟩) ?_ ?_
        rotate_left
        · intro w'
          go_simp
          with_reducible rfl
        rotate_left
        · simp only [Act.put, List.setIfInBounds_toArray, List.set_cons_zero, List.set_cons_succ, i64_w, i32_w]
          rfl
        refine pure_ (i := 11) (N := some 24) (v := ?_) (a' := ?_) #[true, true, true, true, false, false, false, true, true, true, false, true, false, false, false, false, false] rfl rfl (any_of HT_.out (by kernel_rfl)) (fun _ _ _ h => h) (Or.inl ⟨by rfl, ?_⟩) ?_ ?_
        rotate_left
        · intro w'
          go_simp
          with_reducible rfl
        rotate_left
        · simp only [Act.put, List.setIfInBounds_toArray, List.set_cons_zero, List.set_cons_succ, i64_w, i32_w]
          rfl
        refine pure_ (i := 12) (N := some 25) (v := ?_) (a' := ?_) #[true, true, true, true, false, false, false, true, true, true, false, true, true, false, false, false, false] rfl rfl (any_of HT_.out (by kernel_rfl)) (fun _ _ _ h => h) (Or.inl ⟨by rfl, ?_⟩) ?_ ?_
        rotate_left
        · intro w'
          go_simp
          with_reducible rfl
        rotate_left
        · simp only [Act.put, List.setIfInBounds_toArray, List.set_cons_zero, List.set_cons_succ, i64_w, i32_w]
          rfl
        refine take_ (i := 4) (N := some 17) (v := ?_) (a' := ?_) #[true, true, true, true, true, false, false, true, true, true, false, true, true, false, false, false, false] rfl rfl (take_ofW HT_.out HW_.out (by kernel_rfl)) (fun _ _ _ h => h) (Or.inl ⟨by rfl, ?_⟩) hHeld ?_ ?_
        rotate_left
        · rintro w' ⟨s0, s1, s2⟩
          go_simp
          with_reducible rfl
        rotate_left
        · simp only [Act.put, List.setIfInBounds_toArray, List.set_cons_zero, List.set_cons_succ, i64_w, i32_w]
          rfl
        refine pure_ (i := 5) (N := some 18) (v := ?_) (a' := ?_) #[true, true, true, true, true, true, false, true, true, true, false, true, true, false, false, false, false] rfl rfl (any_of HT_.out (by kernel_rfl)) (fun _ _ _ h => h) (Or.inl ⟨by rfl, ?_⟩) ?_ ?_
        rotate_left
        · intro w'
          go_simp
          with_reducible rfl
        rotate_left
        · simp only [Act.put, List.setIfInBounds_toArray, List.set_cons_zero, List.set_cons_succ, i64_w, i32_w]
          rfl
        refine pure_ (i := 6) (N := some 19) (v := ?_) (a' := ?_) #[true, true, true, true, true, true, true, true, true, true, false, true, true, false, false, false, false] rfl rfl (any_of HT_.out (by kernel_rfl)) (fun _ _ _ h => h) (Or.inl ⟨by rfl, ?_⟩) ?_ ?_
        rotate_left
        · intro w'
          go_simp
          with_reducible rfl
        rotate_left
        · simp only [Act.put, List.setIfInBounds_toArray, List.set_cons_zero, List.set_cons_succ, i64_w, i32_w]
          rfl
        refine take_ (i := 10) (N := some 23) (v := ?_) (a' := ?_) #[true, true, true, true, true, true, true, true, true, true, true, true, true, false, false, false, false] rfl rfl (take_ofW HT_.out HW_.out (by kernel_rfl)) (fun _ _ _ h => h) (Or.inl ⟨by rfl, ?_⟩) hHeld ?_ ?_
        rotate_left
        · rintro w' ⟨s0, s1, s2⟩
          go_simp
          with_reducible rfl
        rotate_left
        · simp only [Act.put, List.setIfInBounds_toArray, List.set_cons_zero, List.set_cons_succ, i64_w, i32_w]
          rfl
        refine take_ (i := 13) (N := some 26) (v := ?_) (a' := ?_) #[true, true, true, true, true, true, true, true, true, true, true, true, true, true, false, false, false] rfl rfl (take_ofW HT_.out HW_.out (by kernel_rfl)) (fun _ _ _ h => h) (Or.inl ⟨by rfl, ?_⟩) hHeld ?_ ?_
        rotate_left
        · rintro w' ⟨s0, s1, s2⟩
          go_simp
          with_reducible rfl
        rotate_left
        · simp only [Act.put, List.setIfInBounds_toArray, List.set_cons_zero, List.set_cons_succ, i64_w, i32_w]
          rfl
        refine pure_ (i := 14) (N := some 27) (v := ?_) (a' := ?_) #[true, true, true, true, true, true, true, true, true, true, true, true, true, true, true, false, false] rfl rfl (any_of HT_.out (by kernel_rfl)) (fun _ _ _ h => h) (Or.inl ⟨by rfl, ?_⟩) ?_ ?_
        rotate_left
        · intro w'
          go_simp
          with_reducible rfl
        rotate_left
        · simp only [Act.put, List.setIfInBounds_toArray, List.set_cons_zero, List.set_cons_succ, i64_w, i32_w]
          rfl
        refine pure_ (i := 15) (N := some 28) (v := ?_) (a' := ?_) #[true, true, true, true, true, true, true, true, true, true, true, true, true, true, true, true, false] rfl rfl (any_of HT_.out (by kernel_rfl)) (fun _ _ _ h => h) (Or.inl ⟨by rfl, ?_⟩) ?_ ?_
        rotate_left
        · intro w'
          go_simp
          with_reducible rfl
        rotate_left
        · simp only [Act.put, List.setIfInBounds_toArray, List.set_cons_zero, List.set_cons_succ, i64_w, i32_w]
          rfl
        refine one_ (i := 16) (N := none) #[true, true, true, true, true, true, true, true, true, true, true, true, true, true, true, true, true] rfl rfl (one_of HT_.out (by kernel_rfl)) (by decide) (fun K hK => ?_)
        have hs12 : w11.cell? ⟨gb264, 0, none⟩ = some (.int .i64 0) := (blk_cell BK264.out 0).trans rfl
        have hfs12 := blk_frozen BK264.out 0
        have hns12_0 := NB263_264.out
        have hms12_0 := NB264_263.out
        have hs13 : w11.cell? ⟨gb264, 1, none⟩ = some (.int .i64 0) := (blk_cell BK264.out 1).trans rfl
        have hfs13 := blk_frozen BK264.out 1
        have hns13_0 := NB263_264.out
        have hms13_0 := NB264_263.out
        have hs14 : w11.cell? ⟨gb264, 2, none⟩ = some (.string (⟨#[]⟩ : ByteArray)) := (blk_cell BK264.out 2).trans rfl
        have hfs14 := blk_frozen BK264.out 2
        have hns14_0 := NB263_264.out
        have hms14_0 := NB264_263.out
        refine skip_ (w1 := ?_) (by rfl) rfl ?_ ?_
        rotate_left
        · go_simp
          rfl
        refine hK.out _ _ ⟨((cell_far (p := ⟨gb264, _, none⟩) NB263_264.out _).trans (((cell_far (p := ⟨gb264, _, none⟩) NB263_264.out _).trans (((cell_far (p := ⟨gb264, _, none⟩) NB263_264.out _).trans (hHeld.1)))))), ((cell_far (p := ⟨gb264, _, none⟩) NB263_264.out _).trans (((cell_far (p := ⟨gb264, _, none⟩) NB263_264.out _).trans (((cell_far (p := ⟨gb264, _, none⟩) NB263_264.out _).trans (hHeld.2.1)))))), ((cell_far (p := ⟨gb264, _, none⟩) NB263_264.out _).trans (((cell_far (p := ⟨gb264, _, none⟩) NB263_264.out _).trans (((cell_far (p := ⟨gb264, _, none⟩) NB263_264.out _).trans (hHeld.2.2))))))⟩ (fun hHeld => ?_)
        clear hK K
        refine done_ (done_of HT_.out (by kernel_rfl)) ?_
        try go_wp2
        refine bodyPost_ret (results_cell_row rfl _ _ gb264 48 #[.int .i64 (wrap64 (a0_0 + a2)), .int .i64 (wrap64 ((wrap64 (a0_0 + a2)) + (a0_2.size : Int))), .string (a1.extract (a0_0 : Int).toNat (a0_1 : Int).toNat)] (0, 0) _ rfl (by (with_reducible repeat (first | refine blk_drewN ?_ _ | refine blk_drew ?_ | refine blk_alloc ?_ _)); refine blk_put (cs := #[.int .i64 (wrap64 (a0_0 + a2)), .int .i64 (wrap64 ((wrap64 (a0_0 + a2)) + (a0_2.size : Int))), .string (⟨#[]⟩ : ByteArray)]) ?_ 2 _ rfl; (with_reducible repeat (first | refine blk_drewN ?_ _ | refine blk_drew ?_ | refine blk_alloc ?_ _)); refine blk_put (cs := #[.int .i64 (wrap64 (a0_0 + a2)), .int .i64 0, .string (⟨#[]⟩ : ByteArray)]) ?_ 1 _ rfl; (with_reducible repeat (first | refine blk_drewN ?_ _ | refine blk_drew ?_ | refine blk_alloc ?_ _)); refine blk_put (cs := #[.int .i64 0, .int .i64 0, .string (⟨#[]⟩ : ByteArray)]) ?_ 0 _ rfl; (with_reducible repeat (first | refine blk_drewN ?_ _ | refine blk_drew ?_ | refine blk_alloc ?_ _)); exact BK264.out) Tryd.underlying48 rfl (by kernel_rfl)) rfl ?_
        exact ⟨by first | rfl | (simp [errW_none, errW_some] <;> rfl) | (simp [*, errW_none, errW_some] <;> rfl), by repeat (first | (with_reducible first | exact HB.out | apply below_alloc | apply pw_below_drewN | apply below_drew1 | refine below_set ?_ GE263.out | refine below_set ?_ GE264.out) | exact HB.out)⟩
      · rw [if_neg c6] at H
        exact absurd H (by simp)
    · rw [if_neg c5] at H
      exact absurd H (by simp)
  · rw [if_neg c4] at H
    exact absurd H (by simp)


/-! ### lex_Undo: function 31 -/
def lex_Undo.l0 : Nat → ByteArray → List (S48) → Int → List (S48) → Int → Int → Option ((List (S48)) × Int)
  | 0, _, _, _, _, _, _ => none
  | k + 1, x0, x4, x7, x17, x18, x19 => if x19 < x18 then (if 0 ≤ x19 then (if x19 < (x17.length : Int) then ((lex_splice_moved.f ((rd_T48 x17 x19).f0) ((rd_T48 x17 x19).f1) ((rd_T48 x17 x19).f2) x0 x7).bind fun bt269 => (if x4.length < 4398046511104 then ((lex_splice_grown.f ((rd_T48 x17 x19).f0) ((rd_T48 x17 x19).f1) ((rd_T48 x17 x19).f2)).bind fun t275 => (lex_Undo.l0 k x0 (x4 ++ [(⟨bt269.1, bt269.2.1, bt269.2.2⟩ : S48)]) (wrap64 (x7 + t275)) x17 x18 (wrap64 (x19 + 1)))) else (none))) else (none)) else (none)) else (some (x4, 0))
def lex_Undo.f (k : Nat) (a0 : ByteArray) (l1 : List (S48)) : Option ((List (S48)) × Int) := (lex_splices.f k a0 l1).bind fun t265 => (if t265 = 0 then (lex_Undo.l0 k a0 ([] : List (S48)) 0 l1 (l1.length : Int) 0) else (some (([] : List (S48)), t265)))
set_option maxHeartbeats 8000000 in
set_option maxRecDepth 100000 in
theorem lex_Undo.calls (k : Nat) (a0 : ByteArray) (A1 : Option Addr) (c1 : Nat) (l1 : List (S48)) (r1 : List (S48)) (r2 : Int) (w : World) (hr1 : Kd.C k48 w A1 l1.length l1) (hc1 : l1.length ≤ c1) (h : lex_Undo.f k a0 l1 = some (r1, r2)) :
    Calls Tryd.prog 31 #[.string a0, .slice A1 l1.length c1] w fun e w' => ∃ v0_ : Value, e = .returned (.tuple #[v0_, .int .i64 r2]) ∧ Kd.R k48 48 w' w.heap.size (fun _ => True) v0_ r1 ∧ Below w.heap.size w w' := by
  have hu48 := Tryd.underlying48
  have hu76 := Tryd.underlying76
  have HR1 := Aside0.mk hr1
  have HC1 := Aside0.mk hc1
  clear hr1 hc1
  have HB := Aside0.mk (Below.refl w.heap.size w)
  have H : ((lex_splices.f k a0 l1).bind fun t265 => (if t265 = 0 then (lex_Undo.l0 k a0 ([] : List (S48)) 0 l1 (l1.length : Int) 0) else (some (([] : List (S48)), t265)))) = some (r1, r2) := h
  clear h
  replace H := Option.bind_eq_some_iff.mp H
  obtain ⟨t265, A30, H⟩ := H
  replace H : (if t265 = 0 then (lex_Undo.l0 k a0 ([] : List (S48)) 0 l1 (l1.length : Int) 0) else (some (([] : List (S48)), t265))) = some (r1, r2) := H
  have A3 := Aside0.mk A30
  clear A30
  by_cases c4 : t265 = 0
  · rw [if_pos c4] at H
    have c4b0 : (t265 == 0) = true := beq_iff_eq.mpr c4
    have c4b1 : (t265 != 0) = false := bne_eq_false_iff_eq.mpr c4
    clear c4
    have H' := Aside0.mk H
    clear H
    go_enter Tryd.func31, Tryd.ntmps31
    go_wp2_with (first | ((with_reducible refine gate_callee (f := 56) rfl ?_); refine goesL_ (some 13) rfl rfl Tryd.func56 (by kernel_rfl) rfl #[.string a0, .slice A1 l1.length c1] rfl (by (try simp only [List.map_toArray, List.map_cons, List.map_nil]); first | done | rfl | (simp only [List.length_drop, List.length_take]; rfl)) ?_; (with_reducible refine (lex_splices.calls k a0 _ _ l1 t265 _ ?side1 ?side2 A3.out).mono ?_); (case side1 => repeat (first | exact HR1.out | (with_reducible refine Kd.C_alloc ?_ _) | (with_reducible refine Kd.C_drewN ?_ _) | (with_reducible refine Kd.C_drew ?_))); (case side2 => exact HC1.out); rintro e w5 ⟨rfl, hb⟩; refine ⟨_, rfl, ?_⟩; have n0_ := Aside0.mk (below_step (by repeat (first | (with_reducible first | exact HB.out | apply below_alloc | apply pw_below_drewN | apply below_drew1) | exact HB.out)) hb); clear HB; have HB := n0_; clear n0_; (try clear hb); (try clear hb2); (try clear hk); (try clear hi)))
    go_loopg [4, 7, 19] k (fun kq v4 v7 v19 w' => ∃ (x4_1 : List (S48)) (x7_1 : Int) (x19_1 : Int), v7 = .int .i64 x7_1 ∧ v19 = .int .i64 x19_1 ∧ Aside0 (lex_Undo.l0 kq a0 x4_1 x7_1 l1 (l1.length : Int) x19_1 = some (r1, r2)) ∧ Aside0 (kq ≤ k) ∧ Aside0 (Kd.R k48 48 w' w.heap.size (fun _ => True) v4 x4_1) ∧ Aside0 (Below w.heap.size w w'))
    case atStart => exact ⟨(([] : List (S48))), (0), (0), (by first | rfl | (simp; done) | (simp [*]; done)), (by first | rfl | (simp; done) | (simp [*]; done)), H', ⟨Nat.le_refl _⟩, ⟨by first | exact Kd.R_nil _ _ _ _ _ | exact Kd.N_nil _ _ _ _ _ | exact Kd.V_nil _ _ _ _ _ | exact Kd.Q_nil _ _ _ _ _ | exact Kd.S_nil _ _ _ _ _⟩, ⟨by repeat (first | (with_reducible first | exact HB.out | apply below_alloc | apply pw_below_drewN | apply below_drew1) | exact HB.out)⟩⟩
    case round =>
      clear H'
      try clear c1
      try clear p2
      try clear c3
      try clear c4
      try clear c4b0
      try clear c4b1
      try clear c5
      obtain ⟨x4_1, x7_1, x19_1, rfl, rfl, HA, HK1, HO_4, HB⟩ := hrel
      cases gk with
      | zero => exact absurd HA.out (by simp [lex_Undo.l0])
      | succ k1 =>
        have H := HA.out
        clear HA
        simp only [lex_Undo.l0] at H
        by_cases c6 : x19_1 < (l1.length : Int)
        · rw [if_pos c6] at H
          have c6b0 : decide (x19_1 < (l1.length : Int)) = true := decide_eq_true c6
          clear c6
          by_cases c7 : 0 ≤ x19_1
          · rw [if_pos c7] at H
            have c7b0 : decide (0 ≤ x19_1) = true := decide_eq_true c7
            clear c7
            by_cases c8 : x19_1 < (l1.length : Int)
            · rw [if_pos c8] at H
              have c8b0 : decide (x19_1 < (l1.length : Int)) = true := decide_eq_true c8
              clear c8
              replace H := Option.bind_eq_some_iff.mp H
              obtain ⟨⟨t269, t270, t271⟩, A90, H⟩ := H
              replace H : (if x4_1.length < 4398046511104 then ((lex_splice_grown.f ((rd_T48 l1 x19_1).f0) ((rd_T48 l1 x19_1).f1) ((rd_T48 l1 x19_1).f2)).bind fun t275 => (lex_Undo.l0 k1 a0 (x4_1 ++ [(⟨t269, t270, t271⟩ : S48)]) (wrap64 (x7_1 + t275)) l1 (l1.length : Int) (wrap64 (x19_1 + 1)))) else (none)) = some (r1, r2) := H
              have A9 := Aside0.mk A90
              clear A90
              by_cases c10 : x4_1.length < 4398046511104
              · rw [if_pos c10] at H
                have LMc10 := Aside0.mk c10
                clear c10
                obtain ⟨y272, hy272⟩ : ∃ y_ : List (S48), y_ = (x4_1 ++ [(⟨t269, t270, t271⟩ : S48)]) := ⟨_, rfl⟩
                replace H : ((lex_splice_grown.f ((rd_T48 l1 x19_1).f0) ((rd_T48 l1 x19_1).f1) ((rd_T48 l1 x19_1).f2)).bind fun t275 => (lex_Undo.l0 k1 a0 y272 (wrap64 (x7_1 + t275)) l1 (l1.length : Int) (wrap64 (x19_1 + 1)))) = some (r1, r2) := by first | (rw [hy272]; with_reducible exact H) | (have H2_ := (Option.bind_some _ _).symm.trans H; rw [hy272]; with_reducible exact H2_) | (have H2_ := (Option.bind_some _ _).symm.trans H; with_reducible exact H2_) | with_reducible exact H | (rw [hy272]; exact H) | exact H
                have Ny272 := Aside0.mk hy272
                clear hy272
                replace H := Option.bind_eq_some_iff.mp H
                obtain ⟨t275, A110, H⟩ := H
                replace H : (lex_Undo.l0 k1 a0 y272 (wrap64 (x7_1 + t275)) l1 (l1.length : Int) (wrap64 (x19_1 + 1))) = some (r1, r2) := H
                have A11 := Aside0.mk A110
                clear A110
                have H' := Aside0.mk H
                clear H
                have p266 : 0 ≤ (x19_1 : Int) := of_decide_eq_true (by first | (with_reducible assumption) | assumption)
                have q266 : x19_1 < (l1.length : Int) := of_decide_eq_true (by first | (with_reducible assumption) | assumption)
                obtain ⟨ad266, e266, hx266_0, hx266_1, hx266_2⟩ := at_T48 HR1.out x19_1 p266 q266
                cases e266
                replace hx266_0 := (HB.out.cell (World.block_lt_of_cell? w _ hx266_0)).trans hx266_0
                replace hx266_1 := (HB.out.cell (World.block_lt_of_cell? w _ hx266_1)).trans hx266_1
                replace hx266_2 := (HB.out.cell (World.block_lt_of_cell? w _ hx266_2)).trans hx266_2
                replace p266 := eq_true p266
                replace q266 := eq_true q266
                go_wp2_with (first | ((with_reducible refine gate_dst (N := 9) rfl ?_); refine box_event ?hg (N := 9) ?hd (cs := #[.int .i64 0, .int .i64 0, .string (⟨#[]⟩ : ByteArray)]) (t := 48) ?hr ?_; (case hd => rfl); (case hg => rfl); (case hr => first | (go_simp; done) | (go_simp; rfl)); intro gb267 hg w12 hbox hb; have n0_ := Aside0.mk (Kd.R_below (Kd.R_elderB (by (with_reducible repeat (first | apply Kd.R_alloc | apply Kd.R_drewN | apply Kd.R_drew)); exact HO_4.out) gb267 (Nat.le_of_eq hg.symm)) hb); have n1_ := Aside0.mk (below_step (by repeat (first | (with_reducible first | exact HB.out | apply below_alloc | apply pw_below_drewN | apply below_drew1) | exact HB.out)) hb); have n2_ := Aside0.mk (hbox); have n3_ := Aside0.mk ((by rw [hg]; exact (below_size (by repeat (first | (with_reducible first | exact HB.out | apply below_alloc | apply pw_below_drewN | apply below_drew1) | exact HB.out))) : w.heap.size ≤ gb267)); have n4_ := Aside0.mk ((by rw [hg]; exact (below_size (by repeat (first | (with_reducible first | exact HB.out | apply below_alloc | apply pw_below_drewN | apply below_drew1) | exact HB.out))) : w.heap.size ≤ gb267)); clear HO_4; clear HB; have HO_4 := n0_; have HB := n1_; have BK267 := n2_; have GW267 := n3_; have GE267 := n4_; clear n0_ n1_ n2_ n3_ n4_; clear hb hbox hg; have hcz13_0 : w12.cell? ⟨gb267, 0, none⟩ = some (.int .i64 0) := (blk_cell BK267.out 0).trans rfl; have hcz13_1 : w12.cell? ⟨gb267, 1, none⟩ = some (.int .i64 0) := (blk_cell BK267.out 1).trans rfl; have hcz13_2 : w12.cell? ⟨gb267, 2, none⟩ = some (.string (⟨#[]⟩ : ByteArray)) := (blk_cell BK267.out 2).trans rfl; have hfz13_0 := blk_frozen BK267.out 0; have hfz13_1 := blk_frozen BK267.out 1; have hfz13_2 := blk_frozen BK267.out 2) | ((with_reducible refine gate_dst (N := 10) rfl ?_); refine box_event ?hg (N := 10) ?hd (cs := #[.int .i64 0, .int .i64 0, .string (⟨#[]⟩ : ByteArray)]) (t := 76) ?hr ?_; (case hd => rfl); (case hg => rfl); (case hr => first | (go_simp; done) | (go_simp; rfl)); intro gb268 hg w14 hbox hb; have n0_ := Aside0.mk (Kd.R_below (by (with_reducible repeat (first | apply Kd.R_alloc | apply Kd.R_drewN | apply Kd.R_drew)); exact (Kd.R_mono (Kd.R_far (p := ⟨gb267, 2, none⟩) (Kd.R_far (p := ⟨gb267, 1, none⟩) (Kd.R_far (p := ⟨gb267, 0, none⟩) (Kd.R_mono HO_4.out (fun k_ hk => (⟨hk, hk.2⟩ : _ ∧ k_ ≠ gb267))) (fun _ hk => hk.2) (.int .i64 ((rd_T48 l1 x19_1).f0))) (fun _ hk => hk.2) (.int .i64 ((rd_T48 l1 x19_1).f1))) (fun _ hk => hk.2) (.string ((rd_T48 l1 x19_1).f2))) (fun _ h_ => h_.1))) hb); have n1_ := Aside0.mk (blk_below (g := gb267) (o := .cells #[.int .i64 ((rd_T48 l1 x19_1).f0), .int .i64 ((rd_T48 l1 x19_1).f1), .string ((rd_T48 l1 x19_1).f2)] 48 (0, 0)) (by (with_reducible repeat (first | refine blk_drewN ?_ _ | refine blk_drew ?_ | refine blk_alloc ?_ _)); refine blk_put (cs := #[.int .i64 ((rd_T48 l1 x19_1).f0), .int .i64 ((rd_T48 l1 x19_1).f1), .string (⟨#[]⟩ : ByteArray)]) ?_ 2 _ rfl; (with_reducible repeat (first | refine blk_drewN ?_ _ | refine blk_drew ?_ | refine blk_alloc ?_ _)); refine blk_put (cs := #[.int .i64 ((rd_T48 l1 x19_1).f0), .int .i64 0, .string (⟨#[]⟩ : ByteArray)]) ?_ 1 _ rfl; (with_reducible repeat (first | refine blk_drewN ?_ _ | refine blk_drew ?_ | refine blk_alloc ?_ _)); refine blk_put (cs := #[.int .i64 0, .int .i64 0, .string (⟨#[]⟩ : ByteArray)]) ?_ 0 _ rfl; (with_reducible repeat (first | refine blk_drewN ?_ _ | refine blk_drew ?_ | refine blk_alloc ?_ _)); exact BK267.out) hb); have n2_ := Aside0.mk (below_step (by repeat (first | (with_reducible first | exact HB.out | apply below_alloc | apply pw_below_drewN | apply below_drew1 | refine below_set ?_ GE267.out) | exact HB.out)) hb); have n3_ := Aside0.mk (hbox); have n4_ := Aside0.mk ((by rw [hg]; exact (below_size (by repeat (first | (with_reducible first | exact HB.out | apply below_alloc | apply pw_below_drewN | apply below_drew1 | refine below_set ?_ GE267.out) | exact HB.out))) : w.heap.size ≤ gb268)); have n5_ := Aside0.mk ((by rw [hg]; exact (below_size (by repeat (first | (with_reducible first | exact HB.out | apply below_alloc | apply pw_below_drewN | apply below_drew1 | refine below_set ?_ GE267.out) | exact HB.out))) : w.heap.size ≤ gb268)); have n6_ := Aside0.mk ((by rw [hg]; exact Nat.ne_of_lt (blk_lt (g := gb267) (o := .cells #[.int .i64 ((rd_T48 l1 x19_1).f0), .int .i64 ((rd_T48 l1 x19_1).f1), .string ((rd_T48 l1 x19_1).f2)] 48 (0, 0)) (by (with_reducible repeat (first | refine blk_drewN ?_ _ | refine blk_drew ?_ | refine blk_alloc ?_ _)); refine blk_put (cs := #[.int .i64 ((rd_T48 l1 x19_1).f0), .int .i64 ((rd_T48 l1 x19_1).f1), .string (⟨#[]⟩ : ByteArray)]) ?_ 2 _ rfl; (with_reducible repeat (first | refine blk_drewN ?_ _ | refine blk_drew ?_ | refine blk_alloc ?_ _)); refine blk_put (cs := #[.int .i64 ((rd_T48 l1 x19_1).f0), .int .i64 0, .string (⟨#[]⟩ : ByteArray)]) ?_ 1 _ rfl; (with_reducible repeat (first | refine blk_drewN ?_ _ | refine blk_drew ?_ | refine blk_alloc ?_ _)); refine blk_put (cs := #[.int .i64 0, .int .i64 0, .string (⟨#[]⟩ : ByteArray)]) ?_ 0 _ rfl; (with_reducible repeat (first | refine blk_drewN ?_ _ | refine blk_drew ?_ | refine blk_alloc ?_ _)); exact BK267.out)) : gb267 ≠ gb268)); have n7_ := Aside0.mk ((by rw [hg]; exact Nat.ne_of_gt (blk_lt (g := gb267) (o := .cells #[.int .i64 ((rd_T48 l1 x19_1).f0), .int .i64 ((rd_T48 l1 x19_1).f1), .string ((rd_T48 l1 x19_1).f2)] 48 (0, 0)) (by (with_reducible repeat (first | refine blk_drewN ?_ _ | refine blk_drew ?_ | refine blk_alloc ?_ _)); refine blk_put (cs := #[.int .i64 ((rd_T48 l1 x19_1).f0), .int .i64 ((rd_T48 l1 x19_1).f1), .string (⟨#[]⟩ : ByteArray)]) ?_ 2 _ rfl; (with_reducible repeat (first | refine blk_drewN ?_ _ | refine blk_drew ?_ | refine blk_alloc ?_ _)); refine blk_put (cs := #[.int .i64 ((rd_T48 l1 x19_1).f0), .int .i64 0, .string (⟨#[]⟩ : ByteArray)]) ?_ 1 _ rfl; (with_reducible repeat (first | refine blk_drewN ?_ _ | refine blk_drew ?_ | refine blk_alloc ?_ _)); refine blk_put (cs := #[.int .i64 0, .int .i64 0, .string (⟨#[]⟩ : ByteArray)]) ?_ 0 _ rfl; (with_reducible repeat (first | refine blk_drewN ?_ _ | refine blk_drew ?_ | refine blk_alloc ?_ _)); exact BK267.out)) : gb268 ≠ gb267)); clear HO_4; clear BK267; clear HB; have HO_4 := n0_; have BK267 := n1_; have HB := n2_; have BK268 := n3_; have GW268 := n4_; have GE268 := n5_; have NB267_268 := n6_; have NB268_267 := n7_; clear n0_ n1_ n2_ n3_ n4_ n5_ n6_ n7_; clear hb hbox hg; have hnb15 := NB268_267.out; have hnc15 := NB267_268.out; have hcz16_0 : w14.cell? ⟨gb268, 0, none⟩ = some (.int .i64 0) := (blk_cell BK268.out 0).trans rfl; have hcz16_1 : w14.cell? ⟨gb268, 1, none⟩ = some (.int .i64 0) := (blk_cell BK268.out 1).trans rfl; have hcz16_2 : w14.cell? ⟨gb268, 2, none⟩ = some (.string (⟨#[]⟩ : ByteArray)) := (blk_cell BK268.out 2).trans rfl; have hfz16_0 := blk_frozen BK268.out 0; have hfz16_1 := blk_frozen BK268.out 1; have hfz16_2 := blk_frozen BK268.out 2) | ((with_reducible refine gate_callee (f := 60) rfl ?_); refine goesL_ (some 29) rfl rfl Tryd.func60 (by kernel_rfl) rfl #[.agg #[.int .i64 ((rd_T48 l1 x19_1).f0), .int .i64 ((rd_T48 l1 x19_1).f1), .string ((rd_T48 l1 x19_1).f2)], .string a0, .int .i64 x7_1] rfl (by (try simp only [List.map_toArray, List.map_cons, List.map_nil]); first | done | rfl | (simp only [List.length_drop, List.length_take]; rfl)) ?_; (with_reducible refine (lex_splice_moved.calls ((rd_T48 l1 x19_1).f0) ((rd_T48 l1 x19_1).f1) ((rd_T48 l1 x19_1).f2) a0 x7_1 t269 t270 t271 _ A9.out).mono ?_); rintro e w17 ⟨rfl, hb⟩; refine ⟨_, rfl, ?_⟩; have n0_ := Aside0.mk (Kd.R_below (by (with_reducible repeat (first | apply Kd.R_alloc | apply Kd.R_drewN | apply Kd.R_drew)); exact (Kd.R_mono (Kd.R_far (p := ⟨gb268, 2, none⟩) (Kd.R_far (p := ⟨gb268, 1, none⟩) (Kd.R_far (p := ⟨gb268, 0, none⟩) (Kd.R_types HO_4.out BK268.out (by decide)) (fun _ hk => hk.2) (.int .i64 ((rd_T48 l1 x19_1).f0))) (fun _ hk => hk.2) (.int .i64 ((rd_T48 l1 x19_1).f1))) (fun _ hk => hk.2) (.string ((rd_T48 l1 x19_1).f2))) (fun _ h_ => h_.1))) hb); have n1_ := Aside0.mk (blk_below (g := gb267) (o := .cells #[.int .i64 ((rd_T48 l1 x19_1).f0), .int .i64 ((rd_T48 l1 x19_1).f1), .string ((rd_T48 l1 x19_1).f2)] 48 (0, 0)) (by (with_reducible repeat (first | refine blk_drewN ?_ _ | refine blk_drew ?_ | refine blk_alloc ?_ _)); refine blk_far ?_ NB267_268.out _; (with_reducible repeat (first | refine blk_drewN ?_ _ | refine blk_drew ?_ | refine blk_alloc ?_ _)); refine blk_far ?_ NB267_268.out _; (with_reducible repeat (first | refine blk_drewN ?_ _ | refine blk_drew ?_ | refine blk_alloc ?_ _)); refine blk_far ?_ NB267_268.out _; (with_reducible repeat (first | refine blk_drewN ?_ _ | refine blk_drew ?_ | refine blk_alloc ?_ _)); exact BK267.out) hb); have n2_ := Aside0.mk (blk_below (g := gb268) (o := .cells #[.int .i64 ((rd_T48 l1 x19_1).f0), .int .i64 ((rd_T48 l1 x19_1).f1), .string ((rd_T48 l1 x19_1).f2)] 76 (0, 0)) (by (with_reducible repeat (first | refine blk_drewN ?_ _ | refine blk_drew ?_ | refine blk_alloc ?_ _)); refine blk_put (cs := #[.int .i64 ((rd_T48 l1 x19_1).f0), .int .i64 ((rd_T48 l1 x19_1).f1), .string (⟨#[]⟩ : ByteArray)]) ?_ 2 _ rfl; (with_reducible repeat (first | refine blk_drewN ?_ _ | refine blk_drew ?_ | refine blk_alloc ?_ _)); refine blk_put (cs := #[.int .i64 ((rd_T48 l1 x19_1).f0), .int .i64 0, .string (⟨#[]⟩ : ByteArray)]) ?_ 1 _ rfl; (with_reducible repeat (first | refine blk_drewN ?_ _ | refine blk_drew ?_ | refine blk_alloc ?_ _)); refine blk_put (cs := #[.int .i64 0, .int .i64 0, .string (⟨#[]⟩ : ByteArray)]) ?_ 0 _ rfl; (with_reducible repeat (first | refine blk_drewN ?_ _ | refine blk_drew ?_ | refine blk_alloc ?_ _)); exact BK268.out) hb); have n3_ := Aside0.mk (below_step (by repeat (first | (with_reducible first | exact HB.out | apply below_alloc | apply pw_below_drewN | apply below_drew1 | refine below_set ?_ GE267.out | refine below_set ?_ GE268.out) | exact HB.out)) hb); clear HO_4; clear BK267; clear BK268; clear HB; have HO_4 := n0_; have BK267 := n1_; have BK268 := n2_; have HB := n3_; clear n0_ n1_ n2_ n3_; (try clear hb); (try clear hb2); (try clear hk); (try clear hi)) | ((with_reducible refine gate_builtin (b := .append) (xs := #[.tmp 25, .tmp 30]) rfl ?_); at_builtin; refine Kd.R_append k48 (w0 := w) w.heap.size rfl (.tmp 25) (.tmp 30) 36 48 (.agg #[(.int .i64 0), (.int .i64 0), (.string ⟨#[]⟩)]) 32 rfl Tryd.underlying36 info48 rfl (by decide) (by omega) u4 x4_1 (⟨t269, t270, t271⟩ : S48) [.int .i64 t269, .int .i64 t270, .string t271] (fun k_ => k_ ≠ gb267) (fun _ => False) rfl rfl ?aP (fun _ hk => hk.elim) ?aF ?aO ?aB ?aS ?aL ?_; (case aP => exact k48_mkM _ _ _ (⟨t269, t270, t271⟩ : S48)); (case aB => exact (by repeat (first | (with_reducible first | exact HB.out | apply below_alloc | apply pw_below_drewN | apply below_drew1 | refine below_set ?_ GE267.out | refine below_set ?_ GE268.out) | exact HB.out))); (case aF => exact (fun k_ hk => Kd.freshB (g := gb267) (o := .cells #[.int .i64 ((rd_T48 l1 x19_1).f0), .int .i64 ((rd_T48 l1 x19_1).f1), .string ((rd_T48 l1 x19_1).f2)] 48 (0, 0)) (by (with_reducible repeat (first | refine blk_drewN ?_ _ | refine blk_drew ?_ | refine blk_alloc ?_ _)); exact BK267.out) k_ hk)); (case aO => exact (by (with_reducible repeat (first | apply Kd.R_alloc | apply Kd.R_drewN | apply Kd.R_drew)); exact Kd.R_mono HO_4.out (fun _ hk => hk.2))); (case aS => exact (below_size (by repeat (first | (with_reducible first | exact HB.out | apply below_alloc | apply pw_below_drewN | apply below_drew1 | refine below_set ?_ GE267.out | refine below_set ?_ GE268.out) | exact HB.out)))); (case aL => have := LMc10.out; omega); intro v273 w18 ho hb hg hat; rw [← Ny272.out] at ho; have n0_ := Aside0.mk (blk_grown (g := gb267) (o := .cells #[.int .i64 ((rd_T48 l1 x19_1).f0), .int .i64 ((rd_T48 l1 x19_1).f1), .string ((rd_T48 l1 x19_1).f2)] 48 (0, 0)) (by (with_reducible repeat (first | refine blk_drewN ?_ _ | refine blk_drew ?_ | refine blk_alloc ?_ _)); exact BK267.out) hg (Kd.R_away HO_4.out (fun _ hk => hk.2))); have n1_ := Aside0.mk (blk_grown (g := gb268) (o := .cells #[.int .i64 ((rd_T48 l1 x19_1).f0), .int .i64 ((rd_T48 l1 x19_1).f1), .string ((rd_T48 l1 x19_1).f2)] 76 (0, 0)) (by (with_reducible repeat (first | refine blk_drewN ?_ _ | refine blk_drew ?_ | refine blk_alloc ?_ _)); exact BK268.out) hg (Kd.R_ne HO_4.out BK268.out (by decide))); have n2_ := Aside0.mk (hb); have n3_ := Aside0.mk (ho); clear BK267; clear BK268; clear HB; clear HO_4; have BK267 := n0_; have BK268 := n1_; have HB := n2_; have HO274 := n3_; clear n0_ n1_ n2_ n3_; clear ho hb hg hat; have hcz19_0 : w18.cell? ⟨gb268, 0, none⟩ = some (.int .i64 ((rd_T48 l1 x19_1).f0)) := (blk_cell BK268.out 0).trans rfl; have hcz19_1 : w18.cell? ⟨gb268, 1, none⟩ = some (.int .i64 ((rd_T48 l1 x19_1).f1)) := (blk_cell BK268.out 1).trans rfl; have hcz19_2 : w18.cell? ⟨gb268, 2, none⟩ = some (.string ((rd_T48 l1 x19_1).f2)) := (blk_cell BK268.out 2).trans rfl; have hfz19_0 := blk_frozen BK268.out 0; have hfz19_1 := blk_frozen BK268.out 1; have hfz19_2 := blk_frozen BK268.out 2) | ((with_reducible refine gate_callee (f := 59) rfl ?_); refine goesL_ (some 34) rfl rfl Tryd.func59 (by kernel_rfl) rfl #[.agg #[.int .i64 ((rd_T48 l1 x19_1).f0), .int .i64 ((rd_T48 l1 x19_1).f1), .string ((rd_T48 l1 x19_1).f2)]] rfl (by (try simp only [List.map_toArray, List.map_cons, List.map_nil]); first | done | rfl | (simp only [List.length_drop, List.length_take]; rfl)) ?_; (with_reducible refine (lex_splice_grown.calls ((rd_T48 l1 x19_1).f0) ((rd_T48 l1 x19_1).f1) ((rd_T48 l1 x19_1).f2) t275 _ A11.out).mono ?_); rintro e w20 ⟨rfl, hb⟩; refine ⟨_, rfl, ?_⟩; have n0_ := Aside0.mk (Kd.R_below (by (with_reducible repeat (first | apply Kd.R_alloc | apply Kd.R_drewN | apply Kd.R_drew)); exact HO274.out) hb); have n1_ := Aside0.mk (blk_below (g := gb267) (o := .cells #[.int .i64 ((rd_T48 l1 x19_1).f0), .int .i64 ((rd_T48 l1 x19_1).f1), .string ((rd_T48 l1 x19_1).f2)] 48 (0, 0)) (by (with_reducible repeat (first | refine blk_drewN ?_ _ | refine blk_drew ?_ | refine blk_alloc ?_ _)); exact BK267.out) hb); have n2_ := Aside0.mk (blk_below (g := gb268) (o := .cells #[.int .i64 ((rd_T48 l1 x19_1).f0), .int .i64 ((rd_T48 l1 x19_1).f1), .string ((rd_T48 l1 x19_1).f2)] 76 (0, 0)) (by (with_reducible repeat (first | refine blk_drewN ?_ _ | refine blk_drew ?_ | refine blk_alloc ?_ _)); exact BK268.out) hb); have n3_ := Aside0.mk (below_step (by repeat (first | (with_reducible first | exact HB.out | apply below_alloc | apply pw_below_drewN | apply below_drew1 | refine below_set ?_ GE267.out | refine below_set ?_ GE268.out) | exact HB.out)) hb); clear HO274; clear BK267; clear BK268; clear HB; have HO274 := n0_; have BK267 := n1_; have BK268 := n2_; have HB := n3_; clear n0_ n1_ n2_ n3_; (try clear hb); (try clear hb2); (try clear hk); (try clear hi)))
                go_roundg k1
                case measure => have := HK1.out; omega
                case rel => exact ⟨(y272), (wrap64 (x7_1 + t275)), (wrap64 (x19_1 + 1)), (by first | rfl | (simp; done) | (simp [*]; done)), (by first | rfl | (simp; done) | (simp [*]; done)), H', ⟨by have := HK1.out; omega⟩, ⟨by (with_reducible repeat (first | apply Kd.R_alloc | apply Kd.R_drewN | apply Kd.R_drew)); exact Kd.R_mono HO274.out (fun _ hk => trivial)⟩, ⟨by repeat (first | (with_reducible first | exact HB.out | apply below_alloc | apply pw_below_drewN | apply below_drew1 | refine below_set ?_ GE267.out | refine below_set ?_ GE268.out) | exact HB.out)⟩⟩
              · rw [if_neg c10] at H
                exact absurd H (by simp)
            · rw [if_neg c8] at H
              exact absurd H (by simp)
          · rw [if_neg c7] at H
            exact absurd H (by simp)
        · rw [if_neg c6] at H
          have c6b0 : decide (x19_1 < (l1.length : Int)) = false := decide_eq_false c6
          clear c6
          simp only [Option.some.injEq, Prod.mk.injEq] at H
          obtain ⟨rfl, rfl⟩ := H
          go_wp2
          go_ret2
          exact ⟨_, by first | rfl | (simp [errW_none, errW_some] <;> rfl) | (simp [*, errW_none, errW_some] <;> rfl), by (with_reducible repeat (first | apply Kd.R_alloc | apply Kd.R_drewN | apply Kd.R_drew)); exact HO_4.out, by repeat (first | (with_reducible first | exact HB.out | apply below_alloc | apply pw_below_drewN | apply below_drew1) | exact HB.out)⟩
  · rw [if_neg c4] at H
    have c4b0 : (t265 == 0) = false := beq_eq_false_iff_ne.mpr c4
    have c4b1 : (t265 != 0) = true := bne_iff_ne.mpr c4
    simp only [Option.some.injEq, Prod.mk.injEq] at H
    obtain ⟨rfl, rfl⟩ := H
    go_enter Tryd.func31, Tryd.ntmps31
    go_wp2_with (first | ((with_reducible refine gate_callee (f := 56) rfl ?_); refine goesL_ (some 13) rfl rfl Tryd.func56 (by kernel_rfl) rfl #[.string a0, .slice A1 l1.length c1] rfl (by (try simp only [List.map_toArray, List.map_cons, List.map_nil]); first | done | rfl | (simp only [List.length_drop, List.length_take]; rfl)) ?_; (with_reducible refine (lex_splices.calls k a0 _ _ l1 t265 _ ?side1 ?side2 A3.out).mono ?_); (case side1 => repeat (first | exact HR1.out | (with_reducible refine Kd.C_alloc ?_ _) | (with_reducible refine Kd.C_drewN ?_ _) | (with_reducible refine Kd.C_drew ?_))); (case side2 => exact HC1.out); rintro e w21 ⟨rfl, hb⟩; refine ⟨_, rfl, ?_⟩; have n0_ := Aside0.mk (below_step (by repeat (first | (with_reducible first | exact HB.out | apply below_alloc | apply pw_below_drewN | apply below_drew1) | exact HB.out)) hb); clear HB; have HB := n0_; clear n0_; (try clear hb); (try clear hb2); (try clear hk); (try clear hi)))
    go_ret2
    exact ⟨_, by first | rfl | (simp [errW_none, errW_some] <;> rfl) | (simp [*, errW_none, errW_some] <;> rfl), by first | exact Kd.R_nil _ _ _ _ _ | exact Kd.N_nil _ _ _ _ _ | exact Kd.V_nil _ _ _ _ _ | exact Kd.Q_nil _ _ _ _ _ | exact Kd.S_nil _ _ _ _ _, by repeat (first | (with_reducible first | exact HB.out | apply below_alloc | apply pw_below_drewN | apply below_drew1) | exact HB.out)⟩

/-! ### riposteref01_Undo: function 32 -/

-- NOT PRINTED: function 7 (ripostelaw01_LexSplices)

-- NOT PRINTED: function 61 (api_Token_61)

-- NOT PRINTED: function 62 (lex_later)

-- NOT PRINTED: function 63 (api_Token_63)

-- NOT PRINTED: function 33 (lex_Kept)

end Go.Proofs.YtggfcmondffodaaDoor.P
namespace Go.Proofs.YtggfcmondffodaaDoor.P
open Go.RowKit Go.Proofs.YtggfcmondffodaaDoorW.PrintWords
set_option linter.unusedVariables false
set_option linter.unusedSimpArgs false
/-- By how much a text grows. -/
def gr (x : Sp) : Int := (x.f2.size : Int) - (x.f1 - x.f0)
def rngB (n : Nat) : List Sp → Int → Bool
  | [], _ => true
  | x :: r, a => decide (a ≤ x.f0) && (decide (x.f0 ≤ x.f1) && (decide (x.f1 ≤ (n : Int)) && rngB n r x.f1))
def tailE : Int → List Sp → Int
  | n, [] => if n > 2500 then 5 else 0
  | n, x :: r => if badAt x.f2 x.f2.size 0 = none then tailE (n + gr x) r else 2
/-- The error of a text and of splices for it. -/
def splE (s : ByteArray) (l : List Sp) : Int :=
  if (chkT s).2 = 0 then (if 40 < l.length then 5 else if rngB s.size l 0 = true then tailE s.size l else 3) else (chkT s).2
theorem rngB_ord {n : Nat} : ∀ {l : List Sp} {a : Int}, rngB n l a = true → 0 ≤ a → a ≤ n → OrdS n l a
  | [], a, _, h0, h1 => ⟨h0, h1⟩
  | x :: r, a, h, h0, h1 => by
    unfold rngB at h
    simp only [Bool.and_eq_true, decide_eq_true_eq] at h
    obtain ⟨a1, a2, a3, a4⟩ := h
    exact ⟨h0, a1, a2, a3, rngB_ord a4 (by omega) a3⟩
theorem ord_rngB {n : Nat} : ∀ {l : List Sp} {a : Int}, OrdS n l a → rngB n l a = true
  | [], a, _ => rfl
  | x :: r, a, h => by
    obtain ⟨h0, h1, h2, h3, h4⟩ := h
    unfold rngB
    rw [decide_eq_true h1, decide_eq_true h2, decide_eq_true h3, ord_rngB h4]; rfl
/-- What is known of splices in range. -/
def BdS (x : Sp) : Prop := 0 ≤ x.f0 ∧ x.f0 ≤ x.f1 ∧ x.f1 ≤ 3000 ∧ x.f2.size ≤ 3000
theorem OrdS.bd {n : Nat} (hn : n ≤ 3000) : ∀ {l : List Sp} {a : Int}, OrdS n l a → (∀ x ∈ l, x.f2.size ≤ 3000) → ∀ x ∈ l, BdS x
  | [], _, _, _, x, hx => by cases hx
  | y :: r, a, h, hs, x, hx => by
    obtain ⟨h0, h1, h2, h3, h4⟩ := h
    rcases List.mem_cons.1 hx with rfl | hx
    · exact ⟨by omega, h2, by omega, hs _ List.mem_cons_self⟩
    · exact h4.bd hn (fun z hz => hs z (List.mem_cons_of_mem _ hz)) x hx
theorem BdS.gr {x : Sp} (h : BdS x) : -3000 ≤ gr x ∧ gr x ≤ 3000 := by
  obtain ⟨h0, h1, h2, h3⟩ := h
  unfold P.gr; omega
theorem gr_wrap {x : Sp} (h : BdS x) : wrap64 ((x.f2.size : Int) - wrap64 (x.f1 - x.f0)) = gr x := by
  obtain ⟨h0, h1, h2, h3⟩ := h
  unfold gr
  rw [w64 (x := x.f1 - x.f0) (by omega) (by omega), w64 (by omega) (by omega)]
theorem rd48_mem (l : List Sp) (i : Nat) (h : i < l.length) : rd_T48 l (i : Int) ∈ l :=
  List.mem_of_mem_drop (i := i) (by rw [drop_rd l i h]; exact List.mem_cons_self)
theorem up1 (i : Nat) (n : Nat) (h : i < n) (hn : n ≤ 140737488351232) : wrap64 ((i : Int) + 1) = ((i + 1 : Nat) : Int) := by rw [w64 (by omega) (by omega)]; omega
/-! ### The program's splices -/
theorem pGrown {x : Sp} (h : BdS x) : lex_splice_grown.f x.f0 x.f1 x.f2 = some (gr x) := by
  unfold lex_splice_grown.f
  rw [gr_wrap h]
theorem pL2 (n : Int) (l : List Sp) (i : Nat) (x : Sp) (hx : BdS x) (m : Nat) (hm : 6 ≤ m) : ∀ (d j : Nat), x.f2.size - j = d → j ≤ x.f2.size →
    lex_splices.l2 (d + 1 + m) n l (l.length : Int) (i : Int) (x.f2.size : Int) (j : Int) x.f0 x.f1 x.f2 = if badAt x.f2 d j = none then lex_splices.l1 m (wrap64 (n + gr x)) l (l.length : Int) (wrap64 ((i : Int) + 1)) else some 2 := by
  have hs := hx.2.2.2
  intro d
  induction d with
  | zero =>
    intro j hd hj
    rw [show 0 + 1 + m = m + 1 by omega, lex_splices.l2.eq_2, if_neg (by omega), pGrown hx]
    unfold badAt
    rw [if_pos rfl]; rfl
  | succ d ih =>
    intro j hd hj
    have e2 := up1 j x.f2.size (by omega) (by omega)
    rw [show d + 1 + 1 + m = (d + 1 + m) + 1 by omega, lex_splices.l2.eq_2, if_pos (by omega), if_pos (by omega), if_pos (by omega), pIsByte _ _ (by omega)]
    simp only [Option.bind_some]
    unfold badAt
    rw [if_pos (show j < x.f2.size by omega)]
    cases h : okB (bt x.f2 (j : Int)) with
    | true => rw [if_pos rfl, if_pos rfl, e2]; exact ih (j + 1) (by omega) (by omega)
    | false => rw [if_neg Bool.false_ne_true, if_neg Bool.false_ne_true, if_neg (show ¬ (some j = none) from fun e => by cases e)]
/-- The fuel that texts need. -/
def need : List Sp → Nat
  | [] => 0
  | x :: r => x.f2.size + 2 + need r
theorem need_nil : need [] = 0 := rfl
theorem need_cons (x : Sp) (r : List Sp) : need (x :: r) = x.f2.size + 2 + need r := rfl
theorem pL1 (l : List Sp) (hb : ∀ x ∈ l, BdS x) (hl : l.length ≤ 1000) (m : Nat) (hm : 6 ≤ m) : ∀ (d i : Nat) (n : Int), l.length - i = d → i ≤ l.length → -100000000 ≤ n - 3000 * d → n + 3000 * d ≤ 100000000 →
    lex_splices.l1 (need (l.drop i) + 1 + m) n l (l.length : Int) (i : Int) = some (tailE n (l.drop i)) := by
  intro d
  induction d with
  | zero =>
    intro i n hd hi h1 h2
    rw [List.drop_eq_nil_of_le (show l.length ≤ i by omega), show need [] + 1 + m = m + 1 from by first | (rw [need_cons]; omega) | (rw [need_nil]; omega), lex_splices.l1.eq_2, if_neg (by omega)]
    unfold tailE
    split <;> rfl
  | succ d ih =>
    intro i n hd hi h1 h2
    have hlt : i < l.length := by omega
    have hx := hb _ (rd48_mem l i hlt)
    have hg := hx.gr
    have e2 := up1 i l.length hlt (by omega)
    rw [drop_rd l i hlt]
    generalize hy : rd_T48 l (i : Int) = y at *
    rw [show need (y :: l.drop (i + 1)) + 1 + m = (y.f2.size + 1 + (need (l.drop (i + 1)) + 1 + m)) + 1 from by first | (rw [need_cons]; omega) | (rw [need_nil]; omega), lex_splices.l1.eq_2, if_pos (by omega), if_pos (by omega), if_pos (by omega), hy]
    have := pL2 n l i y hx (need (l.drop (i + 1)) + 1 + m) (by omega) y.f2.size 0 (by omega) (by omega)
    rw [show ((0 : Nat) : Int) = 0 from rfl] at this
    rw [this]
    unfold tailE
    by_cases c : badAt y.f2 y.f2.size 0 = none
    · rw [if_pos c, if_pos c, e2, w64 (x := n + gr y) (by omega) (by omega)]
      exact ih (i + 1) _ (by omega) (by omega) (by omega) (by omega)
    · rw [if_neg c, if_neg c]
theorem pL0 (s : ByteArray) (hs : s.size ≤ 140737488351232) (l : List Sp) (hl : l.length ≤ 1000) (m : Nat) : ∀ (d i : Nat) (a : Int), l.length - i = d → i ≤ l.length →
    lex_splices.l0 (d + 1 + m) s l a (s.size : Int) l (l.length : Int) (i : Int) = if rngB s.size (l.drop i) a = true then lex_splices.l1 m (s.size : Int) l (l.length : Int) 0 else some 3 := by
  intro d
  induction d with
  | zero =>
    intro i a hd hi
    rw [List.drop_eq_nil_of_le (show l.length ≤ i by omega), show 0 + 1 + m = m + 1 by omega, lex_splices.l0.eq_2, if_neg (by omega), if_pos (show rngB s.size [] a = true from rfl)]
  | succ d ih =>
    intro i a hd hi
    have hlt : i < l.length := by omega
    have e2 := up1 i l.length hlt (by omega)
    rw [drop_rd l i hlt, show d + 1 + 1 + m = (d + 1 + m) + 1 by omega, lex_splices.l0.eq_2, if_pos (by omega), if_pos (by omega), if_pos (by omega)]
    generalize hy : rd_T48 l (i : Int) = y
    unfold rngB
    by_cases c1 : y.f0 < a
    · rw [if_pos c1, decide_eq_false (show ¬ a ≤ y.f0 by omega)]; rfl
    · rw [if_neg c1, decide_eq_true (show a ≤ y.f0 by omega)]
      by_cases c2 : y.f1 < y.f0
      · rw [if_pos c2, decide_eq_false (show ¬ y.f0 ≤ y.f1 by omega)]; rfl
      · rw [if_neg c2, decide_eq_true (show y.f0 ≤ y.f1 by omega)]
        by_cases c3 : y.f1 > (s.size : Int)
        · rw [if_pos c3, decide_eq_false (show ¬ y.f1 ≤ (s.size : Int) by omega)]; rfl
        · rw [if_neg c3, decide_eq_true (show y.f1 ≤ (s.size : Int) by omega), e2, ih (i + 1) _ (by omega) (by omega)]; rfl
theorem pSplices (s : ByteArray) (l : List Sp) (hs : s.size ≤ 3000) (hl : l.length ≤ 1000) (hx : ∀ x ∈ l, x.f2.size ≤ 3000) : lex_splices.f (l.length + 1 + (need l + 1 + 4000)) s l = some (splE s l) := by
  unfold lex_splices.f splE
  rw [pCheck s (by omega) _ (by omega)]
  simp only [Option.bind_some]
  by_cases c : (chkT s).2 = 0
  · rw [if_pos c, if_pos c]
    by_cases c2 : 40 < l.length
    · rw [if_pos (by omega), if_pos c2]
    · rw [if_neg (by omega), if_neg c2]
      have h0 := pL0 s (by omega) l hl (need l + 1 + 4000) l.length 0 0 (by omega) (by omega)
      rw [List.drop_zero] at h0
      refine h0.trans ?_
      by_cases c3 : rngB s.size l 0 = true
      · rw [if_pos c3, if_pos c3]
        have hO := rngB_ord c3 (Int.le_refl _) (by omega)
        have h1 := pL1 l (hO.bd hs hx) hl 4000 (by omega) l.length 0 (s.size : Int) (by omega) (by omega) (by omega) (by omega)
        rw [List.drop_zero] at h1
        exact h1
      · rw [if_neg c3, if_neg c3]
  · rw [if_neg c, if_neg c]
/-! ### The reference's -/
/-- The fuel for all of it. -/
def fuS (l : List Sp) : Nat := l.length + 1 + (need l + 1 + 4000)
theorem splE_ord {s : ByteArray} {l : List Sp} (h : splE s l = 0) : (chkT s).2 = 0 ∧ l.length ≤ 40 ∧ OrdS s.size l 0 ∧ tailE s.size l = 0 := by
  unfold splE at h
  by_cases c : (chkT s).2 = 0
  · rw [if_pos c] at h
    by_cases c2 : 40 < l.length
    · rw [if_pos c2] at h; exact absurd h (by decide)
    · rw [if_neg c2] at h
      by_cases c3 : rngB s.size l 0 = true
      · rw [if_pos c3] at h
        exact ⟨c, by omega, rngB_ord c3 (Int.le_refl _) (by omega), h⟩
      · rw [if_neg c3] at h; exact absurd h (by decide)
  · rw [if_neg c] at h; exact absurd h c
end Go.Proofs.YtggfcmondffodaaDoor.P
namespace Go.Proofs.YtggfcmondffodaaDoor.P
open Go.RowKit Go.Proofs.YtggfcmondffodaaDoorW.PrintWords
set_option linter.unusedVariables false
set_option linter.unusedSimpArgs false
attribute [local irreducible] gr
/-- lex.Apply. -/
def appM (s : ByteArray) (l : List Sp) : ByteArray × Int := if splE s l = 0 then (splM s l, 0) else (⟨#[]⟩, splE s l)
theorem fuS_pos (l : List Sp) : l.length + 4000 < fuS l := by unfold fuS; omega
/-! ### Where a byte goes -/
def mvd (p : Int) : List Sp → Int → Int × Int
  | [], n => (n, 0)
  | x :: r, n => if x.f1 ≤ p then mvd p r (n + gr x) else if x.f0 ≤ p then (0, 7) else mvd p r n
/-- lex.Moved. -/
def mvdM (s : ByteArray) (l : List Sp) (p : Int) : Int × Int := if splE s l = 0 then (if p < 0 ∨ p > (s.size : Int) then (0, 3) else mvd p l p) else (0, splE s l)
theorem pMvd (l : List Sp) (p : Int) (hl : l.length ≤ 1000) (hb : ∀ x ∈ l, BdS x) : ∀ (d i k : Nat) (n : Int), l.length - i = d → i ≤ l.length → d < k → -100000000 ≤ n - 3000 * d → n + 3000 * d ≤ 100000000 →
    lex_Moved.l0 k p n l (l.length : Int) (i : Int) = some (mvd p (l.drop i) n) := by
  intro d
  induction d with
  | zero =>
    intro i k n hd hi hk h1 h2
    obtain ⟨k, rfl, _⟩ := succ_of hk
    rw [List.drop_eq_nil_of_le (show l.length ≤ i by omega), lex_Moved.l0.eq_2, if_neg (by omega)]; rfl
  | succ d ih =>
    intro i k n hd hi hk h1 h2
    obtain ⟨k, rfl, hk'⟩ := succ_of hk
    have hlt : i < l.length := by omega
    have hx := hb _ (rd48_mem l i hlt)
    have hg := hx.gr
    have e2 := up1 i l.length hlt (by omega)
    rw [drop_rd l i hlt, lex_Moved.l0.eq_2, if_pos (by omega), if_pos (by omega), if_pos (by omega)]
    generalize hy : rd_T48 l (i : Int) = y at *
    unfold mvd
    by_cases c : y.f1 ≤ p
    · rw [if_pos c, if_pos c, pGrown hx]
      simp only [Option.bind_some]
      rw [e2, w64 (x := n + gr y) (by omega) (by omega)]
      exact ih (i + 1) k _ (by omega) (by omega) (by omega) (by omega) (by omega)
    · rw [if_neg c, if_neg c]
      by_cases c2 : y.f0 ≤ p
      · rw [if_pos c2, if_pos c2]
      · rw [if_neg c2, if_neg c2, e2]
        exact ih (i + 1) k _ (by omega) (by omega) (by omega) (by omega) (by omega)
theorem pMoved (s : ByteArray) (l : List Sp) (p : Int) (hs : s.size ≤ 3000) (hl : l.length ≤ 1000) (hx : ∀ x ∈ l, x.f2.size ≤ 3000) : lex_Moved.f (fuS l) s l p = some (mvdM s l p) := by
  unfold lex_Moved.f mvdM
  rw [show lex_splices.f (fuS l) s l = some (splE s l) from pSplices s l hs hl hx]
  simp only [Option.bind_some]
  have hfu := fuS_pos l
  by_cases c : splE s l = 0
  · rw [if_pos c, if_pos c]
    obtain ⟨k, hk⟩ : ∃ k, fuS l = k + 1 := ⟨fuS l - 1, by omega⟩
    rw [hk]
    by_cases c1 : p < 0
    · rw [if_pos c1, if_pos (.inl c1), lex_Moved.j0.eq_2, if_pos rfl]
    · rw [if_neg c1, lex_Moved.j0.eq_2]
      by_cases c2 : p > (s.size : Int)
      · rw [decide_eq_true c2, if_pos rfl, if_pos (.inr c2)]
      · rw [decide_eq_false c2, if_neg Bool.false_ne_true, if_neg (by omega)]
        have h := pMvd l p hl ((splE_ord c).2.2.1.bd hs hx) l.length 0 k p (by omega) (by omega) (by omega) (by omega) (by omega)
        rw [List.drop_zero] at h
        exact h
  · rw [if_neg c, if_neg c]
/-! ### What leads back -/
def unS (s : ByteArray) : List Sp → Int → List Sp
  | [], _ => []
  | x :: r, m => ⟨x.f0 + m, x.f0 + m + (x.f2.size : Int), s.extract x.f0.toNat x.f1.toNat⟩ :: unS s r (m + gr x)
/-- lex.Undo. -/
def unM (s : ByteArray) (l : List Sp) : List Sp × Int := if splE s l = 0 then (unS s l 0, 0) else ([], splE s l)
theorem unS_length (s : ByteArray) : ∀ (l : List Sp) (m : Int), (unS s l m).length = l.length
  | [], _ => rfl
  | x :: r, m => by unfold unS; rw [List.length_cons, List.length_cons, unS_length s r]
theorem pUn (s : ByteArray) (hs : s.size ≤ 3000) (l : List Sp) (hl : l.length ≤ 1000) (hb : ∀ x ∈ l, BdS x ∧ x.f1 ≤ (s.size : Int)) : ∀ (d i k : Nat) (m : Int) (out : List Sp), l.length - i = d → i ≤ l.length → d < k → out.length ≤ i → -100000000 ≤ m - 3000 * d → m + 3000 * d ≤ 100000000 →
    lex_Undo.l0 k s out m l (l.length : Int) (i : Int) = some (out ++ unS s (l.drop i) m, 0) := by
  intro d
  induction d with
  | zero =>
    intro i k m out hd hi hk ho h1 h2
    obtain ⟨k, rfl, _⟩ := succ_of hk
    rw [List.drop_eq_nil_of_le (show l.length ≤ i by omega), lex_Undo.l0.eq_2, if_neg (by omega)]
    unfold unS; rw [List.append_nil]
  | succ d ih =>
    intro i k m out hd hi hk ho h1 h2
    obtain ⟨k, rfl, hk'⟩ := succ_of hk
    have hlt : i < l.length := by omega
    obtain ⟨hx, hx1⟩ := hb _ (rd48_mem l i hlt)
    have hg := hx.gr
    have e2 := up1 i l.length hlt (Nat.le_trans hl (by decide))
    have q0 : (0 : Int) ≤ (i : Int) := Int.natCast_nonneg i
    have q1 : (i : Int) < (l.length : Int) := Int.ofNat_lt.2 hlt
    have q2 : out.length < 4398046511104 := Nat.lt_of_le_of_lt (Nat.le_trans ho (Nat.le_trans hi hl)) (by decide)
    rw [drop_rd l i hlt, lex_Undo.l0.eq_2]
    refine (if_pos q1).trans ((if_pos q0).trans ((if_pos q1).trans ?_))
    generalize hy : rd_T48 l (i : Int) = y at *
    have hx' := hx
    obtain ⟨x0, x1, x2, x3⟩ := hx'
    have em : lex_splice_moved.f y.f0 y.f1 y.f2 s m = some (wrap64 (y.f0 + m), wrap64 (wrap64 (y.f0 + m) + (y.f2.size : Int)), s.extract (y.f0 : Int).toNat (y.f1 : Int).toNat) := by
      unfold lex_splice_moved.f
      rw [if_pos x0, if_pos x1, if_pos hx1]
    rw [em, pGrown hx]
    simp only [Option.bind_some]
    refine (if_pos q2).trans ?_
    rw [e2, w64 (x := y.f0 + m) (by omega) (by omega), w64 (x := y.f0 + m + (y.f2.size : Int)) (by omega) (by omega), w64 (x := m + gr y) (by omega) (by omega)]
    refine (ih (i + 1) k _ _ (by omega) (by omega) (by omega) (by rw [List.length_append, List.length_singleton]; omega) (by omega) (by omega)).trans ?_
    rw [unS, List.append_assoc]; rfl
theorem OrdS.in {n : Nat} : ∀ {l : List Sp} {a : Int}, OrdS n l a → ∀ x ∈ l, a ≤ x.f0 ∧ x.f0 ≤ x.f1 ∧ x.f1 ≤ (n : Int)
  | [], _, _, x, hx => by cases hx
  | y :: r, a, h, x, hx => by
    obtain ⟨h0, h1, h2, h3, h4⟩ := h
    rcases List.mem_cons.1 hx with rfl | hx
    · exact ⟨h1, h2, h3⟩
    · have := h4.in x hx
      exact ⟨by omega, this.2⟩
theorem splE_bd {s : ByteArray} {l : List Sp} (h : splE s l = 0) (hx : ∀ x ∈ l, x.f2.size ≤ 3000) : ∀ x ∈ l, BdS x ∧ x.f1 ≤ (s.size : Int) := by
  obtain ⟨h1, h2, h3, h4⟩ := splE_ord h
  have hs := ((chk_iff s).1 h1).1
  exact fun x hm => ⟨h3.bd (by omega) hx x hm, (h3.in x hm).2.2⟩
theorem pUndo (s : ByteArray) (l : List Sp) (hs : s.size ≤ 3000) (hl : l.length ≤ 1000) (hx : ∀ x ∈ l, x.f2.size ≤ 3000) : lex_Undo.f (fuS l) s l = some (unM s l) := by
  unfold lex_Undo.f unM
  rw [show lex_splices.f (fuS l) s l = some (splE s l) from pSplices s l hs hl hx]
  simp only [Option.bind_some]
  have hfu := fuS_pos l
  by_cases c : splE s l = 0
  · rw [if_pos c, if_pos c]
    have h := pUn s hs l hl (splE_bd c hx) l.length 0 (fuS l) 0 [] (by omega) (by omega) (by omega) (Nat.le_refl _) (by omega) (by omega)
    rw [List.drop_zero, List.nil_append] at h
    exact h
  · rw [if_neg c, if_neg c]
/-! ### Lists of splices compared; few -/
theorem pFew0 (l : List Sp) (hl : l.length ≤ 140737488351232) (hx : ∀ x ∈ l, x.f2.size ≤ 140737488351232) : ∀ (d i k : Nat) (n : Int), l.length - i = d → i ≤ l.length → d < k → 0 ≤ n → n ≤ 3000 →
    ∃ b, ripostelaw01_few.l0 k l n (i : Int) = some b ∧ (b = true → l.length ≤ 1000 ∧ ∀ x ∈ l.drop i, x.f2.size ≤ 3000) := by
  intro d
  induction d with
  | zero =>
    intro i k n hd hi hk h0 h1
    obtain ⟨k, rfl, _⟩ := succ_of hk
    rw [ripostelaw01_few.l0.eq_2, if_neg (by omega), List.drop_eq_nil_of_le (show l.length ≤ i by omega)]
    exact ⟨_, rfl, fun h => ⟨by have := of_decide_eq_true h; omega, fun x hx => by cases hx⟩⟩
  | succ d ih =>
    intro i k n hd hi hk h0 h1
    obtain ⟨k, rfl, hk'⟩ := succ_of hk
    have hlt : i < l.length := by omega
    have hxi := hx _ (rd48_mem l i hlt)
    rw [drop_rd l i hlt, ripostelaw01_few.l0.eq_2, if_pos (by omega), if_pos (by omega)]
    generalize hy : rd_T48 l (i : Int) = y at *
    rw [w64 (x := n + (y.f2.size : Int)) (by omega) (by omega), up1 i l.length hlt hl]
    by_cases c : n + (y.f2.size : Int) > 3000
    · rw [if_pos c]; exact ⟨false, rfl, fun h => by cases h⟩
    · rw [if_neg c]
      obtain ⟨b, hb1, hb2⟩ := ih (i + 1) k (n + (y.f2.size : Int)) (by omega) (by omega) (by omega) (by omega) (by omega)
      refine ⟨b, hb1, fun h => ⟨(hb2 h).1, fun x hx => ?_⟩⟩
      rcases List.mem_cons.1 hx with rfl | hx
      · omega
      · exact (hb2 h).2 x hx
theorem pFew (l : List Sp) (hl : l.length ≤ 140737488351232) (hx : ∀ x ∈ l, x.f2.size ≤ 140737488351232) : ∃ b, ripostelaw01_few.f (l.length + 1) l = some b ∧ (b = true → l.length ≤ 1000 ∧ ∀ x ∈ l, x.f2.size ≤ 3000) := by
  unfold ripostelaw01_few.f
  obtain ⟨b, h1, h2⟩ := pFew0 l hl hx l.length 0 (l.length + 1) 0 (by omega) (by omega) (by omega) (by omega) (by omega)
  rw [List.drop_zero] at h2
  exact ⟨b, h1, h2⟩
end Go.Proofs.YtggfcmondffodaaDoor.P
