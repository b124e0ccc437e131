/- What the claim's law needs, many texts in one (Xn Xo P2 P10 P11 P12 P13 Ya Yb P9 Xu Xw Xx Ye Yg Yh Yi Yn). No conditions of its own. -/
import Derived.Test.YtggfcmondffodaaDoorZh9
import Derived.Deep.RegionWith
import Derived.BigCall
import Derived.Test.YtggfcmondffodaaDoorZh2
import Derived.Test.YtggfcmondffodaaDoorZh4
import Derived.Test.YtggfcmondffodaaDoorZh3
import Derived.Deep.QuietTactic
import Derived.BigQuiet
import Derived.BigGuard
import Derived.Laws.IdiomStrings
import Derived.StillTailTactics
set_option linter.unusedVariables false
set_option linter.unusedSimpArgs false
namespace Go.Proofs.YtggfcmondffodaaDoor.P
open Go.RowKit Go.Shelf Go.Maps Go.Proofs.YtggfcmondffodaaDoorW.PrintWords Go.Proofs.YtggfcmondffodaaDoorW.PrintLast Go.Proofs.YtggfcmondffodaaDoorW.PrintMore
set_option linter.unusedVariables false
set_option linter.unusedSimpArgs false
abbrev Sp := S48
/-- Splices that stand in order, from a place on, within so many bytes. -/
def OrdS (n : Nat) : List Sp → Int → Prop
  | [], a => 0 ≤ a ∧ a ≤ n
  | x :: r, a => 0 ≤ a ∧ a ≤ x.f0 ∧ x.f0 ≤ x.f1 ∧ x.f1 ≤ n ∧ OrdS n r x.f1
/-- The bytes behind a place, after splices. -/
def splB (s : ByteArray) : List Sp → Int → List UInt8
  | [], a => (s.extract a.toNat s.size).data.toList
  | x :: r, a => (s.extract a.toNat x.f0.toNat).data.toList ++ (x.f2.data.toList ++ splB s r x.f1)
def splM (s : ByteArray) (l : List Sp) : ByteArray := ba (splB s l 0)
theorem OrdS.range {n : Nat} : ∀ {l : List Sp} {a : Int}, OrdS n l a → 0 ≤ a ∧ a ≤ n
  | [], _, h => h
  | x :: r, _, h => ⟨h.1, by have := h.2; omega⟩
theorem drop_rd (l : List Sp) (i : Nat) (h : i < l.length) : l.drop i = rd_T48 l (i : Int) :: l.drop (i + 1) := by
  rw [List.drop_eq_getElem_cons h]
  congr 1
  unfold rd_T48
  simp [List.getD, List.getElem?_eq_getElem h]
theorem ba_data (l : List UInt8) : (ba l).data.toList = l := rfl
theorem app_ba (s t : ByteArray) : s ++ t = ba (s.data.toList ++ t.data.toList) := by
  apply ba_ext
  rw [ba_data]
  simp
theorem size_len (s : ByteArray) : s.size = s.data.toList.length := by rw [data_length]
set_option maxRecDepth 8000 in
set_option maxHeartbeats 4000000 in
theorem spliced_any (s : ByteArray) (A : Option Addr) (c : Nat) (l : List Sp) (w : World) (hr : Kd.C k48 w A l.length l) (hs : s.size ≤ 1000000000) (hll : l.length ≤ 1000000000) (ho : OrdS s.size l 0) (hb : (splB s l 0).length ≤ 1000000000) :
    Calls Tryd.prog 51 #[.string s, .slice A l.length c] w fun e w' => e = .returned (.string (splM s l)) ∧ Below w.heap.size w w' := by
  have HR := Aside0.mk hr
  have HO := Aside0.mk ho
  obtain ⟨RES, hRES⟩ : ∃ R, splB s l 0 = R := ⟨_, rfl⟩
  rw [hRES] at hb
  unfold splM
  rw [hRES]
  have HS := Aside0.mk hRES
  clear hr ho hRES
  have h0 := Aside0.mk (show Lib.IsBuilderF 85 5 w.heap.size w.heap.size (Lib.byteCells []) (w.alloc (.cells #[.pointer none, .slice none 0 0] 85)) from Lib.IsBuilderF.of (Lib.fresh_isBuilder 85 5 w))
  have b0 := Aside0.mk ((Below.refl _ w).alloc (Nat.le_refl _) (.cells #[.pointer none, .slice none 0 0] 85))
  go_enter Tryd.func51, Tryd.ntmps51
  go_wp2
  go_loopg [6, 11] l.length (fun gg s6 s11 wr => ∃ (i : Nat) (a : Int) (acc : List UInt8), s6 = .int .i64 a ∧ s11 = .int .i64 i ∧ i ≤ l.length ∧ l.length - i ≤ gg ∧ Aside0 (OrdS s.size (l.drop i) a) ∧ Aside0 (acc ++ splB s (l.drop i) a = RES) ∧ Aside0 (Lib.IsBuilderF 85 5 w.heap.size w.heap.size (Lib.byteCells acc) wr) ∧ Aside0 (Below w.heap.size w wr) ∧ w.heap.size + 1 ≤ wr.heap.size)
  case atStart => exact ⟨0, 0, [], rfl, rfl, Nat.zero_le _, by omega, HO, ⟨HS.out⟩, h0, b0, by simp⟩
  case round =>
    obtain ⟨i, a, acc, rfl, rfl, hi, hg, HOi, HA, HBu, HB, hsz⟩ := hrel
    obtain ⟨ha0, ha1⟩ := HOi.out.range
    by_cases hlt : i < l.length
    · have hltz : (i : Int) < (l.length : Int) := by omega
      obtain ⟨ad, e0, x0, x1, x2⟩ := at_T48 HR.out (i : Int) (by omega) hltz
      have hO2 := HOi.out
      have hA2 := HA.out
      rw [drop_rd l i hlt] at hO2 hA2
      obtain ⟨o1, o2, o3, o4, o5⟩ := hO2
      rw [Int.toNat_natCast] at x0 x1 x2
      generalize rd_T48 l (i : Int) = y at *
      obtain ⟨yf, yt, yx⟩ := y
      simp only at o2 o3 o4
      replace x0 := (HB.out.cell (World.block_lt_of_cell? w _ x0)).trans x0
      replace x1 := (HB.out.cell (World.block_lt_of_cell? w _ x1)).trans x1
      replace x2 := (HB.out.cell (World.block_lt_of_cell? w _ x2)).trans x2
      have hA3 := Aside0.mk (show (acc ++ (s.extract a.toNat yf.toNat ++ yx).data.toList) ++ splB s (l.drop (i + 1)) yt = RES by
        rw [app_ba, ba_data, ← hA2, splB, List.append_assoc, List.append_assoc])
      have hal : (acc ++ (s.extract a.toNat yf.toNat ++ yx).data.toList).length ≤ 1000000000 := by
        have := congrArg List.length hA3.out
        rw [List.length_append] at this
        omega
      have O5 := Aside0.mk o5
      have hf1 : yf ≤ (s.size : Int) := by omega
      have hwl : (acc ++ (s.extract a.toNat yf.toNat ++ yx).data.toList).length = acc.length + (s.extract a.toNat yf.toNat ++ yx).size := by rw [List.length_append, ← size_len]
      have hcat : (s.extract a.toNat yf.toNat).size + yx.size ≤ 9223372036854775807 := by
        rw [app_ba] at hal
        rw [ba_data, List.length_append, List.length_append, ← size_len, ← size_len] at hal
        omega
      have hcatr : ∀ W : World, (Op.stringOp .add (s.extract a.toNat yf.toNat) yx).run Tryd.prog W = .ok (.string (s.extract a.toNat yf.toNat ++ yx)) W := fun W => run_string_add_sum W _ _ hcat
      subst e0
      clear hA2 o5
      go_wp2
      obtain ⟨W2, hW2⟩ : ∃ W2, W2 = wr.alloc (.cells #[.int .i64 yf, .int .i64 yt, .string yx] 48) := ⟨_, rfl⟩
      rw [← hW2]
      have HB2 := Aside0.mk (show Below w.heap.size w W2 by rw [hW2]; exact HB.out.alloc (by omega) _)
      have hBA := Aside0.mk (show Lib.IsBuilderF 85 5 w.heap.size w.heap.size (Lib.byteCells acc) W2.drew by
        rw [hW2]
        rcases HBu.out with h | h
        · exact .inl ((h.alloc _).drew)
        · exact .inr ((h.alloc _).drew))
      have HK := Aside0.mk (show W2.heap[wr.heap.size]? = some (.cells #[.int .i64 yf, .int .i64 yt, .string yx] 48 (0, 0)) by rw [hW2]; exact heap_alloc_new wr _)
      have hsz2 : W2.heap.size = wr.heap.size + 1 := by rw [hW2]; simp
      have k0 : W2.cell? ⟨wr.heap.size, 0, none⟩ = some (.int .i64 yf) := (blk_cell HK.out 0).trans rfl
      have k1 : W2.cell? ⟨wr.heap.size, 1, none⟩ = some (.int .i64 yt) := (blk_cell HK.out 1).trans rfl
      have k2 : W2.cell? ⟨wr.heap.size, 2, none⟩ = some (.string yx) := (blk_cell HK.out 2).trans rfl
      clear hW2
      go_still_tail 8, (by kernel_rfl)
      change wpList _ _ _ _ _ W2.drew
      go_wp2_with (go_at_call 67; refine (Tryd.Builder_WriteString_k w.heap.size w.heap.size _ (s.extract a.toNat yf.toNat ++ yx) _ hBA.out (by rw [Lib.byteCells_length]; omega) (show w.heap.size ≤ W2.heap.size by omega)).mono ?_; rintro e w3 ⟨rfl, hb3, bb3, ok3⟩; have HB3 := Aside0.mk hb3; have HBB3 := Aside0.mk bb3; have HOK := Aside0.mk ok3; have HK3 := Aside0.mk (ok3 _ _ (blk_drew HK.out) (by simp; omega) (by intro c' fz e; cases e)); have k30 : w3.cell? ⟨wr.heap.size, 1, none⟩ = some (.int .i64 yt) := (blk_cell HK3.out 1).trans rfl; clear hb3 bb3 ok3)
      have hs3 := HBB3.out.size
      go_roundg (l.length - (i + 1))
      case measure => omega
      case rel => exact ⟨i + 1, yt, acc ++ (s.extract a.toNat yf.toNat ++ yx).data.toList, rfl, by go_num, by omega, by omega, O5, hA3, ⟨by rw [Lib.byteCells_append]; exact .inr HB3.out⟩, ⟨HB2.out.drew.trans HBB3.out⟩, by have : W2.drew.heap.size = W2.heap.size := rfl; omega⟩
    · have hlt2 : decide ((i : Int) < (l.length : Int)) = false := decide_eq_false (by omega)
      have hlt3 : decide (i < l.length) = false := decide_eq_false hlt
      have hA2 := HA.out
      rw [List.drop_eq_nil_of_le (by omega), splB] at hA2
      have HA2 := Aside0.mk hA2
      have hf1 : a ≤ (s.size : Int) := by omega
      have hBD := Aside0.mk (show Lib.IsBuilderF 85 5 w.heap.size w.heap.size (Lib.byteCells acc) wr.drew by
        rcases HBu.out with h | h
        · exact .inl h.drew
        · exact .inr h.drew)
      have hcat : (⟨acc.toArray⟩ : ByteArray).size + (s.extract a.toNat s.size).size ≤ 9223372036854775807 := by
        have h1 := congrArg List.length hA2
        rw [List.length_append, ← size_len] at h1
        have h2 : (⟨acc.toArray⟩ : ByteArray).size = acc.length := by rw [size_len]
        omega
      have hcatr : ∀ W : World, (Op.stringOp .add ⟨acc.toArray⟩ (s.extract a.toNat s.size)).run Tryd.prog W = .ok (.string (⟨acc.toArray⟩ ++ (s.extract a.toNat s.size))) W := fun W => run_string_add_sum W _ _ hcat
      have HFIN := Aside0.mk (show (⟨acc.toArray⟩ : ByteArray) ++ s.extract a.toNat s.size = ba RES by rw [app_ba]; exact congrArg ba hA2)
      clear hA2
      go_wp2
      go_region_with (go_at_call 69; refine (Tryd.Builder_String_any_k w.heap.size w.heap.size acc _ hBD.out (show w.heap.size ≤ wr.drew.heap.size from (by have : wr.drew.heap.size = wr.heap.size := rfl; omega))).mono ?_; rintro e w3 ⟨rfl, hb3, bb3, ok3⟩; have HBB3 := Aside0.mk bb3; clear hb3 bb3 ok3)
      all_goals (go_wp2; go_ret; exact ⟨by rw [HFIN.out]; rfl, HB.out.drew.trans HBB3.out⟩)
theorem runRight_aux (a b : ByteArray) : (a.toList == b.toList) = decide (a = b) := Bl a b
/-- Is a token right as it stands alone? -/
def rightB (k : Int) (t : ByteArray) : Bool := decide ((firstM kwM t).2 = 0) && (decide ((firstM kwM t).1.1 = k) && decide ((firstM kwM t).1.2 = t))
set_option maxRecDepth 8000 in
set_option maxHeartbeats 4000000 in
theorem isRight_any (k : Int) (t : ByteArray) (a : Int) (w : World) (hg : Gl w) (hs : t.size ≤ 140737488351232) :
    Calls Tryd.prog 83 #[.agg #[.int .u8 k, .string t, .int .i64 a]] w fun e w' => e = .returned (.bool (rightB k t)) ∧ Below w.heap.size w w' := by
  have b0 := Aside0.mk ((Below.refl _ w).alloc (Nat.le_refl _) (.cells #[.int .u8 k, .string t, .int .i64 a] 35))
  have hF := first_any t (w.alloc (.cells #[.int .u8 k, .string t, .int .i64 a] 35)) (hg.mono b0.out) hs
  unfold rightB
  generalize firstM kwM t = F at *
  obtain ⟨⟨fk, ft⟩, fe⟩ := F
  simp only at hF ⊢
  have hbl := runRight_aux ft t
  generalize hq : decide (ft = t) = qb at *
  clear hg
  go_enter Tryd.func83, Tryd.ntmps83
  go_wp2_with (go_at_call 45; refine hF.mono ?_; rintro e w3 ⟨rfl, hb3⟩; have HB3 := Aside0.mk hb3; have HK3 := Aside0.mk ((hb3.block w.heap.size (by simp)).trans (heap_alloc_new w _)); have hn3 : w.heap.size ≠ w3.heap.size := (by have := hb3.size; simp at this; omega); have k0 : w3.cell? ⟨w.heap.size, 0, none⟩ = some (.int .u8 k) := (blk_cell HK3.out 0).trans rfl; have k1 : w3.cell? ⟨w.heap.size, 1, none⟩ = some (.string t) := (blk_cell HK3.out 1).trans rfl; have ka0 : ∀ o, (w3.alloc o).cell? ⟨w.heap.size, 0, none⟩ = some (.int .u8 k) := (fun o => (blk_cell (blk_alloc HK3.out o) 0).trans rfl); have ka1 : ∀ o, (w3.alloc o).cell? ⟨w.heap.size, 1, none⟩ = some (.string t) := (fun o => (blk_cell (blk_alloc HK3.out o) 1).trans rfl); clear hb3)
  all_goals (go_ret; refine ⟨by simp_all, ?_⟩; exact b0.out.trans ((HB3.out.mono (by simp)).alloc (by have := HB3.out.size; simp at this; omega) _))
def nameB (t : ByteArray) : Bool := rightB 1 t
theorem isName_any (t : ByteArray) (w : World) (hg : Gl w) (hs : t.size ≤ 140737488351232) :
    Calls Tryd.prog 50 #[.string t] w fun e w' => e = .returned (.bool (nameB t)) ∧ Below w.heap.size w w' := by
  have hR := isRight_any 1 t 0 w hg hs
  unfold nameB
  generalize rightB 1 t = b at *
  go_enter Tryd.func50, Tryd.ntmps50
  go_wp2_with (go_at_call 83; refine hR.mono ?_; rintro e w3 ⟨rfl, hb3⟩)
  go_ret
  exact ⟨rfl, hb3⟩
end Go.Proofs.YtggfcmondffodaaDoor.P
namespace Go.Proofs.YtggfcmondffodaaDoor.P
open Go.RowKit Go.Proofs.YtggfcmondffodaaDoorW.PrintWords
set_option linter.unusedVariables false
set_option linter.unusedSimpArgs false
/-- Tokens that stand in order, from a place on, within so many bytes. -/
def TOrd (n : Nat) : List Tk → Int → Prop
  | [], a => a ≤ n
  | x :: r, a => a ≤ x.f2 ∧ x.f2 + (x.f1.size : Int) ≤ n ∧ TOrd n r (x.f2 + (x.f1.size : Int))
theorem TOrd.le {n : Nat} : ∀ {l : List Tk} {a b : Int}, TOrd n l a → b ≤ a → TOrd n l b
  | [], a, b, h, hb => Int.le_trans hb h
  | x :: r, a, b, h, hb => ⟨Int.le_trans hb h.1, h.2⟩
theorem goT_ord (kw : ByteArray → Bool) (s : ByteArray) : ∀ (d i : Nat) (l l' : List Tk), s.size - i ≤ d → i ≤ s.size → goT kw s (pcsA s (lenT kw s) i) l = (l', 0, 0) → ∃ r, l' = l ++ r ∧ TOrd s.size r (i : Int) := by
  intro d
  induction d with
  | zero =>
    intro i l l' hd hi h
    rw [pcsA_end s _ (lenT_pos kw s) i (by omega)] at h
    exact ⟨[], by rw [List.append_nil]; exact (congrArg Prod.fst h).symm, by show (i : Int) ≤ s.size; omega⟩
  | succ d ih =>
    intro i l l' hd hi h
    by_cases hlt : i < s.size
    · rw [pcsA_step s _ (lenT_pos kw s) i hlt] at h
      by_cases c1 : spB (bt s (i : Int)) = true
      · rw [if_pos c1] at h
        obtain ⟨r, h1, h2⟩ := ih (i + 1) l l' (by omega) (by omega) h
        exact ⟨r, h1, h2.le (by omega)⟩
      · rw [if_neg c1] at h
        by_cases c2 : bt s (i : Int) = 126
        · have hp := noteL_pos s i hlt c2
          have hle : i + noteL s i ≤ s.size := ll_le s s.size i hi
          have hz := noteT_size s i hi
          rw [if_pos c2, goT_cons] at h
          have e : stepT kw s l (i, noteT s i) = (l, 0, 0) := by unfold stepT; rw [if_pos (show (noteT s i).size ≠ 0 by omega)]
          rw [e, if_pos rfl] at h
          obtain ⟨r, h1, h2⟩ := ih (i + noteL s i) l l' (by omega) (by omega) h
          exact ⟨r, h1, h2.le (by omega)⟩
        · rw [if_neg c2, goT_cons] at h
          have hst : stepT kw s l (i, ByteArray.empty) = if (firstM kw (s.extract i s.size)).2 ≠ 0 then ([], (i : Int), (firstM kw (s.extract i s.size)).2) else if l.length = 900 then ([], (i : Int), 5) else (l ++ [⟨(firstM kw (s.extract i s.size)).1.1, (firstM kw (s.extract i s.size)).1.2, (i : Int)⟩], 0, 0) := by
            unfold stepT
            rw [if_neg (show ¬ (ByteArray.empty.size ≠ 0) by decide)]
          rw [hst] at h
          by_cases c3 : (firstM kw (s.extract i s.size)).2 ≠ 0
          · rw [if_pos c3, if_neg c3] at h
            exact absurd (congrArg (fun y => y.2.2) h) c3
          · rw [if_neg c3] at h
            by_cases c4 : l.length = 900
            · rw [if_pos c4, if_neg (show ¬ (5 : Int) = 0 by decide)] at h
              exact absurd (show (5 : Int) = 0 from congrArg (fun y => y.2.2) h) (by decide)
            · rw [if_neg c4, if_pos rfl] at h
              have hz : (firstM kw (s.extract i s.size)).2 = 0 := by simpa using c3
              have hsz := firstM_size kw _ hz
              rw [size_ex, Nat.min_self] at hsz
              have hlen : lenT kw s i = (firstM kw (s.extract i s.size)).1.2.size := by unfold lenT; rw [if_pos hz]
              rw [hlen] at h
              obtain ⟨r, h1, h2⟩ := ih _ _ l' (by omega) (by omega) h
              refine ⟨_ :: r, by rw [h1, List.append_assoc]; rfl, ?_⟩
              exact ⟨Int.le_refl _, by simp only; omega, by
                have : ((i + (firstM kw (s.extract i s.size)).1.2.size : Nat) : Int) = (i : Int) + ((firstM kw (s.extract i s.size)).1.2.size : Int) := by omega
                rw [this] at h2; exact h2⟩
    · rw [pcsA_end s _ (lenT_pos kw s) i (by omega)] at h
      exact ⟨[], by rw [List.append_nil]; exact (congrArg Prod.fst h).symm, by show (i : Int) ≤ s.size; omega⟩
theorem toks_ord (s : ByteArray) (h : (toksM kwM s).2.2 = 0) : TOrd s.size (toksM kwM s).1 0 ∧ (toksM kwM s).1.length ≤ 900 ∧ s.size ≤ 2500 := by
  unfold toksM at h ⊢
  by_cases c : (chkT s).2 = 0
  · rw [if_neg (by simpa using c)] at h ⊢
    have hl := goT_len kwM s (pcsA s (lenT kwM s) 0) [] (by decide)
    have hs : s.size ≤ 2500 := by
      rw [chkT_eq] at c
      by_cases c2 : 2500 < s.size
      · rw [if_pos c2] at c; exact absurd (show (5 : Int) = 0 from c) (by decide)
      · omega
    refine ⟨?_, hl, hs⟩
    generalize hg : goT kwM s (pcsA s (lenT kwM s) 0) [] = G at *
    obtain ⟨g1, g2, g3⟩ := G
    have h3 : g3 = 0 := h
    subst h3
    have hp : g2 = 0 := by
      have : ∀ (L : List (Nat × ByteArray)) (l l' : List Tk) (p : Int), goT kwM s L l = (l', p, 0) → p = 0 := by
        intro L
        induction L with
        | nil => intro l l' p h; exact (congrArg (fun y => y.2.1) h).symm
        | cons x L ih =>
          intro l l' p h
          rw [goT_cons] at h
          by_cases c : (stepT kwM s l x).2.2 = 0
          · rw [if_pos c] at h; exact ih _ _ _ h
          · rw [if_neg c] at h; exact absurd (congrArg (fun y => y.2.2) h) c
      exact this _ _ _ _ hg
    subst hp
    obtain ⟨r, h1, h2⟩ := goT_ord kwM s s.size 0 [] g1 (by omega) (by omega) hg
    rw [List.nil_append] at h1
    subst h1
    exact h2
  · rw [if_pos c] at h; exact absurd h c
/-- The splices of a renaming. -/
def renS (old name : ByteArray) (l : List Tk) : List Sp := (l.filter fun t => decide (t.f1 = old)).map fun t => ⟨t.f2, t.f2 + (old.size : Int), name⟩
theorem renS_ord (n : Nat) (old name : ByteArray) : ∀ (l : List Tk) (a b : Int), TOrd n l a → 0 ≤ b → b ≤ a → OrdS n (renS old name l) b
  | [], a, b, h, h0, hb => ⟨h0, Int.le_trans hb h⟩
  | x :: r, a, b, h, h0, hb => by
    obtain ⟨h1, h2, h3⟩ := h
    unfold renS
    by_cases c : x.f1 = old
    · rw [List.filter_cons_of_pos (by exact decide_eq_true c), List.map_cons]
      have := renS_ord n old name r _ (x.f2 + (old.size : Int)) h3 (by omega) (by rw [← c]; exact Int.le_refl _)
      exact ⟨h0, by show b ≤ x.f2; omega, by show x.f2 ≤ x.f2 + (old.size : Int); omega, by show x.f2 + (old.size : Int) ≤ n; rw [← c]; exact h2, this⟩
    · rw [List.filter_cons_of_neg (by simpa using c)]
      exact renS_ord n old name r _ b h3 h0 (by omega)
theorem renS_len (old name : ByteArray) (l : List Tk) : (renS old name l).length ≤ l.length := by
  unfold renS
  rw [List.length_map]
  exact List.length_filter_le _ _
theorem splB_len (s : ByteArray) (m : Nat) : ∀ (l : List Sp) (a : Int), (∀ x ∈ l, x.f2.size ≤ m) → OrdS s.size l a → (splB s l a).length + a.toNat ≤ s.size + l.length * m
  | [], a, _, h => by
    unfold splB
    rw [← size_len, size_ex]
    have := h.1; have := h.2
    simp only [List.length_nil]
    omega
  | x :: r, a, hm, h => by
    obtain ⟨h1, h2, h3, h4, h5⟩ := h
    have ih := splB_len s m r x.f1 (fun y hy => hm y (List.mem_cons_of_mem _ hy)) h5
    have hx := hm x List.mem_cons_self
    unfold splB
    rw [List.length_append, List.length_append, ← size_len, ← size_len, size_ex, List.length_cons, Nat.succ_mul]
    omega
theorem nameB_size (t : ByteArray) (h : nameB t = true) : t.size ≤ 12 := by
  unfold nameB rightB at h
  simp only [Bool.and_eq_true, decide_eq_true_eq] at h
  obtain ⟨h0, h1, h2⟩ := h
  unfold firstM at h0 h1 h2
  by_cases c : wlen t = 0
  · rw [if_pos c] at h1
    cases hs : signM t with
    | none => rw [hs] at h1; exact absurd (show (0 : Int) = 1 from h1) (by decide)
    | some z => rw [hs] at h1; exact absurd (show (4 : Int) = 1 from h1) (by decide)
  · rw [if_neg c] at h0 h1 h2
    by_cases c2 : dgB (bt t 0) = true
    · rw [if_pos c2] at h1; exact absurd (show (2 : Int) = 1 from h1) (by decide)
    · rw [if_neg c2] at h0 h1 h2
      by_cases c3 : smB (bt t 0) = false
      · rw [if_pos c3] at h1; exact absurd (show (0 : Int) = 1 from h1) (by decide)
      · rw [if_neg c3] at h0 h1 h2
        by_cases c4 : kwM (t.extract 0 (wlen t)) = true
        · rw [if_pos c4] at h1; exact absurd (show (3 : Int) = 1 from h1) (by decide)
        · rw [if_neg c4] at h0 h1 h2
          by_cases c5 : 12 < (t.extract 0 (wlen t)).size
          · rw [if_pos c5] at h1; exact absurd (show (0 : Int) = 1 from h1) (by decide)
          · rw [if_neg c5] at h2
            have h3 : t.extract 0 (wlen t) = t := h2
            rw [h3] at c5; omega
/-- lex.Rename. -/
def renM (s old name : ByteArray) : ByteArray × Int :=
  if (toksM kwM s).2.2 ≠ 0 then (ByteArray.empty, (toksM kwM s).2.2)
  else if nameB old = false ∨ nameB name = false then (ByteArray.empty, 2)
  else if renS old name (toksM kwM s).1 = [] then (ByteArray.empty, 7)
  else if ((toksM kwM s).1.any fun t => decide (t.f1 = name)) = true then (ByteArray.empty, 6)
  else if 2500 < (splM s (renS old name (toksM kwM s).1)).size then (ByteArray.empty, 5)
  else (splM s (renS old name (toksM kwM s).1), 0)
end Go.Proofs.YtggfcmondffodaaDoor.P
namespace Go.Proofs.YtggfcmondffodaaDoor.P
open Go.RowKit Go.Proofs.YtggfcmondffodaaDoorW.PrintWords Go.Proofs.YtggfcmondffodaaDoorW.PrintLast Go.Proofs.YtggfcmondffodaaDoorW.PrintMore
attribute [local go_sem] min2_int min_two -- for this text's walks alone
set_option linter.unusedVariables false
set_option linter.unusedSimpArgs false



/-! ### riposteref01_Diff: function 24 -/

/-! ### riposteref01_SameSplices: function 25 -/

-- NOT PRINTED: function 6 (ripostelaw01_LexDiffs)

/-! ### ripostelaw01_few: function 26 -/


/-! ### riposteref01_SplicesError: function 85 -/
mutual
def riposteref01_SplicesError.l0 : Nat → ByteArray → List (S48) → Int → Int → Option (Int)
  | 0, _, _, _, _ => none
  | k + 1, x0, x1, x5, x6 => if x6 < (x1.length : Int) then (if 0 ≤ x6 then (if ((rd_T48 x1 x6).f0) < x5 then (some 3) else (if ((rd_T48 x1 x6).f1) < ((rd_T48 x1 x6).f0) then (some 3) else (if ((rd_T48 x1 x6).f1) > (x0.size : Int) then (some 3) else (riposteref01_SplicesError.l0 k x0 x1 ((rd_T48 x1 x6).f1) (wrap64 (x6 + 1)))))) else (none)) else (riposteref01_SplicesError.l1 k x0 x1 0 0)
def riposteref01_SplicesError.l1 : Nat → ByteArray → List (S48) → Int → Int → Option (Int)
  | 0, _, _, _, _ => none
  | k + 1, x0, x1, x7, x8 => if x8 < (x1.length : Int) then (riposteref01_SplicesError.l2 k x0 x1 x7 x8 0) else (if (wrap64 ((x0.size : Int) + x7)) > 2500 then (some 5) else (some 0))
def riposteref01_SplicesError.l2 : Nat → ByteArray → List (S48) → Int → Int → Int → Option (Int)
  | 0, _, _, _, _, _ => none
  | k + 1, x0, x1, x7, x8, x9 => if 0 ≤ x8 then (if x8 < (x1.length : Int) then (if x9 < (((rd_T48 x1 x8).f2).size : Int) then (if 0 ≤ x9 then ((riposteref01_IsByte.f (bt ((rd_T48 x1 x8).f2) x9)).bind fun t240 => (if t240 = true then (riposteref01_SplicesError.l2 k x0 x1 x7 x8 (wrap64 (x9 + 1))) else (some 2))) else (none)) else (riposteref01_SplicesError.l1 k x0 x1 (wrap64 (x7 + (wrap64 ((((rd_T48 x1 x8).f2).size : Int) - (wrap64 (((rd_T48 x1 x8).f1) - ((rd_T48 x1 x8).f0))))))) (wrap64 (x8 + 1)))) else (none)) else (none)
end
def riposteref01_SplicesError.f (k : Nat) (a0 : ByteArray) (l1 : List (S48)) : Option (Int) := if (l1.length : Int) > 40 then (some 5) else (riposteref01_SplicesError.l0 k a0 l1 0 0)
set_option maxHeartbeats 8000000 in
set_option maxRecDepth 100000 in
theorem riposteref01_SplicesError.calls (k : Nat) (a0 : ByteArray) (A1 : Option Addr) (c1 : Nat) (l1 : List (S48)) (r : Int) (w : World) (hr1 : Kd.C k48 w A1 l1.length l1) (hc1 : l1.length ≤ c1) (h : riposteref01_SplicesError.f k a0 l1 = some r) :
    Calls Tryd.prog 85 #[.string a0, .slice A1 l1.length c1] w fun e w' => e = .returned (.int .i64 r) ∧ Drawn0 w w' := by
  have HR1 := Aside0.mk hr1
  have HC1 := Aside0.mk hc1
  clear hr1 hc1
  have H : (if (l1.length : Int) > 40 then (some 5) else (riposteref01_SplicesError.l0 k a0 l1 0 0)) = some r := h
  clear h
  by_cases c3 : (l1.length : Int) > 40
  · rw [if_pos c3] at H
    have c3b0 : decide (40 < (l1.length : Int)) = true := decide_eq_true c3
    have c3b1 : decide (40 < l1.length) = true := decide_eq_true (by omega)
    clear c3
    obtain rfl := Option.some.inj H
    go_enter Tryd.func85, Tryd.ntmps85
    go_wp2
    repeat (go_quiet (fail); try go_wp2)
    go_ret
    exact ⟨by first | rfl | (simp; done) | (simp [*]; done), by repeat (first | exact Drawn0.refl _ | apply Drawn0.step)⟩
  · rw [if_neg c3] at H
    have c3b0 : decide (40 < (l1.length : Int)) = false := decide_eq_false c3
    have c3b1 : decide (40 < l1.length) = false := decide_eq_false (by omega)
    clear c3
    have H' := Aside0.mk H
    clear H
    go_enter Tryd.func85, Tryd.ntmps85
    go_wp2
    repeat (go_quiet (fail); try go_wp2)
    go_loopg [5, 6] k (fun kq v5 v6 w' => ∃ (x5_1 : Int) (x6_1 : Int), v5 = .int .i64 x5_1 ∧ v6 = .int .i64 x6_1 ∧ Aside0 (riposteref01_SplicesError.l0 kq a0 l1 x5_1 x6_1 = some r) ∧ Aside0 (kq ≤ k) ∧ Drawn0 w w')
    case atStart => exact ⟨(0), (0), (by first | rfl | (simp; done) | (simp [*]; done)), (by first | rfl | (simp; done) | (simp [*]; done)), H', ⟨Nat.le_refl _⟩, by repeat (first | exact Drawn0.refl _ | apply Drawn0.step)⟩
    case round =>
      clear H'
      try clear c1
      try clear p2
      try clear c3
      try clear c3b0
      try clear c3b1
      obtain ⟨x5_1, x6_1, rfl, rfl, HA, HK1, ⟨m1, rfl⟩⟩ := hrel
      cases gk with
      | zero => exact absurd HA.out (by simp [riposteref01_SplicesError.l0])
      | succ k1 =>
        have H := HA.out
        clear HA
        simp only [riposteref01_SplicesError.l0] at H
        by_cases c4 : x6_1 < (l1.length : Int)
        · rw [if_pos c4] at H
          have c4b0 : decide (x6_1 < (l1.length : Int)) = true := decide_eq_true c4
          clear c4
          by_cases c5 : 0 ≤ x6_1
          · rw [if_pos c5] at H
            have c5b0 : decide (0 ≤ x6_1) = true := decide_eq_true c5
            clear c5
            by_cases c6 : ((rd_T48 l1 x6_1).f0) < x5_1
            · rw [if_pos c6] at H
              have c6b0 : decide (((rd_T48 l1 x6_1).f0) < x5_1) = true := decide_eq_true c6
              clear c6
              obtain rfl := Option.some.inj H
              have p233 : 0 ≤ (x6_1 : Int) := of_decide_eq_true (by first | (with_reducible assumption) | assumption)
              have q233 : x6_1 < (l1.length : Int) := of_decide_eq_true (by first | (with_reducible assumption) | assumption)
              obtain ⟨ad233, e233, hx233_0, hx233_1, hx233_2⟩ := at_T48 HR1.out x6_1 p233 q233
              cases e233
              replace p233 := eq_true p233
              replace q233 := eq_true q233
              go_wp2
              repeat (go_quiet (fail); try go_wp2)
              go_ret
              exact ⟨by first | rfl | (simp; done) | (simp [*]; done), by repeat (first | exact Drawn0.refl _ | apply Drawn0.step)⟩
            · rw [if_neg c6] at H
              have c6b0 : decide (((rd_T48 l1 x6_1).f0) < x5_1) = false := decide_eq_false c6
              clear c6
              by_cases c7 : ((rd_T48 l1 x6_1).f1) < ((rd_T48 l1 x6_1).f0)
              · rw [if_pos c7] at H
                have c7b0 : decide (((rd_T48 l1 x6_1).f1) < ((rd_T48 l1 x6_1).f0)) = true := decide_eq_true c7
                clear c7
                obtain rfl := Option.some.inj H
                have p233 : 0 ≤ (x6_1 : Int) := of_decide_eq_true (by first | (with_reducible assumption) | assumption)
                have q233 : x6_1 < (l1.length : Int) := of_decide_eq_true (by first | (with_reducible assumption) | assumption)
                obtain ⟨ad233, e233, hx233_0, hx233_1, hx233_2⟩ := at_T48 HR1.out x6_1 p233 q233
                cases e233
                replace p233 := eq_true p233
                replace q233 := eq_true q233
                have p234 : 0 ≤ (x6_1 : Int) := of_decide_eq_true (by first | (with_reducible assumption) | assumption)
                have q234 : x6_1 < (l1.length : Int) := of_decide_eq_true (by first | (with_reducible assumption) | assumption)
                obtain ⟨ad234, e234, hx234_0, hx234_1, hx234_2⟩ := at_T48 HR1.out x6_1 p234 q234
                obtain rfl : ad233 = ad234 := (by injection e234)
                replace p234 := eq_true p234
                replace q234 := eq_true q234
                have p235 : 0 ≤ (x6_1 : Int) := of_decide_eq_true (by first | (with_reducible assumption) | assumption)
                have q235 : x6_1 < (l1.length : Int) := of_decide_eq_true (by first | (with_reducible assumption) | assumption)
                obtain ⟨ad235, e235, hx235_0, hx235_1, hx235_2⟩ := at_T48 HR1.out x6_1 p235 q235
                obtain rfl : ad233 = ad235 := (by injection e235)
                replace p235 := eq_true p235
                replace q235 := eq_true q235
                go_wp2
                repeat (go_quiet (fail); try go_wp2)
                go_ret
                exact ⟨by first | rfl | (simp; done) | (simp [*]; done), by repeat (first | exact Drawn0.refl _ | apply Drawn0.step)⟩
              · rw [if_neg c7] at H
                have c7b0 : decide (((rd_T48 l1 x6_1).f1) < ((rd_T48 l1 x6_1).f0)) = false := decide_eq_false c7
                clear c7
                by_cases c8 : ((rd_T48 l1 x6_1).f1) > (a0.size : Int)
                · rw [if_pos c8] at H
                  have c8b0 : decide ((a0.size : Int) < ((rd_T48 l1 x6_1).f1)) = true := decide_eq_true c8
                  clear c8
                  obtain rfl := Option.some.inj H
                  have p233 : 0 ≤ (x6_1 : Int) := of_decide_eq_true (by first | (with_reducible assumption) | assumption)
                  have q233 : x6_1 < (l1.length : Int) := of_decide_eq_true (by first | (with_reducible assumption) | assumption)
                  obtain ⟨ad233, e233, hx233_0, hx233_1, hx233_2⟩ := at_T48 HR1.out x6_1 p233 q233
                  cases e233
                  replace p233 := eq_true p233
                  replace q233 := eq_true q233
                  have p234 : 0 ≤ (x6_1 : Int) := of_decide_eq_true (by first | (with_reducible assumption) | assumption)
                  have q234 : x6_1 < (l1.length : Int) := of_decide_eq_true (by first | (with_reducible assumption) | assumption)
                  obtain ⟨ad234, e234, hx234_0, hx234_1, hx234_2⟩ := at_T48 HR1.out x6_1 p234 q234
                  obtain rfl : ad233 = ad234 := (by injection e234)
                  replace p234 := eq_true p234
                  replace q234 := eq_true q234
                  have p235 : 0 ≤ (x6_1 : Int) := of_decide_eq_true (by first | (with_reducible assumption) | assumption)
                  have q235 : x6_1 < (l1.length : Int) := of_decide_eq_true (by first | (with_reducible assumption) | assumption)
                  obtain ⟨ad235, e235, hx235_0, hx235_1, hx235_2⟩ := at_T48 HR1.out x6_1 p235 q235
                  obtain rfl : ad233 = ad235 := (by injection e235)
                  replace p235 := eq_true p235
                  replace q235 := eq_true q235
                  have p236 : 0 ≤ (x6_1 : Int) := of_decide_eq_true (by first | (with_reducible assumption) | assumption)
                  have q236 : x6_1 < (l1.length : Int) := of_decide_eq_true (by first | (with_reducible assumption) | assumption)
                  obtain ⟨ad236, e236, hx236_0, hx236_1, hx236_2⟩ := at_T48 HR1.out x6_1 p236 q236
                  obtain rfl : ad233 = ad236 := (by injection e236)
                  replace p236 := eq_true p236
                  replace q236 := eq_true q236
                  go_wp2
                  repeat (go_quiet (fail); try go_wp2)
                  go_ret
                  exact ⟨by first | rfl | (simp; done) | (simp [*]; done), by repeat (first | exact Drawn0.refl _ | apply Drawn0.step)⟩
                · rw [if_neg c8] at H
                  have c8b0 : decide ((a0.size : Int) < ((rd_T48 l1 x6_1).f1)) = false := decide_eq_false c8
                  clear c8
                  have H' := Aside0.mk H
                  clear H
                  have p233 : 0 ≤ (x6_1 : Int) := of_decide_eq_true (by first | (with_reducible assumption) | assumption)
                  have q233 : x6_1 < (l1.length : Int) := of_decide_eq_true (by first | (with_reducible assumption) | assumption)
                  obtain ⟨ad233, e233, hx233_0, hx233_1, hx233_2⟩ := at_T48 HR1.out x6_1 p233 q233
                  cases e233
                  replace p233 := eq_true p233
                  replace q233 := eq_true q233
                  have p234 : 0 ≤ (x6_1 : Int) := of_decide_eq_true (by first | (with_reducible assumption) | assumption)
                  have q234 : x6_1 < (l1.length : Int) := of_decide_eq_true (by first | (with_reducible assumption) | assumption)
                  obtain ⟨ad234, e234, hx234_0, hx234_1, hx234_2⟩ := at_T48 HR1.out x6_1 p234 q234
                  obtain rfl : ad233 = ad234 := (by injection e234)
                  replace p234 := eq_true p234
                  replace q234 := eq_true q234
                  have p235 : 0 ≤ (x6_1 : Int) := of_decide_eq_true (by first | (with_reducible assumption) | assumption)
                  have q235 : x6_1 < (l1.length : Int) := of_decide_eq_true (by first | (with_reducible assumption) | assumption)
                  obtain ⟨ad235, e235, hx235_0, hx235_1, hx235_2⟩ := at_T48 HR1.out x6_1 p235 q235
                  obtain rfl : ad233 = ad235 := (by injection e235)
                  replace p235 := eq_true p235
                  replace q235 := eq_true q235
                  have p236 : 0 ≤ (x6_1 : Int) := of_decide_eq_true (by first | (with_reducible assumption) | assumption)
                  have q236 : x6_1 < (l1.length : Int) := of_decide_eq_true (by first | (with_reducible assumption) | assumption)
                  obtain ⟨ad236, e236, hx236_0, hx236_1, hx236_2⟩ := at_T48 HR1.out x6_1 p236 q236
                  obtain rfl : ad233 = ad236 := (by injection e236)
                  replace p236 := eq_true p236
                  replace q236 := eq_true q236
                  have p237 : 0 ≤ (x6_1 : Int) := of_decide_eq_true (by first | (with_reducible assumption) | assumption)
                  have q237 : x6_1 < (l1.length : Int) := of_decide_eq_true (by first | (with_reducible assumption) | assumption)
                  obtain ⟨ad237, e237, hx237_0, hx237_1, hx237_2⟩ := at_T48 HR1.out x6_1 p237 q237
                  obtain rfl : ad233 = ad237 := (by injection e237)
                  replace p237 := eq_true p237
                  replace q237 := eq_true q237
                  go_wp2
                  repeat (go_quiet (fail); try go_wp2)
                  go_roundg k1
                  case measure => have := HK1.out; omega
                  case rel => exact ⟨((rd_T48 l1 x6_1).f1), (wrap64 (x6_1 + 1)), (by first | rfl | (simp; done) | (simp [*]; done)), (by first | rfl | (simp; done) | (simp [*]; done)), H', ⟨by have := HK1.out; omega⟩, by repeat (first | exact Drawn0.refl _ | apply Drawn0.step)⟩
          · rw [if_neg c5] at H
            exact absurd H (by simp)
        · rw [if_neg c4] at H
          have c4b0 : decide (x6_1 < (l1.length : Int)) = false := decide_eq_false c4
          clear c4
          have H' := Aside0.mk H
          clear H
          go_wp2
          repeat (go_quiet (fail); try go_wp2)
          go_loopg [7, 8] k1 (fun kq v7 v8 w' => ∃ (x7_2 : Int) (x8_2 : Int), v7 = .int .i64 x7_2 ∧ v8 = .int .i64 x8_2 ∧ Aside0 (riposteref01_SplicesError.l1 kq a0 l1 x7_2 x8_2 = some r) ∧ Aside0 (kq ≤ k1) ∧ Drawn0 w w')
          case atStart => exact ⟨(0), (0), (by first | rfl | (simp; done) | (simp [*]; done)), (by first | rfl | (simp; done) | (simp [*]; done)), H', ⟨Nat.le_refl _⟩, by repeat (first | exact Drawn0.refl _ | apply Drawn0.step)⟩
          case round =>
            clear H'
            try clear c1
            try clear p2
            try clear q2
            try clear hx2
            try clear c3
            try clear c3b0
            try clear c3b1
            try clear c4
            try clear c4b0
            try clear c5
            try clear c5b0
            try clear c6
            try clear c6b0
            try clear p6
            try clear c7
            try clear c7b0
            try clear c8
            try clear c8b0
            try clear hx233_0
            try clear hx233_1
            try clear hx233_2
            try clear hx234_0
            try clear hx234_1
            try clear hx234_2
            try clear hx235_0
            try clear hx235_1
            try clear hx235_2
            try clear hx236_0
            try clear hx236_1
            try clear hx236_2
            try clear hx237_0
            try clear hx237_1
            try clear hx237_2
            try clear p2
            try clear p233
            try clear p234
            try clear p235
            try clear p236
            try clear p237
            try clear q233
            try clear q234
            try clear q235
            try clear q236
            try clear q237
            obtain ⟨x7_2, x8_2, rfl, rfl, HA, HK2, ⟨m2, rfl⟩⟩ := hrel
            cases gk with
            | zero => exact absurd HA.out (by simp [riposteref01_SplicesError.l1])
            | succ k2 =>
              have H := HA.out
              clear HA
              simp only [riposteref01_SplicesError.l1] at H
              by_cases c9 : x8_2 < (l1.length : Int)
              · rw [if_pos c9] at H
                have c9b0 : decide (x8_2 < (l1.length : Int)) = true := decide_eq_true c9
                clear c9
                have H' := Aside0.mk H
                clear H
                go_wp2
                repeat (go_quiet (fail); try go_wp2)
                go_loopg [9] k2 (fun kq v9 w' => ∃ (x9_3 : Int), v9 = .int .i64 x9_3 ∧ Aside0 (riposteref01_SplicesError.l2 kq a0 l1 x7_2 x8_2 x9_3 = some r) ∧ Aside0 (kq ≤ k2) ∧ Drawn0 w w')
                case atStart => exact ⟨(0), (by first | rfl | (simp; done) | (simp [*]; done)), H', ⟨Nat.le_refl _⟩, by repeat (first | exact Drawn0.refl _ | apply Drawn0.step)⟩
                case round =>
                  clear H'
                  try clear c1
                  try clear p2
                  try clear q2
                  try clear hx2
                  try clear c3
                  try clear c3b0
                  try clear c3b1
                  try clear c4
                  try clear c4b0
                  try clear c5
                  try clear c5b0
                  try clear c6
                  try clear c6b0
                  try clear p6
                  try clear c7
                  try clear c7b0
                  try clear c8
                  try clear c8b0
                  try clear c9
                  try clear c9b0
                  try clear hx233_0
                  try clear hx233_1
                  try clear hx233_2
                  try clear hx234_0
                  try clear hx234_1
                  try clear hx234_2
                  try clear hx235_0
                  try clear hx235_1
                  try clear hx235_2
                  try clear hx236_0
                  try clear hx236_1
                  try clear hx236_2
                  try clear hx237_0
                  try clear hx237_1
                  try clear hx237_2
                  try clear p2
                  try clear p233
                  try clear p234
                  try clear p235
                  try clear p236
                  try clear p237
                  try clear p6
                  try clear q2
                  try clear q233
                  try clear q234
                  try clear q235
                  try clear q236
                  try clear q237
                  obtain ⟨x9_3, rfl, HA, HK3, ⟨m3, rfl⟩⟩ := hrel
                  cases gk with
                  | zero => exact absurd HA.out (by simp [riposteref01_SplicesError.l2])
                  | succ k3 =>
                    have H := HA.out
                    clear HA
                    simp only [riposteref01_SplicesError.l2] at H
                    by_cases c10 : 0 ≤ x8_2
                    · rw [if_pos c10] at H
                      have c10b0 : decide (0 ≤ x8_2) = true := decide_eq_true c10
                      clear c10
                      by_cases c11 : x8_2 < (l1.length : Int)
                      · rw [if_pos c11] at H
                        have c11b0 : decide (x8_2 < (l1.length : Int)) = true := decide_eq_true c11
                        clear c11
                        by_cases c12 : x9_3 < (((rd_T48 l1 x8_2).f2).size : Int)
                        · rw [if_pos c12] at H
                          have c12b0 : decide (x9_3 < (((rd_T48 l1 x8_2).f2).size : Int)) = true := decide_eq_true c12
                          clear c12
                          by_cases c13 : 0 ≤ x9_3
                          · rw [if_pos c13] at H
                            have c13b0 : decide (0 ≤ x9_3) = true := decide_eq_true c13
                            clear c13
                            replace H := Option.bind_eq_some_iff.mp H
                            obtain ⟨t240, A150, H⟩ := H
                            replace H : (if t240 = true then (riposteref01_SplicesError.l2 k3 a0 l1 x7_2 x8_2 (wrap64 (x9_3 + 1))) else (some 2)) = some r := H
                            have A15 := Aside0.mk A150
                            clear A150
                            by_cases c16 : t240 = true
                            · subst c16
                              have H1 : (riposteref01_SplicesError.l2 k3 a0 l1 x7_2 x8_2 (wrap64 (x9_3 + 1))) = some r := by rw [if_pos rfl] at H; exact H
                              clear H
                              have H := H1
                              clear H1
                              have H' := Aside0.mk H
                              clear H
                              have p238 : 0 ≤ (x8_2 : Int) := of_decide_eq_true (by first | (with_reducible assumption) | assumption)
                              have q238 : x8_2 < (l1.length : Int) := of_decide_eq_true (by first | (with_reducible assumption) | assumption)
                              obtain ⟨ad238, e238, hx238_0, hx238_1, hx238_2⟩ := at_T48 HR1.out x8_2 p238 q238
                              cases e238
                              replace p238 := eq_true p238
                              replace q238 := eq_true q238
                              have p239 : 0 ≤ (x8_2 : Int) := of_decide_eq_true (by first | (with_reducible assumption) | assumption)
                              have q239 : x8_2 < (l1.length : Int) := of_decide_eq_true (by first | (with_reducible assumption) | assumption)
                              obtain ⟨ad239, e239, hx239_0, hx239_1, hx239_2⟩ := at_T48 HR1.out x8_2 p239 q239
                              obtain rfl : ad238 = ad239 := (by injection e239)
                              replace p239 := eq_true p239
                              replace q239 := eq_true q239
                              have p14 : 0 ≤ (x9_3 : Int) := of_decide_eq_true (by first | (with_reducible assumption) | assumption)
                              have q14 : x9_3 < (((rd_T48 l1 x8_2).f2).size : Int) := of_decide_eq_true (by first | (with_reducible assumption) | assumption)
                              have hx14 := bt_at ((rd_T48 l1 x8_2).f2) x9_3
                              replace p14 := eq_true p14
                              replace q14 := eq_true q14
                              go_wp2_with (first | (go_at_call 81; (with_reducible refine (riposteref01_IsByte.calls (bt ((rd_T48 l1 x8_2).f2) x9_3) true _ A15.out).mono ?_); rintro e w' ⟨rfl, ⟨nd, rfl⟩⟩; (try first | exact ⟨rfl, _, World.drewN_drewN _ _ _⟩ | exact ⟨rfl, _, Eq.trans (World.drewN_drewN _ _ _) (congrArg (World.drewN _) (Nat.add_assoc _ _ _))⟩)))
                              repeat (go_quiet (first | (go_at_call 81; (with_reducible refine (riposteref01_IsByte.calls (bt ((rd_T48 l1 x8_2).f2) x9_3) true _ A15.out).mono ?_); rintro e w' ⟨rfl, ⟨nd, rfl⟩⟩; (try first | exact ⟨rfl, _, World.drewN_drewN _ _ _⟩ | exact ⟨rfl, _, Eq.trans (World.drewN_drewN _ _ _) (congrArg (World.drewN _) (Nat.add_assoc _ _ _))⟩))); try go_wp2_with (first | (go_at_call 81; (with_reducible refine (riposteref01_IsByte.calls (bt ((rd_T48 l1 x8_2).f2) x9_3) true _ A15.out).mono ?_); rintro e w' ⟨rfl, ⟨nd, rfl⟩⟩; (try first | exact ⟨rfl, _, World.drewN_drewN _ _ _⟩ | exact ⟨rfl, _, Eq.trans (World.drewN_drewN _ _ _) (congrArg (World.drewN _) (Nat.add_assoc _ _ _))⟩))))
                              go_roundg k3
                              case measure => have := HK1.out; have := HK2.out; have := HK3.out; omega
                              case rel => exact ⟨(wrap64 (x9_3 + 1)), (by first | rfl | (simp; done) | (simp [*]; done)), H', ⟨by have := HK1.out; have := HK2.out; have := HK3.out; omega⟩, by repeat (first | exact Drawn0.refl _ | apply Drawn0.step)⟩
                            · replace c16 := Bool.eq_false_iff.mpr c16
                              subst c16
                              have H1 : (some 2) = some r := by rw [if_neg (show ¬ (false = true) by decide)] at H; exact H
                              clear H
                              have H := H1
                              clear H1
                              obtain rfl := Option.some.inj H
                              have p238 : 0 ≤ (x8_2 : Int) := of_decide_eq_true (by first | (with_reducible assumption) | assumption)
                              have q238 : x8_2 < (l1.length : Int) := of_decide_eq_true (by first | (with_reducible assumption) | assumption)
                              obtain ⟨ad238, e238, hx238_0, hx238_1, hx238_2⟩ := at_T48 HR1.out x8_2 p238 q238
                              cases e238
                              replace p238 := eq_true p238
                              replace q238 := eq_true q238
                              have p239 : 0 ≤ (x8_2 : Int) := of_decide_eq_true (by first | (with_reducible assumption) | assumption)
                              have q239 : x8_2 < (l1.length : Int) := of_decide_eq_true (by first | (with_reducible assumption) | assumption)
                              obtain ⟨ad239, e239, hx239_0, hx239_1, hx239_2⟩ := at_T48 HR1.out x8_2 p239 q239
                              obtain rfl : ad238 = ad239 := (by injection e239)
                              replace p239 := eq_true p239
                              replace q239 := eq_true q239
                              have p14 : 0 ≤ (x9_3 : Int) := of_decide_eq_true (by first | (with_reducible assumption) | assumption)
                              have q14 : x9_3 < (((rd_T48 l1 x8_2).f2).size : Int) := of_decide_eq_true (by first | (with_reducible assumption) | assumption)
                              have hx14 := bt_at ((rd_T48 l1 x8_2).f2) x9_3
                              replace p14 := eq_true p14
                              replace q14 := eq_true q14
                              go_wp2_with (first | (go_at_call 81; (with_reducible refine (riposteref01_IsByte.calls (bt ((rd_T48 l1 x8_2).f2) x9_3) false _ A15.out).mono ?_); rintro e w' ⟨rfl, ⟨nd, rfl⟩⟩; (try first | exact ⟨rfl, _, World.drewN_drewN _ _ _⟩ | exact ⟨rfl, _, Eq.trans (World.drewN_drewN _ _ _) (congrArg (World.drewN _) (Nat.add_assoc _ _ _))⟩)))
                              repeat (go_quiet (first | (go_at_call 81; (with_reducible refine (riposteref01_IsByte.calls (bt ((rd_T48 l1 x8_2).f2) x9_3) false _ A15.out).mono ?_); rintro e w' ⟨rfl, ⟨nd, rfl⟩⟩; (try first | exact ⟨rfl, _, World.drewN_drewN _ _ _⟩ | exact ⟨rfl, _, Eq.trans (World.drewN_drewN _ _ _) (congrArg (World.drewN _) (Nat.add_assoc _ _ _))⟩))); try go_wp2_with (first | (go_at_call 81; (with_reducible refine (riposteref01_IsByte.calls (bt ((rd_T48 l1 x8_2).f2) x9_3) false _ A15.out).mono ?_); rintro e w' ⟨rfl, ⟨nd, rfl⟩⟩; (try first | exact ⟨rfl, _, World.drewN_drewN _ _ _⟩ | exact ⟨rfl, _, Eq.trans (World.drewN_drewN _ _ _) (congrArg (World.drewN _) (Nat.add_assoc _ _ _))⟩))))
                              go_ret
                              exact ⟨by first | rfl | (simp; done) | (simp [*]; done), by repeat (first | exact Drawn0.refl _ | apply Drawn0.step)⟩
                          · rw [if_neg c13] at H
                            exact absurd H (by simp)
                        · rw [if_neg c12] at H
                          have c12b0 : decide (x9_3 < (((rd_T48 l1 x8_2).f2).size : Int)) = false := decide_eq_false c12
                          clear c12
                          have H' := Aside0.mk H
                          clear H
                          have p238 : 0 ≤ (x8_2 : Int) := of_decide_eq_true (by first | (with_reducible assumption) | assumption)
                          have q238 : x8_2 < (l1.length : Int) := of_decide_eq_true (by first | (with_reducible assumption) | assumption)
                          obtain ⟨ad238, e238, hx238_0, hx238_1, hx238_2⟩ := at_T48 HR1.out x8_2 p238 q238
                          cases e238
                          replace p238 := eq_true p238
                          replace q238 := eq_true q238
                          have p241 : 0 ≤ (x8_2 : Int) := of_decide_eq_true (by first | (with_reducible assumption) | assumption)
                          have q241 : x8_2 < (l1.length : Int) := of_decide_eq_true (by first | (with_reducible assumption) | assumption)
                          obtain ⟨ad241, e241, hx241_0, hx241_1, hx241_2⟩ := at_T48 HR1.out x8_2 p241 q241
                          obtain rfl : ad238 = ad241 := (by injection e241)
                          replace p241 := eq_true p241
                          replace q241 := eq_true q241
                          have p242 : 0 ≤ (x8_2 : Int) := of_decide_eq_true (by first | (with_reducible assumption) | assumption)
                          have q242 : x8_2 < (l1.length : Int) := of_decide_eq_true (by first | (with_reducible assumption) | assumption)
                          obtain ⟨ad242, e242, hx242_0, hx242_1, hx242_2⟩ := at_T48 HR1.out x8_2 p242 q242
                          obtain rfl : ad238 = ad242 := (by injection e242)
                          replace p242 := eq_true p242
                          replace q242 := eq_true q242
                          have p243 : 0 ≤ (x8_2 : Int) := of_decide_eq_true (by first | (with_reducible assumption) | assumption)
                          have q243 : x8_2 < (l1.length : Int) := of_decide_eq_true (by first | (with_reducible assumption) | assumption)
                          obtain ⟨ad243, e243, hx243_0, hx243_1, hx243_2⟩ := at_T48 HR1.out x8_2 p243 q243
                          obtain rfl : ad238 = ad243 := (by injection e243)
                          replace p243 := eq_true p243
                          replace q243 := eq_true q243
                          go_wp2
                          repeat (go_quiet (fail); try go_wp2)
                          go_roundg k3
                          case measure => have := HK1.out; have := HK2.out; have := HK3.out; omega
                          case rel => exact ⟨(wrap64 (x7_2 + (wrap64 ((((rd_T48 l1 x8_2).f2).size : Int) - (wrap64 (((rd_T48 l1 x8_2).f1) - ((rd_T48 l1 x8_2).f0))))))), (wrap64 (x8_2 + 1)), (by first | rfl | (simp; done) | (simp [*]; done)), (by first | rfl | (simp; done) | (simp [*]; done)), H', ⟨by have := HK1.out; have := HK2.out; have := HK3.out; omega⟩, by repeat (first | exact Drawn0.refl _ | apply Drawn0.step)⟩
                      · rw [if_neg c11] at H
                        exact absurd H (by simp)
                    · rw [if_neg c10] at H
                      exact absurd H (by simp)
              · rw [if_neg c9] at H
                have c9b0 : decide (x8_2 < (l1.length : Int)) = false := decide_eq_false c9
                clear c9
                by_cases c17 : (wrap64 ((a0.size : Int) + x7_2)) > 2500
                · rw [if_pos c17] at H
                  have c17b0 : decide (2500 < (wrap64 ((a0.size : Int) + x7_2))) = true := decide_eq_true c17
                  clear c17
                  obtain rfl := Option.some.inj H
                  go_wp2
                  repeat (go_quiet (fail); try go_wp2)
                  go_ret
                  exact ⟨by first | rfl | (simp; done) | (simp [*]; done), by repeat (first | exact Drawn0.refl _ | apply Drawn0.step)⟩
                · rw [if_neg c17] at H
                  have c17b0 : decide (2500 < (wrap64 ((a0.size : Int) + x7_2))) = false := decide_eq_false c17
                  clear c17
                  obtain rfl := Option.some.inj H
                  go_wp2
                  repeat (go_quiet (fail); try go_wp2)
                  go_ret
                  exact ⟨by first | rfl | (simp; done) | (simp [*]; done), by repeat (first | exact Drawn0.refl _ | apply Drawn0.step)⟩

/-! ### riposteref01_check: function 57 -/
def riposteref01_check.f (k : Nat) (a0 : ByteArray) (l1 : List (S48)) : Option (Int) := (riposteref01_TextError.f k a0).bind fun bt244 => (if bt244.2 = 0 then ((riposteref01_SplicesError.f k a0 l1).bind fun t246 => (some t246)) else (some bt244.2))
set_option maxHeartbeats 8000000 in
set_option maxRecDepth 100000 in
theorem riposteref01_check.calls (k : Nat) (a0 : ByteArray) (A1 : Option Addr) (c1 : Nat) (l1 : List (S48)) (r : Int) (w : World) (hr1 : Kd.C k48 w A1 l1.length l1) (hc1 : l1.length ≤ c1) (h : riposteref01_check.f k a0 l1 = some r) :
    Calls Tryd.prog 57 #[.string a0, .slice A1 l1.length c1] w fun e w' => e = .returned (.int .i64 r) ∧ Drawn0 w w' := by
  have HR1 := Aside0.mk hr1
  have HC1 := Aside0.mk hc1
  clear hr1 hc1
  have H : ((riposteref01_TextError.f k a0).bind fun bt244 => (if bt244.2 = 0 then ((riposteref01_SplicesError.f k a0 l1).bind fun t246 => (some t246)) else (some bt244.2))) = some r := h
  clear h
  replace H := Option.bind_eq_some_iff.mp H
  obtain ⟨⟨t244, t245⟩, A30, H⟩ := H
  replace H : (if t245 = 0 then ((riposteref01_SplicesError.f k a0 l1).bind fun t246 => (some t246)) else (some t245)) = some r := H
  have A3 := Aside0.mk A30
  clear A30
  by_cases c4 : t245 = 0
  · rw [if_pos c4] at H
    have c4b0 : (t245 == 0) = true := beq_iff_eq.mpr c4
    have c4b1 : (t245 != 0) = false := bne_eq_false_iff_eq.mpr c4
    clear c4
    replace H := Option.bind_eq_some_iff.mp H
    obtain ⟨t246, A50, H⟩ := H
    replace H : (some t246) = some r := H
    have A5 := Aside0.mk A50
    clear A50
    obtain rfl := Option.some.inj H
    go_enter Tryd.func57, Tryd.ntmps57
    go_wp2_with (first | ((with_reducible refine gate_callee (f := 46) rfl ?_); refine goesL_ (some 9) rfl rfl Tryd.func46 (by kernel_rfl) rfl #[.string a0] rfl (by (try simp only [List.map_toArray, List.map_cons, List.map_nil]); first | done | rfl | (simp only [List.length_drop, List.length_take]; rfl)) ?_; (with_reducible refine (riposteref01_TextError.calls k a0 t244 t245 _ A3.out).mono ?_); rintro e w' ⟨rfl, ⟨nd, rfl⟩⟩; refine ⟨_, rfl, ?_⟩) | ((with_reducible refine gate_callee (f := 85) rfl ?_); refine goesL_ (some 17) rfl rfl Tryd.func85 (by kernel_rfl) rfl #[.string a0, .slice A1 l1.length c1] rfl (by (try simp only [List.map_toArray, List.map_cons, List.map_nil]); first | done | rfl | (simp only [List.length_drop, List.length_take]; rfl)) ?_; (with_reducible refine (riposteref01_SplicesError.calls k a0 _ _ l1 t246 _ ?side1 ?side2 A5.out).mono ?_); (case side1 => repeat (first | exact HR1.out | (with_reducible refine Kd.C_alloc ?_ _) | (with_reducible refine Kd.C_drewN ?_ _) | (with_reducible refine Kd.C_drew ?_))); (case side2 => exact HC1.out); rintro e w' ⟨rfl, ⟨nd, rfl⟩⟩; refine ⟨_, rfl, ?_⟩))
    go_ret
    exact ⟨by first | rfl | (simp; done) | (simp [*]; done), by repeat (first | exact Drawn0.refl _ | apply Drawn0.step)⟩
  · rw [if_neg c4] at H
    have c4b0 : (t245 == 0) = false := beq_eq_false_iff_ne.mpr c4
    have c4b1 : (t245 != 0) = true := bne_iff_ne.mpr c4
    obtain rfl := Option.some.inj H
    go_enter Tryd.func57, Tryd.ntmps57
    go_wp2_with (first | ((with_reducible refine gate_callee (f := 46) rfl ?_); refine goesL_ (some 9) rfl rfl Tryd.func46 (by kernel_rfl) rfl #[.string a0] rfl (by (try simp only [List.map_toArray, List.map_cons, List.map_nil]); first | done | rfl | (simp only [List.length_drop, List.length_take]; rfl)) ?_; (with_reducible refine (riposteref01_TextError.calls k a0 t244 t245 _ A3.out).mono ?_); rintro e w' ⟨rfl, ⟨nd, rfl⟩⟩; refine ⟨_, rfl, ?_⟩))
    go_ret
    exact ⟨by first | rfl | (simp; done) | (simp [*]; done), by repeat (first | exact Drawn0.refl _ | apply Drawn0.step)⟩

/-! ### riposteref01_Spliced: function 58 -/
def riposteref01_Spliced.l0 : Nat → ByteArray → List (S48) → ByteArray → Int → Int → Option (ByteArray)
  | 0, _, _, _, _, _ => none
  | k + 1, x0, x1, x5, x6, x7 => if x7 < (x1.length : Int) then (if 0 ≤ x7 then (if 0 ≤ x6 then (if x6 ≤ ((rd_T48 x1 x7).f0) then (if ((rd_T48 x1 x7).f0) ≤ (x0.size : Int) then (if (x0.extract (x6 : Int).toNat (((rd_T48 x1 x7).f0) : Int).toNat).size + ((rd_T48 x1 x7).f2).size ≤ 9223372036854775807 then (if x5.size + ((x0.extract (x6 : Int).toNat (((rd_T48 x1 x7).f0) : Int).toNat) ++ ((rd_T48 x1 x7).f2)).size ≤ 9223372036854775807 then (riposteref01_Spliced.l0 k x0 x1 (x5 ++ ((x0.extract (x6 : Int).toNat (((rd_T48 x1 x7).f0) : Int).toNat) ++ ((rd_T48 x1 x7).f2))) ((rd_T48 x1 x7).f1) (wrap64 (x7 + 1))) else (none)) else (none)) else (none)) else (none)) else (none)) else (none)) else (if 0 ≤ x6 then (if x6 ≤ (x0.size : Int) then (if x5.size + (x0.extract (x6 : Int).toNat x0.size).size ≤ 9223372036854775807 then (some (x5 ++ (x0.extract (x6 : Int).toNat x0.size))) else (none)) else (none)) else (none))
def riposteref01_Spliced.f (k : Nat) (a0 : ByteArray) (l1 : List (S48)) : Option (ByteArray) := riposteref01_Spliced.l0 k a0 l1 (⟨#[]⟩ : ByteArray) 0 0
set_option maxHeartbeats 8000000 in
set_option maxRecDepth 100000 in
theorem riposteref01_Spliced.calls (k : Nat) (a0 : ByteArray) (A1 : Option Addr) (c1 : Nat) (l1 : List (S48)) (r : ByteArray) (w : World) (hr1 : Kd.C k48 w A1 l1.length l1) (hc1 : l1.length ≤ c1) (h : riposteref01_Spliced.f k a0 l1 = some r) :
    Calls Tryd.prog 58 #[.string a0, .slice A1 l1.length c1] w fun e w' => e = .returned (.string r) ∧ Drawn0 w w' := by
  have HR1 := Aside0.mk hr1
  have HC1 := Aside0.mk hc1
  clear hr1 hc1
  have H : (riposteref01_Spliced.l0 k a0 l1 (⟨#[]⟩ : ByteArray) 0 0) = some r := h
  clear h
  have H' := Aside0.mk H
  clear H
  go_enter Tryd.func58, Tryd.ntmps58
  go_wp2
  repeat (go_quiet (fail); try go_wp2)
  go_loopg [5, 6, 7] k (fun kq v5 v6 v7 w' => ∃ (x5_1 : ByteArray) (x6_1 : Int) (x7_1 : Int), v5 = .string x5_1 ∧ v6 = .int .i64 x6_1 ∧ v7 = .int .i64 x7_1 ∧ Aside0 (riposteref01_Spliced.l0 kq a0 l1 x5_1 x6_1 x7_1 = some r) ∧ Aside0 (kq ≤ k) ∧ Drawn0 w w')
  case atStart => exact ⟨((⟨#[]⟩ : ByteArray)), (0), (0), (by first | rfl | (simp; done) | (simp [*]; done)), (by first | rfl | (simp; done) | (simp [*]; done)), (by first | rfl | (simp; done) | (simp [*]; done)), H', ⟨Nat.le_refl _⟩, by repeat (first | exact Drawn0.refl _ | apply Drawn0.step)⟩
  case round =>
    clear H'
    try clear c1
    try clear p2
    obtain ⟨x5_1, x6_1, x7_1, rfl, rfl, rfl, HA, HK1, ⟨m1, rfl⟩⟩ := hrel
    cases gk with
    | zero => exact absurd HA.out (by simp [riposteref01_Spliced.l0])
    | succ k1 =>
      have H := HA.out
      clear HA
      simp only [riposteref01_Spliced.l0] at H
      by_cases c3 : x7_1 < (l1.length : Int)
      · rw [if_pos c3] at H
        have c3b0 : decide (x7_1 < (l1.length : Int)) = true := decide_eq_true c3
        clear c3
        by_cases c4 : 0 ≤ x7_1
        · rw [if_pos c4] at H
          have c4b0 : decide (0 ≤ x7_1) = true := decide_eq_true c4
          clear c4
          by_cases c5 : 0 ≤ x6_1
          · rw [if_pos c5] at H
            have c5b0 := eq_true c5
            have c5b1 : decide (0 ≤ x6_1) = true := decide_eq_true c5
            clear c5
            by_cases c6 : x6_1 ≤ ((rd_T48 l1 x7_1).f0)
            · rw [if_pos c6] at H
              have c6b0 := eq_true c6
              have c6b1 : decide (x6_1 ≤ ((rd_T48 l1 x7_1).f0)) = true := decide_eq_true c6
              clear c6
              by_cases c7 : ((rd_T48 l1 x7_1).f0) ≤ (a0.size : Int)
              · rw [if_pos c7] at H
                have c7b0 := eq_true c7
                have c7b1 : decide (((rd_T48 l1 x7_1).f0) ≤ (a0.size : Int)) = true := decide_eq_true c7
                clear c7
                by_cases c8 : (a0.extract (x6_1 : Int).toNat (((rd_T48 l1 x7_1).f0) : Int).toNat).size + ((rd_T48 l1 x7_1).f2).size ≤ 9223372036854775807
                · rw [if_pos c8] at H
                  have c8b0 := eq_true c8
                  have c8b1 : decide ((a0.extract (x6_1 : Int).toNat (((rd_T48 l1 x7_1).f0) : Int).toNat).size + ((rd_T48 l1 x7_1).f2).size ≤ 9223372036854775807) = true := decide_eq_true c8
                  try have c8b2 : (9223372036854775807 < (a0.extract (x6_1 : Int).toNat (((rd_T48 l1 x7_1).f0) : Int).toNat).size + ((rd_T48 l1 x7_1).f2).size) = False := eq_false (Nat.not_lt.2 c8)
                  by_cases c9 : x5_1.size + ((a0.extract (x6_1 : Int).toNat (((rd_T48 l1 x7_1).f0) : Int).toNat) ++ ((rd_T48 l1 x7_1).f2)).size ≤ 9223372036854775807
                  · rw [if_pos c9] at H
                    have c9b0 := eq_true c9
                    have c9b1 : decide (x5_1.size + ((a0.extract (x6_1 : Int).toNat (((rd_T48 l1 x7_1).f0) : Int).toNat) ++ ((rd_T48 l1 x7_1).f2)).size ≤ 9223372036854775807) = true := decide_eq_true c9
                    try have c9b2 : (9223372036854775807 < x5_1.size + ((a0.extract (x6_1 : Int).toNat (((rd_T48 l1 x7_1).f0) : Int).toNat) ++ ((rd_T48 l1 x7_1).f2)).size) = False := eq_false (Nat.not_lt.2 c9)
                    have H' := Aside0.mk H
                    clear H
                    have p247 : 0 ≤ (x7_1 : Int) := of_decide_eq_true (by first | (with_reducible assumption) | assumption)
                    have q247 : x7_1 < (l1.length : Int) := of_decide_eq_true (by first | (with_reducible assumption) | assumption)
                    obtain ⟨ad247, e247, hx247_0, hx247_1, hx247_2⟩ := at_T48 HR1.out x7_1 p247 q247
                    cases e247
                    replace p247 := eq_true p247
                    replace q247 := eq_true q247
                    have p248 : 0 ≤ (x7_1 : Int) := of_decide_eq_true (by first | (with_reducible assumption) | assumption)
                    have q248 : x7_1 < (l1.length : Int) := of_decide_eq_true (by first | (with_reducible assumption) | assumption)
                    obtain ⟨ad248, e248, hx248_0, hx248_1, hx248_2⟩ := at_T48 HR1.out x7_1 p248 q248
                    obtain rfl : ad247 = ad248 := (by injection e248)
                    replace p248 := eq_true p248
                    replace q248 := eq_true q248
                    have p249 : 0 ≤ (x7_1 : Int) := of_decide_eq_true (by first | (with_reducible assumption) | assumption)
                    have q249 : x7_1 < (l1.length : Int) := of_decide_eq_true (by first | (with_reducible assumption) | assumption)
                    obtain ⟨ad249, e249, hx249_0, hx249_1, hx249_2⟩ := at_T48 HR1.out x7_1 p249 q249
                    obtain rfl : ad247 = ad249 := (by injection e249)
                    replace p249 := eq_true p249
                    replace q249 := eq_true q249
                    go_wp2
                    repeat (go_quiet (fail); try go_wp2)
                    go_roundg k1
                    case measure => have := HK1.out; omega
                    case rel => exact ⟨(x5_1 ++ ((a0.extract (x6_1 : Int).toNat (((rd_T48 l1 x7_1).f0) : Int).toNat) ++ ((rd_T48 l1 x7_1).f2))), ((rd_T48 l1 x7_1).f1), (wrap64 (x7_1 + 1)), (by first | rfl | (simp; done) | (simp [*]; done)), (by first | rfl | (simp; done) | (simp [*]; done)), (by first | rfl | (simp; done) | (simp [*]; done)), H', ⟨by have := HK1.out; omega⟩, by repeat (first | exact Drawn0.refl _ | apply Drawn0.step)⟩
                  · rw [if_neg c9] at H
                    exact absurd H (by simp)
                · rw [if_neg c8] at H
                  exact absurd H (by simp)
              · rw [if_neg c7] at H
                exact absurd H (by simp)
            · rw [if_neg c6] at H
              exact absurd H (by simp)
          · rw [if_neg c5] at H
            exact absurd H (by simp)
        · rw [if_neg c4] at H
          exact absurd H (by simp)
      · rw [if_neg c3] at H
        have c3b0 : decide (x7_1 < (l1.length : Int)) = false := decide_eq_false c3
        clear c3
        by_cases c10 : 0 ≤ x6_1
        · rw [if_pos c10] at H
          have c10b0 := eq_true c10
          have c10b1 : decide (0 ≤ x6_1) = true := decide_eq_true c10
          clear c10
          by_cases c11 : x6_1 ≤ (a0.size : Int)
          · rw [if_pos c11] at H
            have c11b0 := eq_true c11
            have c11b1 : decide (x6_1 ≤ (a0.size : Int)) = true := decide_eq_true c11
            clear c11
            by_cases c12 : x5_1.size + (a0.extract (x6_1 : Int).toNat a0.size).size ≤ 9223372036854775807
            · rw [if_pos c12] at H
              have c12b0 := eq_true c12
              have c12b1 : decide (x5_1.size + (a0.extract (x6_1 : Int).toNat a0.size).size ≤ 9223372036854775807) = true := decide_eq_true c12
              try have c12b2 : (9223372036854775807 < x5_1.size + (a0.extract (x6_1 : Int).toNat a0.size).size) = False := eq_false (Nat.not_lt.2 c12)
              obtain rfl := Option.some.inj H
              go_wp2
              repeat (go_quiet (fail); try go_wp2)
              go_ret
              exact ⟨by first | rfl | (simp; done) | (simp [*]; done), by repeat (first | exact Drawn0.refl _ | apply Drawn0.step)⟩
            · rw [if_neg c12] at H
              exact absurd H (by simp)
          · rw [if_neg c11] at H
            exact absurd H (by simp)
        · rw [if_neg c10] at H
          exact absurd H (by simp)

/-! ### riposteref01_Apply: function 28 -/


/-! ### lex_Moved: function 29 -/

/-! ### riposteref01_Moved: function 30 -/

/-! ### lex_splice_moved: function 60 -/


/-! ### lex_Undo: function 31 -/

/-! ### riposteref01_Undo: function 32 -/

-- NOT PRINTED: function 7 (ripostelaw01_LexSplices)

-- NOT PRINTED: function 61 (api_Token_61)

-- NOT PRINTED: function 62 (lex_later)

-- NOT PRINTED: function 63 (api_Token_63)

-- NOT PRINTED: function 33 (lex_Kept)

end Go.Proofs.YtggfcmondffodaaDoor.P
namespace Go.Proofs.YtggfcmondffodaaDoor.P
open Go.RowKit Go.Proofs.YtggfcmondffodaaDoorW.PrintWords
set_option linter.unusedVariables false
set_option linter.unusedSimpArgs false
/-- By how much a text grows. -/
def gr (x : Sp) : Int := (x.f2.size : Int) - (x.f1 - x.f0)
def rngB (n : Nat) : List Sp → Int → Bool
  | [], _ => true
  | x :: r, a => decide (a ≤ x.f0) && (decide (x.f0 ≤ x.f1) && (decide (x.f1 ≤ (n : Int)) && rngB n r x.f1))
def tailE : Int → List Sp → Int
  | n, [] => if n > 2500 then 5 else 0
  | n, x :: r => if badAt x.f2 x.f2.size 0 = none then tailE (n + gr x) r else 2
/-- The error of a text and of splices for it. -/
def splE (s : ByteArray) (l : List Sp) : Int :=
  if (chkT s).2 = 0 then (if 40 < l.length then 5 else if rngB s.size l 0 = true then tailE s.size l else 3) else (chkT s).2
theorem rngB_ord {n : Nat} : ∀ {l : List Sp} {a : Int}, rngB n l a = true → 0 ≤ a → a ≤ n → OrdS n l a
  | [], a, _, h0, h1 => ⟨h0, h1⟩
  | x :: r, a, h, h0, h1 => by
    unfold rngB at h
    simp only [Bool.and_eq_true, decide_eq_true_eq] at h
    obtain ⟨a1, a2, a3, a4⟩ := h
    exact ⟨h0, a1, a2, a3, rngB_ord a4 (by omega) a3⟩
theorem ord_rngB {n : Nat} : ∀ {l : List Sp} {a : Int}, OrdS n l a → rngB n l a = true
  | [], a, _ => rfl
  | x :: r, a, h => by
    obtain ⟨h0, h1, h2, h3, h4⟩ := h
    unfold rngB
    rw [decide_eq_true h1, decide_eq_true h2, decide_eq_true h3, ord_rngB h4]; rfl
/-- What is known of splices in range. -/
def BdS (x : Sp) : Prop := 0 ≤ x.f0 ∧ x.f0 ≤ x.f1 ∧ x.f1 ≤ 3000 ∧ x.f2.size ≤ 3000
theorem OrdS.bd {n : Nat} (hn : n ≤ 3000) : ∀ {l : List Sp} {a : Int}, OrdS n l a → (∀ x ∈ l, x.f2.size ≤ 3000) → ∀ x ∈ l, BdS x
  | [], _, _, _, x, hx => by cases hx
  | y :: r, a, h, hs, x, hx => by
    obtain ⟨h0, h1, h2, h3, h4⟩ := h
    rcases List.mem_cons.1 hx with rfl | hx
    · exact ⟨by omega, h2, by omega, hs _ List.mem_cons_self⟩
    · exact h4.bd hn (fun z hz => hs z (List.mem_cons_of_mem _ hz)) x hx
theorem BdS.gr {x : Sp} (h : BdS x) : -3000 ≤ gr x ∧ gr x ≤ 3000 := by
  obtain ⟨h0, h1, h2, h3⟩ := h
  unfold P.gr; omega
theorem gr_wrap {x : Sp} (h : BdS x) : wrap64 ((x.f2.size : Int) - wrap64 (x.f1 - x.f0)) = gr x := by
  obtain ⟨h0, h1, h2, h3⟩ := h
  unfold gr
  rw [w64 (x := x.f1 - x.f0) (by omega) (by omega), w64 (by omega) (by omega)]
theorem rd48_mem (l : List Sp) (i : Nat) (h : i < l.length) : rd_T48 l (i : Int) ∈ l :=
  List.mem_of_mem_drop (i := i) (by rw [drop_rd l i h]; exact List.mem_cons_self)
theorem up1 (i : Nat) (n : Nat) (h : i < n) (hn : n ≤ 140737488351232) : wrap64 ((i : Int) + 1) = ((i + 1 : Nat) : Int) := by rw [w64 (by omega) (by omega)]; omega
/-! ### The program's splices -/
theorem pGrown {x : Sp} (h : BdS x) : lex_splice_grown.f x.f0 x.f1 x.f2 = some (gr x) := by
  unfold lex_splice_grown.f
  rw [gr_wrap h]
theorem pL2 (n : Int) (l : List Sp) (i : Nat) (x : Sp) (hx : BdS x) (m : Nat) (hm : 6 ≤ m) : ∀ (d j : Nat), x.f2.size - j = d → j ≤ x.f2.size →
    lex_splices.l2 (d + 1 + m) n l (l.length : Int) (i : Int) (x.f2.size : Int) (j : Int) x.f0 x.f1 x.f2 = if badAt x.f2 d j = none then lex_splices.l1 m (wrap64 (n + gr x)) l (l.length : Int) (wrap64 ((i : Int) + 1)) else some 2 := by
  have hs := hx.2.2.2
  intro d
  induction d with
  | zero =>
    intro j hd hj
    rw [show 0 + 1 + m = m + 1 by omega, lex_splices.l2.eq_2, if_neg (by omega), pGrown hx]
    unfold badAt
    rw [if_pos rfl]; rfl
  | succ d ih =>
    intro j hd hj
    have e2 := up1 j x.f2.size (by omega) (by omega)
    rw [show d + 1 + 1 + m = (d + 1 + m) + 1 by omega, lex_splices.l2.eq_2, if_pos (by omega), if_pos (by omega), if_pos (by omega), pIsByte _ _ (by omega)]
    simp only [Option.bind_some]
    unfold badAt
    rw [if_pos (show j < x.f2.size by omega)]
    cases h : okB (bt x.f2 (j : Int)) with
    | true => rw [if_pos rfl, if_pos rfl, e2]; exact ih (j + 1) (by omega) (by omega)
    | false => rw [if_neg Bool.false_ne_true, if_neg Bool.false_ne_true, if_neg (show ¬ (some j = none) from fun e => by cases e)]
/-- The fuel that texts need. -/
def need : List Sp → Nat
  | [] => 0
  | x :: r => x.f2.size + 2 + need r
theorem need_nil : need [] = 0 := rfl
theorem need_cons (x : Sp) (r : List Sp) : need (x :: r) = x.f2.size + 2 + need r := rfl
theorem pL1 (l : List Sp) (hb : ∀ x ∈ l, BdS x) (hl : l.length ≤ 1000) (m : Nat) (hm : 6 ≤ m) : ∀ (d i : Nat) (n : Int), l.length - i = d → i ≤ l.length → -100000000 ≤ n - 3000 * d → n + 3000 * d ≤ 100000000 →
    lex_splices.l1 (need (l.drop i) + 1 + m) n l (l.length : Int) (i : Int) = some (tailE n (l.drop i)) := by
  intro d
  induction d with
  | zero =>
    intro i n hd hi h1 h2
    rw [List.drop_eq_nil_of_le (show l.length ≤ i by omega), show need [] + 1 + m = m + 1 from by first | (rw [need_cons]; omega) | (rw [need_nil]; omega), lex_splices.l1.eq_2, if_neg (by omega)]
    unfold tailE
    split <;> rfl
  | succ d ih =>
    intro i n hd hi h1 h2
    have hlt : i < l.length := by omega
    have hx := hb _ (rd48_mem l i hlt)
    have hg := hx.gr
    have e2 := up1 i l.length hlt (by omega)
    rw [drop_rd l i hlt]
    generalize hy : rd_T48 l (i : Int) = y at *
    rw [show need (y :: l.drop (i + 1)) + 1 + m = (y.f2.size + 1 + (need (l.drop (i + 1)) + 1 + m)) + 1 from by first | (rw [need_cons]; omega) | (rw [need_nil]; omega), lex_splices.l1.eq_2, if_pos (by omega), if_pos (by omega), if_pos (by omega), hy]
    have := pL2 n l i y hx (need (l.drop (i + 1)) + 1 + m) (by omega) y.f2.size 0 (by omega) (by omega)
    rw [show ((0 : Nat) : Int) = 0 from rfl] at this
    rw [this]
    unfold tailE
    by_cases c : badAt y.f2 y.f2.size 0 = none
    · rw [if_pos c, if_pos c, e2, w64 (x := n + gr y) (by omega) (by omega)]
      exact ih (i + 1) _ (by omega) (by omega) (by omega) (by omega)
    · rw [if_neg c, if_neg c]
theorem pL0 (s : ByteArray) (hs : s.size ≤ 140737488351232) (l : List Sp) (hl : l.length ≤ 1000) (m : Nat) : ∀ (d i : Nat) (a : Int), l.length - i = d → i ≤ l.length →
    lex_splices.l0 (d + 1 + m) s l a (s.size : Int) l (l.length : Int) (i : Int) = if rngB s.size (l.drop i) a = true then lex_splices.l1 m (s.size : Int) l (l.length : Int) 0 else some 3 := by
  intro d
  induction d with
  | zero =>
    intro i a hd hi
    rw [List.drop_eq_nil_of_le (show l.length ≤ i by omega), show 0 + 1 + m = m + 1 by omega, lex_splices.l0.eq_2, if_neg (by omega), if_pos (show rngB s.size [] a = true from rfl)]
  | succ d ih =>
    intro i a hd hi
    have hlt : i < l.length := by omega
    have e2 := up1 i l.length hlt (by omega)
    rw [drop_rd l i hlt, show d + 1 + 1 + m = (d + 1 + m) + 1 by omega, lex_splices.l0.eq_2, if_pos (by omega), if_pos (by omega), if_pos (by omega)]
    generalize hy : rd_T48 l (i : Int) = y
    unfold rngB
    by_cases c1 : y.f0 < a
    · rw [if_pos c1, decide_eq_false (show ¬ a ≤ y.f0 by omega)]; rfl
    · rw [if_neg c1, decide_eq_true (show a ≤ y.f0 by omega)]
      by_cases c2 : y.f1 < y.f0
      · rw [if_pos c2, decide_eq_false (show ¬ y.f0 ≤ y.f1 by omega)]; rfl
      · rw [if_neg c2, decide_eq_true (show y.f0 ≤ y.f1 by omega)]
        by_cases c3 : y.f1 > (s.size : Int)
        · rw [if_pos c3, decide_eq_false (show ¬ y.f1 ≤ (s.size : Int) by omega)]; rfl
        · rw [if_neg c3, decide_eq_true (show y.f1 ≤ (s.size : Int) by omega), e2, ih (i + 1) _ (by omega) (by omega)]; rfl
theorem pSplices (s : ByteArray) (l : List Sp) (hs : s.size ≤ 3000) (hl : l.length ≤ 1000) (hx : ∀ x ∈ l, x.f2.size ≤ 3000) : lex_splices.f (l.length + 1 + (need l + 1 + 4000)) s l = some (splE s l) := by
  unfold lex_splices.f splE
  rw [pCheck s (by omega) _ (by omega)]
  simp only [Option.bind_some]
  by_cases c : (chkT s).2 = 0
  · rw [if_pos c, if_pos c]
    by_cases c2 : 40 < l.length
    · rw [if_pos (by omega), if_pos c2]
    · rw [if_neg (by omega), if_neg c2]
      have h0 := pL0 s (by omega) l hl (need l + 1 + 4000) l.length 0 0 (by omega) (by omega)
      rw [List.drop_zero] at h0
      refine h0.trans ?_
      by_cases c3 : rngB s.size l 0 = true
      · rw [if_pos c3, if_pos c3]
        have hO := rngB_ord c3 (Int.le_refl _) (by omega)
        have h1 := pL1 l (hO.bd hs hx) hl 4000 (by omega) l.length 0 (s.size : Int) (by omega) (by omega) (by omega) (by omega)
        rw [List.drop_zero] at h1
        exact h1
      · rw [if_neg c3, if_neg c3]
  · rw [if_neg c, if_neg c]
/-! ### The reference's -/
theorem rL2 (s : ByteArray) (l : List Sp) (i : Nat) (hi : i < l.length) (more : Int) (hl : l.length ≤ 1000) (hx : BdS (rd_T48 l (i : Int))) (m : Nat) : ∀ (d j : Nat), (rd_T48 l (i : Int)).f2.size - j = d → j ≤ (rd_T48 l (i : Int)).f2.size →
    riposteref01_SplicesError.l2 (d + 1 + m) s l more (i : Int) (j : Int) = if badAt (rd_T48 l (i : Int)).f2 d j = none then riposteref01_SplicesError.l1 m s l (wrap64 (more + gr (rd_T48 l (i : Int)))) (wrap64 ((i : Int) + 1)) else some 2 := by
  have hs := hx.2.2.2
  have hgw := gr_wrap hx
  generalize hy : rd_T48 l (i : Int) = y at *
  intro d
  induction d with
  | zero =>
    intro j hd hj
    rw [show 0 + 1 + m = m + 1 by omega, riposteref01_SplicesError.l2.eq_2, hy, if_pos (by omega), if_pos (by omega), if_neg (by omega), hgw]
    unfold badAt
    rw [if_pos rfl]
  | succ d ih =>
    intro j hd hj
    have e2 := up1 j y.f2.size (by omega) (by omega)
    rw [show d + 1 + 1 + m = (d + 1 + m) + 1 by omega, riposteref01_SplicesError.l2.eq_2, hy, if_pos (by omega), if_pos (by omega), if_pos (by omega), if_pos (by omega), rIsByte]
    simp only [Option.bind_some]
    unfold badAt
    rw [if_pos (show j < y.f2.size by omega)]
    cases h : okB (bt y.f2 (j : Int)) with
    | true => rw [if_pos rfl, if_pos rfl, e2]; exact ih (j + 1) (by omega) (by omega)
    | false => rw [if_neg Bool.false_ne_true, if_neg Bool.false_ne_true, if_neg (show ¬ (some j = none) from fun e => by cases e)]
theorem rL1 (s : ByteArray) (hsz : s.size ≤ 3000) (l : List Sp) (hb : ∀ x ∈ l, BdS x) (hl : l.length ≤ 1000) (m : Nat) : ∀ (d i : Nat) (n : Int), l.length - i = d → i ≤ l.length → -100000000 ≤ n - 3000 * d → n + 3000 * d ≤ 100000000 →
    riposteref01_SplicesError.l1 (need (l.drop i) + 1 + m) s l n (i : Int) = some (tailE (s.size + n) (l.drop i)) := by
  intro d
  induction d with
  | zero =>
    intro i n hd hi h1 h2
    rw [List.drop_eq_nil_of_le (show l.length ≤ i by omega), show need [] + 1 + m = m + 1 from by first | (rw [need_cons]; omega) | (rw [need_nil]; omega), riposteref01_SplicesError.l1.eq_2, if_neg (by omega), w64 (by omega) (by omega)]
    unfold tailE
    split <;> rfl
  | succ d ih =>
    intro i n hd hi h1 h2
    have hlt : i < l.length := by omega
    have hx := hb _ (rd48_mem l i hlt)
    have hg := hx.gr
    have e2 := up1 i l.length hlt (by omega)
    have h3 := rL2 s l i hlt n hl hx (need (l.drop (i + 1)) + 1 + m) (rd_T48 l (i : Int)).f2.size 0 (by omega) (by omega)
    rw [drop_rd l i hlt]
    generalize hy : rd_T48 l (i : Int) = y at *
    rw [show need (y :: l.drop (i + 1)) + 1 + m = (y.f2.size + 1 + (need (l.drop (i + 1)) + 1 + m)) + 1 from by first | (rw [need_cons]; omega) | (rw [need_nil]; omega), riposteref01_SplicesError.l1.eq_2, if_pos (by omega)]
    rw [show ((0 : Nat) : Int) = 0 from rfl] at h3
    rw [h3]
    unfold tailE
    by_cases c : badAt y.f2 y.f2.size 0 = none
    · rw [if_pos c, if_pos c, e2, w64 (x := n + gr y) (by omega) (by omega), ih (i + 1) _ (by omega) (by omega) (by omega) (by omega), Int.add_assoc]
    · rw [if_neg c, if_neg c]
theorem rL0 (s : ByteArray) (hs : s.size ≤ 140737488351232) (l : List Sp) (hl : l.length ≤ 1000) (m : Nat) : ∀ (d i : Nat) (a : Int), l.length - i = d → i ≤ l.length →
    riposteref01_SplicesError.l0 (d + 1 + m) s l a (i : Int) = if rngB s.size (l.drop i) a = true then riposteref01_SplicesError.l1 m s l 0 0 else some 3 := by
  intro d
  induction d with
  | zero =>
    intro i a hd hi
    rw [List.drop_eq_nil_of_le (show l.length ≤ i by omega), show 0 + 1 + m = m + 1 by omega, riposteref01_SplicesError.l0.eq_2, if_neg (by omega), if_pos (show rngB s.size [] a = true from rfl)]
  | succ d ih =>
    intro i a hd hi
    have hlt : i < l.length := by omega
    have e2 := up1 i l.length hlt (by omega)
    rw [drop_rd l i hlt, show d + 1 + 1 + m = (d + 1 + m) + 1 by omega, riposteref01_SplicesError.l0.eq_2, if_pos (by omega), if_pos (by omega)]
    generalize hy : rd_T48 l (i : Int) = y
    unfold rngB
    by_cases c1 : y.f0 < a
    · rw [if_pos c1, decide_eq_false (show ¬ a ≤ y.f0 by omega)]; rfl
    · rw [if_neg c1, decide_eq_true (show a ≤ y.f0 by omega)]
      by_cases c2 : y.f1 < y.f0
      · rw [if_pos c2, decide_eq_false (show ¬ y.f0 ≤ y.f1 by omega)]; rfl
      · rw [if_neg c2, decide_eq_true (show y.f0 ≤ y.f1 by omega)]
        by_cases c3 : y.f1 > (s.size : Int)
        · rw [if_pos c3, decide_eq_false (show ¬ y.f1 ≤ (s.size : Int) by omega)]; rfl
        · rw [if_neg c3, decide_eq_true (show y.f1 ≤ (s.size : Int) by omega), e2, ih (i + 1) _ (by omega) (by omega)]; rfl
/-- The fuel for all of it. -/
def fuS (l : List Sp) : Nat := l.length + 1 + (need l + 1 + 4000)
theorem rCheck (s : ByteArray) (l : List Sp) (hs : s.size ≤ 3000) (hl : l.length ≤ 1000) (hx : ∀ x ∈ l, x.f2.size ≤ 3000) : riposteref01_check.f (fuS l) s l = some (splE s l) := by
  unfold riposteref01_check.f riposteref01_SplicesError.f splE fuS
  rw [rText s (by omega) _ (by omega)]
  simp only [Option.bind_some]
  by_cases c : (chkT s).2 = 0
  · rw [if_pos c, if_pos c]
    by_cases c2 : 40 < l.length
    · rw [if_pos (by omega), if_pos c2]; rfl
    · rw [if_neg (by omega), if_neg c2]
      have h0 := rL0 s (by omega) l hl (need l + 1 + 4000) l.length 0 0 (by omega) (by omega)
      rw [List.drop_zero, show ((0 : Nat) : Int) = 0 from rfl] at h0
      rw [h0]
      by_cases c3 : rngB s.size l 0 = true
      · rw [if_pos c3, if_pos c3]
        have hO := rngB_ord c3 (Int.le_refl _) (by omega)
        have h1 := rL1 s hs l (hO.bd hs hx) hl 4000 l.length 0 0 (by omega) (by omega) (by omega) (by omega)
        rw [List.drop_zero, show ((0 : Nat) : Int) = 0 from rfl, Int.add_zero] at h1
        rw [h1]; rfl
      · rw [if_neg c3, if_neg c3]; rfl
  · rw [if_neg c, if_neg c]
theorem splE_ord {s : ByteArray} {l : List Sp} (h : splE s l = 0) : (chkT s).2 = 0 ∧ l.length ≤ 40 ∧ OrdS s.size l 0 ∧ tailE s.size l = 0 := by
  unfold splE at h
  by_cases c : (chkT s).2 = 0
  · rw [if_pos c] at h
    by_cases c2 : 40 < l.length
    · rw [if_pos c2] at h; exact absurd h (by decide)
    · rw [if_neg c2] at h
      by_cases c3 : rngB s.size l 0 = true
      · rw [if_pos c3] at h
        exact ⟨c, by omega, rngB_ord c3 (Int.le_refl _) (by omega), h⟩
      · rw [if_neg c3] at h; exact absurd h (by decide)
  · rw [if_neg c] at h; exact absurd h c
end Go.Proofs.YtggfcmondffodaaDoor.P
namespace Go.Proofs.YtggfcmondffodaaDoor.P
open Go.RowKit Go.Proofs.YtggfcmondffodaaDoorW.PrintWords
set_option linter.unusedVariables false
set_option linter.unusedSimpArgs false
attribute [local irreducible] gr
/-- lex.Apply. -/
def appM (s : ByteArray) (l : List Sp) : ByteArray × Int := if splE s l = 0 then (splM s l, 0) else (⟨#[]⟩, splE s l)
theorem rSpl0 (s : ByteArray) (hs : s.size ≤ 3000) (l : List Sp) (hl : l.length ≤ 1000) (hx : ∀ x ∈ l, x.f2.size ≤ 3000) : ∀ (d i k : Nat) (a : Int) (acc : ByteArray), l.length - i = d → i ≤ l.length → d < k → acc.size ≤ 6000 * i → OrdS s.size (l.drop i) a →
    riposteref01_Spliced.l0 k s l acc a (i : Int) = some (acc ++ ba (splB s (l.drop i) a)) := by
  intro d
  induction d with
  | zero =>
    intro i k a acc hd hi hk ha hO
    obtain ⟨k, rfl, _⟩ := succ_of hk
    obtain ⟨h0, h1⟩ := hO.range
    have hz : (s.extract a.toNat s.size).size ≤ 3000 := by rw [size_ex]; omega
    rw [List.drop_eq_nil_of_le (show l.length ≤ i by omega), riposteref01_Spliced.l0.eq_2, if_neg (by omega), if_pos h0, if_pos h1, if_pos (by omega)]
    unfold splB
    rw [show ba (s.extract a.toNat s.size).data.toList = s.extract a.toNat s.size from ba_ext rfl]
  | succ d ih =>
    intro i k a acc hd hi hk ha hO
    obtain ⟨k, rfl, hk'⟩ := succ_of hk
    have hlt : i < l.length := by omega
    have hxi := hx _ (rd48_mem l i hlt)
    have e2 := up1 i l.length hlt (by omega)
    rw [drop_rd l i hlt] at hO ⊢
    rw [riposteref01_Spliced.l0.eq_2, if_pos (by omega), if_pos (by omega)]
    generalize hy : rd_T48 l (i : Int) = y at *
    obtain ⟨o0, o1, o2, o3, o4⟩ := hO
    have hz : (s.extract a.toNat y.f0.toNat).size ≤ 3000 := by rw [size_ex]; omega
    have hz2 : (s.extract a.toNat y.f0.toNat ++ y.f2).size = (s.extract a.toNat y.f0.toNat).size + y.f2.size := ByteArray.size_append
    rw [if_pos o0, if_pos o1, if_pos (by omega), if_pos (by omega), if_pos (by omega), e2]
    refine (ih (i + 1) k y.f1 _ (by omega) (by omega) (by omega) (by rw [ByteArray.size_append, hz2]; omega) o4).trans ?_
    rw [splB]
    congr 1
    apply ba_ext
    simp [ba]
theorem rSpliced (s : ByteArray) (hs : s.size ≤ 3000) (l : List Sp) (hl : l.length ≤ 1000) (hx : ∀ x ∈ l, x.f2.size ≤ 3000) (hO : OrdS s.size l 0) (k : Nat) (hk : l.length < k) : riposteref01_Spliced.f k s l = some (splM s l) := by
  unfold riposteref01_Spliced.f splM
  have h := rSpl0 s hs l hl hx l.length 0 k 0 (⟨#[]⟩ : ByteArray) (by omega) (by omega) hk (Nat.zero_le _) (by rw [List.drop_zero]; exact hO)
  rw [List.drop_zero, show ((0 : Nat) : Int) = 0 from rfl] at h
  refine h.trans (congrArg some ?_)
  apply ba_ext
  simp [ba]
/-! ### Where a byte goes -/
def mvd (p : Int) : List Sp → Int → Int × Int
  | [], n => (n, 0)
  | x :: r, n => if x.f1 ≤ p then mvd p r (n + gr x) else if x.f0 ≤ p then (0, 7) else mvd p r n
/-! ### What leads back -/
def unS (s : ByteArray) : List Sp → Int → List Sp
  | [], _ => []
  | x :: r, m => ⟨x.f0 + m, x.f0 + m + (x.f2.size : Int), s.extract x.f0.toNat x.f1.toNat⟩ :: unS s r (m + gr x)
theorem unS_length (s : ByteArray) : ∀ (l : List Sp) (m : Int), (unS s l m).length = l.length
  | [], _ => rfl
  | x :: r, m => by unfold unS; rw [List.length_cons, List.length_cons, unS_length s r]
theorem OrdS.in {n : Nat} : ∀ {l : List Sp} {a : Int}, OrdS n l a → ∀ x ∈ l, a ≤ x.f0 ∧ x.f0 ≤ x.f1 ∧ x.f1 ≤ (n : Int)
  | [], _, _, x, hx => by cases hx
  | y :: r, a, h, x, hx => by
    obtain ⟨h0, h1, h2, h3, h4⟩ := h
    rcases List.mem_cons.1 hx with rfl | hx
    · exact ⟨h1, h2, h3⟩
    · have := h4.in x hx
      exact ⟨by omega, this.2⟩
theorem splE_bd {s : ByteArray} {l : List Sp} (h : splE s l = 0) (hx : ∀ x ∈ l, x.f2.size ≤ 3000) : ∀ x ∈ l, BdS x ∧ x.f1 ≤ (s.size : Int) := by
  obtain ⟨h1, h2, h3, h4⟩ := splE_ord h
  have hs := ((chk_iff s).1 h1).1
  exact fun x hm => ⟨h3.bd (by omega) hx x hm, (h3.in x hm).2.2⟩
/-! ### Lists of splices compared; few -/
end Go.Proofs.YtggfcmondffodaaDoor.P
namespace Go.Proofs.YtggfcmondffodaaDoor.P
open Go.RowKit Go.Proofs.YtggfcmondffodaaDoorW.PrintWords Go.Proofs.YtggfcmondffodaaDoorW.PrintLast Go.Proofs.YtggfcmondffodaaDoorW.PrintMore
attribute [local go_sem] min2_int min_two -- for this text's walks alone
set_option linter.unusedVariables false
set_option linter.unusedSimpArgs false

/-! ### riposteref01_Rename: function 22 -/

-- NOT PRINTED: function 4 (ripostelaw01_LexRenames)

-- NOT PRINTED: function 5 (ripostelaw01_LexRenamed)

-- NOT PRINTED: function 54 (lex_common_byte)

-- NOT PRINTED: function 55 (lex_ending_byte)

-- NOT PRINTED: function 23 (lex_Diff)

end Go.Proofs.YtggfcmondffodaaDoor.P
namespace Go.Proofs.YtggfcmondffodaaDoor.P
open Go.RowKit Go.Proofs.YtggfcmondffodaaDoorW.PrintWords
set_option linter.unusedVariables false
set_option linter.unusedSimpArgs false
theorem tk_drop (l : List Tk) (i : Nat) (h : i < l.length) : l.drop i = rd_T35 l (i : Int) :: l.drop (i + 1) := by
  rw [List.drop_eq_getElem_cons h]
  congr 1
  unfold rd_T35
  simp [List.getD, List.getElem?_eq_getElem h]
theorem renS_cons_pos (old name : ByteArray) (x : Tk) (r : List Tk) (h : x.f1 = old) : renS old name (x :: r) = ⟨x.f2, x.f2 + (old.size : Int), name⟩ :: renS old name r := by
  unfold renS; rw [List.filter_cons_of_pos (by exact decide_eq_true h)]; rfl
theorem renS_cons_neg (old name : ByteArray) (x : Tk) (r : List Tk) (h : ¬ x.f1 = old) : renS old name (x :: r) = renS old name r := by
  unfold renS; rw [List.filter_cons_of_neg (by simpa using h)]
theorem tok_name {s : ByteArray} {l : List Tk} {i j : Nat} (h : Scan s i l j) {t : ByteArray} (ht : nameB t = true) : ∀ x ∈ l, x.f1 = t → x.f0 = 1 := by
  intro x hx e
  obtain ⟨n, -, -, -, hf⟩ := h.mem x hx
  have h1 := (firstM_self kwM hf).1
  rw [e] at h1
  unfold nameB rightB at ht
  have ht2 : (decide ((firstM kwM t).2 = 0) && (decide ((firstM kwM t).1.1 = 1) && decide ((firstM kwM t).1.2 = t))) = true := ht
  rw [h1] at ht2
  simpa using ht2
/-- The bytes from a place on. -/
def Lr (s : ByteArray) (i : Nat) : List UInt8 := s.data.toList.drop i
theorem Lr_ex (s : ByteArray) (i : Nat) : (s.extract i s.size).data.toList = Lr s i := by
  rw [data_ex, List.take_of_length_le (by rw [data_length]; exact Nat.le_refl _)]; rfl
theorem Lr_len (s : ByteArray) (i : Nat) : (Lr s i).length = s.size - i := by unfold Lr; rw [List.length_drop, data_length]
theorem Lr_split (s : ByteArray) (i n : Nat) (h : i + n ≤ s.size) : Lr s i = (s.extract i (i + n)).data.toList ++ Lr s (i + n) := by
  unfold Lr
  rw [data_ex, ← List.drop_drop, List.drop_take, Nat.add_sub_cancel_left]
  exact (List.take_append_drop n _).symm
theorem bt_Lr (s : ByteArray) (i j : Nat) : bt s ((i + j : Nat) : Int) = (((Lr s i)[j]?).getD 0).toNat := by
  rw [bt_list]; unfold Lr; rw [List.getElem?_drop]
theorem bt_head (s : ByteArray) (i : Nat) : bt s (i : Int) = (((Lr s i)[0]?).getD 0).toNat := bt_Lr s i 0
theorem Lr_app {s : ByteArray} {i : Nat} {A B : List UInt8} (h : Lr s i = A ++ B) : Lr s (i + A.length) = B ∧ (i ≤ s.size → i + A.length ≤ s.size) := by
  have hl := Lr_len s i
  rw [h, List.length_append] at hl
  refine ⟨?_, fun hi => by omega⟩
  have : Lr s (i + A.length) = (Lr s i).drop A.length := by unfold Lr; rw [List.drop_drop]
  rw [this, h, List.drop_left]
/-- At a place stand these bytes. -/
theorem begT_Lr {s z : ByteArray} {i : Nat} {B : List UInt8} (hi : i ≤ s.size) (h : Lr s i = z.data.toList ++ B) : begT (s.extract i s.size) z ∧ i + z.size ≤ s.size ∧ Lr s (i + z.size) = B ∧ bt (s.extract i s.size) (z.size : Int) = bt s ((i + z.size : Nat) : Int) := by
  obtain ⟨h1, h2⟩ := Lr_app h
  rw [data_length] at h1 h2
  have h3 := h2 hi
  have hb : ∀ j : Nat, bt (s.extract i s.size) (j : Int) = bt s ((i + j : Nat) : Int) := by
    intro j
    by_cases c : i + j < s.size
    · exact bt_ex s i s.size j c
    · rw [bt_out _ _ (by rw [size_ex]; omega), bt_out s _ (by omega)]
  refine ⟨⟨by rw [size_ex]; omega, fun j hj => ?_⟩, h3, h1, hb _⟩
  rw [hb, bt_Lr, h, List.getElem?_append_left (by rw [data_length]; exact hj), ← bt_list]
theorem Lr_begT {s z : ByteArray} {i : Nat} (hi : i ≤ s.size) (h : begT (s.extract i s.size) z) : Lr s i = z.data.toList ++ Lr s (i + z.size) ∧ i + z.size ≤ s.size := by
  have hz := h.1
  rw [size_ex] at hz
  have h2 := begT_ex h
  rw [ex_ex s i s.size 0 z.size (by omega), Nat.add_zero] at h2
  refine ⟨?_, by omega⟩
  rw [Lr_split s i z.size (by omega), h2]
theorem splB_skip (s : ByteArray) (R : List Sp) (i n : Nat) (h : OrdS s.size R ((i + n : Nat) : Int)) : splB s R (i : Int) = (s.extract i (i + n)).data.toList ++ splB s R ((i + n : Nat) : Int) := by
  cases R with
  | nil =>
    unfold splB
    have h2 := h.2
    rw [Int.toNat_natCast, Int.toNat_natCast, Lr_ex, Lr_ex]
    exact Lr_split s i n (by omega)
  | cons x r =>
    obtain ⟨h1, h2, h3, h4, -⟩ := h
    unfold splB
    rw [Int.toNat_natCast, Int.toNat_natCast]
    have e : (s.extract i x.f0.toNat) = s.extract i (i + n) ++ s.extract (i + n) x.f0.toNat := by
      apply ba_ext
      rw [app_ba, ba_data, data_ex, data_ex, data_ex]
      have hh : i + n ≤ x.f0.toNat := by omega
      rw [List.drop_take, List.drop_take, List.drop_take, ← List.drop_drop, Nat.add_sub_cancel_left]
      conv => lhs; rw [show x.f0.toNat - i = n + (x.f0.toNat - (i + n)) by omega, List.take_add]
    rw [e, app_ba, ba_data, List.append_assoc]
theorem Scan.ord {s : ByteArray} {i j : Nat} {l : List Tk} (h : Scan s i l j) (hj : j ≤ s.size) : TOrd s.size l (i : Int) := by
  induction h with
  | done i => show (i : Int) ≤ s.size; omega
  | blank _ _ _ ih => exact (ih hj).le (by omega)
  | note _ _ _ ih => exact (ih hj).le (by omega)
  | @tok i j l k t h1 h2 h3 h4 h5 ih =>
    have := tok_size h4
    exact ⟨Int.le_refl _, by simp only; omega, by have := ih hj; rw [show ((i : Int) + (t.size : Int)) = ((i + t.size : Nat) : Int) by omega]; exact this⟩
theorem noteL_uniq (s : ByteArray) (i n : Nat) (h1 : ∀ k, k < n → i + k < s.size ∧ bt s ((i + k : Nat) : Int) ≠ 10) (h2 : s.size ≤ i + n ∨ bt s ((i + n : Nat) : Int) = 10) : noteL s i = n := by
  have key : ∀ f i n, s.size - i ≤ f → (∀ k, k < n → i + k < s.size ∧ bt s ((i + k : Nat) : Int) ≠ 10) → (s.size ≤ i + n ∨ bt s ((i + n : Nat) : Int) = 10) → ll s f i = n := by
    intro f
    induction f with
    | zero =>
      intro i n hf h1 h2
      cases n with
      | zero => rfl
      | succ n => have := (h1 0 (by omega)).1; omega
    | succ f ih =>
      intro i n hf h1 h2
      unfold ll
      cases n with
      | zero =>
        rw [if_neg]
        rintro ⟨a, b⟩
        rcases h2 with h2 | h2
        · omega
        · exact b h2
      | succ n =>
        rw [if_pos (show i < s.size ∧ bt s (i : Int) ≠ 10 from h1 0 (by omega)), ih (i + 1) n (by omega) (fun k hk => by have := h1 (k + 1) (by omega); rw [show i + 1 + k = i + (k + 1) by omega]; exact this) (by rw [show i + 1 + n = i + (n + 1) by omega]; exact h2)]
  exact key s.size i n (by omega) h1 h2
theorem noteL_in (s : ByteArray) (i : Nat) : (∀ k, k < noteL s i → i + k < s.size ∧ bt s ((i + k : Nat) : Int) ≠ 10) ∧ (s.size ≤ i + noteL s i ∨ bt s ((i + noteL s i : Nat) : Int) = 10) := by
  have key : ∀ f i, s.size - i ≤ f → (∀ k, k < ll s f i → i + k < s.size ∧ bt s ((i + k : Nat) : Int) ≠ 10) ∧ (s.size ≤ i + ll s f i ∨ bt s ((i + ll s f i : Nat) : Int) = 10) := by
    intro f
    induction f with
    | zero => intro i hf; exact ⟨fun k hk => absurd hk (Nat.not_lt_zero _), .inl (by show s.size ≤ i + 0; omega)⟩
    | succ f ih =>
      intro i hf
      unfold ll
      by_cases c : i < s.size ∧ bt s (i : Int) ≠ 10
      · rw [if_pos c]
        obtain ⟨a, b⟩ := ih (i + 1) (by omega)
        refine ⟨fun k hk => ?_, by rw [show i + (ll s f (i + 1) + 1) = i + 1 + ll s f (i + 1) by omega]; exact b⟩
        cases k with
        | zero => exact c
        | succ k => have := a k (by omega); rw [show i + (k + 1) = i + 1 + k by omega]; exact this
      · rw [if_neg c]
        refine ⟨fun k hk => absurd hk (Nat.not_lt_zero _), ?_⟩
        by_cases c2 : i < s.size
        · exact .inr (Classical.not_not.1 fun h => c ⟨c2, h⟩)
        · exact .inl (by omega)
  exact key s.size i (by omega)
/-- A name by itself. -/
theorem name_self {t : ByteArray} (h : nameB t = true) : firstM kwM t = ((1, t), 0) := by
  have h2 : (decide ((firstM kwM t).2 = 0) && (decide ((firstM kwM t).1.1 = 1) && decide ((firstM kwM t).1.2 = t))) = true := h
  simp only [Bool.and_eq_true, decide_eq_true_eq] at h2
  obtain ⟨a, b, c⟩ := h2
  exact Prod.ext (Prod.ext b c) a
theorem name_small {t : ByteArray} (h : nameB t = true) : smB (bt t 0) = true ∧ ∀ j, j < t.size → wdB (bt t (j : Int)) = true := by
  have h1 := name_self h
  obtain ⟨-, -, -, h0, h4⟩ := firstM_self kwM h1
  have hw : wlen t ≠ 0 := fun e => by have := h4.2 e; cases this
  have hz : wlen t = t.size ∧ smB (bt t 0) = true := by
    unfold firstM at h1
    rw [if_neg hw] at h1
    by_cases c2 : dgB (bt t 0) = true
    · rw [if_pos c2] at h1
      exact absurd (show (2 : Int) = 1 from congrArg (fun y => y.1.1) h1) (by decide)
    · rw [if_neg c2] at h1
      by_cases c3 : smB (bt t 0) = false
      · rw [if_pos c3] at h1
        exact absurd (show (0 : Int) = 1 from congrArg (fun y => y.1.1) h1) (by decide)
      · rw [if_neg c3] at h1
        by_cases c4 : kwM (t.extract 0 (wlen t)) = true
        · rw [if_pos c4] at h1
          exact absurd (show (3 : Int) = 1 from congrArg (fun y => y.1.1) h1) (by decide)
        · rw [if_neg c4] at h1
          by_cases c5 : 12 < (t.extract 0 (wlen t)).size
          · rw [if_pos c5] at h1
            exact absurd (show (0 : Int) = 1 from congrArg (fun y => y.1.1) h1) (by decide)
          · rw [if_neg c5] at h1
            have e : t.extract 0 (wlen t) = t := congrArg (fun y => y.1.2) h1
            have := congrArg ByteArray.size e
            have := wlen_le t
            rw [size_ex] at *
            exact ⟨by omega, by simpa using c3⟩
  exact ⟨hz.2, fun j hj => wlen_in t j (by omega)⟩
theorem sm_word {c : Int} (h : smB c = true) : wdB c = true ∧ spB c = false ∧ c ≠ 126 ∧ c ≠ 61 ∧ c ≠ 62 := by
  unfold smB at h
  simp only [Bool.and_eq_true, decide_eq_true_eq] at h
  refine ⟨?_, ?_, by omega, by omega, by omega⟩
  · unfold wdB smB; rw [decide_eq_true h.1, decide_eq_true h.2]; simp
  · rw [Bool.eq_false_iff]; intro e; rw [spB_iff] at e; omega
theorem nx_swap {k : Int} {t : ByteArray} {c d : Int} (h : nxB k t c = true) (hd : d = c ∨ (smB c = true ∧ smB d = true)) : nxB k t d = true := by
  rcases hd with rfl | ⟨h1, h2⟩
  · exact h
  · unfold nxB at h ⊢
    by_cases e : k = 4
    · rw [if_pos e]
      obtain ⟨-, -, -, a, b⟩ := sm_word h2
      rw [decide_eq_false a, decide_eq_false b]; simp
    · rw [if_neg e, (sm_word h1).1] at h; cases h
/-- The tokens, moved by so much, the one name for the other one. -/
def mvT (old name : ByteArray) : List Tk → Int → List Tk
  | [], _ => []
  | x :: r, d => ⟨x.f0, if x.f1 = old then name else x.f1, x.f2 + d⟩ :: mvT old name r (if x.f1 = old then d + ((name.size : Int) - (old.size : Int)) else d)
theorem mvT_length (old name : ByteArray) : ∀ (l : List Tk) (d : Int), (mvT old name l d).length = l.length
  | [], _ => rfl
  | x :: r, d => by unfold mvT; rw [List.length_cons, List.length_cons, mvT_length old name r]
theorem Scan.end_nil {s : ByteArray} {i j : Nat} {l : List Tk} (h : Scan s i l j) (hi : s.size ≤ i) : l = [] := by
  cases h with
  | done => rfl
  | blank h1 => omega
  | note h1 => omega
  | tok h1 => omega
theorem Scan.at_lf {old name s : ByteArray} {i j : Nat} {l : List Tk} (h : Scan s i l j) (hi : bt s (i : Int) = 10) (hj : j ≤ s.size) : OrdS s.size (renS old name l) ((i + 1 : Nat) : Int) ∨ (l = [] ∧ i = j) := by
  cases h with
  | done => exact .inr ⟨rfl, rfl⟩
  | blank h1 h2 h3 => exact .inl (renS_ord _ _ _ _ _ _ (h3.ord hj) (by omega) (Int.le_refl _))
  | note h1 h2 => rw [hi] at h2; cases h2
  | tok h1 h2 => rw [hi] at h2; cases h2
/-- The first byte behind splices: the text's own one, or both are names' first ones. -/
theorem head_spl (s old name : ByteArray) (ho : nameB old = true) (hn : nameB name = true) {i j : Nat} {l : List Tk} (h : Scan s i l j) (hj : j = s.size) (t : ByteArray) (m : Nat) (hm : Lr t m = splB s (renS old name l) (i : Int)) :
    bt t (m : Int) = bt s (i : Int) ∨ (smB (bt s (i : Int)) = true ∧ smB (bt t (m : Int)) = true) := by
  have hbt : ∀ n, 0 < n → OrdS s.size (renS old name l) ((i + n : Nat) : Int) → bt t (m : Int) = bt s (i : Int) := by
    intro n hn0 hO
    have hle := hO.range.2
    rw [splB_skip s _ i n hO] at hm
    rw [bt_head, hm, List.getElem?_append_left (by rw [data_length, size_ex]; omega), bt_head s i, Lr_split s i n (by omega), List.getElem?_append_left (by rw [data_length, size_ex]; omega)]
  cases h with
  | done =>
    refine .inl ?_
    rw [show renS old name ([] : List Tk) = [] from rfl, splB, Int.toNat_natCast, Lr_ex] at hm
    rw [bt_head, hm, ← bt_head]
  | blank h1 h2 h3 => exact .inl (hbt 1 Nat.one_pos (renS_ord _ _ _ _ _ _ (h3.ord (by omega)) (by omega) (Int.le_refl _)))
  | note h1 h2 h3 => exact .inl (hbt (noteL s i) (noteL_pos s i h1 h2) (renS_ord _ _ _ _ _ _ (h3.ord (by omega)) (by omega) (Int.le_refl _)))
  | @tok _ _ r k z h1 h2 h3 h4 h5 =>
    have hz := tok_size h4
    by_cases c : z = old
    · refine .inr ?_
      obtain ⟨h6, h7, -, -, -⟩ := firstM_self kwM h4
      obtain ⟨h8, -⟩ := Lr_begT (by omega) h7
      rw [renS_cons_pos old name _ _ c, splB] at hm
      simp only [Int.toNat_natCast] at hm
      rw [ex_empty s i i (.inl (Nat.le_refl _))] at hm
      have hm2 : Lr t m = name.data.toList ++ splB s (renS old name r) ((i : Int) + (old.size : Int)) := hm
      have e1 : bt t (m : Int) = bt name 0 := by
        rw [bt_head, hm2]
        obtain ⟨-, -, -, h0, -⟩ := firstM_self kwM (name_self hn)
        rw [List.getElem?_append_left (by rw [data_length]; exact h0), show (0 : Int) = ((0 : Nat) : Int) from rfl, bt_list]
      have e2 : bt s (i : Int) = bt old 0 := by
        rw [bt_head, h8, c]
        rw [List.getElem?_append_left (by rw [data_length, ← c]; exact hz.1), show (0 : Int) = ((0 : Nat) : Int) from rfl, bt_list]
      rw [e1, e2]
      exact ⟨(name_small ho).1, (name_small hn).1⟩
    · rw [renS_cons_neg old name _ _ c] at hm hbt
      exact .inl (hbt z.size hz.1 (renS_ord _ _ _ _ _ _ (h5.ord (by omega)) (by omega) (Int.le_refl _)))
theorem copy_step {s t : ByteArray} {R : List Sp} {i n m : Nat} (hO : OrdS s.size R ((i + n : Nat) : Int)) (hm : m ≤ t.size) (h : Lr t m = splB s R (i : Int)) :
    m + n ≤ t.size ∧ Lr t (m + n) = splB s R ((i + n : Nat) : Int) ∧ (∀ k, k < n → bt t ((m + k : Nat) : Int) = bt s ((i + k : Nat) : Int)) ∧ t.extract m (m + n) = s.extract i (i + n) ∧ Lr t m = (s.extract i (i + n)).data.toList ++ splB s R ((i + n : Nat) : Int) := by
  have hle := hO.range.2
  rw [splB_skip s R i n hO] at h
  have hz : (s.extract i (i + n)).size = n := by rw [size_ex]; omega
  obtain ⟨h1, h2, h3, -⟩ := begT_Lr hm h
  rw [hz] at h2 h3
  refine ⟨h2, h3, fun k hk => ?_, ?_, h⟩
  · rw [bt_Lr t m k, h, List.getElem?_append_left (by rw [data_length, hz]; exact hk), ← bt_list, bt_ex s i (i + n) k (by omega)]
  · have := begT_ex h1
    rw [hz, ex_ex t m t.size 0 n (by omega), Nat.add_zero] at this
    exact this
theorem back_step {s t : ByteArray} {R : List Sp} {i n m : Nat} (hi : i + n ≤ s.size) (hO : OrdS t.size R ((m + n : Nat) : Int)) (he : t.extract m (m + n) = s.extract i (i + n)) (h : splB t R ((m + n : Nat) : Int) = Lr s (i + n)) : splB t R (m : Int) = Lr s i := by
  rw [splB_skip t R m n hO, he, h, ← Lr_split s i n hi]
theorem nat_off (i m n : Nat) : ((m + n : Nat) : Int) - ((i + n : Nat) : Int) = (m : Int) - (i : Int) := by omega
set_option maxHeartbeats 1000000 in
theorem scan_ren (s old name : ByteArray) (ho : nameB old = true) (hn : nameB name = true) {i j : Nat} {l : List Tk} (h : Scan s i l j) (hj : j = s.size) (hno : ∀ x ∈ l, x.f1 ≠ name) : ∀ (t : ByteArray) (m : Nat), i ≤ s.size → m ≤ t.size → Lr t m = splB s (renS old name l) (i : Int) →
    Scan t m (mvT old name l ((m : Int) - (i : Int))) t.size ∧ splB t (renS name old (mvT old name l ((m : Int) - (i : Int)))) (m : Int) = Lr s i := by
  induction h with
  | done i =>
    intro t m hi hm hL
    have e : splB s (renS old name []) (i : Int) = Lr s i := by
      rw [show renS old name ([] : List Tk) = [] from rfl, splB, Int.toNat_natCast, Lr_ex]
    rw [e] at hL
    have h1 := Lr_len t m
    have h2 := Lr_len s i
    rw [hL, h2] at h1
    obtain rfl : m = t.size := by omega
    refine ⟨.done _, ?_⟩
    show splB t (renS name old ([] : List Tk)) (t.size : Int) = _
    rw [show renS name old ([] : List Tk) = [] from rfl, splB, Int.toNat_natCast, Lr_ex]
    exact hL
  | @blank i j l h1 h2 h3 ih =>
    intro t m hi hm hL
    have hO := renS_ord s.size old name l _ ((i + 1 : Nat) : Int) (h3.ord (by omega)) (by omega) (Int.le_refl _)
    obtain ⟨c1, c2, c3, c4, -⟩ := copy_step hO hm hL
    obtain ⟨r1, r2⟩ := ih hj hno t (m + 1) (by omega) c1 c2
    rw [nat_off] at r1 r2
    have e : bt t (m : Int) = bt s (i : Int) := c3 0 Nat.one_pos
    refine ⟨.blank (by omega) (by rw [e]; exact h2) r1, back_step (by omega) (renS_ord _ _ _ _ _ _ (r1.ord (Nat.le_refl _)) (by omega) (Int.le_refl _)) c4 r2⟩
  | @note i j l h1 h2 h3 ih =>
    intro t m hi hm hL
    have hp := noteL_pos s i h1 h2
    have hle := noteL_le s i hi
    have hO := renS_ord s.size old name l _ ((i + noteL s i : Nat) : Int) (h3.ord (by omega)) (by omega) (Int.le_refl _)
    obtain ⟨c1, c2, c3, c4, -⟩ := copy_step hO hm hL
    obtain ⟨r1, r2⟩ := ih hj hno t (m + noteL s i) hle c1 c2
    rw [nat_off] at r1 r2
    have e : bt t (m : Int) = bt s (i : Int) := c3 0 hp
    obtain ⟨n1, n2⟩ := noteL_in s i
    have hN : noteL t m = noteL s i := by
      refine noteL_uniq t m _ (fun k hk => ⟨by omega, by rw [c3 k hk]; exact (n1 k hk).2⟩) ?_
      rcases n2 with n2 | n2
      · refine .inl ?_
        have hl := h3.end_nil n2
        subst hl
        rw [show renS old name ([] : List Tk) = [] from rfl, splB, Int.toNat_natCast, Lr_ex] at c2
        have q1 := Lr_len t (m + noteL s i)
        have q2 := Lr_len s (i + noteL s i)
        rw [c2, q2] at q1
        omega
      · refine .inr ?_
        rcases head_spl s old name ho hn h3 hj t (m + noteL s i) c2 with q | ⟨q, -⟩
        · rw [q]; exact n2
        · rw [n2] at q; exact absurd q (by decide)
    refine ⟨.note (by omega) (by rw [e]; exact h2) (by rw [hN]; exact r1), back_step hle (renS_ord _ _ _ _ _ _ (r1.ord (Nat.le_refl _)) (by omega) (Int.le_refl _)) c4 r2⟩
  | @tok i j l k z h1 h2 h3 h4 h5 ih =>
    intro t m hi hm hL
    have hz := tok_size h4
    obtain ⟨f1, f2, f3, f4, f5⟩ := firstM_self kwM h4
    obtain ⟨g1, g2⟩ := Lr_begT hi f2
    rw [(begT_Lr hi g1).2.2.2] at f3
    have hno' : ∀ x ∈ l, x.f1 ≠ name := fun x hx => hno x (List.mem_cons_of_mem _ hx)
    by_cases c : z = old
    · subst c
      have hk1 : k = 1 := congrArg (fun y => y.1.1) (f1.symm.trans (name_self ho))
      subst hk1
      rw [renS_cons_pos z name _ _ rfl, splB] at hL
      simp only [Int.toNat_natCast] at hL
      rw [ex_empty s i i (.inl (Nat.le_refl _))] at hL
      replace hL : Lr t m = name.data.toList ++ splB s (renS z name l) ((i + z.size : Nat) : Int) := hL
      obtain ⟨b1, b2, b3, b4⟩ := begT_Lr hm hL
      obtain ⟨r1, r2⟩ := ih hj hno' t (m + name.size) hz.2 b2 b3
      have hoff : (m : Int) - (i : Int) + ((name.size : Int) - (z.size : Int)) = ((m + name.size : Nat) : Int) - ((i + z.size : Nat) : Int) := by omega
      have hmv : mvT z name (⟨1, z, (i : Int)⟩ :: l) ((m : Int) - (i : Int)) = ⟨1, name, (m : Int)⟩ :: mvT z name l (((m + name.size : Nat) : Int) - ((i + z.size : Nat) : Int)) := by
        rw [mvT]
        simp only [if_true]
        rw [hoff, show (i : Int) + ((m : Int) - (i : Int)) = (m : Int) by omega]
      rw [hmv]
      have hfn := name_self hn
      obtain ⟨-, -, -, hn0, -⟩ := firstM_self kwM hfn
      have hnx : nxB 1 name (bt (t.extract m t.size) (name.size : Int)) = true := by
        rw [b4]
        have : nxB 1 name (bt s ((i + z.size : Nat) : Int)) = true := f3
        exact nx_swap this (head_spl s z name ho hn h5 hj t _ b3)
      have hb0 : bt t (m : Int) = bt name 0 := by
        rw [bt_head, hL, List.getElem?_append_left (by rw [data_length]; exact hn0), show (0 : Int) = ((0 : Nat) : Int) from rfl, bt_list]
      obtain ⟨w1, w2, w3, -⟩ := sm_word (name_small hn).1
      refine ⟨.tok (by omega) (by rw [hb0]; exact w2) (by rw [hb0]; exact w3) (firstM_of kwM hfn b1 hnx) r1, ?_⟩
      rw [renS_cons_pos name z _ _ rfl, splB]
      simp only [Int.toNat_natCast]
      rw [ex_empty t m m (.inl (Nat.le_refl _)), g1]
      show z.data.toList ++ splB t (renS name z (mvT z name l (((m + name.size : Nat) : Int) - ((i + z.size : Nat) : Int)))) ((m + name.size : Nat) : Int) = _
      rw [r2]
    · have hzn : z ≠ name := hno _ List.mem_cons_self
      rw [renS_cons_neg old name _ _ c] at hL
      have hO := renS_ord s.size old name l _ ((i + z.size : Nat) : Int) (h5.ord (by omega)) (by omega) (Int.le_refl _)
      obtain ⟨c1, c2, c3, c4, c5⟩ := copy_step hO hm hL
      have hze : s.extract i (i + z.size) = z := by
        have := begT_ex f2
        rw [ex_ex s i s.size 0 z.size (by omega), Nat.add_zero] at this
        exact this
      rw [hze] at c5
      obtain ⟨b1, b2, b3, b4⟩ := begT_Lr hm c5
      obtain ⟨r1, r2⟩ := ih hj hno' t (m + z.size) hz.2 c1 c2
      rw [nat_off] at r1 r2
      have hmv : mvT old name (⟨k, z, (i : Int)⟩ :: l) ((m : Int) - (i : Int)) = ⟨k, z, (m : Int)⟩ :: mvT old name l ((m : Int) - (i : Int)) := by
        rw [mvT]
        simp only [if_neg c]
        rw [show (i : Int) + ((m : Int) - (i : Int)) = (m : Int) by omega]
      rw [hmv]
      have hnx : nxB k z (bt (t.extract m t.size) (z.size : Int)) = true := by
        rw [b4]
        exact nx_swap f3 (head_spl s old name ho hn h5 hj t _ b3)
      have e : bt t (m : Int) = bt s (i : Int) := c3 0 hz.1
      refine ⟨.tok (by omega) (by rw [e]; exact h2) (by rw [e]; exact h3) (firstM_of kwM f1 b1 hnx) r1, ?_⟩
      rw [renS_cons_neg name old _ _ hzn]
      exact back_step hz.2 (renS_ord _ _ _ _ _ _ (r1.ord (Nat.le_refl _)) (by omega) (Int.le_refl _)) c4 r2
theorem splB_all (P : UInt8 → Prop) (s : ByteArray) (hs : ∀ c ∈ s.data.toList, P c) : ∀ (R : List Sp) (a : Int), (∀ x ∈ R, ∀ c ∈ x.f2.data.toList, P c) → ∀ c ∈ splB s R a, P c
  | [], a, _, c, hc => by
    unfold splB at hc
    rw [data_ex] at hc
    exact hs c (List.mem_of_mem_take (List.mem_of_mem_drop hc))
  | x :: r, a, h, c, hc => by
    unfold splB at hc
    rcases List.mem_append.1 hc with hc | hc
    · rw [data_ex] at hc
      exact hs c (List.mem_of_mem_take (List.mem_of_mem_drop hc))
    · rcases List.mem_append.1 hc with hc | hc
      · exact h x List.mem_cons_self c hc
      · exact splB_all P s hs r x.f1 (fun y hy => h y (List.mem_cons_of_mem _ hy)) c hc
theorem bt_all (s : ByteArray) : (∀ i, i < s.size → okB (bt s (i : Int)) = true) ↔ ∀ c ∈ s.data.toList, okB (c.toNat : Int) = true := by
  constructor
  · intro h c hc
    obtain ⟨i, hi, rfl⟩ := List.getElem_of_mem hc
    have := h i (by rw [← data_length]; exact hi)
    rw [bt_list, List.getElem?_eq_getElem hi] at this
    exact this
  · intro h i hi
    have hi' : i < s.data.toList.length := by rw [data_length]; exact hi
    rw [bt_list, List.getElem?_eq_getElem hi']
    exact h _ (List.getElem_mem hi')
theorem wd_ok {c : Int} (h : wdB c = true) : okB c = true := by
  unfold wdB dgB smB gtB at h
  unfold okB
  simp only [Bool.or_eq_true, Bool.and_eq_true, decide_eq_true_eq] at h ⊢
  omega
/-- What the law LexRenamed compares of two tokens. -/
def ren1 (old name : ByteArray) (x y : Tk) : Prop := x.f0 = y.f0 ∧ ((x.f1 = y.f1 ∧ x.f1 ≠ old) ∨ (x.f0 = 1 ∧ x.f1 = old ∧ y.f1 = name))
inductive Two (P : Tk → Tk → Prop) : List Tk → List Tk → Prop
  | nil : Two P [] []
  | cons {x y : Tk} {a b : List Tk} : P x y → Two P a b → Two P (x :: a) (y :: b)
theorem mvT_two (old name : ByteArray) : ∀ (l : List Tk) (d : Int), (∀ x ∈ l, x.f1 = old → x.f0 = 1) → Two (ren1 old name) l (mvT old name l d)
  | [], _, _ => .nil
  | x :: r, d, h => by
    unfold mvT
    refine .cons ⟨rfl, ?_⟩ (mvT_two old name r _ fun y hy => h y (List.mem_cons_of_mem _ hy))
    by_cases c : x.f1 = old
    · exact .inr ⟨h x List.mem_cons_self c, c, if_pos c⟩
    · exact .inl ⟨(if_neg c).symm, c⟩
theorem mvT_name (old name : ByteArray) (hne : old ≠ name) : ∀ (l : List Tk) (d : Int), (mvT old name l d).any (fun t => decide (t.f1 = old)) = false
  | [], _ => rfl
  | x :: r, d => by
    unfold mvT
    rw [List.any_cons, mvT_name old name hne r, Bool.or_false]
    refine decide_eq_false ?_
    by_cases c : x.f1 = old
    · simp only [if_pos c]; exact fun e => hne e.symm
    · simp only [if_neg c]; exact c
theorem mvT_some (old name : ByteArray) : ∀ (l : List Tk) (d : Int), renS old name l ≠ [] → renS name old (mvT old name l d) ≠ []
  | [], _, h => absurd rfl h
  | x :: r, d, h => by
    unfold mvT
    by_cases c : x.f1 = old
    · rw [if_pos c, renS_cons_pos name old _ _ rfl]; exact List.cons_ne_nil _ _
    · rw [renS_cons_neg old name _ _ c] at h
      rw [if_neg c, if_neg c]
      by_cases c2 : x.f1 = name
      · rw [renS_cons_pos name old ⟨x.f0, x.f1, x.f2 + d⟩ _ c2]; exact List.cons_ne_nil _ _
      · rw [renS_cons_neg name old ⟨x.f0, x.f1, x.f2 + d⟩ _ c2]; exact mvT_some old name r d h
/-- A text that is renamed, and renamed back, is the text before; the kinds of its tokens stay. -/
theorem renamed (s old name t : ByteArray) (h : renM s old name = (t, 0)) : renM t name old = (s, 0) ∧ (toksM kwM s).2.2 = 0 ∧ (toksM kwM t).2.2 = 0 ∧ Two (ren1 old name) (toksM kwM s).1 (toksM kwM t).1 := by
  unfold renM at h
  by_cases c1 : (toksM kwM s).2.2 = 0
  · rw [if_neg (by simpa using c1)] at h
    by_cases c2 : nameB old = false ∨ nameB name = false
    · rw [if_pos c2] at h; exact absurd (show (2 : Int) = 0 from congrArg Prod.snd h) (by decide)
    · rw [if_neg c2] at h
      have ho : nameB old = true := by cases e : nameB old <;> simp_all
      have hn : nameB name = true := by cases e : nameB name <;> simp_all
      by_cases c3 : renS old name (toksM kwM s).1 = []
      · rw [if_pos c3] at h; exact absurd (show (7 : Int) = 0 from congrArg Prod.snd h) (by decide)
      · rw [if_neg c3] at h
        by_cases c4 : ((toksM kwM s).1.any fun t => decide (t.f1 = name)) = true
        · rw [if_pos c4] at h; exact absurd (show (6 : Int) = 0 from congrArg Prod.snd h) (by decide)
        · rw [if_neg c4] at h
          by_cases c5 : 2500 < (splM s (renS old name (toksM kwM s).1)).size
          · rw [if_pos c5] at h; exact absurd (show (5 : Int) = 0 from congrArg Prod.snd h) (by decide)
          · rw [if_neg c5] at h
            have ht : splM s (renS old name (toksM kwM s).1) = t := congrArg Prod.fst h
            obtain ⟨q1, q2, q3⟩ := (toks_iff s _).1 ⟨rfl, c1⟩
            obtain ⟨q4, q5⟩ := (chk_iff s).1 q1
            rw [ht] at c5
            refine ⟨?_, c1, ?_⟩
            all_goals
              generalize hA : (toksM kwM s).1 = a at *
              have hno : ∀ x ∈ a, x.f1 ≠ name := fun x hx e => c4 (List.any_eq_true.2 ⟨x, hx, decide_eq_true e⟩)
              have hLr : Lr t 0 = splB s (renS old name a) ((0 : Nat) : Int) := by rw [← ht]; rfl
              obtain ⟨r1, r2⟩ := scan_ren s old name ho hn q2 rfl hno t 0 (Nat.zero_le _) (Nat.zero_le _) hLr
              have htok : (toksM kwM t).1 = mvT old name a (((0 : Nat) : Int) - ((0 : Nat) : Int)) ∧ (toksM kwM t).2.2 = 0 := by
                refine (toks_iff t _).2 ⟨(chk_iff t).2 ⟨by omega, ?_⟩, r1, by rw [mvT_length]; exact q3⟩
                rw [bt_all]
                rw [bt_all] at q5
                intro c hc
                have hc2 : c ∈ splB s (renS old name a) ((0 : Nat) : Int) := by rw [← hLr]; exact hc
                refine splB_all (fun c => okB (c.toNat : Int) = true) s q5 _ _ (fun x hx c hc => ?_) c hc2
                unfold renS at hx
                obtain ⟨y, -, rfl⟩ := List.mem_map.1 hx
                exact (bt_all name).1 (fun i hi => wd_ok ((name_small hn).2 i hi)) c hc
            · have hone : old ≠ name := by
                intro e
                apply c4
                unfold renS at c3
                have : (a.filter fun t => decide (t.f1 = old)) ≠ [] := fun e => c3 (by rw [e]; rfl)
                obtain ⟨y, hy⟩ := List.exists_mem_of_ne_nil _ this
                have hy2 := List.mem_filter.1 hy
                exact List.any_eq_true.2 ⟨y, hy2.1, by rw [← e]; exact hy2.2⟩
              unfold renM
              rw [htok.1, if_neg (by simpa using htok.2), if_neg (by rw [ho, hn]; simp), if_neg (mvT_some old name a _ c3), mvT_name old name hone a, if_neg (by decide)]
              have hs : splM t (renS name old (mvT old name a (((0 : Nat) : Int) - ((0 : Nat) : Int)))) = s := by
                unfold splM
                apply ba_ext
                rw [ba_data]
                exact r2
              rw [hs, if_neg (by omega)]
            · refine ⟨htok.2, ?_⟩
              rw [htok.1]
              exact mvT_two old name a _ (tok_name q2 ho)
  · rw [if_pos (by simpa using c1)] at h
    exact absurd (congrArg Prod.snd h) c1
end Go.Proofs.YtggfcmondffodaaDoor.P
namespace Go.Proofs.YtggfcmondffodaaDoor.P
open Go.RowKit Go.Proofs.YtggfcmondffodaaDoorW.PrintWords
set_option linter.unusedVariables false
set_option linter.unusedSimpArgs false
attribute [local irreducible] gr
def sumG : List Sp → Int
  | [] => 0
  | x :: r => gr x + sumG r
theorem tailE_iff : ∀ (l : List Sp) (n : Int), tailE n l = 0 ↔ (∀ x ∈ l, badAt x.f2 x.f2.size 0 = none) ∧ n + sumG l ≤ 2500
  | [], n => by
    unfold tailE sumG
    by_cases c : n > 2500
    · rw [if_pos c]; exact iff_of_false (by decide) fun h => by have := h.2; omega
    · rw [if_neg c]; exact iff_of_true rfl ⟨fun x hx => (by cases hx), by omega⟩
  | x :: r, n => by
    unfold tailE sumG
    by_cases c : badAt x.f2 x.f2.size 0 = none
    · rw [if_pos c, tailE_iff r]
      constructor
      · rintro ⟨h1, h2⟩
        refine ⟨fun y hy => ?_, by omega⟩
        rcases List.mem_cons.1 hy with rfl | hy
        · exact c
        · exact h1 y hy
      · rintro ⟨h1, h2⟩
        exact ⟨fun y hy => h1 y (List.mem_cons_of_mem _ hy), by omega⟩
    · rw [if_neg c]
      exact iff_of_false (by decide) fun h => c (h.1 x List.mem_cons_self)
theorem bad_iff (s : ByteArray) (hs : s.size ≤ 2500) : badAt s s.size 0 = none ↔ ∀ c ∈ s.data.toList, okB (c.toNat : Int) = true := by
  rw [← bt_all]
  have h := chk_iff s
  rw [chkT_eq, if_neg (by omega)] at h
  constructor
  · intro e
    rw [e] at h
    exact (h.1 rfl).2
  · intro e
    have h2 := h.2 ⟨hs, e⟩
    cases hb : badAt s s.size 0 with
    | none => rfl
    | some j =>
      rw [hb] at h2
      exact absurd h2 (show ¬ (2 : Int) = 0 by decide)
theorem gr_eq (x : Sp) : gr x = (x.f2.size : Int) - (x.f1 - x.f0) := by unfold gr; rfl
theorem splB_length (s : ByteArray) : ∀ (l : List Sp) (a : Int), OrdS s.size l a → ((splB s l a).length : Int) + a = (s.size : Int) + sumG l
  | [], a, h => by
    unfold splB sumG
    rw [← size_len, size_ex]
    have := h.1; have := h.2
    omega
  | x :: r, a, h => by
    obtain ⟨h0, h1, h2, h3, h4⟩ := h
    have ih := splB_length s r x.f1 h4
    have hg := gr_eq x
    unfold splB sumG
    rw [List.length_append, List.length_append, ← size_len, ← size_len, size_ex]
    generalize gr x = g at *
    generalize sumG r = q at *
    generalize (splB s r x.f1).length = n at *
    omega
theorem unS_gr (s : ByteArray) : ∀ (l : List Sp) (a m : Int), OrdS s.size l a → sumG (unS s l m) = - sumG l
  | [], _, _, _ => rfl
  | x :: r, a, m, h => by
    obtain ⟨h0, h1, h2, h3, h4⟩ := h
    unfold unS
    rw [sumG, sumG, unS_gr s r x.f1 _ h4, gr_eq, gr_eq x]
    simp only
    rw [size_ex]
    generalize sumG r = q at *
    omega
theorem Lr_ex2 {s : ByteArray} {i j : Nat} (h : i ≤ j) (hj : j ≤ s.size) : Lr s i = (s.extract i j).data.toList ++ Lr s j := by
  have := Lr_split s i (j - i) (by omega)
  rw [show i + (j - i) = j by omega] at this
  exact this
/-- What stands at a place, and what behind it. -/
theorem Lr_take {t z : ByteArray} {i : Nat} {B : List UInt8} (hi : i ≤ t.size) (h : Lr t i = z.data.toList ++ B) : i + z.size ≤ t.size ∧ t.extract i (i + z.size) = z ∧ Lr t (i + z.size) = B := by
  obtain ⟨h1, h2, h3, -⟩ := begT_Lr hi h
  refine ⟨h2, ?_, h3⟩
  have := begT_ex h1
  rw [ex_ex t i t.size 0 z.size (by omega), Nat.add_zero] at this
  exact this
set_option maxHeartbeats 1000000 in
theorem undo_spl (s t : ByteArray) : ∀ (l : List Sp) (a m : Int), OrdS s.size l a → 0 ≤ a + m → (a + m).toNat ≤ t.size → Lr t (a + m).toNat = splB s l a →
    OrdS t.size (unS s l m) (a + m) ∧ splB t (unS s l m) (a + m) = Lr s a.toNat
  | [], a, m, h, h0, h1, hL => by
    unfold splB at hL
    rw [Lr_ex] at hL
    unfold unS splB
    rw [Lr_ex, hL]
    exact ⟨⟨h0, by omega⟩, rfl⟩
  | x :: r, a, m, h, h0, h1, hL => by
    obtain ⟨g0, g1, g2, g3, g4⟩ := h
    unfold splB at hL
    have hz : (s.extract a.toNat x.f0.toNat).size = x.f0.toNat - a.toNat := by rw [size_ex]; omega
    obtain ⟨k1, k2, k3⟩ := Lr_take h1 hL
    rw [hz] at k1 k2 k3
    have e1 : (a + m).toNat + (x.f0.toNat - a.toNat) = (x.f0 + m).toNat := by omega
    rw [e1] at k1 k2 k3
    obtain ⟨k4, k5, k6⟩ := Lr_take k1 k3
    have e2 : (x.f0 + m).toNat + x.f2.size = (x.f0 + m + (x.f2.size : Int)).toNat := by omega
    have e3 : x.f1 + (m + gr x) = x.f0 + m + (x.f2.size : Int) := by rw [gr_eq]; omega
    rw [e2] at k4 k6
    rw [← e3] at k4 k6
    obtain ⟨i1, i2⟩ := undo_spl s t r x.f1 (m + gr x) g4 (by rw [e3]; omega) k4 k6
    rw [e3] at i1 i2 k4
    unfold unS splB
    refine ⟨⟨h0, by simp only; omega, by simp only; omega, by simp only; omega, i1⟩, ?_⟩
    simp only
    rw [i2, k2, Lr_ex2 (i := a.toNat) (j := x.f0.toNat) (by omega) (by omega), Lr_ex2 (i := x.f0.toNat) (j := x.f1.toNat) (by omega) (by omega)]
theorem mvd_skip (p : Int) : ∀ (r : List Sp) (k : Int), (∀ y ∈ r, p < y.f0 ∧ y.f0 ≤ y.f1) → mvd p r k = (k, 0)
  | [], _, _ => rfl
  | y :: r, k, h => by
    have h1 := h y List.mem_cons_self
    unfold mvd
    rw [if_neg (by omega), if_neg (by omega)]
    exact mvd_skip p r k fun z hz => h z (List.mem_cons_of_mem _ hz)
theorem OrdS.above {n : Nat} {l : List Sp} {a p : Int} (h : OrdS n l a) (hp : p < a) : ∀ y ∈ l, p < y.f0 ∧ y.f0 ≤ y.f1 := fun y hy => by
  have := h.in y hy
  exact ⟨by omega, this.2.1⟩
set_option maxHeartbeats 1000000 in
theorem mvd_back (s t : ByteArray) (p n : Int) : ∀ (l : List Sp) (a m : Int), OrdS s.size l a → 0 ≤ a + m → (a + m).toNat ≤ t.size → Lr t (a + m).toNat = splB s l a → a ≤ p → p < (s.size : Int) → mvd p l (p + m) = (n, 0) →
    a + m ≤ n ∧ n < (t.size : Int) ∧ bt t n = bt s p ∧ mvd n (unS s l m) (n - m) = (p, 0)
  | [], a, m, h, h0, h1, hL, hp, hps, hm => by
    have e : p + m = n := congrArg Prod.fst hm
    unfold splB at hL
    rw [Lr_ex] at hL
    have g0 := h.1
    have l1 := congrArg List.length hL
    rw [Lr_len, Lr_len] at l1
    obtain ⟨q, hq⟩ : ∃ q : Nat, p = a + q := ⟨(p - a).toNat, by omega⟩
    refine ⟨by omega, by omega, ?_, ?_⟩
    · have e1 : n = (((a + m).toNat + q : Nat) : Int) := by omega
      have e2 : p = ((a.toNat + q : Nat) : Int) := by omega
      rw [e1, e2, bt_Lr, bt_Lr, hL]
    · show (n - m, (0 : Int)) = (p, 0)
      rw [show n - m = p by omega]
  | x :: r, a, m, h, h0, h1, hL, hp, hps, hm => by
    obtain ⟨g0, g1, g2, g3, g4⟩ := h
    unfold splB at hL
    have hz : (s.extract a.toNat x.f0.toNat).size = x.f0.toNat - a.toNat := by rw [size_ex]; omega
    obtain ⟨k1, k2, k3⟩ := Lr_take h1 hL
    rw [hz] at k1 k2 k3
    have e1 : (a + m).toNat + (x.f0.toNat - a.toNat) = (x.f0 + m).toNat := by omega
    rw [e1] at k1 k2 k3
    obtain ⟨k4, k5, k6⟩ := Lr_take k1 k3
    have e2 : (x.f0 + m).toNat + x.f2.size = (x.f0 + m + (x.f2.size : Int)).toNat := by omega
    have e3 : x.f1 + (m + gr x) = x.f0 + m + (x.f2.size : Int) := by rw [gr_eq]; omega
    rw [e2] at k4 k6
    rw [← e3] at k4 k6
    have hgy : gr ⟨x.f0 + m, x.f0 + m + (x.f2.size : Int), s.extract x.f0.toNat x.f1.toNat⟩ = - gr x := by
      rw [gr_eq, gr_eq x]
      simp only
      rw [size_ex]
      omega
    unfold mvd at hm
    by_cases c : x.f1 ≤ p
    · rw [if_pos c, show p + m + gr x = p + (m + gr x) by omega] at hm
      obtain ⟨i1, i2, i3, i4⟩ := mvd_back s t p n r x.f1 (m + gr x) g4 (by rw [e3]; omega) k4 k6 c hps hm
      rw [e3] at i1
      refine ⟨by omega, i2, i3, ?_⟩
      unfold unS mvd
      rw [if_pos (by simp only; omega), hgy, show n - m + - gr x = n - (m + gr x) by omega]
      exact i4
    · rw [if_neg c] at hm
      by_cases c2 : x.f0 ≤ p
      · rw [if_pos c2] at hm
        exact absurd (show (7 : Int) = 0 from congrArg Prod.snd hm) (by decide)
      · rw [if_neg c2, mvd_skip p r _ (g4.above (by omega))] at hm
        have e : p + m = n := congrArg Prod.fst hm
        obtain ⟨q, hq⟩ : ∃ q : Nat, p = a + q := ⟨(p - a).toNat, by omega⟩
        have hO := undo_spl s t (x :: r) a m ⟨g0, g1, g2, g3, g4⟩ h0 h1 (by unfold splB; exact hL)
        refine ⟨by omega, by omega, ?_, ?_⟩
        · have e4 : n = (((a + m).toNat + q : Nat) : Int) := by omega
          have e5 : p = ((a.toNat + q : Nat) : Int) := by omega
          have k7 : bt (t.extract (a + m).toNat (x.f0 + m).toNat) (q : Int) = bt (s.extract a.toNat x.f0.toNat) (q : Int) := by rw [k2]
          rw [bt_ex t _ _ q (by omega), bt_ex s _ _ q (by omega)] at k7
          rw [e4, e5]
          exact k7
        · rw [mvd_skip n (unS s (x :: r) m) _ ?_, show n - m = p by omega]
          have h2 := hO.1
          unfold unS at h2 ⊢
          obtain ⟨o0, o1, o2, o3, o4⟩ := h2
          intro y hy
          rcases List.mem_cons.1 hy with rfl | hy
          · exact ⟨by simp only; omega, o2⟩
          · exact o4.above (by simp only; omega) y hy
theorem mvd_mono (n1 n2 p1 p2 : Int) (hp : p1 < p2) {N : Nat} : ∀ (l : List Sp) (a m : Int), OrdS N l a → mvd p1 l (p1 + m) = (n1, 0) → mvd p2 l (p2 + m) = (n2, 0) → n1 < n2
  | [], a, m, h, h1, h2 => by
    have e1 : p1 + m = n1 := congrArg Prod.fst h1
    have e2 : p2 + m = n2 := congrArg Prod.fst h2
    omega
  | x :: r, a, m, h, h1, h2 => by
    obtain ⟨g0, g1, g2, g3, g4⟩ := h
    unfold mvd at h1 h2
    by_cases c1 : x.f1 ≤ p1
    · rw [if_pos c1, show p1 + m + gr x = p1 + (m + gr x) by omega] at h1
      rw [if_pos (show x.f1 ≤ p2 by omega), show p2 + m + gr x = p2 + (m + gr x) by omega] at h2
      exact mvd_mono n1 n2 p1 p2 hp r x.f1 (m + gr x) g4 h1 h2
    · rw [if_neg c1] at h1
      by_cases c2 : x.f0 ≤ p1
      · rw [if_pos c2] at h1
        exact absurd (show (7 : Int) = 0 from congrArg Prod.snd h1) (by decide)
      · rw [if_neg c2, mvd_skip p1 r _ (g4.above (by omega))] at h1
        have e1 : p1 + m = n1 := congrArg Prod.fst h1
        by_cases c3 : x.f1 ≤ p2
        · rw [if_pos c3, show p2 + m + gr x = p2 + (m + gr x) by omega] at h2
          have := mvd_ge n2 p2 r x.f1 (m + gr x) g4 c3 h2
          have hg := gr_eq x
          omega
        · rw [if_neg c3] at h2
          by_cases c4 : x.f0 ≤ p2
          · rw [if_pos c4] at h2
            exact absurd (show (7 : Int) = 0 from congrArg Prod.snd h2) (by decide)
          · rw [if_neg c4, mvd_skip p2 r _ (g4.above (by omega))] at h2
            have e2 : p2 + m = n2 := congrArg Prod.fst h2
            omega
where
  mvd_ge (n p : Int) {N : Nat} : ∀ (l : List Sp) (a m : Int), OrdS N l a → a ≤ p → mvd p l (p + m) = (n, 0) → a + m ≤ n
  | [], a, m, h, hp, h1 => by
    have e1 : p + m = n := congrArg Prod.fst h1
    omega
  | x :: r, a, m, h, hp, h1 => by
    obtain ⟨g0, g1, g2, g3, g4⟩ := h
    unfold mvd at h1
    have hg := gr_eq x
    by_cases c1 : x.f1 ≤ p
    · rw [if_pos c1, show p + m + gr x = p + (m + gr x) by omega] at h1
      have := mvd_ge n p r x.f1 (m + gr x) g4 c1 h1
      omega
    · rw [if_neg c1] at h1
      by_cases c2 : x.f0 ≤ p
      · rw [if_pos c2] at h1
        exact absurd (show (7 : Int) = 0 from congrArg Prod.snd h1) (by decide)
      · rw [if_neg c2, mvd_skip p r _ (g4.above (by omega))] at h1
        have e1 : p + m = n := congrArg Prod.fst h1
        omega
theorem unS_txt (s : ByteArray) : ∀ (l : List Sp) (m : Int), ∀ x ∈ unS s l m, ∃ i j, x.f2 = s.extract i j
  | [], _, x, hx => by cases hx
  | y :: r, m, x, hx => by
    unfold unS at hx
    rcases List.mem_cons.1 hx with rfl | hx
    · exact ⟨_, _, rfl⟩
    · exact unS_txt s r _ x hx
/-- Splices undone: all that the law LexUndone asks. -/
theorem undone (s : ByteArray) (l : List Sp) (h : splE s l = 0) (hx : ∀ x ∈ l, x.f2.size ≤ 3000) : (splM s l).size ≤ 2500 ∧ splE (splM s l) (unS s l 0) = 0 ∧ splM (splM s l) (unS s l 0) = s ∧ (∀ x ∈ unS s l 0, x.f2.size ≤ 3000) ∧
    (∀ p n : Int, 0 ≤ p → p < (s.size : Int) → mvd p l p = (n, 0) → 0 ≤ n ∧ n < ((splM s l).size : Int) ∧ bt (splM s l) n = bt s p ∧ mvd n (unS s l 0) n = (p, 0)) ∧
    (∀ p1 p2 n1 n2 : Int, p1 < p2 → mvd p1 l p1 = (n1, 0) → mvd p2 l p2 = (n2, 0) → n1 < n2) := by
  obtain ⟨h1, h2, h3, h4⟩ := splE_ord h
  obtain ⟨h5, h6⟩ := (chk_iff s).1 h1
  obtain ⟨h7, h8⟩ := (tailE_iff l _).1 h4
  have hlen := splB_length s l 0 h3
  have hsz : (splM s l).size = (splB s l 0).length := by rw [size_len]; rfl
  have hsz2 : ((splM s l).size : Int) = (s.size : Int) + sumG l := by rw [hsz]; omega
  have hL : Lr (splM s l) ((0 : Int) + 0).toNat = splB s l 0 := rfl
  obtain ⟨u1, u2⟩ := undo_spl s (splM s l) l 0 0 h3 (by omega) (Nat.zero_le _) hL
  rw [show (0 : Int) + 0 = 0 from rfl] at u1 u2
  have hug := unS_gr s l 0 0 h3
  have hxs : ∀ x ∈ unS s l 0, x.f2.size ≤ 2500 := fun x hm => by
    obtain ⟨i, j, e⟩ := unS_txt s l 0 x hm
    rw [e, size_ex]; omega
  have hok : ∀ c ∈ (splM s l).data.toList, okB (c.toNat : Int) = true := fun c hc =>
    splB_all (fun c => okB (c.toNat : Int) = true) s ((bt_all s).1 h6) l 0 (fun x hm c hc => by
      by_cases hz : x.f2.size ≤ 2500
      · exact (bad_iff x.f2 hz).1 (h7 x hm) c hc
      · exact bad_iff3 x.f2 (hx x hm) (h7 x hm) c hc) c hc
  refine ⟨by omega, ?_, ?_, fun x hm => Nat.le_trans (hxs x hm) (by decide), ?_, ?_⟩
  · unfold splE
    rw [if_pos ((chk_iff _).2 ⟨by omega, (bt_all _).2 hok⟩), if_neg (by rw [unS_length]; omega), if_pos (ord_rngB u1)]
    refine (tailE_iff _ _).2 ⟨fun x hm => (bad_iff x.f2 (hxs x hm)).2 fun c hc => ?_, by rw [hug]; omega⟩
    obtain ⟨i, j, e⟩ := unS_txt s l 0 x hm
    rw [e, data_ex] at hc
    exact (bt_all s).1 h6 c (List.mem_of_mem_take (List.mem_of_mem_drop hc))
  · unfold splM
    apply ba_ext
    rw [ba_data]
    exact u2
  · intro p n hp0 hp1 hm
    have hm' : mvd p l (p + 0) = (n, 0) := by rw [Int.add_zero]; exact hm
    obtain ⟨r1, r2, r3, r4⟩ := mvd_back s (splM s l) p n l 0 0 h3 (by omega) (Nat.zero_le _) hL hp0 hp1 hm'
    rw [Int.sub_zero] at r4
    exact ⟨by omega, r2, r3, r4⟩
  · intro p1 p2 n1 n2 hp hm1 hm2
    exact mvd_mono n1 n2 p1 p2 hp l 0 0 h3 (by rw [Int.add_zero]; exact hm1) (by rw [Int.add_zero]; exact hm2)
where
  bad_iff3 (s : ByteArray) (hs : s.size ≤ 3000) (h : badAt s s.size 0 = none) : ∀ c ∈ s.data.toList, okB (c.toNat : Int) = true := by
    rw [← bt_all]
    have hb : ∀ d i, s.size - i ≤ d → badAt s d i = none → ∀ j, i ≤ j → j < s.size → okB (bt s (j : Int)) = true := by
      intro d
      induction d with
      | zero => intro i hd _ j h1 h2; omega
      | succ d ih =>
        intro i hd h j h1 h2
        unfold badAt at h
        rw [if_pos (show i < s.size by omega)] at h
        by_cases c2 : okB (bt s (i : Int)) = true
        · rw [if_pos c2] at h
          by_cases e : j = i
          · subst e; exact c2
          · exact ih (i + 1) (by omega) h j (by omega) h2
        · rw [if_neg c2] at h; cases h
    exact fun i hi => hb s.size 0 (by omega) h i (Nat.zero_le _) hi
end Go.Proofs.YtggfcmondffodaaDoor.P
namespace Go.Proofs.YtggfcmondffodaaDoor.P
open Go.RowKit Go.Proofs.YtggfcmondffodaaDoorW.PrintWords
set_option linter.unusedVariables false
set_option linter.unusedSimpArgs false
/-- How far a condition holds, from n on, at most d times. -/
def runF (f : Nat → Bool) : Nat → Nat → Nat
  | 0, n => n
  | d + 1, n => if f n = true then runF f d (n + 1) else n
theorem runF_le (f : Nat → Bool) : ∀ (d n : Nat), n ≤ runF f d n ∧ runF f d n ≤ n + d
  | 0, n => ⟨Nat.le_refl _, Nat.le_refl _⟩
  | d + 1, n => by
    unfold runF
    have := runF_le f d (n + 1)
    split <;> omega
theorem runF_end (f : Nat → Bool) : ∀ (d n : Nat), runF f d n < n + d → f (runF f d n) = false
  | 0, n, h => by unfold runF at h; omega
  | d + 1, n, h => by
    unfold runF at h ⊢
    by_cases c : f n = true
    · rw [if_pos c] at h ⊢; exact runF_end f d (n + 1) (by omega)
    · rw [if_neg c]; exact Bool.eq_false_iff.2 c
theorem runF_congr {f g : Nat → Bool} : ∀ (d n : Nat), (∀ j, n ≤ j → j < n + d → f j = g j) → runF f d n = runF g d n
  | 0, _, _ => rfl
  | d + 1, n, h => by
    unfold runF
    rw [h n (Nat.le_refl _) (by omega), runF_congr d (n + 1) fun j h1 h2 => h j (by omega) (by omega)]
theorem Scan.inv {s : ByteArray} {i j : Nat} {l : List Tk} (h : Scan s i l j) (hij : i < j) : (spB (bt s (i : Int)) = true ∧ Scan s (i + 1) l j) ∨ (spB (bt s (i : Int)) = false ∧ bt s (i : Int) = 126 ∧ Scan s (i + noteL s i) l j) ∨
    (∃ k t r, l = ⟨k, t, (i : Int)⟩ :: r ∧ spB (bt s (i : Int)) = false ∧ bt s (i : Int) ≠ 126 ∧ firstM kwM (s.extract i s.size) = ((k, t), 0) ∧ Scan s (i + t.size) r j) := by
  cases h with
  | done => omega
  | blank h1 h2 h3 => exact .inl ⟨h2, h3⟩
  | note h1 h2 h3 => exact .inr (.inl ⟨by rw [h2]; rfl, h2, h3⟩)
  | tok h1 h2 h3 h4 h5 => exact .inr (.inr ⟨_, _, _, rfl, h2, h3, h4, h5⟩)
/-- A word by itself is all of its text. -/
theorem tok_wl {t : ByteArray} {k : Int} (h : firstM kwM t = ((k, t), 0)) (c : wlen t ≠ 0) : wlen t = t.size := by
  have htz : t.extract 0 (wlen t) = t := by
    unfold firstM at h
    rw [if_neg c] at h
    by_cases c2 : dgB (bt t 0) = true
    · rw [if_pos c2] at h; exact congrArg (fun y => y.1.2) h
    · rw [if_neg c2] at h
      by_cases c3 : smB (bt t 0) = false
      · rw [if_pos c3] at h; cases h
      · rw [if_neg c3] at h
        by_cases c4 : kwM (t.extract 0 (wlen t)) = true
        · rw [if_pos c4] at h; exact congrArg (fun y => y.1.2) h
        · rw [if_neg c4] at h
          by_cases c5 : 12 < (t.extract 0 (wlen t)).size
          · rw [if_pos c5] at h; cases h
          · rw [if_neg c5] at h; exact congrArg (fun y => y.1.2) h
  have := congrArg ByteArray.size htz
  have := wlen_le t
  rw [size_ex] at *; omega
/-- The signs. -/
theorem tok_sign {t : ByteArray} {k : Int} (h : firstM kwM t = ((k, t), 0)) (c : wlen t = 0) : t = ba [58, 61] ∨ t = ba [45, 62] ∨ (t.size = 1 ∧ sgB (bt t 0) = true) := by
  obtain ⟨-, -, -, h0, -⟩ := firstM_self kwM h
  have hs : signM t = some t := by
    unfold firstM at h
    rw [if_pos c] at h
    cases hs : signM t with
    | none => rw [hs] at h; cases h
    | some z => rw [hs] at h; exact congrArg some (congrArg (fun y => y.1.2) h)
  unfold signM at hs
  by_cases c1 : 2 ≤ t.size ∧ bt t 0 = 58 ∧ bt t 1 = 61
  · rw [if_pos c1] at hs; exact .inl (Option.some.inj hs).symm
  · rw [if_neg c1] at hs
    by_cases c2 : 2 ≤ t.size ∧ bt t 0 = 45 ∧ bt t 1 = 62
    · rw [if_pos c2] at hs; exact .inr (.inl (Option.some.inj hs).symm)
    · rw [if_neg c2] at hs
      by_cases c3 : 0 < t.size ∧ sgB (bt t 0) = true
      · rw [if_pos c3] at hs
        refine .inr (.inr ⟨?_, c3.2⟩)
        have := congrArg ByteArray.size (Option.some.inj hs)
        rw [size_ex] at this; omega
      · rw [if_neg c3] at hs; cases hs
theorem tok_lf {t : ByteArray} {k : Int} (h : firstM kwM t = ((k, t), 0)) (j : Nat) (hj : j < t.size) : bt t (j : Int) ≠ 10 := by
  by_cases c : wlen t = 0
  · rcases tok_sign h c with rfl | rfl | ⟨h1, h2⟩
    · have : j = 0 ∨ j = 1 := by have : (ba [58, 61]).size = 2 := rfl
                                 omega
      rcases this with rfl | rfl <;> decide
    · have : j = 0 ∨ j = 1 := by have : (ba [45, 62]).size = 2 := rfl
                                 omega
      rcases this with rfl | rfl <;> decide
    · obtain rfl : j = 0 := by omega
      intro e
      rw [show ((0 : Nat) : Int) = 0 from rfl] at e
      rw [e] at h2
      exact absurd h2 (by decide)
  · intro e
    have := wlen_in t j (by rw [tok_wl h c]; exact hj)
    rw [e] at this
    exact absurd this (by decide)
theorem filt_nil {s : ByteArray} {i j : Nat} {l : List Tk} (h : Scan s i l j) {p : Nat} (hp : p ≤ i) : l.filter (fun x => decide (x.f2 + (x.f1.size : Int) < (p : Int))) = [] := by
  refine List.filter_eq_nil_iff.2 fun x hx => ?_
  obtain ⟨n, h1, -, h3, -⟩ := h.mem x hx
  rw [h3]
  simp only [decide_eq_true_eq]
  omega
/-- What two texts that begin alike have in common. -/
theorem scan_pre {s t : ByteArray} {p : Nat} (hp : p ≤ s.size) (hq : p ≤ t.size) (hb : ∀ k, k < p → bt t (k : Int) = bt s (k : Int)) {i j : Nat} {l : List Tk} (h : Scan s i l j) :
    ∀ l', Scan t i l' t.size → ∀ k, k < (l.filter (fun x => decide (x.f2 + (x.f1.size : Int) < (p : Int)))).length → k < l.length ∧ k < l'.length ∧ l[k]? = l'[k]? := by
  induction h with
  | done i => intro l' h' k hk; exact absurd hk (Nat.not_lt_zero _)
  | @blank i j l h1 h2 h3 ih =>
    intro l' h' k hk
    by_cases c : i < p
    · have e := hb i c
      rcases h'.inv (by omega) with ⟨-, g⟩ | ⟨g, -⟩ | ⟨_, _, _, -, g, -⟩
      · exact ih l' g k hk
      · rw [e, h2] at g; cases g
      · rw [e, h2] at g; cases g
    · rw [filt_nil h3 (by omega)] at hk; exact absurd hk (Nat.not_lt_zero _)
  | @note i j l h1 h2 h3 ih =>
    intro l' h' k hk
    by_cases c : i + noteL s i < p
    · have e := hb i (by omega)
      obtain ⟨n1, n2⟩ := noteL_in s i
      have hN : noteL t i = noteL s i := by
        refine noteL_uniq t i _ (fun k hk => ⟨by omega, by rw [hb _ (by omega)]; exact (n1 k hk).2⟩) ?_
        rcases n2 with n2 | n2
        · omega
        · exact .inr (by rw [hb _ c]; exact n2)
      rcases h'.inv (by omega) with ⟨g, -⟩ | ⟨-, -, g⟩ | ⟨_, _, _, -, -, g, -⟩
      · rw [e, h2] at g; exact absurd g (by decide)
      · rw [hN] at g; exact ih l' g k hk
      · rw [e] at g; exact absurd h2 g
    · rw [filt_nil h3 (by omega)] at hk; exact absurd hk (Nat.not_lt_zero _)
  | @tok i j l kd z h1 h2 h3 h4 h5 ih =>
    intro l' h' k hk
    have hz := tok_size h4
    by_cases c : i + z.size < p
    · obtain ⟨f1, f2, f3, f4, f5⟩ := firstM_self kwM h4
      have e := hb i (by omega)
      have b1 : begT (t.extract i t.size) z := ⟨by rw [size_ex]; omega, fun j hj => by rw [bt_ex t i t.size j (by omega), hb _ (by omega), ← bt_ex s i s.size j (by omega)]; exact f2.2 j hj⟩
      have hnx : nxB kd z (bt (t.extract i t.size) (z.size : Int)) = true := by rw [bt_ex t i t.size z.size (by omega), hb _ c, ← bt_ex s i s.size z.size (by omega)]; exact f3
      have hf := firstM_of kwM f1 b1 hnx
      rcases h'.inv (by omega) with ⟨g, -⟩ | ⟨-, g, -⟩ | ⟨k', z', r, rfl, -, -, g, g2⟩
      · rw [e, h2] at g; cases g
      · rw [e] at g; exact absurd g h3
      · rw [hf] at g
        obtain rfl : kd = k' := congrArg (fun y => y.1.1) g
        obtain rfl : z = z' := congrArg (fun y => y.1.2) g
        rw [List.filter_cons_of_pos (by simp only [decide_eq_true_eq]; omega), List.length_cons] at hk
        cases k with
        | zero => exact ⟨Nat.succ_pos _, Nat.succ_pos _, rfl⟩
        | succ k =>
          obtain ⟨a1, a2, a3⟩ := ih r g2 k (by omega)
          exact ⟨by rw [List.length_cons]; omega, by rw [List.length_cons]; omega, by rw [List.getElem?_cons_succ, List.getElem?_cons_succ]; exact a3⟩
    · rw [List.filter_cons_of_neg (by simp only [decide_eq_true_eq]; omega), filt_nil h5 (by omega)] at hk; exact absurd hk (Nat.not_lt_zero _)
/-- No token goes over a line feed. -/
theorem scan_cut {s : ByteArray} {L : Nat} (hL : L ≤ s.size) (h10 : L = s.size ∨ bt s (L : Int) = 10) {i j : Nat} {l : List Tk} (h : Scan s i l j) (hj : j = s.size) : i ≤ L → ∃ l1 l2, l = l1 ++ l2 ∧ (∀ x ∈ l1, x.f2 < (L : Int)) ∧ Scan s L l2 s.size := by
  induction h with
  | done i =>
    intro hi
    obtain rfl : L = s.size := by omega
    exact ⟨[], [], rfl, fun x hx => (by cases hx), .done _⟩
  | @blank i j l h1 h2 h3 ih =>
    intro hi
    subst hj
    by_cases e : i = L
    · subst e; exact ⟨[], l, rfl, fun x hx => (by cases hx), .blank h1 h2 h3⟩
    · exact ih rfl (by omega)
  | @note i j l h1 h2 h3 ih =>
    intro hi
    subst hj
    by_cases e : i = L
    · subst e; exact ⟨[], l, rfl, fun x hx => (by cases hx), .note h1 h2 h3⟩
    · refine ih rfl ?_
      by_cases c : i + noteL s i ≤ L
      · exact c
      · have := (noteL_in s i).1 (L - i) (by omega)
        rw [show i + (L - i) = L by omega] at this
        rcases h10 with h | h
        · omega
        · exact absurd h this.2
  | @tok i j l kd z h1 h2 h3 h4 h5 ih =>
    intro hi
    subst hj
    by_cases e : i = L
    · subst e; exact ⟨[], _, rfl, fun x hx => (by cases hx), .tok h1 h2 h3 h4 h5⟩
    · have hz := tok_size h4
      obtain ⟨f1, f2, -, -, -⟩ := firstM_self kwM h4
      have c : i + z.size ≤ L := by
        by_cases c : i + z.size ≤ L
        · exact c
        · have g := tok_lf f1 (L - i) (by omega)
          rw [← f2.2 (L - i) (by omega), bt_ex s i s.size (L - i) (by omega), show i + (L - i) = L by omega] at g
          rcases h10 with h | h
          · omega
          · exact absurd h g
      obtain ⟨l1, l2, e1, e2, e3⟩ := ih rfl c
      refine ⟨⟨kd, z, (i : Int)⟩ :: l1, l2, by rw [e1]; rfl, fun x hx => ?_, e3⟩
      rcases List.mem_cons.1 hx with rfl | hx
      · simp only; omega
      · exact e2 x hx
theorem Lr_drop (s : ByteArray) (i n : Nat) : Lr s (i + n) = (Lr s i).drop n := by unfold Lr; rw [List.drop_drop]
def shT (d : Int) (x : Tk) : Tk := ⟨x.f0, x.f1, x.f2 + d⟩
theorem scan_shift {s t : ByteArray} {i j : Nat} {l : List Tk} (h : Scan s i l j) (hj : j = s.size) : ∀ m, i ≤ s.size → m ≤ t.size → Lr t m = Lr s i → Scan t m (l.map (shT ((m : Int) - (i : Int)))) t.size := by
  induction h with
  | done i =>
    intro m hi hm hL
    have h1 := Lr_len t m
    have h2 := Lr_len s i
    rw [hL, h2] at h1
    obtain rfl : m = t.size := by omega
    exact .done _
  | @blank i j l h1 h2 h3 ih =>
    intro m hi hm hL
    have g1 := Lr_len t m
    have g2 := Lr_len s i
    rw [hL, g2] at g1
    have e : bt t (m : Int) = bt s (i : Int) := by rw [bt_head, hL, ← bt_head]
    have r := ih hj (m + 1) (by omega) (by omega) (by rw [Lr_drop, Lr_drop, hL])
    rw [nat_off] at r
    exact .blank (by omega) (by rw [e]; exact h2) r
  | @note i j l h1 h2 h3 ih =>
    intro m hi hm hL
    have g1 := Lr_len t m
    have g2 := Lr_len s i
    rw [hL, g2] at g1
    have e : bt t (m : Int) = bt s (i : Int) := by rw [bt_head, hL, ← bt_head]
    have hle := noteL_le s i hi
    obtain ⟨n1, n2⟩ := noteL_in s i
    have hN : noteL t m = noteL s i := by
      refine noteL_uniq t m _ (fun k hk => ⟨by have := (n1 k hk).1; omega, by rw [bt_Lr, hL, ← bt_Lr]; exact (n1 k hk).2⟩) ?_
      rcases n2 with n2 | n2
      · exact .inl (by omega)
      · exact .inr (by rw [bt_Lr, hL, ← bt_Lr]; exact n2)
    have r := ih hj (m + noteL s i) hle (by omega) (by rw [Lr_drop, Lr_drop, hL])
    rw [nat_off] at r
    exact .note (by omega) (by rw [e]; exact h2) (by rw [hN]; exact r)
  | @tok i j l kd z h1 h2 h3 h4 h5 ih =>
    intro m hi hm hL
    have g1 := Lr_len t m
    have g2 := Lr_len s i
    rw [hL, g2] at g1
    have hz := tok_size h4
    have e : bt t (m : Int) = bt s (i : Int) := by rw [bt_head, hL, ← bt_head]
    have ee : t.extract m t.size = s.extract i s.size := ba_ext (by rw [Lr_ex, Lr_ex, hL])
    have r := ih hj (m + z.size) hz.2 (by omega) (by rw [Lr_drop, Lr_drop, hL])
    rw [nat_off] at r
    have := Scan.tok (s := t) (i := m) (by omega) (by rw [e]; exact h2) (by rw [e]; exact h3) (by rw [ee]; exact h4) r
    rw [List.map_cons, shT]
    simp only
    rw [show (i : Int) + ((m : Int) - (i : Int)) = (m : Int) by omega]
    exact this
theorem scan_uniq {s : ByteArray} {i j : Nat} {l : List Tk} (h : Scan s i l j) (hj : j = s.size) : ∀ l', Scan s i l' s.size → l = l' := by
  induction h with
  | done i => intro l' h'; exact (h'.end_nil (by omega)).symm
  | @blank i j l h1 h2 h3 ih =>
    intro l' h'
    rcases h'.inv h1 with ⟨-, g⟩ | ⟨g, -⟩ | ⟨_, _, _, -, g, -⟩
    · exact ih hj l' g
    · rw [h2] at g; cases g
    · rw [h2] at g; cases g
  | @note i j l h1 h2 h3 ih =>
    intro l' h'
    rcases h'.inv h1 with ⟨g, -⟩ | ⟨-, -, g⟩ | ⟨_, _, _, -, -, g, -⟩
    · rw [h2] at g; exact absurd g (by decide)
    · exact ih hj l' g
    · exact absurd h2 g
  | @tok i j l kd z h1 h2 h3 h4 h5 ih =>
    intro l' h'
    rcases h'.inv h1 with ⟨g, -⟩ | ⟨-, g, -⟩ | ⟨k', z', r, rfl, -, -, g, g2⟩
    · rw [h2] at g; cases g
    · exact absurd g h3
    · rw [h4] at g
      obtain rfl : kd = k' := congrArg (fun y => y.1.1) g
      obtain rfl : z = z' := congrArg (fun y => y.1.2) g
      rw [ih hj r g2]
/-- Is a token another one, at a place that is so much greater? -/
def eqT (d : Int) (x y : Tk) : Bool := decide (x.f0 = y.f0) && (decide (x.f1 = y.f1) && decide (x.f2 + d = y.f2))
theorem eqT_self (d : Int) (x : Tk) : eqT d x (shT d x) = true := by
  unfold eqT shT
  rw [decide_eq_true rfl, decide_eq_true rfl, decide_eq_true rfl]; rfl
theorem eqT_zero (x : Tk) : eqT 0 x x = true := by
  unfold eqT
  rw [decide_eq_true rfl, decide_eq_true rfl, decide_eq_true (Int.add_zero _)]; rfl
def hdK (a b : List Tk) : Nat := runF (fun j => eqT 0 (rd_T35 a (j : Int)) (rd_T35 b (j : Int))) (min a.length b.length) 0
def tlK (a b : List Tk) (h : Nat) (d : Int) : Nat := runF (fun j => eqT d (rd_T35 a ((a.length - 1 - j : Nat) : Int)) (rd_T35 b ((b.length - 1 - j : Nat) : Int))) (min (a.length - h) (b.length - h)) 0
theorem rdT_of {l : List Tk} {k : Nat} {x : Tk} (h : l[k]? = some x) : rd_T35 l (k : Int) = x := by
  unfold rd_T35
  simp [List.getD, h]
theorem hdK_le (a b : List Tk) : hdK a b ≤ a.length ∧ hdK a b ≤ b.length := by
  have := (runF_le (fun j => eqT 0 (rd_T35 a (j : Int)) (rd_T35 b (j : Int))) (min a.length b.length) 0).2
  unfold hdK; omega
theorem tlK_le (a b : List Tk) (h : Nat) (d : Int) : tlK a b h d ≤ a.length - h ∧ tlK a b h d ≤ b.length - h := by
  have := (runF_le (fun j => eqT d (rd_T35 a ((a.length - 1 - j : Nat) : Int)) (rd_T35 b ((b.length - 1 - j : Nat) : Int))) (min (a.length - h) (b.length - h)) 0).2
  unfold tlK; omega
theorem far_head {s t : ByteArray} {p : Nat} (hp : p ≤ s.size) (hq : p ≤ t.size) (hb : ∀ k, k < p → bt t (k : Int) = bt s (k : Int)) {a b : List Tk} (ha : Scan s 0 a s.size) (hb2 : Scan t 0 b t.size) :
    (a.filter (fun x => decide (x.f2 + (x.f1.size : Int) < (p : Int)))).length ≤ hdK a b := by
  by_cases c : (a.filter (fun x => decide (x.f2 + (x.f1.size : Int) < (p : Int)))).length ≤ hdK a b
  · exact c
  · obtain ⟨h1, h2, h3⟩ := scan_pre hp hq hb ha b hb2 (hdK a b) (by omega)
    have h4 := runF_end (fun j => eqT 0 (rd_T35 a (j : Int)) (rd_T35 b (j : Int))) (min a.length b.length) 0 (by show hdK a b < _; omega)
    have e1 := List.getElem?_eq_getElem h1
    rw [e1] at h3
    have h5 : eqT 0 (rd_T35 a ((hdK a b : Nat) : Int)) (rd_T35 b ((hdK a b : Nat) : Int)) = false := h4
    rw [rdT_of e1, rdT_of h3.symm, eqT_zero] at h5
    cases h5
theorem far_tail {s t : ByteArray} {L m : Nat} (hL : L ≤ s.size) (hm : m ≤ t.size) (h10 : L = s.size ∨ bt s (L : Int) = 10) (hLr : Lr t m = Lr s L) {a b : List Tk} (ha : Scan s 0 a s.size) (hb : Scan t 0 b t.size) (h : Nat) (d : Int) (hd : d = (m : Int) - (L : Int)) :
    min (a.filter (fun x => decide ((L : Int) < x.f2))).length (min (a.length - h) (b.length - h)) ≤ tlK a b h d := by
  have g1 := Lr_len t m
  have g2 := Lr_len s L
  rw [hLr, g2] at g1
  have h10t : m = t.size ∨ bt t (m : Int) = 10 := by
    rcases h10 with e | e
    · exact .inl (by omega)
    · exact .inr (by rw [bt_head, hLr, ← bt_head]; exact e)
  obtain ⟨a1, a2, rfl, ha1, ha2⟩ := scan_cut hL h10 ha rfl (Nat.zero_le _)
  obtain ⟨b1, b2, rfl, hb1, hb2⟩ := scan_cut hm h10t hb rfl (Nat.zero_le _)
  obtain rfl := scan_uniq (scan_shift ha2 rfl m hL hm hLr) rfl b2 hb2
  rw [← hd] at *
  have hf : ((a1 ++ a2).filter (fun x => decide ((L : Int) < x.f2))).length ≤ a2.length := by
    rw [List.filter_append, List.filter_eq_nil_iff.2 (fun x hx => by have := ha1 x hx; simp only [decide_eq_true_eq]; omega), List.nil_append]
    exact List.length_filter_le _ _
  generalize ((a1 ++ a2).filter (fun x => decide ((L : Int) < x.f2))).length = n at *
  generalize hB : a2.map (shT d) = b2 at *
  have hlb : b2.length = a2.length := by rw [← hB, List.length_map]
  by_cases c : min n (min ((a1 ++ a2).length - h) ((b1 ++ b2).length - h)) ≤ tlK (a1 ++ a2) (b1 ++ b2) h d
  · exact c
  · have h4 := runF_end (fun j => eqT d (rd_T35 (a1 ++ a2) (((a1 ++ a2).length - 1 - j : Nat) : Int)) (rd_T35 (b1 ++ b2) (((b1 ++ b2).length - 1 - j : Nat) : Int))) (min ((a1 ++ a2).length - h) ((b1 ++ b2).length - h)) 0 (by show tlK (a1 ++ a2) (b1 ++ b2) h d < _; omega)
    have h5 : eqT d (rd_T35 (a1 ++ a2) (((a1 ++ a2).length - 1 - tlK (a1 ++ a2) (b1 ++ b2) h d : Nat) : Int)) (rd_T35 (b1 ++ b2) (((b1 ++ b2).length - 1 - tlK (a1 ++ a2) (b1 ++ b2) h d : Nat) : Int)) = false := h4
    generalize tlK (a1 ++ a2) (b1 ++ b2) h d = q at *
    have hq : q < a2.length := by omega
    rw [List.length_append, List.length_append, hlb, show a1.length + a2.length - 1 - q = a1.length + (a2.length - 1 - q) by omega, show b1.length + a2.length - 1 - q = b1.length + (a2.length - 1 - q) by omega] at h5
    obtain ⟨x, hx⟩ : ∃ x, a2[a2.length - 1 - q]? = some x := ⟨_, List.getElem?_eq_getElem (by omega)⟩
    have e1 : (a1 ++ a2)[a1.length + (a2.length - 1 - q)]? = some x := by
      rw [List.getElem?_append_right (by omega), Nat.add_sub_cancel_left]; exact hx
    have e2 : (b1 ++ b2)[b1.length + (a2.length - 1 - q)]? = some (shT d x) := by
      rw [List.getElem?_append_right (by omega), Nat.add_sub_cancel_left, ← hB, List.getElem?_map, hx]; rfl
    rw [rdT_of e1, rdT_of e2, eqT_self] at h5
    cases h5
/-- lex.Kept. -/
def kepM (s : ByteArray) (x : Sp) : Int × Int × Int :=
  if splE s [x] = 0 then
    if (toksM kwM s).2.2 = 0 then
      if (toksM kwM (splM s [x])).2.2 = 0 then
        ((hdK (toksM kwM s).1 (toksM kwM (splM s [x])).1 : Nat), (tlK (toksM kwM s).1 (toksM kwM (splM s [x])).1 (hdK (toksM kwM s).1 (toksM kwM (splM s [x])).1) (gr x) : Nat), 0)
      else (0, 0, (toksM kwM (splM s [x])).2.2)
    else (0, 0, (toksM kwM s).2.2)
  else (0, 0, splE s [x])
/-- THE LAW. -/
theorem far (s : ByteArray) (x : Sp) (h0 : splE s [x] = 0) (h1 : (toksM kwM s).2.2 = 0) (h2 : (toksM kwM (splM s [x])).2.2 = 0) (a b : List Tk) (ha : (toksM kwM s).1 = a) (hb : (toksM kwM (splM s [x])).1 = b) :
    0 ≤ x.f1 ∧ x.f1 ≤ (s.size : Int) ∧ 0 ≤ x.f0 ∧
    (a.filter (fun y => decide (y.f2 + (y.f1.size : Int) < x.f0))).length ≤ hdK a b ∧
    (∀ L : Nat, x.f1 ≤ (L : Int) → L ≤ s.size → (L = s.size ∨ bt s (L : Int) = 10) → min (a.filter (fun y => decide ((L : Int) < y.f2))).length (min (a.length - hdK a b) (b.length - hdK a b)) ≤ tlK a b (hdK a b) (gr x)) ∧
    hdK a b + tlK a b (hdK a b) (gr x) ≤ a.length ∧ hdK a b + tlK a b (hdK a b) (gr x) ≤ b.length := by
  obtain ⟨-, -, ⟨o1, o2, o3, o4, o5⟩, -⟩ := splE_ord h0
  obtain ⟨-, sa, -⟩ := (toks_iff s a).1 ⟨ha, h1⟩
  obtain ⟨-, sb, -⟩ := (toks_iff (splM s [x]) b).1 ⟨hb, h2⟩
  have hk := hdK_le a b
  have ht := tlK_le a b (hdK a b) (gr x)
  have hL0 : Lr (splM s [x]) 0 = (s.extract 0 x.f0.toNat).data.toList ++ (x.f2.data.toList ++ Lr s x.f1.toNat) := by
    unfold Lr splM
    rw [ba_data, List.drop_zero]
    unfold splB splB
    rw [Lr_ex]; rfl
  have hz : (s.extract 0 x.f0.toNat).size = x.f0.toNat := by rw [size_ex]; omega
  obtain ⟨k1, k2, k3⟩ := Lr_take (Nat.zero_le _) hL0
  rw [hz, Nat.zero_add] at k1 k2 k3
  obtain ⟨k4, k5, k6⟩ := Lr_take k1 k3
  have hbt : ∀ k, k < x.f0.toNat → bt (splM s [x]) (k : Int) = bt s (k : Int) := fun k hk => by
    have e1 := bt_ex (splM s [x]) 0 x.f0.toNat k (by omega)
    have e2 := bt_ex s 0 x.f0.toNat k (by omega)
    rw [k2, Nat.zero_add] at e1
    rw [Nat.zero_add] at e2
    rw [← e1, e2]
  refine ⟨by omega, o4, by omega, ?_, fun L hL1 hL2 hL3 => ?_, by omega, by omega⟩
  · have := far_head (p := x.f0.toNat) (by omega) k1 hbt sa sb
    rw [show ((x.f0.toNat : Nat) : Int) = x.f0 by omega] at this
    exact this
  · refine far_tail (m := x.f0.toNat + x.f2.size + (L - x.f1.toNat)) hL2 ?_ hL3 ?_ sa sb _ _ ?_
    · have g1 := Lr_len (splM s [x]) (x.f0.toNat + x.f2.size)
      rw [k6, Lr_len] at g1
      omega
    · rw [Lr_drop, k6, ← Lr_drop, show x.f1.toNat + (L - x.f1.toNat) = L by omega]
    · rw [gr_eq]; omega
end Go.Proofs.YtggfcmondffodaaDoor.P
namespace Go.Proofs.YtggfcmondffodaaDoor.P
open Go.RowKit Go.Shelf Go.Maps Go.Proofs.YtggfcmondffodaaDoorW.PrintWords Go.Proofs.YtggfcmondffodaaDoorW.PrintLast Go.Proofs.YtggfcmondffodaaDoorW.PrintMore
set_option linter.unusedVariables false
set_option linter.unusedSimpArgs false
/-- A text's bytes as numbers. -/
def bl (s : ByteArray) : List Int := s.data.toList.map fun c => (c.toNat : Int)
theorem runF_step (f : Nat → Bool) {m n r : Nat} (h : runF f (m - n) n = r) (hn : n < m) : (f n = true → runF f (m - (n + 1)) (n + 1) = r) ∧ (f n = false → n = r) := by
  rw [show m - n = (m - (n + 1)) + 1 by omega, runF] at h
  exact ⟨fun e => by rw [if_pos e] at h; exact h, fun e => by rw [e, if_neg Bool.false_ne_true] at h; exact h⟩
theorem runF_stop (f : Nat → Bool) {m n r : Nat} (h : runF f (m - n) n = r) (hn : m ≤ n) : n = r := by
  rw [show m - n = 0 by omega, runF] at h; exact h
def vTk (x : Tk) : Value := .agg #[.int .u8 x.f0, .string x.f1, .int .i64 x.f2]
theorem eqT_b (d : Int) (x y : Tk) : eqT d x y = ((x.f0 == y.f0) && ((x.f1.toList == y.f1.toList) && (x.f2 + d == y.f2))) := by
  unfold eqT
  rw [runRight_aux]
  rfl
theorem later_any (d : Int) (w : World) : Calls Tryd.prog 62 #[.int .i64 d] w fun e w' => e = .returned (.func (.func 86) #[] #[.pointer (some ⟨w.heap.size, 0, none⟩)]) ∧ w' = w.alloc (.cells #[.int .i64 d] 3) := by
  go_enter Tryd.func62, Tryd.ntmps62
  go_wp2
  go_ret
  exact ⟨rfl, rfl⟩
set_option maxRecDepth 8000 in
set_option maxHeartbeats 2000000 in
theorem later1_any (d : Int) (bp : Nat) (x y : Tk) (w : World) (hc : w.cell? ⟨bp, 0, none⟩ = some (.int .i64 d)) (hd : wrap64 (x.f2 + d) = x.f2 + d) :
    Calls Tryd.prog 86 #[vTk x, vTk y, .pointer (some ⟨bp, 0, none⟩)] w fun e w' => e = .returned (.bool (eqT d x y)) ∧ Below w.heap.size w w' := by
  have hbp := World.block_lt_of_cell? w _ hc
  simp only at hbp
  rw [eqT_b]
  generalize h0 : (x.f0 == y.f0) = b0
  generalize h1 : (x.f1.toList == y.f1.toList) = b1
  generalize h2 : (x.f2 + d == y.f2) = b2
  unfold vTk
  go_enter Tryd.func86, Tryd.ntmps86
  go_upto_region 1 with fail
  obtain ⟨W2, hW2⟩ : ∃ W2, W2 = (w.alloc (.cells #[.int .u8 x.f0, .string x.f1, .int .i64 x.f2] 35)).alloc (.cells #[.int .u8 y.f0, .string y.f1, .int .i64 y.f2] 35) := ⟨_, rfl⟩
  rw [← hW2]
  have HB2 := Aside0.mk (show Below w.heap.size w W2 by rw [hW2]; exact ((Below.refl _ w).alloc (Nat.le_refl _) _).alloc (by simp) _)
  have HX := Aside0.mk (show W2.heap[w.heap.size]? = some (.cells #[.int .u8 x.f0, .string x.f1, .int .i64 x.f2] 35 (0, 0)) by rw [hW2]; exact blk_alloc (heap_alloc_new w _) _)
  have HY := Aside0.mk (show W2.heap[w.heap.size + 1]? = some (.cells #[.int .u8 y.f0, .string y.f1, .int .i64 y.f2] 35 (0, 0)) by rw [hW2]; exact heap_alloc_new' _ _ (by simp))
  have hc2 : W2.cell? ⟨bp, 0, none⟩ = some (.int .i64 d) := (HB2.out.cell (by simpa using hbp)).trans hc
  have k2 : W2.cell? ⟨w.heap.size, 2, none⟩ = some (.int .i64 x.f2) := (blk_cell HX.out 2).trans rfl
  have f2 : W2.frozen? ⟨w.heap.size, 2, none⟩ = false := blk_frozen HX.out 2
  clear hW2 hc
  go_upto_region 2 with fail
  have HX3 := Aside0.mk (blk_set HX.out 2 (.int .i64 (x.f2 + d)))
  have HY3 := Aside0.mk (blk_far HY.out (p := ⟨w.heap.size, 2, none⟩) (by simp) (.int .i64 (x.f2 + d)))
  have HB3 := Aside0.mk (show Below w.heap.size w (W2.setCell ⟨w.heap.size, 2, none⟩ (.int .i64 (x.f2 + d))) from HB2.out.setCell (Nat.le_refl _) _)
  obtain ⟨W3, hW3⟩ : ∃ W3, W3 = W2.setCell ⟨w.heap.size, 2, none⟩ (.int .i64 (x.f2 + d)) := ⟨_, rfl⟩
  rw [← hW3] at HX3 HY3 HB3 ⊢
  have m0 : W3.cell? ⟨w.heap.size, 0, none⟩ = some (.int .u8 x.f0) := (blk_cell HX3.out 0).trans rfl
  have m1 : W3.cell? ⟨w.heap.size, 1, none⟩ = some (.string x.f1) := (blk_cell HX3.out 1).trans rfl
  have m2 : W3.cell? ⟨w.heap.size, 2, none⟩ = some (.int .i64 (x.f2 + d)) := (blk_cell HX3.out 2).trans rfl
  have n0 : W3.cell? ⟨w.heap.size + 1, 0, none⟩ = some (.int .u8 y.f0) := (blk_cell HY3.out 0).trans rfl
  have n1 : W3.cell? ⟨w.heap.size + 1, 1, none⟩ = some (.string y.f1) := (blk_cell HY3.out 1).trans rfl
  have n2 : W3.cell? ⟨w.heap.size + 1, 2, none⟩ = some (.int .i64 y.f2) := (blk_cell HY3.out 2).trans rfl
  clear hW3 hc2 k2 f2
  cases b0 <;> cases b1 <;> cases b2
  all_goals (go_wp2; go_ret; exact ⟨rfl, HB3.out⟩)
theorem rdT_mem (l : List Tk) (i : Nat) (h : i < l.length) : rd_T35 l (i : Int) ∈ l :=
  List.mem_of_mem_drop (i := i) (by rw [tk_drop l i h]; exact List.mem_cons_self)
set_option maxRecDepth 8000 in
set_option maxHeartbeats 8000000 in
theorem commonT_any (a b : List Tk) (A B : Option Addr) (ca cb : Nat) (d : Int) (bp : Nat) (w : World) (ha : Kd.C k35 w A a.length a) (hb : Kd.C k35 w B b.length b) (hc : w.cell? ⟨bp, 0, none⟩ = some (.int .i64 d)) (hla : a.length ≤ 900) (hlb : b.length ≤ 900) (hd : ∀ x ∈ a, wrap64 (x.f2 + d) = x.f2 + d) :
    Calls Tryd.prog 61 #[.slice A a.length ca, .slice B b.length cb, .func (.func 86) #[] #[.pointer (some ⟨bp, 0, none⟩)]] w fun e w' => e = .returned (.int .i64 (runF (fun j => eqT d (rd_T35 a (j : Int)) (rd_T35 b (j : Int))) (min a.length b.length) 0 : Nat)) ∧ Below w.heap.size w w' := by
  have HA := Aside0.mk ha
  have HB := Aside0.mk hb
  have HC := Aside0.mk hc
  have HD := Aside0.mk hd
  have hbp := World.block_lt_of_cell? w _ hc
  have HBP := Aside0.mk hbp
  obtain ⟨r, hr⟩ : ∃ r, runF (fun j => eqT d (rd_T35 a (j : Int)) (rd_T35 b (j : Int))) (min a.length b.length - 0) 0 = r := ⟨_, rfl⟩
  rw [Nat.sub_zero] at hr
  rw [hr]
  have HR := Aside0.mk hr
  clear ha hb hr hc hd hbp
  go_enter Tryd.func61, Tryd.ntmps61
  go_wp2
  go_loopg [6] (min a.length b.length) (fun gg s6 wr => ∃ (i : Nat), s6 = .int .i64 i ∧ i ≤ a.length ∧ i ≤ b.length ∧ min a.length b.length - i ≤ gg ∧ Aside0 (runF (fun j => eqT d (rd_T35 a (j : Int)) (rd_T35 b (j : Int))) (min a.length b.length - i) i = r) ∧ Aside0 (Below w.heap.size w wr))
  case atStart => exact ⟨0, rfl, Nat.zero_le _, Nat.zero_le _, by omega, ⟨by rw [Nat.sub_zero]; exact HR.out⟩, ⟨Below.refl _ _⟩⟩
  case round =>
    obtain ⟨i, rfl, hi1, hi2, hg, HRi, HBW⟩ := hrel
    by_cases l1 : i < a.length
    · have c1 : decide ((i : Int) < (a.length : Int)) = true := decide_eq_true (by omega)
      by_cases l2 : i < b.length
      · have c2 : decide ((i : Int) < (b.length : Int)) = true := decide_eq_true (by omega)
        obtain ⟨ad, rfl, x0, x1, x2⟩ := at_T35 (Kd.C_below HA.out HBW.out) (i : Int) (by omega) (by omega)
        obtain ⟨bd, rfl, y0, y1, y2⟩ := at_T35 (Kd.C_below HB.out HBW.out) (i : Int) (by omega) (by omega)
        rw [Int.toNat_natCast] at x0 x1 x2 y0 y1 y2
        have hL := Aside0.mk (later1_any d bp (rd_T35 a (i : Int)) (rd_T35 b (i : Int)) wr.drew ((HBW.out.cell HBP.out).trans HC.out) (HD.out _ (rdT_mem a i l1)))
        have hs := runF_step _ HRi.out (by omega)
        by_cases c3 : eqT d (rd_T35 a (i : Int)) (rd_T35 b (i : Int)) = true
        · have HN := Aside0.mk (hs.1 c3)
          rw [c3] at hL
          clear hs c3
          unfold vTk at hL
          generalize rd_T35 a (i : Int) = x at *
          generalize rd_T35 b (i : Int) = y at *
          go_wp2
          go_still_tail 20, (by kernel_rfl)
          change wpList _ _ _ _ _ wr.drew
          go_wp2_with (go_at_call 86; refine hL.out.mono ?_; rintro e w1 ⟨rfl, hb1⟩; have HB1 := Aside0.mk (HBW.out.drew.trans (hb1.mono HBW.out.size)); clear hb1)
          go_roundg (min a.length b.length - (i + 1))
          case measure => omega
          case rel => exact ⟨i + 1, by go_num, by omega, by omega, by omega, HN, HB1⟩
        · have c4 : eqT d (rd_T35 a (i : Int)) (rd_T35 b (i : Int)) = false := Bool.eq_false_iff.2 c3
          have hN := hs.2 c4
          subst hN
          rw [c4] at hL
          clear hs c3 c4
          unfold vTk at hL
          generalize rd_T35 a (i : Int) = x at *
          generalize rd_T35 b (i : Int) = y at *
          go_wp2
          go_still_tail 20, (by kernel_rfl)
          change wpList _ _ _ _ _ wr.drew
          go_wp2_with (go_at_call 86; refine hL.out.mono ?_; rintro e w1 ⟨rfl, hb1⟩; have HB1 := Aside0.mk (HBW.out.drew.trans (hb1.mono HBW.out.size)); clear hb1)
          go_ret
          exact ⟨rfl, HB1.out⟩
      · have c2 : decide ((i : Int) < (b.length : Int)) = false := decide_eq_false (by omega)
        have hN := runF_stop _ HRi.out (by omega)
        subst hN
        go_wp2
        go_quiet (fail)
        go_wp2
        go_ret
        exact ⟨rfl, pw_below_drewN HBW.out nq⟩
    · have c1 : decide ((i : Int) < (a.length : Int)) = false := decide_eq_false (by omega)
      have hN := runF_stop _ HRi.out (by omega)
      subst hN
      go_wp2
      go_quiet (fail)
      go_wp2
      go_ret
      exact ⟨rfl, pw_below_drewN HBW.out nq⟩
set_option maxRecDepth 8000 in
set_option maxHeartbeats 8000000 in
theorem endingT_any (a b : List Tk) (A B : Option Addr) (ca cb : Nat) (d : Int) (bp : Nat) (w : World) (ha : Kd.C k35 w A a.length a) (hb : Kd.C k35 w B b.length b) (hc : w.cell? ⟨bp, 0, none⟩ = some (.int .i64 d)) (hla : a.length ≤ 900) (hlb : b.length ≤ 900) (hd : ∀ x ∈ a, wrap64 (x.f2 + d) = x.f2 + d) :
    Calls Tryd.prog 63 #[.slice A a.length ca, .slice B b.length cb, .func (.func 86) #[] #[.pointer (some ⟨bp, 0, none⟩)]] w fun e w' => e = .returned (.int .i64 (runF (fun j => eqT d (rd_T35 a ((a.length - 1 - j : Nat) : Int)) (rd_T35 b ((b.length - 1 - j : Nat) : Int))) (min a.length b.length) 0 : Nat)) ∧ Below w.heap.size w w' := by
  have HA := Aside0.mk ha
  have HB := Aside0.mk hb
  have HC := Aside0.mk hc
  have HD := Aside0.mk hd
  have hbp := World.block_lt_of_cell? w _ hc
  have HBP := Aside0.mk hbp
  obtain ⟨r, hr⟩ : ∃ r, runF (fun j => eqT d (rd_T35 a ((a.length - 1 - j : Nat) : Int)) (rd_T35 b ((b.length - 1 - j : Nat) : Int))) (min a.length b.length - 0) 0 = r := ⟨_, rfl⟩
  rw [Nat.sub_zero] at hr
  rw [hr]
  have HR := Aside0.mk hr
  clear ha hb hr hc hd hbp
  go_enter Tryd.func63, Tryd.ntmps63
  go_wp2
  go_loopg [6] (min a.length b.length) (fun gg s6 wr => ∃ (i : Nat), s6 = .int .i64 i ∧ i ≤ a.length ∧ i ≤ b.length ∧ min a.length b.length - i ≤ gg ∧ Aside0 (runF (fun j => eqT d (rd_T35 a ((a.length - 1 - j : Nat) : Int)) (rd_T35 b ((b.length - 1 - j : Nat) : Int))) (min a.length b.length - i) i = r) ∧ Aside0 (Below w.heap.size w wr))
  case atStart => exact ⟨0, rfl, Nat.zero_le _, Nat.zero_le _, by omega, ⟨by rw [Nat.sub_zero]; exact HR.out⟩, ⟨Below.refl _ _⟩⟩
  case round =>
    obtain ⟨i, rfl, hi1, hi2, hg, HRi, HBW⟩ := hrel
    by_cases l1 : i < a.length
    · have c1 : decide ((i : Int) < (a.length : Int)) = true := decide_eq_true (by omega)
      by_cases l2 : i < b.length
      · have c2 : decide ((i : Int) < (b.length : Int)) = true := decide_eq_true (by omega)
        obtain ⟨ai, hai⟩ : ∃ ai : Nat, ai = a.length - 1 - i := ⟨_, rfl⟩
        obtain ⟨bi, hbi⟩ : ∃ bi : Nat, bi = b.length - 1 - i := ⟨_, rfl⟩
        have ai1 : ai < a.length := by omega
        have bi1 : bi < b.length := by omega
        obtain ⟨ad, rfl, x0, x1, x2⟩ := at_T35 (Kd.C_below HA.out HBW.out) (ai : Int) (by omega) (by omega)
        obtain ⟨bd, rfl, y0, y1, y2⟩ := at_T35 (Kd.C_below HB.out HBW.out) (bi : Int) (by omega) (by omega)
        rw [Int.toNat_natCast] at x0 x1 x2 y0 y1 y2
        have hL := Aside0.mk (later1_any d bp (rd_T35 a (ai : Int)) (rd_T35 b (bi : Int)) wr.drew ((HBW.out.cell HBP.out).trans HC.out) (HD.out _ (rdT_mem a ai ai1)))
        have hs := runF_step _ HRi.out (by omega)
        rw [← hai, ← hbi] at hs
        have u1 : IntKind.i64.wrap ((a.length : Int) - 1) = (a.length : Int) - 1 := (i64_w _).trans (w64 (by omega) (by omega))
        have u2 : IntKind.i64.wrap ((a.length : Int) - 1 - (i : Int)) = (ai : Int) := by rw [i64_w, w64 (by omega) (by omega)]; omega
        have u3 : IntKind.i64.wrap ((b.length : Int) - 1) = (b.length : Int) - 1 := (i64_w _).trans (w64 (by omega) (by omega))
        have u4 : IntKind.i64.wrap ((b.length : Int) - 1 - (i : Int)) = (bi : Int) := by rw [i64_w, w64 (by omega) (by omega)]; omega
        clear hai hbi
        by_cases c3 : eqT d (rd_T35 a (ai : Int)) (rd_T35 b (bi : Int)) = true
        · have HN := Aside0.mk (hs.1 c3)
          rw [c3] at hL
          clear hs c3
          unfold vTk at hL
          generalize rd_T35 a (ai : Int) = x at *
          generalize rd_T35 b (bi : Int) = y at *
          go_wp2
          go_still_tail 28, (by kernel_rfl)
          change wpList _ _ _ _ _ wr.drew
          go_wp2_with (go_at_call 86; refine hL.out.mono ?_; rintro e w1 ⟨rfl, hb1⟩; have HB1 := Aside0.mk (HBW.out.drew.trans (hb1.mono HBW.out.size)); clear hb1)
          go_roundg (min a.length b.length - (i + 1))
          case measure => omega
          case rel => exact ⟨i + 1, by go_num, by omega, by omega, by omega, HN, HB1⟩
        · have c4 : eqT d (rd_T35 a (ai : Int)) (rd_T35 b (bi : Int)) = false := Bool.eq_false_iff.2 c3
          have hN := hs.2 c4
          subst hN
          rw [c4] at hL
          clear hs c3 c4
          unfold vTk at hL
          generalize rd_T35 a (ai : Int) = x at *
          generalize rd_T35 b (bi : Int) = y at *
          go_wp2
          go_still_tail 28, (by kernel_rfl)
          change wpList _ _ _ _ _ wr.drew
          go_wp2_with (go_at_call 86; refine hL.out.mono ?_; rintro e w1 ⟨rfl, hb1⟩; have HB1 := Aside0.mk (HBW.out.drew.trans (hb1.mono HBW.out.size)); clear hb1)
          go_ret
          exact ⟨rfl, HB1.out⟩
      · have c2 : decide ((i : Int) < (b.length : Int)) = false := decide_eq_false (by omega)
        have hN := runF_stop _ HRi.out (by omega)
        subst hN
        go_wp2
        go_quiet (fail)
        go_wp2
        go_ret
        exact ⟨rfl, pw_below_drewN HBW.out nq⟩
    · have c1 : decide ((i : Int) < (a.length : Int)) = false := decide_eq_false (by omega)
      have hN := runF_stop _ HRi.out (by omega)
      subst hN
      go_wp2
      go_quiet (fail)
      go_wp2
      go_ret
      exact ⟨rfl, pw_below_drewN HBW.out nq⟩
end Go.Proofs.YtggfcmondffodaaDoor.P
