/- What the claim's law needs, many texts in one (Xn Xo P3 P11 P12 P13 P14 Ya Yb P10 Xu Xw Xx Ye Yg Yh Yi Yn). No conditions of its own. -/
import Derived.Test.YtebidpcmcekbgaaDoorZl9
import Derived.Deep.RegionWith
import Derived.BigCall
import Derived.Test.YtebidpcmcekbgaaDoorZl2
import Derived.Test.YtebidpcmcekbgaaDoorZl4
import Derived.Deep.QuietTactic
import Derived.BigQuiet
import Derived.BigGuard
import Derived.Laws.IdiomStrings
import Derived.StillTailTactics
set_option linter.unusedVariables false
set_option linter.unusedSimpArgs false
namespace Go.Proofs.YtebidpcmcekbgaaDoor.P
open Go.RowKit Go.Shelf Go.Maps Go.Proofs.YtebidpcmcekbgaaDoorW.PrintWords Go.Proofs.YtebidpcmcekbgaaDoorW.PrintLast Go.Proofs.YtebidpcmcekbgaaDoorW.PrintMore
set_option linter.unusedVariables false
set_option linter.unusedSimpArgs false
abbrev Sp := S60
/-- Splices that stand in order, from a place on, within so many bytes. -/
def OrdS (n : Nat) : List Sp → Int → Prop
  | [], a => 0 ≤ a ∧ a ≤ n
  | x :: r, a => 0 ≤ a ∧ a ≤ x.f0 ∧ x.f0 ≤ x.f1 ∧ x.f1 ≤ n ∧ OrdS n r x.f1
/-- The bytes behind a place, after splices. -/
def splB (s : ByteArray) : List Sp → Int → List UInt8
  | [], a => (s.extract a.toNat s.size).data.toList
  | x :: r, a => (s.extract a.toNat x.f0.toNat).data.toList ++ (x.f2.data.toList ++ splB s r x.f1)
def splM (s : ByteArray) (l : List Sp) : ByteArray := ba (splB s l 0)
theorem OrdS.range {n : Nat} : ∀ {l : List Sp} {a : Int}, OrdS n l a → 0 ≤ a ∧ a ≤ n
  | [], _, h => h
  | x :: r, _, h => ⟨h.1, by have := h.2; omega⟩
theorem drop_rd (l : List Sp) (i : Nat) (h : i < l.length) : l.drop i = rd_T60 l (i : Int) :: l.drop (i + 1) := by
  rw [List.drop_eq_getElem_cons h]
  congr 1
  unfold rd_T60
  simp [List.getD, List.getElem?_eq_getElem h]
theorem ba_data (l : List UInt8) : (ba l).data.toList = l := rfl
theorem app_ba (s t : ByteArray) : s ++ t = ba (s.data.toList ++ t.data.toList) := by
  apply ba_ext
  rw [ba_data]
  simp
theorem size_len (s : ByteArray) : s.size = s.data.toList.length := by rw [data_length]
set_option maxRecDepth 8000 in
set_option maxHeartbeats 4000000 in
theorem spliced_any (s : ByteArray) (A : Option Addr) (c : Nat) (l : List Sp) (w : World) (hr : Kd.C k60 w A l.length l) (hs : s.size ≤ 1000000000) (hll : l.length ≤ 1000000000) (ho : OrdS s.size l 0) (hb : (splB s l 0).length ≤ 1000000000) :
    Calls Tryd.prog 49 #[.string s, .slice A l.length c] w fun e w' => e = .returned (.string (splM s l)) ∧ Below w.heap.size w w' := by
  have HR := Aside0.mk hr
  have HO := Aside0.mk ho
  obtain ⟨RES, hRES⟩ : ∃ R, splB s l 0 = R := ⟨_, rfl⟩
  rw [hRES] at hb
  unfold splM
  rw [hRES]
  have HS := Aside0.mk hRES
  clear hr ho hRES
  have h0 := Aside0.mk (show Lib.IsBuilderF 86 5 w.heap.size w.heap.size (Lib.byteCells []) (w.alloc (.cells #[.pointer none, .slice none 0 0] 86)) from Lib.IsBuilderF.of (Lib.fresh_isBuilder 86 5 w))
  have b0 := Aside0.mk ((Below.refl _ w).alloc (Nat.le_refl _) (.cells #[.pointer none, .slice none 0 0] 86))
  go_enter Tryd.func49, Tryd.ntmps49
  go_wp2
  go_loopg [6, 11] l.length (fun gg s6 s11 wr => ∃ (i : Nat) (a : Int) (acc : List UInt8), s6 = .int .i64 a ∧ s11 = .int .i64 i ∧ i ≤ l.length ∧ l.length - i ≤ gg ∧ Aside0 (OrdS s.size (l.drop i) a) ∧ Aside0 (acc ++ splB s (l.drop i) a = RES) ∧ Aside0 (Lib.IsBuilderF 86 5 w.heap.size w.heap.size (Lib.byteCells acc) wr) ∧ Aside0 (Below w.heap.size w wr) ∧ w.heap.size + 1 ≤ wr.heap.size)
  case atStart => exact ⟨0, 0, [], rfl, rfl, Nat.zero_le _, by omega, HO, ⟨HS.out⟩, h0, b0, by simp⟩
  case round =>
    obtain ⟨i, a, acc, rfl, rfl, hi, hg, HOi, HA, HBu, HB, hsz⟩ := hrel
    obtain ⟨ha0, ha1⟩ := HOi.out.range
    by_cases hlt : i < l.length
    · have hltz : (i : Int) < (l.length : Int) := by omega
      obtain ⟨ad, e0, x0, x1, x2⟩ := at_T60 HR.out (i : Int) (by omega) hltz
      have hO2 := HOi.out
      have hA2 := HA.out
      rw [drop_rd l i hlt] at hO2 hA2
      obtain ⟨o1, o2, o3, o4, o5⟩ := hO2
      rw [Int.toNat_natCast] at x0 x1 x2
      generalize rd_T60 l (i : Int) = y at *
      obtain ⟨yf, yt, yx⟩ := y
      simp only at o2 o3 o4
      replace x0 := (HB.out.cell (World.block_lt_of_cell? w _ x0)).trans x0
      replace x1 := (HB.out.cell (World.block_lt_of_cell? w _ x1)).trans x1
      replace x2 := (HB.out.cell (World.block_lt_of_cell? w _ x2)).trans x2
      have hA3 := Aside0.mk (show (acc ++ (s.extract a.toNat yf.toNat ++ yx).data.toList) ++ splB s (l.drop (i + 1)) yt = RES by
        rw [app_ba, ba_data, ← hA2, splB, List.append_assoc, List.append_assoc])
      have hal : (acc ++ (s.extract a.toNat yf.toNat ++ yx).data.toList).length ≤ 1000000000 := by
        have := congrArg List.length hA3.out
        rw [List.length_append] at this
        omega
      have O5 := Aside0.mk o5
      have hf1 : yf ≤ (s.size : Int) := by omega
      have hwl : (acc ++ (s.extract a.toNat yf.toNat ++ yx).data.toList).length = acc.length + (s.extract a.toNat yf.toNat ++ yx).size := by rw [List.length_append, ← size_len]
      have hcat : (s.extract a.toNat yf.toNat).size + yx.size ≤ 9223372036854775807 := by
        rw [app_ba] at hal
        rw [ba_data, List.length_append, List.length_append, ← size_len, ← size_len] at hal
        omega
      have hcatr : ∀ W : World, (Op.stringOp .add (s.extract a.toNat yf.toNat) yx).run Tryd.prog W = .ok (.string (s.extract a.toNat yf.toNat ++ yx)) W := fun W => run_string_add_sum W _ _ hcat
      subst e0
      clear hA2 o5
      go_wp2
      obtain ⟨W2, hW2⟩ : ∃ W2, W2 = wr.alloc (.cells #[.int .i64 yf, .int .i64 yt, .string yx] 60) := ⟨_, rfl⟩
      rw [← hW2]
      have HB2 := Aside0.mk (show Below w.heap.size w W2 by rw [hW2]; exact HB.out.alloc (by omega) _)
      have hBA := Aside0.mk (show Lib.IsBuilderF 86 5 w.heap.size w.heap.size (Lib.byteCells acc) W2.drew by
        rw [hW2]
        rcases HBu.out with h | h
        · exact .inl ((h.alloc _).drew)
        · exact .inr ((h.alloc _).drew))
      have HK := Aside0.mk (show W2.heap[wr.heap.size]? = some (.cells #[.int .i64 yf, .int .i64 yt, .string yx] 60 (0, 0)) by rw [hW2]; exact heap_alloc_new wr _)
      have hsz2 : W2.heap.size = wr.heap.size + 1 := by rw [hW2]; simp
      have k0 : W2.cell? ⟨wr.heap.size, 0, none⟩ = some (.int .i64 yf) := (blk_cell HK.out 0).trans rfl
      have k1 : W2.cell? ⟨wr.heap.size, 1, none⟩ = some (.int .i64 yt) := (blk_cell HK.out 1).trans rfl
      have k2 : W2.cell? ⟨wr.heap.size, 2, none⟩ = some (.string yx) := (blk_cell HK.out 2).trans rfl
      clear hW2
      go_still_tail 8, (by kernel_rfl)
      change wpList _ _ _ _ _ W2.drew
      go_wp2_with (go_at_call 62; refine (Tryd.Builder_WriteString_k w.heap.size w.heap.size _ (s.extract a.toNat yf.toNat ++ yx) _ hBA.out (by rw [Lib.byteCells_length]; omega) (show w.heap.size ≤ W2.heap.size by omega)).mono ?_; rintro e w3 ⟨rfl, hb3, bb3, ok3⟩; have HB3 := Aside0.mk hb3; have HBB3 := Aside0.mk bb3; have HOK := Aside0.mk ok3; have HK3 := Aside0.mk (ok3 _ _ (blk_drew HK.out) (by simp; omega) (by intro c' fz e; cases e)); have k30 : w3.cell? ⟨wr.heap.size, 1, none⟩ = some (.int .i64 yt) := (blk_cell HK3.out 1).trans rfl; clear hb3 bb3 ok3)
      have hs3 := HBB3.out.size
      go_roundg (l.length - (i + 1))
      case measure => omega
      case rel => exact ⟨i + 1, yt, acc ++ (s.extract a.toNat yf.toNat ++ yx).data.toList, rfl, by go_num, by omega, by omega, O5, hA3, ⟨by rw [Lib.byteCells_append]; exact .inr HB3.out⟩, ⟨HB2.out.drew.trans HBB3.out⟩, by have : W2.drew.heap.size = W2.heap.size := rfl; omega⟩
    · have hlt2 : decide ((i : Int) < (l.length : Int)) = false := decide_eq_false (by omega)
      have hlt3 : decide (i < l.length) = false := decide_eq_false hlt
      have hA2 := HA.out
      rw [List.drop_eq_nil_of_le (by omega), splB] at hA2
      have HA2 := Aside0.mk hA2
      have hf1 : a ≤ (s.size : Int) := by omega
      have hBD := Aside0.mk (show Lib.IsBuilderF 86 5 w.heap.size w.heap.size (Lib.byteCells acc) wr.drew by
        rcases HBu.out with h | h
        · exact .inl h.drew
        · exact .inr h.drew)
      have hcat : (⟨acc.toArray⟩ : ByteArray).size + (s.extract a.toNat s.size).size ≤ 9223372036854775807 := by
        have h1 := congrArg List.length hA2
        rw [List.length_append, ← size_len] at h1
        have h2 : (⟨acc.toArray⟩ : ByteArray).size = acc.length := by rw [size_len]
        omega
      have hcatr : ∀ W : World, (Op.stringOp .add ⟨acc.toArray⟩ (s.extract a.toNat s.size)).run Tryd.prog W = .ok (.string (⟨acc.toArray⟩ ++ (s.extract a.toNat s.size))) W := fun W => run_string_add_sum W _ _ hcat
      have HFIN := Aside0.mk (show (⟨acc.toArray⟩ : ByteArray) ++ s.extract a.toNat s.size = ba RES by rw [app_ba]; exact congrArg ba hA2)
      clear hA2
      go_wp2
      go_region_with (go_at_call 64; refine (Tryd.Builder_String_any_k w.heap.size w.heap.size acc _ hBD.out (show w.heap.size ≤ wr.drew.heap.size from (by have : wr.drew.heap.size = wr.heap.size := rfl; omega))).mono ?_; rintro e w3 ⟨rfl, hb3, bb3, ok3⟩; have HBB3 := Aside0.mk bb3; clear hb3 bb3 ok3)
      all_goals (go_wp2; go_ret; exact ⟨by rw [HFIN.out]; rfl, HB.out.drew.trans HBB3.out⟩)
theorem runRight_aux (a b : ByteArray) : (a.toList == b.toList) = decide (a = b) := Bl a b
/-- Is a token right as it stands alone? -/
def rightB (k : Int) (t : ByteArray) : Bool := decide ((firstM kwM t).2 = 0) && (decide ((firstM kwM t).1.1 = k) && decide ((firstM kwM t).1.2 = t))
set_option maxRecDepth 8000 in
set_option maxHeartbeats 4000000 in
theorem isRight_any (k : Int) (t : ByteArray) (a : Int) (w : World) (hg : Gl w) (hs : t.size ≤ 140737488351232) :
    Calls Tryd.prog 85 #[.agg #[.int .u8 k, .string t, .int .i64 a]] w fun e w' => e = .returned (.bool (rightB k t)) ∧ Below w.heap.size w w' := by
  have b0 := Aside0.mk ((Below.refl _ w).alloc (Nat.le_refl _) (.cells #[.int .u8 k, .string t, .int .i64 a] 58))
  have hF := first_any t (w.alloc (.cells #[.int .u8 k, .string t, .int .i64 a] 58)) (hg.mono b0.out) hs
  unfold rightB
  generalize firstM kwM t = F at *
  obtain ⟨⟨fk, ft⟩, fe⟩ := F
  simp only at hF ⊢
  have hbl := runRight_aux ft t
  generalize hq : decide (ft = t) = qb at *
  clear hg
  go_enter Tryd.func85, Tryd.ntmps85
  go_wp2_with (go_at_call 43; refine hF.mono ?_; rintro e w3 ⟨rfl, hb3⟩; have HB3 := Aside0.mk hb3; have HK3 := Aside0.mk ((hb3.block w.heap.size (by simp)).trans (heap_alloc_new w _)); have hn3 : w.heap.size ≠ w3.heap.size := (by have := hb3.size; simp at this; omega); have k0 : w3.cell? ⟨w.heap.size, 0, none⟩ = some (.int .u8 k) := (blk_cell HK3.out 0).trans rfl; have k1 : w3.cell? ⟨w.heap.size, 1, none⟩ = some (.string t) := (blk_cell HK3.out 1).trans rfl; have ka0 : ∀ o, (w3.alloc o).cell? ⟨w.heap.size, 0, none⟩ = some (.int .u8 k) := (fun o => (blk_cell (blk_alloc HK3.out o) 0).trans rfl); have ka1 : ∀ o, (w3.alloc o).cell? ⟨w.heap.size, 1, none⟩ = some (.string t) := (fun o => (blk_cell (blk_alloc HK3.out o) 1).trans rfl); clear hb3)
  all_goals (go_ret; refine ⟨by simp_all, ?_⟩; exact b0.out.trans ((HB3.out.mono (by simp)).alloc (by have := HB3.out.size; simp at this; omega) _))
def nameB (t : ByteArray) : Bool := rightB 1 t
theorem isName_any (t : ByteArray) (w : World) (hg : Gl w) (hs : t.size ≤ 140737488351232) :
    Calls Tryd.prog 48 #[.string t] w fun e w' => e = .returned (.bool (nameB t)) ∧ Below w.heap.size w w' := by
  have hR := isRight_any 1 t 0 w hg hs
  unfold nameB
  generalize rightB 1 t = b at *
  go_enter Tryd.func48, Tryd.ntmps48
  go_wp2_with (go_at_call 85; refine hR.mono ?_; rintro e w3 ⟨rfl, hb3⟩)
  go_ret
  exact ⟨rfl, hb3⟩
end Go.Proofs.YtebidpcmcekbgaaDoor.P
namespace Go.Proofs.YtebidpcmcekbgaaDoor.P
open Go.RowKit Go.Proofs.YtebidpcmcekbgaaDoorW.PrintWords
set_option linter.unusedVariables false
set_option linter.unusedSimpArgs false
/-- Tokens that stand in order, from a place on, within so many bytes. -/
def TOrd (n : Nat) : List Tk → Int → Prop
  | [], a => a ≤ n
  | x :: r, a => a ≤ x.f2 ∧ x.f2 + (x.f1.size : Int) ≤ n ∧ TOrd n r (x.f2 + (x.f1.size : Int))
theorem TOrd.le {n : Nat} : ∀ {l : List Tk} {a b : Int}, TOrd n l a → b ≤ a → TOrd n l b
  | [], a, b, h, hb => Int.le_trans hb h
  | x :: r, a, b, h, hb => ⟨Int.le_trans hb h.1, h.2⟩
theorem goT_ord (kw : ByteArray → Bool) (s : ByteArray) : ∀ (d i : Nat) (l l' : List Tk), s.size - i ≤ d → i ≤ s.size → goT kw s (pcsA s (lenT kw s) i) l = (l', 0, 0) → ∃ r, l' = l ++ r ∧ TOrd s.size r (i : Int) := by
  intro d
  induction d with
  | zero =>
    intro i l l' hd hi h
    rw [pcsA_end s _ (lenT_pos kw s) i (by omega)] at h
    exact ⟨[], by rw [List.append_nil]; exact (congrArg Prod.fst h).symm, by show (i : Int) ≤ s.size; omega⟩
  | succ d ih =>
    intro i l l' hd hi h
    by_cases hlt : i < s.size
    · rw [pcsA_step s _ (lenT_pos kw s) i hlt] at h
      by_cases c1 : spB (bt s (i : Int)) = true
      · rw [if_pos c1] at h
        obtain ⟨r, h1, h2⟩ := ih (i + 1) l l' (by omega) (by omega) h
        exact ⟨r, h1, h2.le (by omega)⟩
      · rw [if_neg c1] at h
        by_cases c2 : bt s (i : Int) = 126
        · have hp := noteL_pos s i hlt c2
          have hle : i + noteL s i ≤ s.size := ll_le s s.size i hi
          have hz := noteT_size s i hi
          rw [if_pos c2, goT_cons] at h
          have e : stepT kw s l (i, noteT s i) = (l, 0, 0) := by unfold stepT; rw [if_pos (show (noteT s i).size ≠ 0 by omega)]
          rw [e, if_pos rfl] at h
          obtain ⟨r, h1, h2⟩ := ih (i + noteL s i) l l' (by omega) (by omega) h
          exact ⟨r, h1, h2.le (by omega)⟩
        · rw [if_neg c2, goT_cons] at h
          have hst : stepT kw s l (i, ByteArray.empty) = if (firstM kw (s.extract i s.size)).2 ≠ 0 then ([], (i : Int), (firstM kw (s.extract i s.size)).2) else if l.length = 900 then ([], (i : Int), 5) else (l ++ [⟨(firstM kw (s.extract i s.size)).1.1, (firstM kw (s.extract i s.size)).1.2, (i : Int)⟩], 0, 0) := by
            unfold stepT
            rw [if_neg (show ¬ (ByteArray.empty.size ≠ 0) by decide)]
          rw [hst] at h
          by_cases c3 : (firstM kw (s.extract i s.size)).2 ≠ 0
          · rw [if_pos c3, if_neg c3] at h
            exact absurd (congrArg (fun y => y.2.2) h) c3
          · rw [if_neg c3] at h
            by_cases c4 : l.length = 900
            · rw [if_pos c4, if_neg (show ¬ (5 : Int) = 0 by decide)] at h
              exact absurd (show (5 : Int) = 0 from congrArg (fun y => y.2.2) h) (by decide)
            · rw [if_neg c4, if_pos rfl] at h
              have hz : (firstM kw (s.extract i s.size)).2 = 0 := by simpa using c3
              have hsz := firstM_size kw _ hz
              rw [size_ex, Nat.min_self] at hsz
              have hlen : lenT kw s i = (firstM kw (s.extract i s.size)).1.2.size := by unfold lenT; rw [if_pos hz]
              rw [hlen] at h
              obtain ⟨r, h1, h2⟩ := ih _ _ l' (by omega) (by omega) h
              refine ⟨_ :: r, by rw [h1, List.append_assoc]; rfl, ?_⟩
              exact ⟨Int.le_refl _, by simp only; omega, by
                have : ((i + (firstM kw (s.extract i s.size)).1.2.size : Nat) : Int) = (i : Int) + ((firstM kw (s.extract i s.size)).1.2.size : Int) := by omega
                rw [this] at h2; exact h2⟩
    · rw [pcsA_end s _ (lenT_pos kw s) i (by omega)] at h
      exact ⟨[], by rw [List.append_nil]; exact (congrArg Prod.fst h).symm, by show (i : Int) ≤ s.size; omega⟩
theorem toks_ord (s : ByteArray) (h : (toksM kwM s).2.2 = 0) : TOrd s.size (toksM kwM s).1 0 ∧ (toksM kwM s).1.length ≤ 900 ∧ s.size ≤ 2500 := by
  unfold toksM at h ⊢
  by_cases c : (chkT s).2 = 0
  · rw [if_neg (by simpa using c)] at h ⊢
    have hl := goT_len kwM s (pcsA s (lenT kwM s) 0) [] (by decide)
    have hs : s.size ≤ 2500 := by
      rw [chkT_eq] at c
      by_cases c2 : 2500 < s.size
      · rw [if_pos c2] at c; exact absurd (show (5 : Int) = 0 from c) (by decide)
      · omega
    refine ⟨?_, hl, hs⟩
    generalize hg : goT kwM s (pcsA s (lenT kwM s) 0) [] = G at *
    obtain ⟨g1, g2, g3⟩ := G
    have h3 : g3 = 0 := h
    subst h3
    have hp : g2 = 0 := by
      have : ∀ (L : List (Nat × ByteArray)) (l l' : List Tk) (p : Int), goT kwM s L l = (l', p, 0) → p = 0 := by
        intro L
        induction L with
        | nil => intro l l' p h; exact (congrArg (fun y => y.2.1) h).symm
        | cons x L ih =>
          intro l l' p h
          rw [goT_cons] at h
          by_cases c : (stepT kwM s l x).2.2 = 0
          · rw [if_pos c] at h; exact ih _ _ _ h
          · rw [if_neg c] at h; exact absurd (congrArg (fun y => y.2.2) h) c
      exact this _ _ _ _ hg
    subst hp
    obtain ⟨r, h1, h2⟩ := goT_ord kwM s s.size 0 [] g1 (by omega) (by omega) hg
    rw [List.nil_append] at h1
    subst h1
    exact h2
  · rw [if_pos c] at h; exact absurd h c
/-- The splices of a renaming. -/
def renS (old name : ByteArray) (l : List Tk) : List Sp := (l.filter fun t => decide (t.f1 = old)).map fun t => ⟨t.f2, t.f2 + (old.size : Int), name⟩
theorem renS_ord (n : Nat) (old name : ByteArray) : ∀ (l : List Tk) (a b : Int), TOrd n l a → 0 ≤ b → b ≤ a → OrdS n (renS old name l) b
  | [], a, b, h, h0, hb => ⟨h0, Int.le_trans hb h⟩
  | x :: r, a, b, h, h0, hb => by
    obtain ⟨h1, h2, h3⟩ := h
    unfold renS
    by_cases c : x.f1 = old
    · rw [List.filter_cons_of_pos (by exact decide_eq_true c), List.map_cons]
      have := renS_ord n old name r _ (x.f2 + (old.size : Int)) h3 (by omega) (by rw [← c]; exact Int.le_refl _)
      exact ⟨h0, by show b ≤ x.f2; omega, by show x.f2 ≤ x.f2 + (old.size : Int); omega, by show x.f2 + (old.size : Int) ≤ n; rw [← c]; exact h2, this⟩
    · rw [List.filter_cons_of_neg (by simpa using c)]
      exact renS_ord n old name r _ b h3 h0 (by omega)
theorem renS_len (old name : ByteArray) (l : List Tk) : (renS old name l).length ≤ l.length := by
  unfold renS
  rw [List.length_map]
  exact List.length_filter_le _ _
theorem splB_len (s : ByteArray) (m : Nat) : ∀ (l : List Sp) (a : Int), (∀ x ∈ l, x.f2.size ≤ m) → OrdS s.size l a → (splB s l a).length + a.toNat ≤ s.size + l.length * m
  | [], a, _, h => by
    unfold splB
    rw [← size_len, size_ex]
    have := h.1; have := h.2
    simp only [List.length_nil]
    omega
  | x :: r, a, hm, h => by
    obtain ⟨h1, h2, h3, h4, h5⟩ := h
    have ih := splB_len s m r x.f1 (fun y hy => hm y (List.mem_cons_of_mem _ hy)) h5
    have hx := hm x List.mem_cons_self
    unfold splB
    rw [List.length_append, List.length_append, ← size_len, ← size_len, size_ex, List.length_cons, Nat.succ_mul]
    omega
theorem nameB_size (t : ByteArray) (h : nameB t = true) : t.size ≤ 12 := by
  unfold nameB rightB at h
  simp only [Bool.and_eq_true, decide_eq_true_eq] at h
  obtain ⟨h0, h1, h2⟩ := h
  unfold firstM at h0 h1 h2
  by_cases c : wlen t = 0
  · rw [if_pos c] at h1
    cases hs : signM t with
    | none => rw [hs] at h1; exact absurd (show (0 : Int) = 1 from h1) (by decide)
    | some z => rw [hs] at h1; exact absurd (show (4 : Int) = 1 from h1) (by decide)
  · rw [if_neg c] at h0 h1 h2
    by_cases c2 : dgB (bt t 0) = true
    · rw [if_pos c2] at h1; exact absurd (show (2 : Int) = 1 from h1) (by decide)
    · rw [if_neg c2] at h0 h1 h2
      by_cases c3 : smB (bt t 0) = false
      · rw [if_pos c3] at h1; exact absurd (show (0 : Int) = 1 from h1) (by decide)
      · rw [if_neg c3] at h0 h1 h2
        by_cases c4 : kwM (t.extract 0 (wlen t)) = true
        · rw [if_pos c4] at h1; exact absurd (show (3 : Int) = 1 from h1) (by decide)
        · rw [if_neg c4] at h0 h1 h2
          by_cases c5 : 12 < (t.extract 0 (wlen t)).size
          · rw [if_pos c5] at h1; exact absurd (show (0 : Int) = 1 from h1) (by decide)
          · rw [if_neg c5] at h2
            have h3 : t.extract 0 (wlen t) = t := h2
            rw [h3] at c5; omega
/-- lex.Rename. -/
def renM (s old name : ByteArray) : ByteArray × Int :=
  if (toksM kwM s).2.2 ≠ 0 then (ByteArray.empty, (toksM kwM s).2.2)
  else if nameB old = false ∨ nameB name = false then (ByteArray.empty, 2)
  else if renS old name (toksM kwM s).1 = [] then (ByteArray.empty, 7)
  else if ((toksM kwM s).1.any fun t => decide (t.f1 = name)) = true then (ByteArray.empty, 6)
  else if 2500 < (splM s (renS old name (toksM kwM s).1)).size then (ByteArray.empty, 5)
  else (splM s (renS old name (toksM kwM s).1), 0)
end Go.Proofs.YtebidpcmcekbgaaDoor.P
namespace Go.Proofs.YtebidpcmcekbgaaDoor.P
open Go.RowKit Go.Proofs.YtebidpcmcekbgaaDoorW.PrintWords Go.Proofs.YtebidpcmcekbgaaDoorW.PrintLast Go.Proofs.YtebidpcmcekbgaaDoorW.PrintMore
attribute [local go_sem] min2_int min_two -- for this text's walks alone
set_option linter.unusedVariables false
set_option linter.unusedSimpArgs false



/-! ### riposteref01_Diff: function 20 -/

/-! ### riposteref01_SameSplices: function 21 -/

-- NOT PRINTED: function 5 (ripostelaw01_LexDiffs)

/-! ### ripostelaw01_few: function 22 -/


/-! ### riposteref01_SplicesError: function 87 -/

/-! ### riposteref01_check: function 55 -/

/-! ### riposteref01_Spliced: function 56 -/

/-! ### riposteref01_Apply: function 24 -/


/-! ### lex_Moved: function 25 -/

/-! ### riposteref01_Moved: function 26 -/

/-! ### lex_splice_moved: function 58 -/


/-! ### lex_Undo: function 27 -/

/-! ### riposteref01_Undo: function 28 -/

-- NOT PRINTED: function 6 (ripostelaw01_LexSplices)

end Go.Proofs.YtebidpcmcekbgaaDoor.P
namespace Go.Proofs.YtebidpcmcekbgaaDoor.P
open Go.RowKit Go.Proofs.YtebidpcmcekbgaaDoorW.PrintWords
set_option linter.unusedVariables false
set_option linter.unusedSimpArgs false
/-- By how much a text grows. -/
def gr (x : Sp) : Int := (x.f2.size : Int) - (x.f1 - x.f0)
def rngB (n : Nat) : List Sp → Int → Bool
  | [], _ => true
  | x :: r, a => decide (a ≤ x.f0) && (decide (x.f0 ≤ x.f1) && (decide (x.f1 ≤ (n : Int)) && rngB n r x.f1))
def tailE : Int → List Sp → Int
  | n, [] => if n > 2500 then 5 else 0
  | n, x :: r => if badAt x.f2 x.f2.size 0 = none then tailE (n + gr x) r else 2
/-- The error of a text and of splices for it. -/
def splE (s : ByteArray) (l : List Sp) : Int :=
  if (chkT s).2 = 0 then (if 40 < l.length then 5 else if rngB s.size l 0 = true then tailE s.size l else 3) else (chkT s).2
theorem rngB_ord {n : Nat} : ∀ {l : List Sp} {a : Int}, rngB n l a = true → 0 ≤ a → a ≤ n → OrdS n l a
  | [], a, _, h0, h1 => ⟨h0, h1⟩
  | x :: r, a, h, h0, h1 => by
    unfold rngB at h
    simp only [Bool.and_eq_true, decide_eq_true_eq] at h
    obtain ⟨a1, a2, a3, a4⟩ := h
    exact ⟨h0, a1, a2, a3, rngB_ord a4 (by omega) a3⟩
theorem ord_rngB {n : Nat} : ∀ {l : List Sp} {a : Int}, OrdS n l a → rngB n l a = true
  | [], a, _ => rfl
  | x :: r, a, h => by
    obtain ⟨h0, h1, h2, h3, h4⟩ := h
    unfold rngB
    rw [decide_eq_true h1, decide_eq_true h2, decide_eq_true h3, ord_rngB h4]; rfl
theorem up1 (i : Nat) (n : Nat) (h : i < n) (hn : n ≤ 140737488351232) : wrap64 ((i : Int) + 1) = ((i + 1 : Nat) : Int) := by rw [w64 (by omega) (by omega)]; omega
/-! ### The program's splices -/
/-! ### The reference's -/
theorem splE_ord {s : ByteArray} {l : List Sp} (h : splE s l = 0) : (chkT s).2 = 0 ∧ l.length ≤ 40 ∧ OrdS s.size l 0 ∧ tailE s.size l = 0 := by
  unfold splE at h
  by_cases c : (chkT s).2 = 0
  · rw [if_pos c] at h
    by_cases c2 : 40 < l.length
    · rw [if_pos c2] at h; exact absurd h (by decide)
    · rw [if_neg c2] at h
      by_cases c3 : rngB s.size l 0 = true
      · rw [if_pos c3] at h
        exact ⟨c, by omega, rngB_ord c3 (Int.le_refl _) (by omega), h⟩
      · rw [if_neg c3] at h; exact absurd h (by decide)
  · rw [if_neg c] at h; exact absurd h c

/-! ### Where a byte goes -/
def mvd (p : Int) : List Sp → Int → Int × Int
  | [], n => (n, 0)
  | x :: r, n => if x.f1 ≤ p then mvd p r (n + gr x) else if x.f0 ≤ p then (0, 7) else mvd p r n
/-! ### What leads back -/
def unS (s : ByteArray) : List Sp → Int → List Sp
  | [], _ => []
  | x :: r, m => ⟨x.f0 + m, x.f0 + m + (x.f2.size : Int), s.extract x.f0.toNat x.f1.toNat⟩ :: unS s r (m + gr x)
theorem unS_length (s : ByteArray) : ∀ (l : List Sp) (m : Int), (unS s l m).length = l.length
  | [], _ => rfl
  | x :: r, m => by unfold unS; rw [List.length_cons, List.length_cons, unS_length s r]
theorem OrdS.in {n : Nat} : ∀ {l : List Sp} {a : Int}, OrdS n l a → ∀ x ∈ l, a ≤ x.f0 ∧ x.f0 ≤ x.f1 ∧ x.f1 ≤ (n : Int)
  | [], _, _, x, hx => by cases hx
  | y :: r, a, h, x, hx => by
    obtain ⟨h0, h1, h2, h3, h4⟩ := h
    rcases List.mem_cons.1 hx with rfl | hx
    · exact ⟨h1, h2, h3⟩
    · have := h4.in x hx
      exact ⟨by omega, this.2⟩
/-! ### Lists of splices compared; few -/
end Go.Proofs.YtebidpcmcekbgaaDoor.P
namespace Go.Proofs.YtebidpcmcekbgaaDoor.P
open Go.RowKit Go.Proofs.YtebidpcmcekbgaaDoorW.PrintWords Go.Proofs.YtebidpcmcekbgaaDoorW.PrintLast Go.Proofs.YtebidpcmcekbgaaDoorW.PrintMore
attribute [local go_sem] min2_int min_two -- for this text's walks alone
set_option linter.unusedVariables false
set_option linter.unusedSimpArgs false

/-! ### riposteref01_Rename: function 18 -/

-- NOT PRINTED: function 4 (ripostelaw01_LexRenames)

-- NOT PRINTED: function 52 (lex_common_byte)

-- NOT PRINTED: function 53 (lex_ending_byte)

-- NOT PRINTED: function 19 (lex_Diff)

end Go.Proofs.YtebidpcmcekbgaaDoor.P
namespace Go.Proofs.YtebidpcmcekbgaaDoor.P
open Go.RowKit Go.Proofs.YtebidpcmcekbgaaDoorW.PrintWords
set_option linter.unusedVariables false
set_option linter.unusedSimpArgs false
theorem tk_drop (l : List Tk) (i : Nat) (h : i < l.length) : l.drop i = rd_T58 l (i : Int) :: l.drop (i + 1) := by
  rw [List.drop_eq_getElem_cons h]
  congr 1
  unfold rd_T58
  simp [List.getD, List.getElem?_eq_getElem h]
theorem firstM_empty : firstM kwM ByteArray.empty = ((0, ByteArray.empty), 4) := rfl
theorem rRight (k : Nat) (y : Tk) (hs : y.f1.size ≤ 140737488351232) (hk : y.f1.size + 40 < k) : riposteref01_IsRight.f k y.f0 y.f1 y.f2 = some (rightB y.f0 y.f1) := by
  obtain ⟨y0, y1, y2⟩ := y
  simp only at hs hk
  unfold riposteref01_IsRight.f rightB
  by_cases c : y1.size = 0
  · have hy : y1 = ByteArray.empty := ba_ext (by rw [List.length_eq_zero_iff.1 (show y1.data.toList.length = 0 by rw [data_length]; exact c)]; rfl)
    rw [if_pos ((toList_nil_iff y1).2 c)]
    simp only
    subst hy
    rw [firstM_empty]
    rfl
  · rw [if_neg (fun h => c ((toList_nil_iff y1).1 h)), show riposteref01_Token.f k y1 0 = some (tokR y1 0) from rToken y1 0 hs (Nat.zero_le _) k hk]
    simp only [Option.bind_some]
    unfold tokR
    rw [ex_self y1 _ (Nat.le_refl _)]
    generalize firstM kwM y1 = F
    obtain ⟨⟨f0, f1⟩, f2⟩ := F
    show (if (if f2 = 0 then (f0, f1, ((0 : Nat) : Int), (0 : Int)) else (0, ByteArray.empty, 0, f2)).2.2.2 = 0 then (if (if f2 = 0 then (f0, f1, ((0 : Nat) : Int), (0 : Int)) else (0, ByteArray.empty, 0, f2)).1 = y0 then some ((if f2 = 0 then (f0, f1, ((0 : Nat) : Int), (0 : Int)) else (0, ByteArray.empty, 0, f2)).2.1.toList == y1.toList) else some false) else some false) = some (decide (f2 = 0) && (decide (f0 = y0) && decide (f1 = y1)))
    by_cases c1 : f2 = 0
    · rw [if_pos c1, decide_eq_true c1, Bool.true_and]
      show (if f0 = y0 then some (f1.toList == y1.toList) else some false) = _
      by_cases c2 : f0 = y0
      · rw [if_pos c2, Bl, decide_eq_true c2, Bool.true_and]
      · rw [if_neg c2, decide_eq_false c2, Bool.false_and]
    · rw [if_neg c1, decide_eq_false c1, Bool.false_and]
      show (if f2 = 0 then _ else _) = _
      rw [if_neg c1]
theorem renS_cons_pos (old name : ByteArray) (x : Tk) (r : List Tk) (h : x.f1 = old) : renS old name (x :: r) = ⟨x.f2, x.f2 + (old.size : Int), name⟩ :: renS old name r := by
  unfold renS; rw [List.filter_cons_of_pos (by exact decide_eq_true h)]; rfl
theorem renS_cons_neg (old name : ByteArray) (x : Tk) (r : List Tk) (h : ¬ x.f1 = old) : renS old name (x :: r) = renS old name r := by
  unfold renS; rw [List.filter_cons_of_neg (by simpa using h)]
theorem tok_name {s : ByteArray} {l : List Tk} {i j : Nat} (h : Scan s i l j) {t : ByteArray} (ht : nameB t = true) : ∀ x ∈ l, x.f1 = t → x.f0 = 1 := by
  intro x hx e
  obtain ⟨n, -, -, -, hf⟩ := h.mem x hx
  have h1 := (firstM_self kwM hf).1
  rw [e] at h1
  unfold nameB rightB at ht
  have ht2 : (decide ((firstM kwM t).2 = 0) && (decide ((firstM kwM t).1.1 = 1) && decide ((firstM kwM t).1.2 = t))) = true := ht
  rw [h1] at ht2
  simpa using ht2
/-- The bytes from a place on. -/
def Lr (s : ByteArray) (i : Nat) : List UInt8 := s.data.toList.drop i
theorem Lr_ex (s : ByteArray) (i : Nat) : (s.extract i s.size).data.toList = Lr s i := by
  rw [data_ex, List.take_of_length_le (by rw [data_length]; exact Nat.le_refl _)]; rfl
theorem Lr_len (s : ByteArray) (i : Nat) : (Lr s i).length = s.size - i := by unfold Lr; rw [List.length_drop, data_length]
theorem Lr_split (s : ByteArray) (i n : Nat) (h : i + n ≤ s.size) : Lr s i = (s.extract i (i + n)).data.toList ++ Lr s (i + n) := by
  unfold Lr
  rw [data_ex, ← List.drop_drop, List.drop_take, Nat.add_sub_cancel_left]
  exact (List.take_append_drop n _).symm
theorem bt_Lr (s : ByteArray) (i j : Nat) : bt s ((i + j : Nat) : Int) = (((Lr s i)[j]?).getD 0).toNat := by
  rw [bt_list]; unfold Lr; rw [List.getElem?_drop]
theorem bt_head (s : ByteArray) (i : Nat) : bt s (i : Int) = (((Lr s i)[0]?).getD 0).toNat := bt_Lr s i 0
theorem Lr_app {s : ByteArray} {i : Nat} {A B : List UInt8} (h : Lr s i = A ++ B) : Lr s (i + A.length) = B ∧ (i ≤ s.size → i + A.length ≤ s.size) := by
  have hl := Lr_len s i
  rw [h, List.length_append] at hl
  refine ⟨?_, fun hi => by omega⟩
  have : Lr s (i + A.length) = (Lr s i).drop A.length := by unfold Lr; rw [List.drop_drop]
  rw [this, h, List.drop_left]
/-- At a place stand these bytes. -/
theorem begT_Lr {s z : ByteArray} {i : Nat} {B : List UInt8} (hi : i ≤ s.size) (h : Lr s i = z.data.toList ++ B) : begT (s.extract i s.size) z ∧ i + z.size ≤ s.size ∧ Lr s (i + z.size) = B ∧ bt (s.extract i s.size) (z.size : Int) = bt s ((i + z.size : Nat) : Int) := by
  obtain ⟨h1, h2⟩ := Lr_app h
  rw [data_length] at h1 h2
  have h3 := h2 hi
  have hb : ∀ j : Nat, bt (s.extract i s.size) (j : Int) = bt s ((i + j : Nat) : Int) := by
    intro j
    by_cases c : i + j < s.size
    · exact bt_ex s i s.size j c
    · rw [bt_out _ _ (by rw [size_ex]; omega), bt_out s _ (by omega)]
  refine ⟨⟨by rw [size_ex]; omega, fun j hj => ?_⟩, h3, h1, hb _⟩
  rw [hb, bt_Lr, h, List.getElem?_append_left (by rw [data_length]; exact hj), ← bt_list]
theorem Lr_begT {s z : ByteArray} {i : Nat} (hi : i ≤ s.size) (h : begT (s.extract i s.size) z) : Lr s i = z.data.toList ++ Lr s (i + z.size) ∧ i + z.size ≤ s.size := by
  have hz := h.1
  rw [size_ex] at hz
  have h2 := begT_ex h
  rw [ex_ex s i s.size 0 z.size (by omega), Nat.add_zero] at h2
  refine ⟨?_, by omega⟩
  rw [Lr_split s i z.size (by omega), h2]
theorem splB_skip (s : ByteArray) (R : List Sp) (i n : Nat) (h : OrdS s.size R ((i + n : Nat) : Int)) : splB s R (i : Int) = (s.extract i (i + n)).data.toList ++ splB s R ((i + n : Nat) : Int) := by
  cases R with
  | nil =>
    unfold splB
    have h2 := h.2
    rw [Int.toNat_natCast, Int.toNat_natCast, Lr_ex, Lr_ex]
    exact Lr_split s i n (by omega)
  | cons x r =>
    obtain ⟨h1, h2, h3, h4, -⟩ := h
    unfold splB
    rw [Int.toNat_natCast, Int.toNat_natCast]
    have e : (s.extract i x.f0.toNat) = s.extract i (i + n) ++ s.extract (i + n) x.f0.toNat := by
      apply ba_ext
      rw [app_ba, ba_data, data_ex, data_ex, data_ex]
      have hh : i + n ≤ x.f0.toNat := by omega
      rw [List.drop_take, List.drop_take, List.drop_take, ← List.drop_drop, Nat.add_sub_cancel_left]
      conv => lhs; rw [show x.f0.toNat - i = n + (x.f0.toNat - (i + n)) by omega, List.take_add]
    rw [e, app_ba, ba_data, List.append_assoc]
theorem Scan.ord {s : ByteArray} {i j : Nat} {l : List Tk} (h : Scan s i l j) (hj : j ≤ s.size) : TOrd s.size l (i : Int) := by
  induction h with
  | done i => show (i : Int) ≤ s.size; omega
  | blank _ _ _ ih => exact (ih hj).le (by omega)
  | note _ _ _ ih => exact (ih hj).le (by omega)
  | @tok i j l k t h1 h2 h3 h4 h5 ih =>
    have := tok_size h4
    exact ⟨Int.le_refl _, by simp only; omega, by have := ih hj; rw [show ((i : Int) + (t.size : Int)) = ((i + t.size : Nat) : Int) by omega]; exact this⟩
theorem noteL_uniq (s : ByteArray) (i n : Nat) (h1 : ∀ k, k < n → i + k < s.size ∧ bt s ((i + k : Nat) : Int) ≠ 10) (h2 : s.size ≤ i + n ∨ bt s ((i + n : Nat) : Int) = 10) : noteL s i = n := by
  have key : ∀ f i n, s.size - i ≤ f → (∀ k, k < n → i + k < s.size ∧ bt s ((i + k : Nat) : Int) ≠ 10) → (s.size ≤ i + n ∨ bt s ((i + n : Nat) : Int) = 10) → ll s f i = n := by
    intro f
    induction f with
    | zero =>
      intro i n hf h1 h2
      cases n with
      | zero => rfl
      | succ n => have := (h1 0 (by omega)).1; omega
    | succ f ih =>
      intro i n hf h1 h2
      unfold ll
      cases n with
      | zero =>
        rw [if_neg]
        rintro ⟨a, b⟩
        rcases h2 with h2 | h2
        · omega
        · exact b h2
      | succ n =>
        rw [if_pos (show i < s.size ∧ bt s (i : Int) ≠ 10 from h1 0 (by omega)), ih (i + 1) n (by omega) (fun k hk => by have := h1 (k + 1) (by omega); rw [show i + 1 + k = i + (k + 1) by omega]; exact this) (by rw [show i + 1 + n = i + (n + 1) by omega]; exact h2)]
  exact key s.size i n (by omega) h1 h2
theorem noteL_in (s : ByteArray) (i : Nat) : (∀ k, k < noteL s i → i + k < s.size ∧ bt s ((i + k : Nat) : Int) ≠ 10) ∧ (s.size ≤ i + noteL s i ∨ bt s ((i + noteL s i : Nat) : Int) = 10) := by
  have key : ∀ f i, s.size - i ≤ f → (∀ k, k < ll s f i → i + k < s.size ∧ bt s ((i + k : Nat) : Int) ≠ 10) ∧ (s.size ≤ i + ll s f i ∨ bt s ((i + ll s f i : Nat) : Int) = 10) := by
    intro f
    induction f with
    | zero => intro i hf; exact ⟨fun k hk => absurd hk (Nat.not_lt_zero _), .inl (by show s.size ≤ i + 0; omega)⟩
    | succ f ih =>
      intro i hf
      unfold ll
      by_cases c : i < s.size ∧ bt s (i : Int) ≠ 10
      · rw [if_pos c]
        obtain ⟨a, b⟩ := ih (i + 1) (by omega)
        refine ⟨fun k hk => ?_, by rw [show i + (ll s f (i + 1) + 1) = i + 1 + ll s f (i + 1) by omega]; exact b⟩
        cases k with
        | zero => exact c
        | succ k => have := a k (by omega); rw [show i + (k + 1) = i + 1 + k by omega]; exact this
      · rw [if_neg c]
        refine ⟨fun k hk => absurd hk (Nat.not_lt_zero _), ?_⟩
        by_cases c2 : i < s.size
        · exact .inr (Classical.not_not.1 fun h => c ⟨c2, h⟩)
        · exact .inl (by omega)
  exact key s.size i (by omega)
/-- A name by itself. -/
theorem name_self {t : ByteArray} (h : nameB t = true) : firstM kwM t = ((1, t), 0) := by
  have h2 : (decide ((firstM kwM t).2 = 0) && (decide ((firstM kwM t).1.1 = 1) && decide ((firstM kwM t).1.2 = t))) = true := h
  simp only [Bool.and_eq_true, decide_eq_true_eq] at h2
  obtain ⟨a, b, c⟩ := h2
  exact Prod.ext (Prod.ext b c) a
theorem name_small {t : ByteArray} (h : nameB t = true) : smB (bt t 0) = true ∧ ∀ j, j < t.size → wdB (bt t (j : Int)) = true := by
  have h1 := name_self h
  obtain ⟨-, -, -, h0, h4⟩ := firstM_self kwM h1
  have hw : wlen t ≠ 0 := fun e => by have := h4.2 e; cases this
  have hz : wlen t = t.size ∧ smB (bt t 0) = true := by
    unfold firstM at h1
    rw [if_neg hw] at h1
    by_cases c2 : dgB (bt t 0) = true
    · rw [if_pos c2] at h1
      exact absurd (show (2 : Int) = 1 from congrArg (fun y => y.1.1) h1) (by decide)
    · rw [if_neg c2] at h1
      by_cases c3 : smB (bt t 0) = false
      · rw [if_pos c3] at h1
        exact absurd (show (0 : Int) = 1 from congrArg (fun y => y.1.1) h1) (by decide)
      · rw [if_neg c3] at h1
        by_cases c4 : kwM (t.extract 0 (wlen t)) = true
        · rw [if_pos c4] at h1
          exact absurd (show (3 : Int) = 1 from congrArg (fun y => y.1.1) h1) (by decide)
        · rw [if_neg c4] at h1
          by_cases c5 : 12 < (t.extract 0 (wlen t)).size
          · rw [if_pos c5] at h1
            exact absurd (show (0 : Int) = 1 from congrArg (fun y => y.1.1) h1) (by decide)
          · rw [if_neg c5] at h1
            have e : t.extract 0 (wlen t) = t := congrArg (fun y => y.1.2) h1
            have := congrArg ByteArray.size e
            have := wlen_le t
            rw [size_ex] at *
            exact ⟨by omega, by simpa using c3⟩
  exact ⟨hz.2, fun j hj => wlen_in t j (by omega)⟩
theorem sm_word {c : Int} (h : smB c = true) : wdB c = true ∧ spB c = false ∧ c ≠ 126 ∧ c ≠ 61 ∧ c ≠ 62 := by
  unfold smB at h
  simp only [Bool.and_eq_true, decide_eq_true_eq] at h
  refine ⟨?_, ?_, by omega, by omega, by omega⟩
  · unfold wdB smB; rw [decide_eq_true h.1, decide_eq_true h.2]; simp
  · rw [Bool.eq_false_iff]; intro e; rw [spB_iff] at e; omega
theorem nx_swap {k : Int} {t : ByteArray} {c d : Int} (h : nxB k t c = true) (hd : d = c ∨ (smB c = true ∧ smB d = true)) : nxB k t d = true := by
  rcases hd with rfl | ⟨h1, h2⟩
  · exact h
  · unfold nxB at h ⊢
    by_cases e : k = 4
    · rw [if_pos e]
      obtain ⟨-, -, -, a, b⟩ := sm_word h2
      rw [decide_eq_false a, decide_eq_false b]; simp
    · rw [if_neg e, (sm_word h1).1] at h; cases h
/-- The tokens, moved by so much, the one name for the other one. -/
def mvT (old name : ByteArray) : List Tk → Int → List Tk
  | [], _ => []
  | x :: r, d => ⟨x.f0, if x.f1 = old then name else x.f1, x.f2 + d⟩ :: mvT old name r (if x.f1 = old then d + ((name.size : Int) - (old.size : Int)) else d)
theorem mvT_length (old name : ByteArray) : ∀ (l : List Tk) (d : Int), (mvT old name l d).length = l.length
  | [], _ => rfl
  | x :: r, d => by unfold mvT; rw [List.length_cons, List.length_cons, mvT_length old name r]
theorem Scan.end_nil {s : ByteArray} {i j : Nat} {l : List Tk} (h : Scan s i l j) (hi : s.size ≤ i) : l = [] := by
  cases h with
  | done => rfl
  | blank h1 => omega
  | note h1 => omega
  | tok h1 => omega
theorem Scan.at_lf {old name s : ByteArray} {i j : Nat} {l : List Tk} (h : Scan s i l j) (hi : bt s (i : Int) = 10) (hj : j ≤ s.size) : OrdS s.size (renS old name l) ((i + 1 : Nat) : Int) ∨ (l = [] ∧ i = j) := by
  cases h with
  | done => exact .inr ⟨rfl, rfl⟩
  | blank h1 h2 h3 => exact .inl (renS_ord _ _ _ _ _ _ (h3.ord hj) (by omega) (Int.le_refl _))
  | note h1 h2 => rw [hi] at h2; cases h2
  | tok h1 h2 => rw [hi] at h2; cases h2
/-- The first byte behind splices: the text's own one, or both are names' first ones. -/
theorem head_spl (s old name : ByteArray) (ho : nameB old = true) (hn : nameB name = true) {i j : Nat} {l : List Tk} (h : Scan s i l j) (hj : j = s.size) (t : ByteArray) (m : Nat) (hm : Lr t m = splB s (renS old name l) (i : Int)) :
    bt t (m : Int) = bt s (i : Int) ∨ (smB (bt s (i : Int)) = true ∧ smB (bt t (m : Int)) = true) := by
  have hbt : ∀ n, 0 < n → OrdS s.size (renS old name l) ((i + n : Nat) : Int) → bt t (m : Int) = bt s (i : Int) := by
    intro n hn0 hO
    have hle := hO.range.2
    rw [splB_skip s _ i n hO] at hm
    rw [bt_head, hm, List.getElem?_append_left (by rw [data_length, size_ex]; omega), bt_head s i, Lr_split s i n (by omega), List.getElem?_append_left (by rw [data_length, size_ex]; omega)]
  cases h with
  | done =>
    refine .inl ?_
    rw [show renS old name ([] : List Tk) = [] from rfl, splB, Int.toNat_natCast, Lr_ex] at hm
    rw [bt_head, hm, ← bt_head]
  | blank h1 h2 h3 => exact .inl (hbt 1 Nat.one_pos (renS_ord _ _ _ _ _ _ (h3.ord (by omega)) (by omega) (Int.le_refl _)))
  | note h1 h2 h3 => exact .inl (hbt (noteL s i) (noteL_pos s i h1 h2) (renS_ord _ _ _ _ _ _ (h3.ord (by omega)) (by omega) (Int.le_refl _)))
  | @tok _ _ r k z h1 h2 h3 h4 h5 =>
    have hz := tok_size h4
    by_cases c : z = old
    · refine .inr ?_
      obtain ⟨h6, h7, -, -, -⟩ := firstM_self kwM h4
      obtain ⟨h8, -⟩ := Lr_begT (by omega) h7
      rw [renS_cons_pos old name _ _ c, splB] at hm
      simp only [Int.toNat_natCast] at hm
      rw [ex_empty s i i (.inl (Nat.le_refl _))] at hm
      have hm2 : Lr t m = name.data.toList ++ splB s (renS old name r) ((i : Int) + (old.size : Int)) := hm
      have e1 : bt t (m : Int) = bt name 0 := by
        rw [bt_head, hm2]
        obtain ⟨-, -, -, h0, -⟩ := firstM_self kwM (name_self hn)
        rw [List.getElem?_append_left (by rw [data_length]; exact h0), show (0 : Int) = ((0 : Nat) : Int) from rfl, bt_list]
      have e2 : bt s (i : Int) = bt old 0 := by
        rw [bt_head, h8, c]
        rw [List.getElem?_append_left (by rw [data_length, ← c]; exact hz.1), show (0 : Int) = ((0 : Nat) : Int) from rfl, bt_list]
      rw [e1, e2]
      exact ⟨(name_small ho).1, (name_small hn).1⟩
    · rw [renS_cons_neg old name _ _ c] at hm hbt
      exact .inl (hbt z.size hz.1 (renS_ord _ _ _ _ _ _ (h5.ord (by omega)) (by omega) (Int.le_refl _)))
theorem copy_step {s t : ByteArray} {R : List Sp} {i n m : Nat} (hO : OrdS s.size R ((i + n : Nat) : Int)) (hm : m ≤ t.size) (h : Lr t m = splB s R (i : Int)) :
    m + n ≤ t.size ∧ Lr t (m + n) = splB s R ((i + n : Nat) : Int) ∧ (∀ k, k < n → bt t ((m + k : Nat) : Int) = bt s ((i + k : Nat) : Int)) ∧ t.extract m (m + n) = s.extract i (i + n) ∧ Lr t m = (s.extract i (i + n)).data.toList ++ splB s R ((i + n : Nat) : Int) := by
  have hle := hO.range.2
  rw [splB_skip s R i n hO] at h
  have hz : (s.extract i (i + n)).size = n := by rw [size_ex]; omega
  obtain ⟨h1, h2, h3, -⟩ := begT_Lr hm h
  rw [hz] at h2 h3
  refine ⟨h2, h3, fun k hk => ?_, ?_, h⟩
  · rw [bt_Lr t m k, h, List.getElem?_append_left (by rw [data_length, hz]; exact hk), ← bt_list, bt_ex s i (i + n) k (by omega)]
  · have := begT_ex h1
    rw [hz, ex_ex t m t.size 0 n (by omega), Nat.add_zero] at this
    exact this
theorem back_step {s t : ByteArray} {R : List Sp} {i n m : Nat} (hi : i + n ≤ s.size) (hO : OrdS t.size R ((m + n : Nat) : Int)) (he : t.extract m (m + n) = s.extract i (i + n)) (h : splB t R ((m + n : Nat) : Int) = Lr s (i + n)) : splB t R (m : Int) = Lr s i := by
  rw [splB_skip t R m n hO, he, h, ← Lr_split s i n hi]
theorem nat_off (i m n : Nat) : ((m + n : Nat) : Int) - ((i + n : Nat) : Int) = (m : Int) - (i : Int) := by omega
set_option maxHeartbeats 1000000 in
theorem scan_ren (s old name : ByteArray) (ho : nameB old = true) (hn : nameB name = true) {i j : Nat} {l : List Tk} (h : Scan s i l j) (hj : j = s.size) (hno : ∀ x ∈ l, x.f1 ≠ name) : ∀ (t : ByteArray) (m : Nat), i ≤ s.size → m ≤ t.size → Lr t m = splB s (renS old name l) (i : Int) →
    Scan t m (mvT old name l ((m : Int) - (i : Int))) t.size ∧ splB t (renS name old (mvT old name l ((m : Int) - (i : Int)))) (m : Int) = Lr s i := by
  induction h with
  | done i =>
    intro t m hi hm hL
    have e : splB s (renS old name []) (i : Int) = Lr s i := by
      rw [show renS old name ([] : List Tk) = [] from rfl, splB, Int.toNat_natCast, Lr_ex]
    rw [e] at hL
    have h1 := Lr_len t m
    have h2 := Lr_len s i
    rw [hL, h2] at h1
    obtain rfl : m = t.size := by omega
    refine ⟨.done _, ?_⟩
    show splB t (renS name old ([] : List Tk)) (t.size : Int) = _
    rw [show renS name old ([] : List Tk) = [] from rfl, splB, Int.toNat_natCast, Lr_ex]
    exact hL
  | @blank i j l h1 h2 h3 ih =>
    intro t m hi hm hL
    have hO := renS_ord s.size old name l _ ((i + 1 : Nat) : Int) (h3.ord (by omega)) (by omega) (Int.le_refl _)
    obtain ⟨c1, c2, c3, c4, -⟩ := copy_step hO hm hL
    obtain ⟨r1, r2⟩ := ih hj hno t (m + 1) (by omega) c1 c2
    rw [nat_off] at r1 r2
    have e : bt t (m : Int) = bt s (i : Int) := c3 0 Nat.one_pos
    refine ⟨.blank (by omega) (by rw [e]; exact h2) r1, back_step (by omega) (renS_ord _ _ _ _ _ _ (r1.ord (Nat.le_refl _)) (by omega) (Int.le_refl _)) c4 r2⟩
  | @note i j l h1 h2 h3 ih =>
    intro t m hi hm hL
    have hp := noteL_pos s i h1 h2
    have hle := noteL_le s i hi
    have hO := renS_ord s.size old name l _ ((i + noteL s i : Nat) : Int) (h3.ord (by omega)) (by omega) (Int.le_refl _)
    obtain ⟨c1, c2, c3, c4, -⟩ := copy_step hO hm hL
    obtain ⟨r1, r2⟩ := ih hj hno t (m + noteL s i) hle c1 c2
    rw [nat_off] at r1 r2
    have e : bt t (m : Int) = bt s (i : Int) := c3 0 hp
    obtain ⟨n1, n2⟩ := noteL_in s i
    have hN : noteL t m = noteL s i := by
      refine noteL_uniq t m _ (fun k hk => ⟨by omega, by rw [c3 k hk]; exact (n1 k hk).2⟩) ?_
      rcases n2 with n2 | n2
      · refine .inl ?_
        have hl := h3.end_nil n2
        subst hl
        rw [show renS old name ([] : List Tk) = [] from rfl, splB, Int.toNat_natCast, Lr_ex] at c2
        have q1 := Lr_len t (m + noteL s i)
        have q2 := Lr_len s (i + noteL s i)
        rw [c2, q2] at q1
        omega
      · refine .inr ?_
        rcases head_spl s old name ho hn h3 hj t (m + noteL s i) c2 with q | ⟨q, -⟩
        · rw [q]; exact n2
        · rw [n2] at q; exact absurd q (by decide)
    refine ⟨.note (by omega) (by rw [e]; exact h2) (by rw [hN]; exact r1), back_step hle (renS_ord _ _ _ _ _ _ (r1.ord (Nat.le_refl _)) (by omega) (Int.le_refl _)) c4 r2⟩
  | @tok i j l k z h1 h2 h3 h4 h5 ih =>
    intro t m hi hm hL
    have hz := tok_size h4
    obtain ⟨f1, f2, f3, f4, f5⟩ := firstM_self kwM h4
    obtain ⟨g1, g2⟩ := Lr_begT hi f2
    rw [(begT_Lr hi g1).2.2.2] at f3
    have hno' : ∀ x ∈ l, x.f1 ≠ name := fun x hx => hno x (List.mem_cons_of_mem _ hx)
    by_cases c : z = old
    · subst c
      have hk1 : k = 1 := congrArg (fun y => y.1.1) (f1.symm.trans (name_self ho))
      subst hk1
      rw [renS_cons_pos z name _ _ rfl, splB] at hL
      simp only [Int.toNat_natCast] at hL
      rw [ex_empty s i i (.inl (Nat.le_refl _))] at hL
      replace hL : Lr t m = name.data.toList ++ splB s (renS z name l) ((i + z.size : Nat) : Int) := hL
      obtain ⟨b1, b2, b3, b4⟩ := begT_Lr hm hL
      obtain ⟨r1, r2⟩ := ih hj hno' t (m + name.size) hz.2 b2 b3
      have hoff : (m : Int) - (i : Int) + ((name.size : Int) - (z.size : Int)) = ((m + name.size : Nat) : Int) - ((i + z.size : Nat) : Int) := by omega
      have hmv : mvT z name (⟨1, z, (i : Int)⟩ :: l) ((m : Int) - (i : Int)) = ⟨1, name, (m : Int)⟩ :: mvT z name l (((m + name.size : Nat) : Int) - ((i + z.size : Nat) : Int)) := by
        rw [mvT]
        simp only [if_true]
        rw [hoff, show (i : Int) + ((m : Int) - (i : Int)) = (m : Int) by omega]
      rw [hmv]
      have hfn := name_self hn
      obtain ⟨-, -, -, hn0, -⟩ := firstM_self kwM hfn
      have hnx : nxB 1 name (bt (t.extract m t.size) (name.size : Int)) = true := by
        rw [b4]
        have : nxB 1 name (bt s ((i + z.size : Nat) : Int)) = true := f3
        exact nx_swap this (head_spl s z name ho hn h5 hj t _ b3)
      have hb0 : bt t (m : Int) = bt name 0 := by
        rw [bt_head, hL, List.getElem?_append_left (by rw [data_length]; exact hn0), show (0 : Int) = ((0 : Nat) : Int) from rfl, bt_list]
      obtain ⟨w1, w2, w3, -⟩ := sm_word (name_small hn).1
      refine ⟨.tok (by omega) (by rw [hb0]; exact w2) (by rw [hb0]; exact w3) (firstM_of kwM hfn b1 hnx) r1, ?_⟩
      rw [renS_cons_pos name z _ _ rfl, splB]
      simp only [Int.toNat_natCast]
      rw [ex_empty t m m (.inl (Nat.le_refl _)), g1]
      show z.data.toList ++ splB t (renS name z (mvT z name l (((m + name.size : Nat) : Int) - ((i + z.size : Nat) : Int)))) ((m + name.size : Nat) : Int) = _
      rw [r2]
    · have hzn : z ≠ name := hno _ List.mem_cons_self
      rw [renS_cons_neg old name _ _ c] at hL
      have hO := renS_ord s.size old name l _ ((i + z.size : Nat) : Int) (h5.ord (by omega)) (by omega) (Int.le_refl _)
      obtain ⟨c1, c2, c3, c4, c5⟩ := copy_step hO hm hL
      have hze : s.extract i (i + z.size) = z := by
        have := begT_ex f2
        rw [ex_ex s i s.size 0 z.size (by omega), Nat.add_zero] at this
        exact this
      rw [hze] at c5
      obtain ⟨b1, b2, b3, b4⟩ := begT_Lr hm c5
      obtain ⟨r1, r2⟩ := ih hj hno' t (m + z.size) hz.2 c1 c2
      rw [nat_off] at r1 r2
      have hmv : mvT old name (⟨k, z, (i : Int)⟩ :: l) ((m : Int) - (i : Int)) = ⟨k, z, (m : Int)⟩ :: mvT old name l ((m : Int) - (i : Int)) := by
        rw [mvT]
        simp only [if_neg c]
        rw [show (i : Int) + ((m : Int) - (i : Int)) = (m : Int) by omega]
      rw [hmv]
      have hnx : nxB k z (bt (t.extract m t.size) (z.size : Int)) = true := by
        rw [b4]
        exact nx_swap f3 (head_spl s old name ho hn h5 hj t _ b3)
      have e : bt t (m : Int) = bt s (i : Int) := c3 0 hz.1
      refine ⟨.tok (by omega) (by rw [e]; exact h2) (by rw [e]; exact h3) (firstM_of kwM f1 b1 hnx) r1, ?_⟩
      rw [renS_cons_neg name old _ _ hzn]
      exact back_step hz.2 (renS_ord _ _ _ _ _ _ (r1.ord (Nat.le_refl _)) (by omega) (Int.le_refl _)) c4 r2
theorem splB_all (P : UInt8 → Prop) (s : ByteArray) (hs : ∀ c ∈ s.data.toList, P c) : ∀ (R : List Sp) (a : Int), (∀ x ∈ R, ∀ c ∈ x.f2.data.toList, P c) → ∀ c ∈ splB s R a, P c
  | [], a, _, c, hc => by
    unfold splB at hc
    rw [data_ex] at hc
    exact hs c (List.mem_of_mem_take (List.mem_of_mem_drop hc))
  | x :: r, a, h, c, hc => by
    unfold splB at hc
    rcases List.mem_append.1 hc with hc | hc
    · rw [data_ex] at hc
      exact hs c (List.mem_of_mem_take (List.mem_of_mem_drop hc))
    · rcases List.mem_append.1 hc with hc | hc
      · exact h x List.mem_cons_self c hc
      · exact splB_all P s hs r x.f1 (fun y hy => h y (List.mem_cons_of_mem _ hy)) c hc
theorem bt_all (s : ByteArray) : (∀ i, i < s.size → okB (bt s (i : Int)) = true) ↔ ∀ c ∈ s.data.toList, okB (c.toNat : Int) = true := by
  constructor
  · intro h c hc
    obtain ⟨i, hi, rfl⟩ := List.getElem_of_mem hc
    have := h i (by rw [← data_length]; exact hi)
    rw [bt_list, List.getElem?_eq_getElem hi] at this
    exact this
  · intro h i hi
    have hi' : i < s.data.toList.length := by rw [data_length]; exact hi
    rw [bt_list, List.getElem?_eq_getElem hi']
    exact h _ (List.getElem_mem hi')
theorem wd_ok {c : Int} (h : wdB c = true) : okB c = true := by
  unfold wdB dgB smB gtB at h
  unfold okB
  simp only [Bool.or_eq_true, Bool.and_eq_true, decide_eq_true_eq] at h ⊢
  omega
/-- What the law LexRenamed compares of two tokens. -/
def ren1 (old name : ByteArray) (x y : Tk) : Prop := x.f0 = y.f0 ∧ ((x.f1 = y.f1 ∧ x.f1 ≠ old) ∨ (x.f0 = 1 ∧ x.f1 = old ∧ y.f1 = name))
inductive Two (P : Tk → Tk → Prop) : List Tk → List Tk → Prop
  | nil : Two P [] []
  | cons {x y : Tk} {a b : List Tk} : P x y → Two P a b → Two P (x :: a) (y :: b)
theorem mvT_two (old name : ByteArray) : ∀ (l : List Tk) (d : Int), (∀ x ∈ l, x.f1 = old → x.f0 = 1) → Two (ren1 old name) l (mvT old name l d)
  | [], _, _ => .nil
  | x :: r, d, h => by
    unfold mvT
    refine .cons ⟨rfl, ?_⟩ (mvT_two old name r _ fun y hy => h y (List.mem_cons_of_mem _ hy))
    by_cases c : x.f1 = old
    · exact .inr ⟨h x List.mem_cons_self c, c, if_pos c⟩
    · exact .inl ⟨(if_neg c).symm, c⟩
theorem mvT_name (old name : ByteArray) (hne : old ≠ name) : ∀ (l : List Tk) (d : Int), (mvT old name l d).any (fun t => decide (t.f1 = old)) = false
  | [], _ => rfl
  | x :: r, d => by
    unfold mvT
    rw [List.any_cons, mvT_name old name hne r, Bool.or_false]
    refine decide_eq_false ?_
    by_cases c : x.f1 = old
    · simp only [if_pos c]; exact fun e => hne e.symm
    · simp only [if_neg c]; exact c
theorem mvT_some (old name : ByteArray) : ∀ (l : List Tk) (d : Int), renS old name l ≠ [] → renS name old (mvT old name l d) ≠ []
  | [], _, h => absurd rfl h
  | x :: r, d, h => by
    unfold mvT
    by_cases c : x.f1 = old
    · rw [if_pos c, renS_cons_pos name old _ _ rfl]; exact List.cons_ne_nil _ _
    · rw [renS_cons_neg old name _ _ c] at h
      rw [if_neg c, if_neg c]
      by_cases c2 : x.f1 = name
      · rw [renS_cons_pos name old ⟨x.f0, x.f1, x.f2 + d⟩ _ c2]; exact List.cons_ne_nil _ _
      · rw [renS_cons_neg name old ⟨x.f0, x.f1, x.f2 + d⟩ _ c2]; exact mvT_some old name r d h
/-- A text that is renamed, and renamed back, is the text before; the kinds of its tokens stay. -/
theorem renamed (s old name t : ByteArray) (h : renM s old name = (t, 0)) : renM t name old = (s, 0) ∧ (toksM kwM s).2.2 = 0 ∧ (toksM kwM t).2.2 = 0 ∧ Two (ren1 old name) (toksM kwM s).1 (toksM kwM t).1 := by
  unfold renM at h
  by_cases c1 : (toksM kwM s).2.2 = 0
  · rw [if_neg (by simpa using c1)] at h
    by_cases c2 : nameB old = false ∨ nameB name = false
    · rw [if_pos c2] at h; exact absurd (show (2 : Int) = 0 from congrArg Prod.snd h) (by decide)
    · rw [if_neg c2] at h
      have ho : nameB old = true := by cases e : nameB old <;> simp_all
      have hn : nameB name = true := by cases e : nameB name <;> simp_all
      by_cases c3 : renS old name (toksM kwM s).1 = []
      · rw [if_pos c3] at h; exact absurd (show (7 : Int) = 0 from congrArg Prod.snd h) (by decide)
      · rw [if_neg c3] at h
        by_cases c4 : ((toksM kwM s).1.any fun t => decide (t.f1 = name)) = true
        · rw [if_pos c4] at h; exact absurd (show (6 : Int) = 0 from congrArg Prod.snd h) (by decide)
        · rw [if_neg c4] at h
          by_cases c5 : 2500 < (splM s (renS old name (toksM kwM s).1)).size
          · rw [if_pos c5] at h; exact absurd (show (5 : Int) = 0 from congrArg Prod.snd h) (by decide)
          · rw [if_neg c5] at h
            have ht : splM s (renS old name (toksM kwM s).1) = t := congrArg Prod.fst h
            obtain ⟨q1, q2, q3⟩ := (toks_iff s _).1 ⟨rfl, c1⟩
            obtain ⟨q4, q5⟩ := (chk_iff s).1 q1
            rw [ht] at c5
            refine ⟨?_, c1, ?_⟩
            all_goals
              generalize hA : (toksM kwM s).1 = a at *
              have hno : ∀ x ∈ a, x.f1 ≠ name := fun x hx e => c4 (List.any_eq_true.2 ⟨x, hx, decide_eq_true e⟩)
              have hLr : Lr t 0 = splB s (renS old name a) ((0 : Nat) : Int) := by rw [← ht]; rfl
              obtain ⟨r1, r2⟩ := scan_ren s old name ho hn q2 rfl hno t 0 (Nat.zero_le _) (Nat.zero_le _) hLr
              have htok : (toksM kwM t).1 = mvT old name a (((0 : Nat) : Int) - ((0 : Nat) : Int)) ∧ (toksM kwM t).2.2 = 0 := by
                refine (toks_iff t _).2 ⟨(chk_iff t).2 ⟨by omega, ?_⟩, r1, by rw [mvT_length]; exact q3⟩
                rw [bt_all]
                rw [bt_all] at q5
                intro c hc
                have hc2 : c ∈ splB s (renS old name a) ((0 : Nat) : Int) := by rw [← hLr]; exact hc
                refine splB_all (fun c => okB (c.toNat : Int) = true) s q5 _ _ (fun x hx c hc => ?_) c hc2
                unfold renS at hx
                obtain ⟨y, -, rfl⟩ := List.mem_map.1 hx
                exact (bt_all name).1 (fun i hi => wd_ok ((name_small hn).2 i hi)) c hc
            · have hone : old ≠ name := by
                intro e
                apply c4
                unfold renS at c3
                have : (a.filter fun t => decide (t.f1 = old)) ≠ [] := fun e => c3 (by rw [e]; rfl)
                obtain ⟨y, hy⟩ := List.exists_mem_of_ne_nil _ this
                have hy2 := List.mem_filter.1 hy
                exact List.any_eq_true.2 ⟨y, hy2.1, by rw [← e]; exact hy2.2⟩
              unfold renM
              rw [htok.1, if_neg (by simpa using htok.2), if_neg (by rw [ho, hn]; simp), if_neg (mvT_some old name a _ c3), mvT_name old name hone a, if_neg (by decide)]
              have hs : splM t (renS name old (mvT old name a (((0 : Nat) : Int) - ((0 : Nat) : Int)))) = s := by
                unfold splM
                apply ba_ext
                rw [ba_data]
                exact r2
              rw [hs, if_neg (by omega)]
            · refine ⟨htok.2, ?_⟩
              rw [htok.1]
              exact mvT_two old name a _ (tok_name q2 ho)
  · rw [if_pos (by simpa using c1)] at h
    exact absurd (congrArg Prod.snd h) c1

def sumG : List Sp → Int
  | [] => 0
  | x :: r => gr x + sumG r
theorem tailE_iff : ∀ (l : List Sp) (n : Int), tailE n l = 0 ↔ (∀ x ∈ l, badAt x.f2 x.f2.size 0 = none) ∧ n + sumG l ≤ 2500
  | [], n => by
    unfold tailE sumG
    by_cases c : n > 2500
    · rw [if_pos c]; exact iff_of_false (by decide) fun h => by have := h.2; omega
    · rw [if_neg c]; exact iff_of_true rfl ⟨fun x hx => (by cases hx), by omega⟩
  | x :: r, n => by
    unfold tailE sumG
    by_cases c : badAt x.f2 x.f2.size 0 = none
    · rw [if_pos c, tailE_iff r]
      constructor
      · rintro ⟨h1, h2⟩
        refine ⟨fun y hy => ?_, by omega⟩
        rcases List.mem_cons.1 hy with rfl | hy
        · exact c
        · exact h1 y hy
      · rintro ⟨h1, h2⟩
        exact ⟨fun y hy => h1 y (List.mem_cons_of_mem _ hy), by omega⟩
    · rw [if_neg c]
      exact iff_of_false (by decide) fun h => c (h.1 x List.mem_cons_self)
theorem bad_iff (s : ByteArray) (hs : s.size ≤ 2500) : badAt s s.size 0 = none ↔ ∀ c ∈ s.data.toList, okB (c.toNat : Int) = true := by
  rw [← bt_all]
  have h := chk_iff s
  rw [chkT_eq, if_neg (by omega)] at h
  constructor
  · intro e
    rw [e] at h
    exact (h.1 rfl).2
  · intro e
    have h2 := h.2 ⟨hs, e⟩
    cases hb : badAt s s.size 0 with
    | none => rfl
    | some j =>
      rw [hb] at h2
      exact absurd h2 (show ¬ (2 : Int) = 0 by decide)
theorem gr_eq (x : Sp) : gr x = (x.f2.size : Int) - (x.f1 - x.f0) := by unfold gr; rfl
theorem splB_length (s : ByteArray) : ∀ (l : List Sp) (a : Int), OrdS s.size l a → ((splB s l a).length : Int) + a = (s.size : Int) + sumG l
  | [], a, h => by
    unfold splB sumG
    rw [← size_len, size_ex]
    have := h.1; have := h.2
    omega
  | x :: r, a, h => by
    obtain ⟨h0, h1, h2, h3, h4⟩ := h
    have ih := splB_length s r x.f1 h4
    have hg := gr_eq x
    unfold splB sumG
    rw [List.length_append, List.length_append, ← size_len, ← size_len, size_ex]
    generalize gr x = g at *
    generalize sumG r = q at *
    generalize (splB s r x.f1).length = n at *
    omega
theorem unS_gr (s : ByteArray) : ∀ (l : List Sp) (a m : Int), OrdS s.size l a → sumG (unS s l m) = - sumG l
  | [], _, _, _ => rfl
  | x :: r, a, m, h => by
    obtain ⟨h0, h1, h2, h3, h4⟩ := h
    unfold unS
    rw [sumG, sumG, unS_gr s r x.f1 _ h4, gr_eq, gr_eq x]
    simp only
    rw [size_ex]
    generalize sumG r = q at *
    omega
theorem Lr_ex2 {s : ByteArray} {i j : Nat} (h : i ≤ j) (hj : j ≤ s.size) : Lr s i = (s.extract i j).data.toList ++ Lr s j := by
  have := Lr_split s i (j - i) (by omega)
  rw [show i + (j - i) = j by omega] at this
  exact this
/-- What stands at a place, and what behind it. -/
theorem Lr_take {t z : ByteArray} {i : Nat} {B : List UInt8} (hi : i ≤ t.size) (h : Lr t i = z.data.toList ++ B) : i + z.size ≤ t.size ∧ t.extract i (i + z.size) = z ∧ Lr t (i + z.size) = B := by
  obtain ⟨h1, h2, h3, -⟩ := begT_Lr hi h
  refine ⟨h2, ?_, h3⟩
  have := begT_ex h1
  rw [ex_ex t i t.size 0 z.size (by omega), Nat.add_zero] at this
  exact this
set_option maxHeartbeats 1000000 in
theorem undo_spl (s t : ByteArray) : ∀ (l : List Sp) (a m : Int), OrdS s.size l a → 0 ≤ a + m → (a + m).toNat ≤ t.size → Lr t (a + m).toNat = splB s l a →
    OrdS t.size (unS s l m) (a + m) ∧ splB t (unS s l m) (a + m) = Lr s a.toNat
  | [], a, m, h, h0, h1, hL => by
    unfold splB at hL
    rw [Lr_ex] at hL
    unfold unS splB
    rw [Lr_ex, hL]
    exact ⟨⟨h0, by omega⟩, rfl⟩
  | x :: r, a, m, h, h0, h1, hL => by
    obtain ⟨g0, g1, g2, g3, g4⟩ := h
    unfold splB at hL
    have hz : (s.extract a.toNat x.f0.toNat).size = x.f0.toNat - a.toNat := by rw [size_ex]; omega
    obtain ⟨k1, k2, k3⟩ := Lr_take h1 hL
    rw [hz] at k1 k2 k3
    have e1 : (a + m).toNat + (x.f0.toNat - a.toNat) = (x.f0 + m).toNat := by omega
    rw [e1] at k1 k2 k3
    obtain ⟨k4, k5, k6⟩ := Lr_take k1 k3
    have e2 : (x.f0 + m).toNat + x.f2.size = (x.f0 + m + (x.f2.size : Int)).toNat := by omega
    have e3 : x.f1 + (m + gr x) = x.f0 + m + (x.f2.size : Int) := by rw [gr_eq]; omega
    rw [e2] at k4 k6
    rw [← e3] at k4 k6
    obtain ⟨i1, i2⟩ := undo_spl s t r x.f1 (m + gr x) g4 (by rw [e3]; omega) k4 k6
    rw [e3] at i1 i2 k4
    unfold unS splB
    refine ⟨⟨h0, by simp only; omega, by simp only; omega, by simp only; omega, i1⟩, ?_⟩
    simp only
    rw [i2, k2, Lr_ex2 (i := a.toNat) (j := x.f0.toNat) (by omega) (by omega), Lr_ex2 (i := x.f0.toNat) (j := x.f1.toNat) (by omega) (by omega)]
theorem mvd_skip (p : Int) : ∀ (r : List Sp) (k : Int), (∀ y ∈ r, p < y.f0 ∧ y.f0 ≤ y.f1) → mvd p r k = (k, 0)
  | [], _, _ => rfl
  | y :: r, k, h => by
    have h1 := h y List.mem_cons_self
    unfold mvd
    rw [if_neg (by omega), if_neg (by omega)]
    exact mvd_skip p r k fun z hz => h z (List.mem_cons_of_mem _ hz)
theorem OrdS.above {n : Nat} {l : List Sp} {a p : Int} (h : OrdS n l a) (hp : p < a) : ∀ y ∈ l, p < y.f0 ∧ y.f0 ≤ y.f1 := fun y hy => by
  have := h.in y hy
  exact ⟨by omega, this.2.1⟩
set_option maxHeartbeats 1000000 in
theorem mvd_back (s t : ByteArray) (p n : Int) : ∀ (l : List Sp) (a m : Int), OrdS s.size l a → 0 ≤ a + m → (a + m).toNat ≤ t.size → Lr t (a + m).toNat = splB s l a → a ≤ p → p < (s.size : Int) → mvd p l (p + m) = (n, 0) →
    a + m ≤ n ∧ n < (t.size : Int) ∧ bt t n = bt s p ∧ mvd n (unS s l m) (n - m) = (p, 0)
  | [], a, m, h, h0, h1, hL, hp, hps, hm => by
    have e : p + m = n := congrArg Prod.fst hm
    unfold splB at hL
    rw [Lr_ex] at hL
    have g0 := h.1
    have l1 := congrArg List.length hL
    rw [Lr_len, Lr_len] at l1
    obtain ⟨q, hq⟩ : ∃ q : Nat, p = a + q := ⟨(p - a).toNat, by omega⟩
    refine ⟨by omega, by omega, ?_, ?_⟩
    · have e1 : n = (((a + m).toNat + q : Nat) : Int) := by omega
      have e2 : p = ((a.toNat + q : Nat) : Int) := by omega
      rw [e1, e2, bt_Lr, bt_Lr, hL]
    · show (n - m, (0 : Int)) = (p, 0)
      rw [show n - m = p by omega]
  | x :: r, a, m, h, h0, h1, hL, hp, hps, hm => by
    obtain ⟨g0, g1, g2, g3, g4⟩ := h
    unfold splB at hL
    have hz : (s.extract a.toNat x.f0.toNat).size = x.f0.toNat - a.toNat := by rw [size_ex]; omega
    obtain ⟨k1, k2, k3⟩ := Lr_take h1 hL
    rw [hz] at k1 k2 k3
    have e1 : (a + m).toNat + (x.f0.toNat - a.toNat) = (x.f0 + m).toNat := by omega
    rw [e1] at k1 k2 k3
    obtain ⟨k4, k5, k6⟩ := Lr_take k1 k3
    have e2 : (x.f0 + m).toNat + x.f2.size = (x.f0 + m + (x.f2.size : Int)).toNat := by omega
    have e3 : x.f1 + (m + gr x) = x.f0 + m + (x.f2.size : Int) := by rw [gr_eq]; omega
    rw [e2] at k4 k6
    rw [← e3] at k4 k6
    have hgy : gr ⟨x.f0 + m, x.f0 + m + (x.f2.size : Int), s.extract x.f0.toNat x.f1.toNat⟩ = - gr x := by
      rw [gr_eq, gr_eq x]
      simp only
      rw [size_ex]
      omega
    unfold mvd at hm
    by_cases c : x.f1 ≤ p
    · rw [if_pos c, show p + m + gr x = p + (m + gr x) by omega] at hm
      obtain ⟨i1, i2, i3, i4⟩ := mvd_back s t p n r x.f1 (m + gr x) g4 (by rw [e3]; omega) k4 k6 c hps hm
      rw [e3] at i1
      refine ⟨by omega, i2, i3, ?_⟩
      unfold unS mvd
      rw [if_pos (by simp only; omega), hgy, show n - m + - gr x = n - (m + gr x) by omega]
      exact i4
    · rw [if_neg c] at hm
      by_cases c2 : x.f0 ≤ p
      · rw [if_pos c2] at hm
        exact absurd (show (7 : Int) = 0 from congrArg Prod.snd hm) (by decide)
      · rw [if_neg c2, mvd_skip p r _ (g4.above (by omega))] at hm
        have e : p + m = n := congrArg Prod.fst hm
        obtain ⟨q, hq⟩ : ∃ q : Nat, p = a + q := ⟨(p - a).toNat, by omega⟩
        have hO := undo_spl s t (x :: r) a m ⟨g0, g1, g2, g3, g4⟩ h0 h1 (by unfold splB; exact hL)
        refine ⟨by omega, by omega, ?_, ?_⟩
        · have e4 : n = (((a + m).toNat + q : Nat) : Int) := by omega
          have e5 : p = ((a.toNat + q : Nat) : Int) := by omega
          have k7 : bt (t.extract (a + m).toNat (x.f0 + m).toNat) (q : Int) = bt (s.extract a.toNat x.f0.toNat) (q : Int) := by rw [k2]
          rw [bt_ex t _ _ q (by omega), bt_ex s _ _ q (by omega)] at k7
          rw [e4, e5]
          exact k7
        · rw [mvd_skip n (unS s (x :: r) m) _ ?_, show n - m = p by omega]
          have h2 := hO.1
          unfold unS at h2 ⊢
          obtain ⟨o0, o1, o2, o3, o4⟩ := h2
          intro y hy
          rcases List.mem_cons.1 hy with rfl | hy
          · exact ⟨by simp only; omega, o2⟩
          · exact o4.above (by simp only; omega) y hy
theorem mvd_mono (n1 n2 p1 p2 : Int) (hp : p1 < p2) {N : Nat} : ∀ (l : List Sp) (a m : Int), OrdS N l a → mvd p1 l (p1 + m) = (n1, 0) → mvd p2 l (p2 + m) = (n2, 0) → n1 < n2
  | [], a, m, h, h1, h2 => by
    have e1 : p1 + m = n1 := congrArg Prod.fst h1
    have e2 : p2 + m = n2 := congrArg Prod.fst h2
    omega
  | x :: r, a, m, h, h1, h2 => by
    obtain ⟨g0, g1, g2, g3, g4⟩ := h
    unfold mvd at h1 h2
    by_cases c1 : x.f1 ≤ p1
    · rw [if_pos c1, show p1 + m + gr x = p1 + (m + gr x) by omega] at h1
      rw [if_pos (show x.f1 ≤ p2 by omega), show p2 + m + gr x = p2 + (m + gr x) by omega] at h2
      exact mvd_mono n1 n2 p1 p2 hp r x.f1 (m + gr x) g4 h1 h2
    · rw [if_neg c1] at h1
      by_cases c2 : x.f0 ≤ p1
      · rw [if_pos c2] at h1
        exact absurd (show (7 : Int) = 0 from congrArg Prod.snd h1) (by decide)
      · rw [if_neg c2, mvd_skip p1 r _ (g4.above (by omega))] at h1
        have e1 : p1 + m = n1 := congrArg Prod.fst h1
        by_cases c3 : x.f1 ≤ p2
        · rw [if_pos c3, show p2 + m + gr x = p2 + (m + gr x) by omega] at h2
          have := mvd_ge n2 p2 r x.f1 (m + gr x) g4 c3 h2
          have hg := gr_eq x
          omega
        · rw [if_neg c3] at h2
          by_cases c4 : x.f0 ≤ p2
          · rw [if_pos c4] at h2
            exact absurd (show (7 : Int) = 0 from congrArg Prod.snd h2) (by decide)
          · rw [if_neg c4, mvd_skip p2 r _ (g4.above (by omega))] at h2
            have e2 : p2 + m = n2 := congrArg Prod.fst h2
            omega
where
  mvd_ge (n p : Int) {N : Nat} : ∀ (l : List Sp) (a m : Int), OrdS N l a → a ≤ p → mvd p l (p + m) = (n, 0) → a + m ≤ n
  | [], a, m, h, hp, h1 => by
    have e1 : p + m = n := congrArg Prod.fst h1
    omega
  | x :: r, a, m, h, hp, h1 => by
    obtain ⟨g0, g1, g2, g3, g4⟩ := h
    unfold mvd at h1
    have hg := gr_eq x
    by_cases c1 : x.f1 ≤ p
    · rw [if_pos c1, show p + m + gr x = p + (m + gr x) by omega] at h1
      have := mvd_ge n p r x.f1 (m + gr x) g4 c1 h1
      omega
    · rw [if_neg c1] at h1
      by_cases c2 : x.f0 ≤ p
      · rw [if_pos c2] at h1
        exact absurd (show (7 : Int) = 0 from congrArg Prod.snd h1) (by decide)
      · rw [if_neg c2, mvd_skip p r _ (g4.above (by omega))] at h1
        have e1 : p + m = n := congrArg Prod.fst h1
        omega
theorem unS_txt (s : ByteArray) : ∀ (l : List Sp) (m : Int), ∀ x ∈ unS s l m, ∃ i j, x.f2 = s.extract i j
  | [], _, x, hx => by cases hx
  | y :: r, m, x, hx => by
    unfold unS at hx
    rcases List.mem_cons.1 hx with rfl | hx
    · exact ⟨_, _, rfl⟩
    · exact unS_txt s r _ x hx
/-- Splices undone: all that the law LexUndone asks. -/
theorem undone (s : ByteArray) (l : List Sp) (h : splE s l = 0) (hx : ∀ x ∈ l, x.f2.size ≤ 3000) : (splM s l).size ≤ 2500 ∧ splE (splM s l) (unS s l 0) = 0 ∧ splM (splM s l) (unS s l 0) = s ∧ (∀ x ∈ unS s l 0, x.f2.size ≤ 3000) ∧
    (∀ p n : Int, 0 ≤ p → p < (s.size : Int) → mvd p l p = (n, 0) → 0 ≤ n ∧ n < ((splM s l).size : Int) ∧ bt (splM s l) n = bt s p ∧ mvd n (unS s l 0) n = (p, 0)) ∧
    (∀ p1 p2 n1 n2 : Int, p1 < p2 → mvd p1 l p1 = (n1, 0) → mvd p2 l p2 = (n2, 0) → n1 < n2) := by
  obtain ⟨h1, h2, h3, h4⟩ := splE_ord h
  obtain ⟨h5, h6⟩ := (chk_iff s).1 h1
  obtain ⟨h7, h8⟩ := (tailE_iff l _).1 h4
  have hlen := splB_length s l 0 h3
  have hsz : (splM s l).size = (splB s l 0).length := by rw [size_len]; rfl
  have hsz2 : ((splM s l).size : Int) = (s.size : Int) + sumG l := by rw [hsz]; omega
  have hL : Lr (splM s l) ((0 : Int) + 0).toNat = splB s l 0 := rfl
  obtain ⟨u1, u2⟩ := undo_spl s (splM s l) l 0 0 h3 (by omega) (Nat.zero_le _) hL
  rw [show (0 : Int) + 0 = 0 from rfl] at u1 u2
  have hug := unS_gr s l 0 0 h3
  have hxs : ∀ x ∈ unS s l 0, x.f2.size ≤ 2500 := fun x hm => by
    obtain ⟨i, j, e⟩ := unS_txt s l 0 x hm
    rw [e, size_ex]; omega
  have hok : ∀ c ∈ (splM s l).data.toList, okB (c.toNat : Int) = true := fun c hc =>
    splB_all (fun c => okB (c.toNat : Int) = true) s ((bt_all s).1 h6) l 0 (fun x hm c hc => by
      by_cases hz : x.f2.size ≤ 2500
      · exact (bad_iff x.f2 hz).1 (h7 x hm) c hc
      · exact bad_iff3 x.f2 (hx x hm) (h7 x hm) c hc) c hc
  refine ⟨by omega, ?_, ?_, fun x hm => Nat.le_trans (hxs x hm) (by decide), ?_, ?_⟩
  · unfold splE
    rw [if_pos ((chk_iff _).2 ⟨by omega, (bt_all _).2 hok⟩), if_neg (by rw [unS_length]; omega), if_pos (ord_rngB u1)]
    refine (tailE_iff _ _).2 ⟨fun x hm => (bad_iff x.f2 (hxs x hm)).2 fun c hc => ?_, by rw [hug]; omega⟩
    obtain ⟨i, j, e⟩ := unS_txt s l 0 x hm
    rw [e, data_ex] at hc
    exact (bt_all s).1 h6 c (List.mem_of_mem_take (List.mem_of_mem_drop hc))
  · unfold splM
    apply ba_ext
    rw [ba_data]
    exact u2
  · intro p n hp0 hp1 hm
    have hm' : mvd p l (p + 0) = (n, 0) := by rw [Int.add_zero]; exact hm
    obtain ⟨r1, r2, r3, r4⟩ := mvd_back s (splM s l) p n l 0 0 h3 (by omega) (Nat.zero_le _) hL hp0 hp1 hm'
    rw [Int.sub_zero] at r4
    exact ⟨by omega, r2, r3, r4⟩
  · intro p1 p2 n1 n2 hp hm1 hm2
    exact mvd_mono n1 n2 p1 p2 hp l 0 0 h3 (by rw [Int.add_zero]; exact hm1) (by rw [Int.add_zero]; exact hm2)
where
  bad_iff3 (s : ByteArray) (hs : s.size ≤ 3000) (h : badAt s s.size 0 = none) : ∀ c ∈ s.data.toList, okB (c.toNat : Int) = true := by
    rw [← bt_all]
    have hb : ∀ d i, s.size - i ≤ d → badAt s d i = none → ∀ j, i ≤ j → j < s.size → okB (bt s (j : Int)) = true := by
      intro d
      induction d with
      | zero => intro i hd _ j h1 h2; omega
      | succ d ih =>
        intro i hd h j h1 h2
        unfold badAt at h
        rw [if_pos (show i < s.size by omega)] at h
        by_cases c2 : okB (bt s (i : Int)) = true
        · rw [if_pos c2] at h
          by_cases e : j = i
          · subst e; exact c2
          · exact ih (i + 1) (by omega) h j (by omega) h2
        · rw [if_neg c2] at h; cases h
    exact fun i hi => hb s.size 0 (by omega) h i (Nat.zero_le _) hi
end Go.Proofs.YtebidpcmcekbgaaDoor.P
namespace Go.Proofs.YtebidpcmcekbgaaDoor.P
open Go.RowKit Go.Proofs.YtebidpcmcekbgaaDoorW.PrintWords
set_option linter.unusedVariables false
set_option linter.unusedSimpArgs false
theorem Scan.inv {s : ByteArray} {i j : Nat} {l : List Tk} (h : Scan s i l j) (hij : i < j) : (spB (bt s (i : Int)) = true ∧ Scan s (i + 1) l j) ∨ (spB (bt s (i : Int)) = false ∧ bt s (i : Int) = 126 ∧ Scan s (i + noteL s i) l j) ∨
    (∃ k t r, l = ⟨k, t, (i : Int)⟩ :: r ∧ spB (bt s (i : Int)) = false ∧ bt s (i : Int) ≠ 126 ∧ firstM kwM (s.extract i s.size) = ((k, t), 0) ∧ Scan s (i + t.size) r j) := by
  cases h with
  | done => omega
  | blank h1 h2 h3 => exact .inl ⟨h2, h3⟩
  | note h1 h2 h3 => exact .inr (.inl ⟨by rw [h2]; rfl, h2, h3⟩)
  | tok h1 h2 h3 h4 h5 => exact .inr (.inr ⟨_, _, _, rfl, h2, h3, h4, h5⟩)
/-- A word by itself is all of its text. -/
theorem tok_wl {t : ByteArray} {k : Int} (h : firstM kwM t = ((k, t), 0)) (c : wlen t ≠ 0) : wlen t = t.size := by
  have htz : t.extract 0 (wlen t) = t := by
    unfold firstM at h
    rw [if_neg c] at h
    by_cases c2 : dgB (bt t 0) = true
    · rw [if_pos c2] at h; exact congrArg (fun y => y.1.2) h
    · rw [if_neg c2] at h
      by_cases c3 : smB (bt t 0) = false
      · rw [if_pos c3] at h; cases h
      · rw [if_neg c3] at h
        by_cases c4 : kwM (t.extract 0 (wlen t)) = true
        · rw [if_pos c4] at h; exact congrArg (fun y => y.1.2) h
        · rw [if_neg c4] at h
          by_cases c5 : 12 < (t.extract 0 (wlen t)).size
          · rw [if_pos c5] at h; cases h
          · rw [if_neg c5] at h; exact congrArg (fun y => y.1.2) h
  have := congrArg ByteArray.size htz
  have := wlen_le t
  rw [size_ex] at *; omega
/-- The signs. -/
theorem tok_sign {t : ByteArray} {k : Int} (h : firstM kwM t = ((k, t), 0)) (c : wlen t = 0) : t = ba [58, 61] ∨ t = ba [45, 62] ∨ (t.size = 1 ∧ sgB (bt t 0) = true) := by
  obtain ⟨-, -, -, h0, -⟩ := firstM_self kwM h
  have hs : signM t = some t := by
    unfold firstM at h
    rw [if_pos c] at h
    cases hs : signM t with
    | none => rw [hs] at h; cases h
    | some z => rw [hs] at h; exact congrArg some (congrArg (fun y => y.1.2) h)
  unfold signM at hs
  by_cases c1 : 2 ≤ t.size ∧ bt t 0 = 58 ∧ bt t 1 = 61
  · rw [if_pos c1] at hs; exact .inl (Option.some.inj hs).symm
  · rw [if_neg c1] at hs
    by_cases c2 : 2 ≤ t.size ∧ bt t 0 = 45 ∧ bt t 1 = 62
    · rw [if_pos c2] at hs; exact .inr (.inl (Option.some.inj hs).symm)
    · rw [if_neg c2] at hs
      by_cases c3 : 0 < t.size ∧ sgB (bt t 0) = true
      · rw [if_pos c3] at hs
        refine .inr (.inr ⟨?_, c3.2⟩)
        have := congrArg ByteArray.size (Option.some.inj hs)
        rw [size_ex] at this; omega
      · rw [if_neg c3] at hs; cases hs
end Go.Proofs.YtebidpcmcekbgaaDoor.P
namespace Go.Proofs.YtebidpcmcekbgaaDoor.P
open Go.RowKit Go.Shelf Go.Maps Go.Proofs.YtebidpcmcekbgaaDoorW.PrintWords Go.Proofs.YtebidpcmcekbgaaDoorW.PrintLast Go.Proofs.YtebidpcmcekbgaaDoorW.PrintMore
set_option linter.unusedVariables false
set_option linter.unusedSimpArgs false
/-- A text's bytes as numbers. -/
def bl (s : ByteArray) : List Int := s.data.toList.map fun c => (c.toNat : Int)
theorem rdT_mem (l : List Tk) (i : Nat) (h : i < l.length) : rd_T58 l (i : Int) ∈ l :=
  List.mem_of_mem_drop (i := i) (by rw [tk_drop l i h]; exact List.mem_cons_self)
end Go.Proofs.YtebidpcmcekbgaaDoor.P
