/- What the claim's law needs, many texts in one (Xn Xo P10 Xu Xw Sa P18 Se Sb Sf Sc Hw Sg). No conditions of its own. -/
import Derived.Test.YtebidpcmcekbgaaDoorZo9
import Derived.Deep.RegionWith
import Derived.BigCall
import Derived.Test.YtebidpcmcekbgaaDoorZo2
import Derived.Test.YtebidpcmcekbgaaDoorZo4
import Derived.Lib.Bytealg
import Derived.Lib.LastIndexLaws
import Derived.Test.YtebidpcmcekbgaaDoorZo7
import Derived.Sort.LoopGhostIn
import Derived.Test.YtebidpcmcekbgaaDoorZo8
import Derived.Stop.RegionWithIn
import Derived.Sort.CutIn
set_option linter.unusedVariables false
set_option linter.unusedSimpArgs false
namespace Go.Proofs.YtebidpcmcekbgaaDoor.P
open Go.RowKit Go.Shelf Go.Maps Go.Proofs.YtebidpcmcekbgaaDoorW.PrintWords Go.Proofs.YtebidpcmcekbgaaDoorW.PrintLast Go.Proofs.YtebidpcmcekbgaaDoorW.PrintMore
set_option linter.unusedVariables false
set_option linter.unusedSimpArgs false
abbrev Sp := S60
/-- Splices that stand in order, from a place on, within so many bytes. -/
def OrdS (n : Nat) : List Sp → Int → Prop
  | [], a => 0 ≤ a ∧ a ≤ n
  | x :: r, a => 0 ≤ a ∧ a ≤ x.f0 ∧ x.f0 ≤ x.f1 ∧ x.f1 ≤ n ∧ OrdS n r x.f1
/-- The bytes behind a place, after splices. -/
def splB (s : ByteArray) : List Sp → Int → List UInt8
  | [], a => (s.extract a.toNat s.size).data.toList
  | x :: r, a => (s.extract a.toNat x.f0.toNat).data.toList ++ (x.f2.data.toList ++ splB s r x.f1)
def splM (s : ByteArray) (l : List Sp) : ByteArray := ba (splB s l 0)
theorem OrdS.range {n : Nat} : ∀ {l : List Sp} {a : Int}, OrdS n l a → 0 ≤ a ∧ a ≤ n
  | [], _, h => h
  | x :: r, _, h => ⟨h.1, by have := h.2; omega⟩
theorem drop_rd (l : List Sp) (i : Nat) (h : i < l.length) : l.drop i = rd_T60 l (i : Int) :: l.drop (i + 1) := by
  rw [List.drop_eq_getElem_cons h]
  congr 1
  unfold rd_T60
  simp [List.getD, List.getElem?_eq_getElem h]
theorem ba_data (l : List UInt8) : (ba l).data.toList = l := rfl
theorem app_ba (s t : ByteArray) : s ++ t = ba (s.data.toList ++ t.data.toList) := by
  apply ba_ext
  rw [ba_data]
  simp
theorem size_len (s : ByteArray) : s.size = s.data.toList.length := by rw [data_length]
set_option maxRecDepth 8000 in
set_option maxHeartbeats 4000000 in
theorem spliced_any (s : ByteArray) (A : Option Addr) (c : Nat) (l : List Sp) (w : World) (hr : Kd.C k60 w A l.length l) (hs : s.size ≤ 1000000000) (hll : l.length ≤ 1000000000) (ho : OrdS s.size l 0) (hb : (splB s l 0).length ≤ 1000000000) :
    Calls Tryd.prog 49 #[.string s, .slice A l.length c] w fun e w' => e = .returned (.string (splM s l)) ∧ Below w.heap.size w w' := by
  have HR := Aside0.mk hr
  have HO := Aside0.mk ho
  obtain ⟨RES, hRES⟩ : ∃ R, splB s l 0 = R := ⟨_, rfl⟩
  rw [hRES] at hb
  unfold splM
  rw [hRES]
  have HS := Aside0.mk hRES
  clear hr ho hRES
  have h0 := Aside0.mk (show Lib.IsBuilderF 86 5 w.heap.size w.heap.size (Lib.byteCells []) (w.alloc (.cells #[.pointer none, .slice none 0 0] 86)) from Lib.IsBuilderF.of (Lib.fresh_isBuilder 86 5 w))
  have b0 := Aside0.mk ((Below.refl _ w).alloc (Nat.le_refl _) (.cells #[.pointer none, .slice none 0 0] 86))
  go_enter Tryd.func49, Tryd.ntmps49
  go_wp2
  go_loopg [6, 11] l.length (fun gg s6 s11 wr => ∃ (i : Nat) (a : Int) (acc : List UInt8), s6 = .int .i64 a ∧ s11 = .int .i64 i ∧ i ≤ l.length ∧ l.length - i ≤ gg ∧ Aside0 (OrdS s.size (l.drop i) a) ∧ Aside0 (acc ++ splB s (l.drop i) a = RES) ∧ Aside0 (Lib.IsBuilderF 86 5 w.heap.size w.heap.size (Lib.byteCells acc) wr) ∧ Aside0 (Below w.heap.size w wr) ∧ w.heap.size + 1 ≤ wr.heap.size)
  case atStart => exact ⟨0, 0, [], rfl, rfl, Nat.zero_le _, by omega, HO, ⟨HS.out⟩, h0, b0, by simp⟩
  case round =>
    obtain ⟨i, a, acc, rfl, rfl, hi, hg, HOi, HA, HBu, HB, hsz⟩ := hrel
    obtain ⟨ha0, ha1⟩ := HOi.out.range
    by_cases hlt : i < l.length
    · have hltz : (i : Int) < (l.length : Int) := by omega
      obtain ⟨ad, e0, x0, x1, x2⟩ := at_T60 HR.out (i : Int) (by omega) hltz
      have hO2 := HOi.out
      have hA2 := HA.out
      rw [drop_rd l i hlt] at hO2 hA2
      obtain ⟨o1, o2, o3, o4, o5⟩ := hO2
      rw [Int.toNat_natCast] at x0 x1 x2
      generalize rd_T60 l (i : Int) = y at *
      obtain ⟨yf, yt, yx⟩ := y
      simp only at o2 o3 o4
      replace x0 := (HB.out.cell (World.block_lt_of_cell? w _ x0)).trans x0
      replace x1 := (HB.out.cell (World.block_lt_of_cell? w _ x1)).trans x1
      replace x2 := (HB.out.cell (World.block_lt_of_cell? w _ x2)).trans x2
      have hA3 := Aside0.mk (show (acc ++ (s.extract a.toNat yf.toNat ++ yx).data.toList) ++ splB s (l.drop (i + 1)) yt = RES by
        rw [app_ba, ba_data, ← hA2, splB, List.append_assoc, List.append_assoc])
      have hal : (acc ++ (s.extract a.toNat yf.toNat ++ yx).data.toList).length ≤ 1000000000 := by
        have := congrArg List.length hA3.out
        rw [List.length_append] at this
        omega
      have O5 := Aside0.mk o5
      have hf1 : yf ≤ (s.size : Int) := by omega
      have hwl : (acc ++ (s.extract a.toNat yf.toNat ++ yx).data.toList).length = acc.length + (s.extract a.toNat yf.toNat ++ yx).size := by rw [List.length_append, ← size_len]
      have hcat : (s.extract a.toNat yf.toNat).size + yx.size ≤ 9223372036854775807 := by
        rw [app_ba] at hal
        rw [ba_data, List.length_append, List.length_append, ← size_len, ← size_len] at hal
        omega
      have hcatr : ∀ W : World, (Op.stringOp .add (s.extract a.toNat yf.toNat) yx).run Tryd.prog W = .ok (.string (s.extract a.toNat yf.toNat ++ yx)) W := fun W => run_string_add_sum W _ _ hcat
      subst e0
      clear hA2 o5
      go_wp2
      obtain ⟨W2, hW2⟩ : ∃ W2, W2 = wr.alloc (.cells #[.int .i64 yf, .int .i64 yt, .string yx] 60) := ⟨_, rfl⟩
      rw [← hW2]
      have HB2 := Aside0.mk (show Below w.heap.size w W2 by rw [hW2]; exact HB.out.alloc (by omega) _)
      have hBA := Aside0.mk (show Lib.IsBuilderF 86 5 w.heap.size w.heap.size (Lib.byteCells acc) W2.drew by
        rw [hW2]
        rcases HBu.out with h | h
        · exact .inl ((h.alloc _).drew)
        · exact .inr ((h.alloc _).drew))
      have HK := Aside0.mk (show W2.heap[wr.heap.size]? = some (.cells #[.int .i64 yf, .int .i64 yt, .string yx] 60 (0, 0)) by rw [hW2]; exact heap_alloc_new wr _)
      have hsz2 : W2.heap.size = wr.heap.size + 1 := by rw [hW2]; simp
      have k0 : W2.cell? ⟨wr.heap.size, 0, none⟩ = some (.int .i64 yf) := (blk_cell HK.out 0).trans rfl
      have k1 : W2.cell? ⟨wr.heap.size, 1, none⟩ = some (.int .i64 yt) := (blk_cell HK.out 1).trans rfl
      have k2 : W2.cell? ⟨wr.heap.size, 2, none⟩ = some (.string yx) := (blk_cell HK.out 2).trans rfl
      clear hW2
      go_still_tail 8, (by kernel_rfl)
      change wpList _ _ _ _ _ W2.drew
      go_wp2_with (go_at_call 62; refine (Tryd.Builder_WriteString_k w.heap.size w.heap.size _ (s.extract a.toNat yf.toNat ++ yx) _ hBA.out (by rw [Lib.byteCells_length]; omega) (show w.heap.size ≤ W2.heap.size by omega)).mono ?_; rintro e w3 ⟨rfl, hb3, bb3, ok3⟩; have HB3 := Aside0.mk hb3; have HBB3 := Aside0.mk bb3; have HOK := Aside0.mk ok3; have HK3 := Aside0.mk (ok3 _ _ (blk_drew HK.out) (by simp; omega) (by intro c' fz e; cases e)); have k30 : w3.cell? ⟨wr.heap.size, 1, none⟩ = some (.int .i64 yt) := (blk_cell HK3.out 1).trans rfl; clear hb3 bb3 ok3)
      have hs3 := HBB3.out.size
      go_roundg (l.length - (i + 1))
      case measure => omega
      case rel => exact ⟨i + 1, yt, acc ++ (s.extract a.toNat yf.toNat ++ yx).data.toList, rfl, by go_num, by omega, by omega, O5, hA3, ⟨by rw [Lib.byteCells_append]; exact .inr HB3.out⟩, ⟨HB2.out.drew.trans HBB3.out⟩, by have : W2.drew.heap.size = W2.heap.size := rfl; omega⟩
    · have hlt2 : decide ((i : Int) < (l.length : Int)) = false := decide_eq_false (by omega)
      have hlt3 : decide (i < l.length) = false := decide_eq_false hlt
      have hA2 := HA.out
      rw [List.drop_eq_nil_of_le (by omega), splB] at hA2
      have HA2 := Aside0.mk hA2
      have hf1 : a ≤ (s.size : Int) := by omega
      have hBD := Aside0.mk (show Lib.IsBuilderF 86 5 w.heap.size w.heap.size (Lib.byteCells acc) wr.drew by
        rcases HBu.out with h | h
        · exact .inl h.drew
        · exact .inr h.drew)
      have hcat : (⟨acc.toArray⟩ : ByteArray).size + (s.extract a.toNat s.size).size ≤ 9223372036854775807 := by
        have h1 := congrArg List.length hA2
        rw [List.length_append, ← size_len] at h1
        have h2 : (⟨acc.toArray⟩ : ByteArray).size = acc.length := by rw [size_len]
        omega
      have hcatr : ∀ W : World, (Op.stringOp .add ⟨acc.toArray⟩ (s.extract a.toNat s.size)).run Tryd.prog W = .ok (.string (⟨acc.toArray⟩ ++ (s.extract a.toNat s.size))) W := fun W => run_string_add_sum W _ _ hcat
      have HFIN := Aside0.mk (show (⟨acc.toArray⟩ : ByteArray) ++ s.extract a.toNat s.size = ba RES by rw [app_ba]; exact congrArg ba hA2)
      clear hA2
      go_wp2
      go_region_with (go_at_call 64; refine (Tryd.Builder_String_any_k w.heap.size w.heap.size acc _ hBD.out (show w.heap.size ≤ wr.drew.heap.size from (by have : wr.drew.heap.size = wr.heap.size := rfl; omega))).mono ?_; rintro e w3 ⟨rfl, hb3, bb3, ok3⟩; have HBB3 := Aside0.mk bb3; clear hb3 bb3 ok3)
      all_goals (go_wp2; go_ret; exact ⟨by rw [HFIN.out]; rfl, HB.out.drew.trans HBB3.out⟩)
theorem runRight_aux (a b : ByteArray) : (a.toList == b.toList) = decide (a = b) := Bl a b
/-- Is a token right as it stands alone? -/
def rightB (k : Int) (t : ByteArray) : Bool := decide ((firstM kwM t).2 = 0) && (decide ((firstM kwM t).1.1 = k) && decide ((firstM kwM t).1.2 = t))
set_option maxRecDepth 8000 in
set_option maxHeartbeats 4000000 in
theorem isRight_any (k : Int) (t : ByteArray) (a : Int) (w : World) (hg : Gl w) (hs : t.size ≤ 140737488351232) :
    Calls Tryd.prog 85 #[.agg #[.int .u8 k, .string t, .int .i64 a]] w fun e w' => e = .returned (.bool (rightB k t)) ∧ Below w.heap.size w w' := by
  have b0 := Aside0.mk ((Below.refl _ w).alloc (Nat.le_refl _) (.cells #[.int .u8 k, .string t, .int .i64 a] 58))
  have hF := first_any t (w.alloc (.cells #[.int .u8 k, .string t, .int .i64 a] 58)) (hg.mono b0.out) hs
  unfold rightB
  generalize firstM kwM t = F at *
  obtain ⟨⟨fk, ft⟩, fe⟩ := F
  simp only at hF ⊢
  have hbl := runRight_aux ft t
  generalize hq : decide (ft = t) = qb at *
  clear hg
  go_enter Tryd.func85, Tryd.ntmps85
  go_wp2_with (go_at_call 43; refine hF.mono ?_; rintro e w3 ⟨rfl, hb3⟩; have HB3 := Aside0.mk hb3; have HK3 := Aside0.mk ((hb3.block w.heap.size (by simp)).trans (heap_alloc_new w _)); have hn3 : w.heap.size ≠ w3.heap.size := (by have := hb3.size; simp at this; omega); have k0 : w3.cell? ⟨w.heap.size, 0, none⟩ = some (.int .u8 k) := (blk_cell HK3.out 0).trans rfl; have k1 : w3.cell? ⟨w.heap.size, 1, none⟩ = some (.string t) := (blk_cell HK3.out 1).trans rfl; have ka0 : ∀ o, (w3.alloc o).cell? ⟨w.heap.size, 0, none⟩ = some (.int .u8 k) := (fun o => (blk_cell (blk_alloc HK3.out o) 0).trans rfl); have ka1 : ∀ o, (w3.alloc o).cell? ⟨w.heap.size, 1, none⟩ = some (.string t) := (fun o => (blk_cell (blk_alloc HK3.out o) 1).trans rfl); clear hb3)
  all_goals (go_ret; refine ⟨by simp_all, ?_⟩; exact b0.out.trans ((HB3.out.mono (by simp)).alloc (by have := HB3.out.size; simp at this; omega) _))
def nameB (t : ByteArray) : Bool := rightB 1 t
theorem isName_any (t : ByteArray) (w : World) (hg : Gl w) (hs : t.size ≤ 140737488351232) :
    Calls Tryd.prog 48 #[.string t] w fun e w' => e = .returned (.bool (nameB t)) ∧ Below w.heap.size w w' := by
  have hR := isRight_any 1 t 0 w hg hs
  unfold nameB
  generalize rightB 1 t = b at *
  go_enter Tryd.func48, Tryd.ntmps48
  go_wp2_with (go_at_call 85; refine hR.mono ?_; rintro e w3 ⟨rfl, hb3⟩)
  go_ret
  exact ⟨rfl, hb3⟩
end Go.Proofs.YtebidpcmcekbgaaDoor.P
namespace Go.Proofs.YtebidpcmcekbgaaDoor.P
open Go.RowKit Go.Proofs.YtebidpcmcekbgaaDoorW.PrintWords
set_option linter.unusedVariables false
set_option linter.unusedSimpArgs false
/-- Tokens that stand in order, from a place on, within so many bytes. -/
def TOrd (n : Nat) : List Tk → Int → Prop
  | [], a => a ≤ n
  | x :: r, a => a ≤ x.f2 ∧ x.f2 + (x.f1.size : Int) ≤ n ∧ TOrd n r (x.f2 + (x.f1.size : Int))
theorem TOrd.le {n : Nat} : ∀ {l : List Tk} {a b : Int}, TOrd n l a → b ≤ a → TOrd n l b
  | [], a, b, h, hb => Int.le_trans hb h
  | x :: r, a, b, h, hb => ⟨Int.le_trans hb h.1, h.2⟩
theorem goT_ord (kw : ByteArray → Bool) (s : ByteArray) : ∀ (d i : Nat) (l l' : List Tk), s.size - i ≤ d → i ≤ s.size → goT kw s (pcsA s (lenT kw s) i) l = (l', 0, 0) → ∃ r, l' = l ++ r ∧ TOrd s.size r (i : Int) := by
  intro d
  induction d with
  | zero =>
    intro i l l' hd hi h
    rw [pcsA_end s _ (lenT_pos kw s) i (by omega)] at h
    exact ⟨[], by rw [List.append_nil]; exact (congrArg Prod.fst h).symm, by show (i : Int) ≤ s.size; omega⟩
  | succ d ih =>
    intro i l l' hd hi h
    by_cases hlt : i < s.size
    · rw [pcsA_step s _ (lenT_pos kw s) i hlt] at h
      by_cases c1 : spB (bt s (i : Int)) = true
      · rw [if_pos c1] at h
        obtain ⟨r, h1, h2⟩ := ih (i + 1) l l' (by omega) (by omega) h
        exact ⟨r, h1, h2.le (by omega)⟩
      · rw [if_neg c1] at h
        by_cases c2 : bt s (i : Int) = 126
        · have hp := noteL_pos s i hlt c2
          have hle : i + noteL s i ≤ s.size := ll_le s s.size i hi
          have hz := noteT_size s i hi
          rw [if_pos c2, goT_cons] at h
          have e : stepT kw s l (i, noteT s i) = (l, 0, 0) := by unfold stepT; rw [if_pos (show (noteT s i).size ≠ 0 by omega)]
          rw [e, if_pos rfl] at h
          obtain ⟨r, h1, h2⟩ := ih (i + noteL s i) l l' (by omega) (by omega) h
          exact ⟨r, h1, h2.le (by omega)⟩
        · rw [if_neg c2, goT_cons] at h
          have hst : stepT kw s l (i, ByteArray.empty) = if (firstM kw (s.extract i s.size)).2 ≠ 0 then ([], (i : Int), (firstM kw (s.extract i s.size)).2) else if l.length = 900 then ([], (i : Int), 5) else (l ++ [⟨(firstM kw (s.extract i s.size)).1.1, (firstM kw (s.extract i s.size)).1.2, (i : Int)⟩], 0, 0) := by
            unfold stepT
            rw [if_neg (show ¬ (ByteArray.empty.size ≠ 0) by decide)]
          rw [hst] at h
          by_cases c3 : (firstM kw (s.extract i s.size)).2 ≠ 0
          · rw [if_pos c3, if_neg c3] at h
            exact absurd (congrArg (fun y => y.2.2) h) c3
          · rw [if_neg c3] at h
            by_cases c4 : l.length = 900
            · rw [if_pos c4, if_neg (show ¬ (5 : Int) = 0 by decide)] at h
              exact absurd (show (5 : Int) = 0 from congrArg (fun y => y.2.2) h) (by decide)
            · rw [if_neg c4, if_pos rfl] at h
              have hz : (firstM kw (s.extract i s.size)).2 = 0 := by simpa using c3
              have hsz := firstM_size kw _ hz
              rw [size_ex, Nat.min_self] at hsz
              have hlen : lenT kw s i = (firstM kw (s.extract i s.size)).1.2.size := by unfold lenT; rw [if_pos hz]
              rw [hlen] at h
              obtain ⟨r, h1, h2⟩ := ih _ _ l' (by omega) (by omega) h
              refine ⟨_ :: r, by rw [h1, List.append_assoc]; rfl, ?_⟩
              exact ⟨Int.le_refl _, by simp only; omega, by
                have : ((i + (firstM kw (s.extract i s.size)).1.2.size : Nat) : Int) = (i : Int) + ((firstM kw (s.extract i s.size)).1.2.size : Int) := by omega
                rw [this] at h2; exact h2⟩
    · rw [pcsA_end s _ (lenT_pos kw s) i (by omega)] at h
      exact ⟨[], by rw [List.append_nil]; exact (congrArg Prod.fst h).symm, by show (i : Int) ≤ s.size; omega⟩
theorem toks_ord (s : ByteArray) (h : (toksM kwM s).2.2 = 0) : TOrd s.size (toksM kwM s).1 0 ∧ (toksM kwM s).1.length ≤ 900 ∧ s.size ≤ 2500 := by
  unfold toksM at h ⊢
  by_cases c : (chkT s).2 = 0
  · rw [if_neg (by simpa using c)] at h ⊢
    have hl := goT_len kwM s (pcsA s (lenT kwM s) 0) [] (by decide)
    have hs : s.size ≤ 2500 := by
      rw [chkT_eq] at c
      by_cases c2 : 2500 < s.size
      · rw [if_pos c2] at c; exact absurd (show (5 : Int) = 0 from c) (by decide)
      · omega
    refine ⟨?_, hl, hs⟩
    generalize hg : goT kwM s (pcsA s (lenT kwM s) 0) [] = G at *
    obtain ⟨g1, g2, g3⟩ := G
    have h3 : g3 = 0 := h
    subst h3
    have hp : g2 = 0 := by
      have : ∀ (L : List (Nat × ByteArray)) (l l' : List Tk) (p : Int), goT kwM s L l = (l', p, 0) → p = 0 := by
        intro L
        induction L with
        | nil => intro l l' p h; exact (congrArg (fun y => y.2.1) h).symm
        | cons x L ih =>
          intro l l' p h
          rw [goT_cons] at h
          by_cases c : (stepT kwM s l x).2.2 = 0
          · rw [if_pos c] at h; exact ih _ _ _ h
          · rw [if_neg c] at h; exact absurd (congrArg (fun y => y.2.2) h) c
      exact this _ _ _ _ hg
    subst hp
    obtain ⟨r, h1, h2⟩ := goT_ord kwM s s.size 0 [] g1 (by omega) (by omega) hg
    rw [List.nil_append] at h1
    subst h1
    exact h2
  · rw [if_pos c] at h; exact absurd h c
/-- The splices of a renaming. -/
def renS (old name : ByteArray) (l : List Tk) : List Sp := (l.filter fun t => decide (t.f1 = old)).map fun t => ⟨t.f2, t.f2 + (old.size : Int), name⟩
theorem renS_ord (n : Nat) (old name : ByteArray) : ∀ (l : List Tk) (a b : Int), TOrd n l a → 0 ≤ b → b ≤ a → OrdS n (renS old name l) b
  | [], a, b, h, h0, hb => ⟨h0, Int.le_trans hb h⟩
  | x :: r, a, b, h, h0, hb => by
    obtain ⟨h1, h2, h3⟩ := h
    unfold renS
    by_cases c : x.f1 = old
    · rw [List.filter_cons_of_pos (by exact decide_eq_true c), List.map_cons]
      have := renS_ord n old name r _ (x.f2 + (old.size : Int)) h3 (by omega) (by rw [← c]; exact Int.le_refl _)
      exact ⟨h0, by show b ≤ x.f2; omega, by show x.f2 ≤ x.f2 + (old.size : Int); omega, by show x.f2 + (old.size : Int) ≤ n; rw [← c]; exact h2, this⟩
    · rw [List.filter_cons_of_neg (by simpa using c)]
      exact renS_ord n old name r _ b h3 h0 (by omega)
theorem renS_len (old name : ByteArray) (l : List Tk) : (renS old name l).length ≤ l.length := by
  unfold renS
  rw [List.length_map]
  exact List.length_filter_le _ _
theorem splB_len (s : ByteArray) (m : Nat) : ∀ (l : List Sp) (a : Int), (∀ x ∈ l, x.f2.size ≤ m) → OrdS s.size l a → (splB s l a).length + a.toNat ≤ s.size + l.length * m
  | [], a, _, h => by
    unfold splB
    rw [← size_len, size_ex]
    have := h.1; have := h.2
    simp only [List.length_nil]
    omega
  | x :: r, a, hm, h => by
    obtain ⟨h1, h2, h3, h4, h5⟩ := h
    have ih := splB_len s m r x.f1 (fun y hy => hm y (List.mem_cons_of_mem _ hy)) h5
    have hx := hm x List.mem_cons_self
    unfold splB
    rw [List.length_append, List.length_append, ← size_len, ← size_len, size_ex, List.length_cons, Nat.succ_mul]
    omega
theorem nameB_size (t : ByteArray) (h : nameB t = true) : t.size ≤ 12 := by
  unfold nameB rightB at h
  simp only [Bool.and_eq_true, decide_eq_true_eq] at h
  obtain ⟨h0, h1, h2⟩ := h
  unfold firstM at h0 h1 h2
  by_cases c : wlen t = 0
  · rw [if_pos c] at h1
    cases hs : signM t with
    | none => rw [hs] at h1; exact absurd (show (0 : Int) = 1 from h1) (by decide)
    | some z => rw [hs] at h1; exact absurd (show (4 : Int) = 1 from h1) (by decide)
  · rw [if_neg c] at h0 h1 h2
    by_cases c2 : dgB (bt t 0) = true
    · rw [if_pos c2] at h1; exact absurd (show (2 : Int) = 1 from h1) (by decide)
    · rw [if_neg c2] at h0 h1 h2
      by_cases c3 : smB (bt t 0) = false
      · rw [if_pos c3] at h1; exact absurd (show (0 : Int) = 1 from h1) (by decide)
      · rw [if_neg c3] at h0 h1 h2
        by_cases c4 : kwM (t.extract 0 (wlen t)) = true
        · rw [if_pos c4] at h1; exact absurd (show (3 : Int) = 1 from h1) (by decide)
        · rw [if_neg c4] at h0 h1 h2
          by_cases c5 : 12 < (t.extract 0 (wlen t)).size
          · rw [if_pos c5] at h1; exact absurd (show (0 : Int) = 1 from h1) (by decide)
          · rw [if_neg c5] at h2
            have h3 : t.extract 0 (wlen t) = t := h2
            rw [h3] at c5; omega
/-- lex.Rename. -/
def renM (s old name : ByteArray) : ByteArray × Int :=
  if (toksM kwM s).2.2 ≠ 0 then (ByteArray.empty, (toksM kwM s).2.2)
  else if nameB old = false ∨ nameB name = false then (ByteArray.empty, 2)
  else if renS old name (toksM kwM s).1 = [] then (ByteArray.empty, 7)
  else if ((toksM kwM s).1.any fun t => decide (t.f1 = name)) = true then (ByteArray.empty, 6)
  else if 2500 < (splM s (renS old name (toksM kwM s).1)).size then (ByteArray.empty, 5)
  else (splM s (renS old name (toksM kwM s).1), 0)
end Go.Proofs.YtebidpcmcekbgaaDoor.P
namespace Go.Proofs.YtebidpcmcekbgaaDoor.P
open Go.RowKit Go.Proofs.YtebidpcmcekbgaaDoorW.PrintWords Go.Proofs.YtebidpcmcekbgaaDoorW.PrintLast Go.Proofs.YtebidpcmcekbgaaDoorW.PrintMore
attribute [local go_sem] min2_int min_two -- for this text's walks alone
set_option linter.unusedVariables false
set_option linter.unusedSimpArgs false

/-! ### riposteref01_Rename: function 18 -/

-- NOT PRINTED: function 4 (ripostelaw01_LexRenames)

-- NOT PRINTED: function 52 (lex_common_byte)

-- NOT PRINTED: function 53 (lex_ending_byte)

-- NOT PRINTED: function 19 (lex_Diff)

end Go.Proofs.YtebidpcmcekbgaaDoor.P
namespace Go.Proofs.YtebidpcmcekbgaaDoor.P
open Go.RowKit Go.Proofs.YtebidpcmcekbgaaDoorW.PrintWords
set_option linter.unusedVariables false
set_option linter.unusedSimpArgs false
theorem tk_drop (l : List Tk) (i : Nat) (h : i < l.length) : l.drop i = rd_T58 l (i : Int) :: l.drop (i + 1) := by
  rw [List.drop_eq_getElem_cons h]
  congr 1
  unfold rd_T58
  simp [List.getD, List.getElem?_eq_getElem h]
theorem renS_cons_pos (old name : ByteArray) (x : Tk) (r : List Tk) (h : x.f1 = old) : renS old name (x :: r) = ⟨x.f2, x.f2 + (old.size : Int), name⟩ :: renS old name r := by
  unfold renS; rw [List.filter_cons_of_pos (by exact decide_eq_true h)]; rfl
theorem renS_cons_neg (old name : ByteArray) (x : Tk) (r : List Tk) (h : ¬ x.f1 = old) : renS old name (x :: r) = renS old name r := by
  unfold renS; rw [List.filter_cons_of_neg (by simpa using h)]
theorem tok_name {s : ByteArray} {l : List Tk} {i j : Nat} (h : Scan s i l j) {t : ByteArray} (ht : nameB t = true) : ∀ x ∈ l, x.f1 = t → x.f0 = 1 := by
  intro x hx e
  obtain ⟨n, -, -, -, hf⟩ := h.mem x hx
  have h1 := (firstM_self kwM hf).1
  rw [e] at h1
  unfold nameB rightB at ht
  have ht2 : (decide ((firstM kwM t).2 = 0) && (decide ((firstM kwM t).1.1 = 1) && decide ((firstM kwM t).1.2 = t))) = true := ht
  rw [h1] at ht2
  simpa using ht2
/-- The bytes from a place on. -/
def Lr (s : ByteArray) (i : Nat) : List UInt8 := s.data.toList.drop i
theorem Lr_ex (s : ByteArray) (i : Nat) : (s.extract i s.size).data.toList = Lr s i := by
  rw [data_ex, List.take_of_length_le (by rw [data_length]; exact Nat.le_refl _)]; rfl
theorem Lr_len (s : ByteArray) (i : Nat) : (Lr s i).length = s.size - i := by unfold Lr; rw [List.length_drop, data_length]
theorem Lr_split (s : ByteArray) (i n : Nat) (h : i + n ≤ s.size) : Lr s i = (s.extract i (i + n)).data.toList ++ Lr s (i + n) := by
  unfold Lr
  rw [data_ex, ← List.drop_drop, List.drop_take, Nat.add_sub_cancel_left]
  exact (List.take_append_drop n _).symm
theorem bt_Lr (s : ByteArray) (i j : Nat) : bt s ((i + j : Nat) : Int) = (((Lr s i)[j]?).getD 0).toNat := by
  rw [bt_list]; unfold Lr; rw [List.getElem?_drop]
theorem bt_head (s : ByteArray) (i : Nat) : bt s (i : Int) = (((Lr s i)[0]?).getD 0).toNat := bt_Lr s i 0
theorem Lr_app {s : ByteArray} {i : Nat} {A B : List UInt8} (h : Lr s i = A ++ B) : Lr s (i + A.length) = B ∧ (i ≤ s.size → i + A.length ≤ s.size) := by
  have hl := Lr_len s i
  rw [h, List.length_append] at hl
  refine ⟨?_, fun hi => by omega⟩
  have : Lr s (i + A.length) = (Lr s i).drop A.length := by unfold Lr; rw [List.drop_drop]
  rw [this, h, List.drop_left]
/-- At a place stand these bytes. -/
theorem begT_Lr {s z : ByteArray} {i : Nat} {B : List UInt8} (hi : i ≤ s.size) (h : Lr s i = z.data.toList ++ B) : begT (s.extract i s.size) z ∧ i + z.size ≤ s.size ∧ Lr s (i + z.size) = B ∧ bt (s.extract i s.size) (z.size : Int) = bt s ((i + z.size : Nat) : Int) := by
  obtain ⟨h1, h2⟩ := Lr_app h
  rw [data_length] at h1 h2
  have h3 := h2 hi
  have hb : ∀ j : Nat, bt (s.extract i s.size) (j : Int) = bt s ((i + j : Nat) : Int) := by
    intro j
    by_cases c : i + j < s.size
    · exact bt_ex s i s.size j c
    · rw [bt_out _ _ (by rw [size_ex]; omega), bt_out s _ (by omega)]
  refine ⟨⟨by rw [size_ex]; omega, fun j hj => ?_⟩, h3, h1, hb _⟩
  rw [hb, bt_Lr, h, List.getElem?_append_left (by rw [data_length]; exact hj), ← bt_list]
theorem Lr_begT {s z : ByteArray} {i : Nat} (hi : i ≤ s.size) (h : begT (s.extract i s.size) z) : Lr s i = z.data.toList ++ Lr s (i + z.size) ∧ i + z.size ≤ s.size := by
  have hz := h.1
  rw [size_ex] at hz
  have h2 := begT_ex h
  rw [ex_ex s i s.size 0 z.size (by omega), Nat.add_zero] at h2
  refine ⟨?_, by omega⟩
  rw [Lr_split s i z.size (by omega), h2]
theorem splB_skip (s : ByteArray) (R : List Sp) (i n : Nat) (h : OrdS s.size R ((i + n : Nat) : Int)) : splB s R (i : Int) = (s.extract i (i + n)).data.toList ++ splB s R ((i + n : Nat) : Int) := by
  cases R with
  | nil =>
    unfold splB
    have h2 := h.2
    rw [Int.toNat_natCast, Int.toNat_natCast, Lr_ex, Lr_ex]
    exact Lr_split s i n (by omega)
  | cons x r =>
    obtain ⟨h1, h2, h3, h4, -⟩ := h
    unfold splB
    rw [Int.toNat_natCast, Int.toNat_natCast]
    have e : (s.extract i x.f0.toNat) = s.extract i (i + n) ++ s.extract (i + n) x.f0.toNat := by
      apply ba_ext
      rw [app_ba, ba_data, data_ex, data_ex, data_ex]
      have hh : i + n ≤ x.f0.toNat := by omega
      rw [List.drop_take, List.drop_take, List.drop_take, ← List.drop_drop, Nat.add_sub_cancel_left]
      conv => lhs; rw [show x.f0.toNat - i = n + (x.f0.toNat - (i + n)) by omega, List.take_add]
    rw [e, app_ba, ba_data, List.append_assoc]
theorem Scan.ord {s : ByteArray} {i j : Nat} {l : List Tk} (h : Scan s i l j) (hj : j ≤ s.size) : TOrd s.size l (i : Int) := by
  induction h with
  | done i => show (i : Int) ≤ s.size; omega
  | blank _ _ _ ih => exact (ih hj).le (by omega)
  | note _ _ _ ih => exact (ih hj).le (by omega)
  | @tok i j l k t h1 h2 h3 h4 h5 ih =>
    have := tok_size h4
    exact ⟨Int.le_refl _, by simp only; omega, by have := ih hj; rw [show ((i : Int) + (t.size : Int)) = ((i + t.size : Nat) : Int) by omega]; exact this⟩
theorem noteL_uniq (s : ByteArray) (i n : Nat) (h1 : ∀ k, k < n → i + k < s.size ∧ bt s ((i + k : Nat) : Int) ≠ 10) (h2 : s.size ≤ i + n ∨ bt s ((i + n : Nat) : Int) = 10) : noteL s i = n := by
  have key : ∀ f i n, s.size - i ≤ f → (∀ k, k < n → i + k < s.size ∧ bt s ((i + k : Nat) : Int) ≠ 10) → (s.size ≤ i + n ∨ bt s ((i + n : Nat) : Int) = 10) → ll s f i = n := by
    intro f
    induction f with
    | zero =>
      intro i n hf h1 h2
      cases n with
      | zero => rfl
      | succ n => have := (h1 0 (by omega)).1; omega
    | succ f ih =>
      intro i n hf h1 h2
      unfold ll
      cases n with
      | zero =>
        rw [if_neg]
        rintro ⟨a, b⟩
        rcases h2 with h2 | h2
        · omega
        · exact b h2
      | succ n =>
        rw [if_pos (show i < s.size ∧ bt s (i : Int) ≠ 10 from h1 0 (by omega)), ih (i + 1) n (by omega) (fun k hk => by have := h1 (k + 1) (by omega); rw [show i + 1 + k = i + (k + 1) by omega]; exact this) (by rw [show i + 1 + n = i + (n + 1) by omega]; exact h2)]
  exact key s.size i n (by omega) h1 h2
theorem noteL_in (s : ByteArray) (i : Nat) : (∀ k, k < noteL s i → i + k < s.size ∧ bt s ((i + k : Nat) : Int) ≠ 10) ∧ (s.size ≤ i + noteL s i ∨ bt s ((i + noteL s i : Nat) : Int) = 10) := by
  have key : ∀ f i, s.size - i ≤ f → (∀ k, k < ll s f i → i + k < s.size ∧ bt s ((i + k : Nat) : Int) ≠ 10) ∧ (s.size ≤ i + ll s f i ∨ bt s ((i + ll s f i : Nat) : Int) = 10) := by
    intro f
    induction f with
    | zero => intro i hf; exact ⟨fun k hk => absurd hk (Nat.not_lt_zero _), .inl (by show s.size ≤ i + 0; omega)⟩
    | succ f ih =>
      intro i hf
      unfold ll
      by_cases c : i < s.size ∧ bt s (i : Int) ≠ 10
      · rw [if_pos c]
        obtain ⟨a, b⟩ := ih (i + 1) (by omega)
        refine ⟨fun k hk => ?_, by rw [show i + (ll s f (i + 1) + 1) = i + 1 + ll s f (i + 1) by omega]; exact b⟩
        cases k with
        | zero => exact c
        | succ k => have := a k (by omega); rw [show i + (k + 1) = i + 1 + k by omega]; exact this
      · rw [if_neg c]
        refine ⟨fun k hk => absurd hk (Nat.not_lt_zero _), ?_⟩
        by_cases c2 : i < s.size
        · exact .inr (Classical.not_not.1 fun h => c ⟨c2, h⟩)
        · exact .inl (by omega)
  exact key s.size i (by omega)
/-- A name by itself. -/
theorem name_self {t : ByteArray} (h : nameB t = true) : firstM kwM t = ((1, t), 0) := by
  have h2 : (decide ((firstM kwM t).2 = 0) && (decide ((firstM kwM t).1.1 = 1) && decide ((firstM kwM t).1.2 = t))) = true := h
  simp only [Bool.and_eq_true, decide_eq_true_eq] at h2
  obtain ⟨a, b, c⟩ := h2
  exact Prod.ext (Prod.ext b c) a
theorem name_small {t : ByteArray} (h : nameB t = true) : smB (bt t 0) = true ∧ ∀ j, j < t.size → wdB (bt t (j : Int)) = true := by
  have h1 := name_self h
  obtain ⟨-, -, -, h0, h4⟩ := firstM_self kwM h1
  have hw : wlen t ≠ 0 := fun e => by have := h4.2 e; cases this
  have hz : wlen t = t.size ∧ smB (bt t 0) = true := by
    unfold firstM at h1
    rw [if_neg hw] at h1
    by_cases c2 : dgB (bt t 0) = true
    · rw [if_pos c2] at h1
      exact absurd (show (2 : Int) = 1 from congrArg (fun y => y.1.1) h1) (by decide)
    · rw [if_neg c2] at h1
      by_cases c3 : smB (bt t 0) = false
      · rw [if_pos c3] at h1
        exact absurd (show (0 : Int) = 1 from congrArg (fun y => y.1.1) h1) (by decide)
      · rw [if_neg c3] at h1
        by_cases c4 : kwM (t.extract 0 (wlen t)) = true
        · rw [if_pos c4] at h1
          exact absurd (show (3 : Int) = 1 from congrArg (fun y => y.1.1) h1) (by decide)
        · rw [if_neg c4] at h1
          by_cases c5 : 12 < (t.extract 0 (wlen t)).size
          · rw [if_pos c5] at h1
            exact absurd (show (0 : Int) = 1 from congrArg (fun y => y.1.1) h1) (by decide)
          · rw [if_neg c5] at h1
            have e : t.extract 0 (wlen t) = t := congrArg (fun y => y.1.2) h1
            have := congrArg ByteArray.size e
            have := wlen_le t
            rw [size_ex] at *
            exact ⟨by omega, by simpa using c3⟩
  exact ⟨hz.2, fun j hj => wlen_in t j (by omega)⟩
theorem sm_word {c : Int} (h : smB c = true) : wdB c = true ∧ spB c = false ∧ c ≠ 126 ∧ c ≠ 61 ∧ c ≠ 62 := by
  unfold smB at h
  simp only [Bool.and_eq_true, decide_eq_true_eq] at h
  refine ⟨?_, ?_, by omega, by omega, by omega⟩
  · unfold wdB smB; rw [decide_eq_true h.1, decide_eq_true h.2]; simp
  · rw [Bool.eq_false_iff]; intro e; rw [spB_iff] at e; omega
theorem nx_swap {k : Int} {t : ByteArray} {c d : Int} (h : nxB k t c = true) (hd : d = c ∨ (smB c = true ∧ smB d = true)) : nxB k t d = true := by
  rcases hd with rfl | ⟨h1, h2⟩
  · exact h
  · unfold nxB at h ⊢
    by_cases e : k = 4
    · rw [if_pos e]
      obtain ⟨-, -, -, a, b⟩ := sm_word h2
      rw [decide_eq_false a, decide_eq_false b]; simp
    · rw [if_neg e, (sm_word h1).1] at h; cases h
/-- The tokens, moved by so much, the one name for the other one. -/
def mvT (old name : ByteArray) : List Tk → Int → List Tk
  | [], _ => []
  | x :: r, d => ⟨x.f0, if x.f1 = old then name else x.f1, x.f2 + d⟩ :: mvT old name r (if x.f1 = old then d + ((name.size : Int) - (old.size : Int)) else d)
theorem mvT_length (old name : ByteArray) : ∀ (l : List Tk) (d : Int), (mvT old name l d).length = l.length
  | [], _ => rfl
  | x :: r, d => by unfold mvT; rw [List.length_cons, List.length_cons, mvT_length old name r]
theorem Scan.end_nil {s : ByteArray} {i j : Nat} {l : List Tk} (h : Scan s i l j) (hi : s.size ≤ i) : l = [] := by
  cases h with
  | done => rfl
  | blank h1 => omega
  | note h1 => omega
  | tok h1 => omega
theorem Scan.at_lf {old name s : ByteArray} {i j : Nat} {l : List Tk} (h : Scan s i l j) (hi : bt s (i : Int) = 10) (hj : j ≤ s.size) : OrdS s.size (renS old name l) ((i + 1 : Nat) : Int) ∨ (l = [] ∧ i = j) := by
  cases h with
  | done => exact .inr ⟨rfl, rfl⟩
  | blank h1 h2 h3 => exact .inl (renS_ord _ _ _ _ _ _ (h3.ord hj) (by omega) (Int.le_refl _))
  | note h1 h2 => rw [hi] at h2; cases h2
  | tok h1 h2 => rw [hi] at h2; cases h2
/-- The first byte behind splices: the text's own one, or both are names' first ones. -/
theorem head_spl (s old name : ByteArray) (ho : nameB old = true) (hn : nameB name = true) {i j : Nat} {l : List Tk} (h : Scan s i l j) (hj : j = s.size) (t : ByteArray) (m : Nat) (hm : Lr t m = splB s (renS old name l) (i : Int)) :
    bt t (m : Int) = bt s (i : Int) ∨ (smB (bt s (i : Int)) = true ∧ smB (bt t (m : Int)) = true) := by
  have hbt : ∀ n, 0 < n → OrdS s.size (renS old name l) ((i + n : Nat) : Int) → bt t (m : Int) = bt s (i : Int) := by
    intro n hn0 hO
    have hle := hO.range.2
    rw [splB_skip s _ i n hO] at hm
    rw [bt_head, hm, List.getElem?_append_left (by rw [data_length, size_ex]; omega), bt_head s i, Lr_split s i n (by omega), List.getElem?_append_left (by rw [data_length, size_ex]; omega)]
  cases h with
  | done =>
    refine .inl ?_
    rw [show renS old name ([] : List Tk) = [] from rfl, splB, Int.toNat_natCast, Lr_ex] at hm
    rw [bt_head, hm, ← bt_head]
  | blank h1 h2 h3 => exact .inl (hbt 1 Nat.one_pos (renS_ord _ _ _ _ _ _ (h3.ord (by omega)) (by omega) (Int.le_refl _)))
  | note h1 h2 h3 => exact .inl (hbt (noteL s i) (noteL_pos s i h1 h2) (renS_ord _ _ _ _ _ _ (h3.ord (by omega)) (by omega) (Int.le_refl _)))
  | @tok _ _ r k z h1 h2 h3 h4 h5 =>
    have hz := tok_size h4
    by_cases c : z = old
    · refine .inr ?_
      obtain ⟨h6, h7, -, -, -⟩ := firstM_self kwM h4
      obtain ⟨h8, -⟩ := Lr_begT (by omega) h7
      rw [renS_cons_pos old name _ _ c, splB] at hm
      simp only [Int.toNat_natCast] at hm
      rw [ex_empty s i i (.inl (Nat.le_refl _))] at hm
      have hm2 : Lr t m = name.data.toList ++ splB s (renS old name r) ((i : Int) + (old.size : Int)) := hm
      have e1 : bt t (m : Int) = bt name 0 := by
        rw [bt_head, hm2]
        obtain ⟨-, -, -, h0, -⟩ := firstM_self kwM (name_self hn)
        rw [List.getElem?_append_left (by rw [data_length]; exact h0), show (0 : Int) = ((0 : Nat) : Int) from rfl, bt_list]
      have e2 : bt s (i : Int) = bt old 0 := by
        rw [bt_head, h8, c]
        rw [List.getElem?_append_left (by rw [data_length, ← c]; exact hz.1), show (0 : Int) = ((0 : Nat) : Int) from rfl, bt_list]
      rw [e1, e2]
      exact ⟨(name_small ho).1, (name_small hn).1⟩
    · rw [renS_cons_neg old name _ _ c] at hm hbt
      exact .inl (hbt z.size hz.1 (renS_ord _ _ _ _ _ _ (h5.ord (by omega)) (by omega) (Int.le_refl _)))
/-- How many line feeds stand ahead of a place, and where the last one is. -/
def lfN (s : ByteArray) : Nat → Nat
  | 0 => 0
  | n + 1 => if bt s (n : Int) = 10 then lfN s n + 1 else lfN s n
def lastF (s : ByteArray) : Nat → Int
  | 0 => -1
  | n + 1 => if bt s (n : Int) = 10 then (n : Int) else lastF s n
/-- The line and the column of a place. -/
def spM (s : ByteArray) (n : Nat) : Int × Int := ((lfN s n : Int) + 1, (n : Int) - lastF s n)
theorem lastF_lt (s : ByteArray) : ∀ n : Nat, -1 ≤ lastF s n ∧ lastF s n < (n : Int)
  | 0 => ⟨by unfold lastF; omega, by unfold lastF; omega⟩
  | n + 1 => by
    have := lastF_lt s n
    unfold lastF
    split <;> omega
/-- The first place from i on, at most d ones further, that has a spot. -/
def fndS (s : ByteArray) (p : Int × Int) : Nat → Nat → Int × Int
  | 0, i => if spM s i = p then ((i : Int), 0) else (0, 7)
  | d + 1, i => if spM s i = p then ((i : Int), 0) else fndS s p d (i + 1)
/-- The lines of a text, from a place on. -/
def lnsM (s : ByteArray) : Nat → Nat → List ByteArray
  | 0, i => [s.extract i s.size]
  | f + 1, i => if i + noteL s i < s.size then s.extract i (i + noteL s i) :: lnsM s f (i + noteL s i + 1) else [s.extract i s.size]
/-- lex.At over lines. -/
def atL (p : Int × Int) : List ByteArray → Int → Int → Int × Int
  | [], _, _ => (0, 7)
  | x :: r, a, n => if n = p.1 ∧ 1 ≤ p.2 ∧ p.2 ≤ (x.size : Int) + 1 then (a + p.2 - 1, 0) else atL p r (a + (x.size : Int) + 1) (n + 1)
end Go.Proofs.YtebidpcmcekbgaaDoor.P
namespace Go.Proofs.YtebidpcmcekbgaaDoor.P
open Go.RowKit Go.Proofs.YtebidpcmcekbgaaDoorW.PrintWords Go.Proofs.YtebidpcmcekbgaaDoorW.PrintLast Go.Proofs.YtebidpcmcekbgaaDoorW.PrintMore
attribute [local go_sem] min2_int min_two -- for this text's walks alone
set_option linter.unusedVariables false
set_option linter.unusedSimpArgs false

attribute [local go_sem high] eqA52
/-! ### riposteref01_SameInts: function 34 -/

-- NOT PRINTED: function 7 (ripostelaw01_LexTights)

-- NOT PRINTED: function 89 (utf8_RuneCountInString)

-- NOT PRINTED: function 90 (bytealg_CountString)

-- NOT PRINTED: function 121 (bytealg_IndexString)

-- NOT PRINTED: function 111 (stringslite_Index)

-- NOT PRINTED: function 91 (strings_Index)

-- NOT PRINTED: function 68 (strings_Count)

-- NOT PRINTED: function 35 (lex_Spot)

/-! ### riposteref01_spotOf: function 70 -/

/-! ### riposteref01_Spot: function 36 -/

-- NOT PRINTED: function 94 (strings_splitSeq)

-- NOT PRINTED: function 71 (strings_SplitSeq)

-- NOT PRINTED: function 37 (lex_At)

/-! ### riposteref01_At: function 38 -/

-- NOT PRINTED: function 8 (ripostelaw01_LexSpots)

-- NOT PRINTED: function 9 (ripostelaw01_LexPlaces)

-- NOT PRINTED: function 72 (api_Token_72)

-- NOT PRINTED: function 73 (lex_later)

-- NOT PRINTED: function 74 (api_Token_74)

-- NOT PRINTED: function 39 (lex_Kept)

-- NOT PRINTED: function 10 (ripostelaw01_LexNames)

end Go.Proofs.YtebidpcmcekbgaaDoor.P
namespace Go.Proofs.YtebidpcmcekbgaaDoor.P
open Go.RowKit Go.Proofs.YtebidpcmcekbgaaDoorW.PrintWords
set_option linter.unusedVariables false
set_option linter.unusedSimpArgs false
/-- The line and the column of a place, or the error; the place of a line and a column, or the error. -/
def spotE (s : ByteArray) (a : Int) : Int × Int × Int :=
  if (chkT s).2 = 0 then (if a < 0 ∨ (s.size : Int) < a then (0, 0, 3) else ((spM s a.toNat).1, (spM s a.toNat).2, 0)) else (0, 0, (chkT s).2)
def atE (s : ByteArray) (p : Int × Int) : Int × Int :=
  if (chkT s).2 = 0 then atL p (lnsM s (s.size + 1) 0) 0 1 else (0, (chkT s).2)
theorem lfN_le (s : ByteArray) : ∀ n : Nat, lfN s n ≤ n
  | 0 => Nat.le_refl _
  | n + 1 => by
    have := lfN_le s n
    unfold lfN
    split <;> omega
theorem chk_small (s : ByteArray) (h : (chkT s).2 = 0) : s.size ≤ 2500 := by
  unfold chkT at h
  by_cases c : 2500 < s.size
  · rw [if_pos c] at h; cases h
  · omega
theorem take_one (s : ByteArray) (n : Nat) (h : n < s.size) : ∃ c : UInt8, s.data.toList[n]? = some c ∧ (bt s (n : Int) = 10 ↔ c = 10) ∧ s.data.toList.take (n + 1) = s.data.toList.take n ++ [c] := by
  have hl : n < s.data.toList.length := by rw [data_length]; exact h
  refine ⟨s.data.toList[n], List.getElem?_eq_getElem hl, ?_, ?_⟩
  · rw [bt_list, List.getElem?_eq_getElem hl]
    simp only [Option.getD_some]
    constructor
    · intro e; exact UInt8.toNat_inj.1 (by have : (s.data.toList[n].toNat : Int) = 10 := e; show s.data.toList[n].toNat = 10; omega)
    · intro e; rw [e]; rfl
  · rw [List.take_add_one, List.getElem?_eq_getElem hl]; rfl
theorem count_lf (s : ByteArray) : ∀ n : Nat, n ≤ s.size → Lib.countByte (s.extract 0 n).data.toList 10 = lfN s n
  | 0, _ => by rw [data_ex]; simp [Lib.countByte, lfN]
  | n + 1, h => by
    have ih := count_lf s n (by omega)
    obtain ⟨c, -, h1, h2⟩ := take_one s n (by omega)
    rw [data_ex, List.drop_zero] at ih ⊢
    rw [h2]
    unfold Lib.countByte at ih ⊢
    rw [List.count_append, ih, lfN]
    by_cases e : c = 10
    · rw [if_pos (h1.2 e), e]; rfl
    · rw [if_neg fun z => e (h1.1 z), List.count_eq_zero_of_not_mem (by rw [List.mem_singleton]; exact fun z => e z.symm)]; rfl
theorem occ_lf (z : List UInt8) (k : Nat) (c : UInt8) (h : z[k]? = some c) : Lib.occAt z [10] k = (c == 10) := by
  unfold Lib.occAt
  have hl : k < z.length := (List.getElem?_eq_some_iff.1 h).1
  rw [List.drop_eq_getElem_cons hl]
  have e : z[k] = c := (List.getElem?_eq_some_iff.1 h).2
  rw [e]
  simp [List.isPrefixOf]
  rw [Bool.eq_iff_iff, beq_iff_eq, beq_iff_eq]
  exact eq_comm
theorem last_lf0 (s : ByteArray) (n : Nat) (hn : n ≤ s.size) : ∀ k : Nat, k ≤ n → Lib.lastOcc (s.extract 0 n).data.toList [10] k = lastF s k
  | 0, _ => rfl
  | k + 1, h => by
    have ih := last_lf0 s n hn k (by omega)
    obtain ⟨c, h0, h1, -⟩ := take_one s k (by omega)
    have hz : (s.extract 0 n).data.toList[k]? = some c := by
      rw [data_ex, List.drop_zero, List.getElem?_take, if_pos (by omega)]; exact h0
    have ho := occ_lf _ k c hz
    have e2 : lastF s (k + 1) = if bt s (k : Int) = 10 then (k : Int) else lastF s k := rfl
    rw [e2]
    by_cases e : c = 10
    · rw [if_pos (h1.2 e)]
      exact Lib.lastOcc_hit _ _ k (by rw [ho, e]; rfl)
    · rw [if_neg fun z => e (h1.1 z), ← ih]
      exact Lib.lastOcc_miss _ _ k (by rw [ho]; exact beq_false_of_ne e)
theorem last_lf (s : ByteArray) (n : Nat) (hn : n ≤ s.size) : Lib.lastIndex (s.extract 0 n).data.toList [10] = lastF s n := by
  unfold Lib.lastIndex
  have hl : (s.extract 0 n).data.toList.length = n := by rw [← size_len, size_ex]; omega
  rw [hl]
  cases n with
  | zero => rw [if_neg (by simp)]; rfl
  | succ n =>
    rw [if_pos (by simp)]
    exact last_lf0 s (n + 1) hn (n + 1) (Nat.le_refl _)
end Go.Proofs.YtebidpcmcekbgaaDoor.P
namespace Go.Proofs.YtebidpcmcekbgaaDoor.P
open Go.RowKit Go.Shelf Go.Proofs.YtebidpcmcekbgaaDoorW.PrintWords Go.Proofs.YtebidpcmcekbgaaDoorW.PrintLast Go.Proofs.YtebidpcmcekbgaaDoorW.PrintMore
set_option linter.unusedVariables false
set_option linter.unusedSimpArgs false
theorem count_any (s : ByteArray) (n : Nat) (hn : n ≤ s.size) (w : World) :
    Calls Tryd.prog 68 #[.string (s.extract 0 n), .string ⟨#[10]⟩] w fun e w' => e = .returned (.int .i64 (lfN s n : Int)) ∧ w' = w := by
  refine (Tryd.strings_Count_one (s.extract 0 n) 10 w).mono ?_
  rintro e w' ⟨rfl, rfl⟩
  rw [count_lf s n hn]
  exact ⟨rfl, rfl⟩
theorem lastLf_any (s : ByteArray) (n : Nat) (hn : n ≤ s.size) (hs : s.size ≤ 140737488351232) (w : World) :
    Calls Tryd.prog 69 #[.string (s.extract 0 n), .string ⟨#[10]⟩] w fun e w' => e = .returned (.int .i64 (lastF s n)) ∧ w' = w := by
  refine (Tryd.strings_LastIndex (s.extract 0 n) ⟨#[10]⟩ (by rw [size_ex]; omega) w).mono ?_
  rintro e w' ⟨rfl, rfl⟩
  have := last_lf s n hn
  exact ⟨congrArg (fun z => Ending.returned (.int .i64 z)) this, rfl⟩
theorem boxes1 {w w1 : World} {o0 : Obj} (h : Below (w.alloc o0).heap.size (w.alloc o0) w1) :
    w.heap.size + 1 ≤ w1.heap.size ∧ w1.heap[w.heap.size]? = some o0 ∧ Below w.heap.size w w1 := by
  have hz : (w.alloc o0).heap.size = w.heap.size + 1 := by simp
  have h0 := h.size
  refine ⟨by omega, (h.block _ (by omega)).trans (heap_alloc_new w _), ?_⟩
  exact ((Below.refl w.heap.size w).alloc (Nat.le_refl _) _).trans (h.mono (by omega))
set_option maxRecDepth 8000 in
set_option maxHeartbeats 4000000 in
theorem Spot_any (s : ByteArray) (a : Int) (w : World) (hs : s.size ≤ 140737488351232) :
    Calls Tryd.prog 35 #[.string s, .int .i64 a] w fun e w' => e = .returned (.tuple #[.agg #[.int .i64 (spotE s a).1, .int .i64 (spotE s a).2.1], .int .i64 (spotE s a).2.2]) ∧ Below w.heap.size w w' := by
  have hchk := fun W => check_any s W hs
  have hsm := chk_small s
  unfold spotE
  by_cases c : (chkT s).2 = 0
  · have h0 := hsm c
    rw [if_pos c]
    rw [c] at hchk
    generalize (chkT s).1 = e0 at hchk
    by_cases c1 : a < 0
    · rw [if_pos (.inl c1)]
      have g1 : decide (a < 0) = true := decide_eq_true c1
      clear c hsm
      refine (callsIn_wide (n := 9)).1 ?_
      show CallsIn (FW none) 9 Tryd.prog 35 _ w _
      refine callsIn_of_wp_marks Tryd.func35 rfl trivial ?_ rfl
      simp only [Tryd.ntmps35, List.size_toArray, List.length_cons, List.length_nil, Nat.reduceAdd, Nat.reduceSub, Array.replicate_succ, Array.replicate_zero, List.push_toArray, List.append_toArray, List.nil_append, List.cons_append]
      gi_wp2_with (first | (gi_at_call 40; refine CallsIn.mono (callsIn_wide.2 (hchk _)) ?_; rintro e w1 ⟨rfl, hb1⟩; obtain ⟨hz1, Q0', B1'⟩ := boxes1 hb1; have Q0 := Aside0.mk Q0'; have B1 := Aside0.mk B1'; clear Q0' B1' hb1; have q0 : w1.cell? ⟨w.heap.size, 0, none⟩ = some (.int .i64 0) := (blk_cell Q0.out 0).trans rfl; have q1 : w1.cell? ⟨w.heap.size, 1, none⟩ = some (.int .i64 0) := (blk_cell Q0.out 1).trans rfl; have f0 := blk_frozen Q0.out 0; have f1 := blk_frozen Q0.out 1))
      have r0 := blk_put (blk_put Q0.out 0 (.int .i64 0) rfl) 1 (.int .i64 0) rfl
      refine leavesM0 (v := .tuple #[.agg #[.int .i64 0, .int .i64 0], .int .i64 3]) ?_ ?_
      · have c0 := (blk_cell r0 0).trans rfl
        have c1 := (blk_cell r0 1).trans rfl
        simp [results, Tryd.results35, go_sem, c0, c1]
      · exact ⟨rfl, (B1.out.setCell (p := ⟨w.heap.size, 0, none⟩) (Nat.le_refl _) _).setCell (p := ⟨w.heap.size, 1, none⟩) (Nat.le_refl _) _⟩
    · have g1 : decide (a < 0) = false := decide_eq_false c1
      by_cases c2 : (s.size : Int) < a
      · rw [if_pos (.inr c2)]
        have g2 : decide ((s.size : Int) < a) = true := decide_eq_true c2
        clear c hsm
        refine (callsIn_wide (n := 9)).1 ?_
        show CallsIn (FW none) 9 Tryd.prog 35 _ w _
        refine callsIn_of_wp_marks Tryd.func35 rfl trivial ?_ rfl
        simp only [Tryd.ntmps35, List.size_toArray, List.length_cons, List.length_nil, Nat.reduceAdd, Nat.reduceSub, Array.replicate_succ, Array.replicate_zero, List.push_toArray, List.append_toArray, List.nil_append, List.cons_append]
        gi_wp2_with (first | (gi_at_call 40; refine CallsIn.mono (callsIn_wide.2 (hchk _)) ?_; rintro e w1 ⟨rfl, hb1⟩; obtain ⟨hz1, Q0', B1'⟩ := boxes1 hb1; have Q0 := Aside0.mk Q0'; have B1 := Aside0.mk B1'; clear Q0' B1' hb1; have q0 : w1.cell? ⟨w.heap.size, 0, none⟩ = some (.int .i64 0) := (blk_cell Q0.out 0).trans rfl; have q1 : w1.cell? ⟨w.heap.size, 1, none⟩ = some (.int .i64 0) := (blk_cell Q0.out 1).trans rfl; have f0 := blk_frozen Q0.out 0; have f1 := blk_frozen Q0.out 1))
        have r0 := blk_put (blk_put Q0.out 0 (.int .i64 0) rfl) 1 (.int .i64 0) rfl
        refine leavesM0 (v := .tuple #[.agg #[.int .i64 0, .int .i64 0], .int .i64 3]) ?_ ?_
        · have c0 := (blk_cell r0 0).trans rfl
          have c1 := (blk_cell r0 1).trans rfl
          simp [results, Tryd.results35, go_sem, c0, c1]
        · exact ⟨rfl, (B1.out.setCell (p := ⟨w.heap.size, 0, none⟩) (Nat.le_refl _) _).setCell (p := ⟨w.heap.size, 1, none⟩) (Nat.le_refl _) _⟩
      · rw [if_neg (fun h => h.elim c1 c2)]
        have g2 : decide ((s.size : Int) < a) = false := decide_eq_false c2
        obtain ⟨n, rfl⟩ : ∃ n : Nat, a = (n : Int) := ⟨a.toNat, by omega⟩
        rw [Int.toNat_natCast]
        have hC := fun W => count_any s n (by omega) W
        have hL := fun W => lastLf_any s n (by omega) hs W
        have hr := lfN_le s n
        have hl := lastF_lt s n
        have c3 : (0 : Int) ≤ (n : Int) := by omega
        have c4 : (n : Int) ≤ (s.size : Int) := by omega
        unfold spM
        generalize lfN s n = a at *
        generalize lastF s n = b at *
        have c5 : IntKind.i64.wrap ((a : Int) + 1) = (a : Int) + 1 := (IntWalk.i64_left _).trans (w64 (by omega) (by omega))
        have c7 : IntKind.i64.wrap ((n : Int) - b) = (n : Int) - b := (IntWalk.i64_left _).trans (w64 (by omega) (by omega))
        have c6 : wrap64 ((a : Int) + 1) = (a : Int) + 1 := w64 (by omega) (by omega)
        have c8 : wrap64 ((n : Int) - b) = (n : Int) - b := w64 (by omega) (by omega)
        clear c hsm hr hl
        refine (callsIn_wide (n := 9)).1 ?_
        show CallsIn (FW none) 9 Tryd.prog 35 _ w _
        refine callsIn_of_wp_marks Tryd.func35 rfl trivial ?_ rfl
        simp only [Tryd.ntmps35, List.size_toArray, List.length_cons, List.length_nil, Nat.reduceAdd, Nat.reduceSub, Array.replicate_succ, Array.replicate_zero, List.push_toArray, List.append_toArray, List.nil_append, List.cons_append]
        gi_wp2_with (first | (gi_at_call 40; refine CallsIn.mono (callsIn_wide.2 (hchk _)) ?_; rintro e w1 ⟨rfl, hb1⟩; obtain ⟨hz1, Q0', B1'⟩ := boxes1 hb1; have Q0 := Aside0.mk Q0'; have B1 := Aside0.mk B1'; clear Q0' B1' hb1; have q0 : w1.cell? ⟨w.heap.size, 0, none⟩ = some (.int .i64 0) := (blk_cell Q0.out 0).trans rfl; have q1 : w1.cell? ⟨w.heap.size, 1, none⟩ = some (.int .i64 0) := (blk_cell Q0.out 1).trans rfl; have f0 := blk_frozen Q0.out 0; have f1 := blk_frozen Q0.out 1) | (gi_at_call 68; refine CallsIn.mono (callsIn_wide.2 (hC _)) ?_; rintro e w' ⟨rfl, rfl⟩) | (gi_at_call 69; refine CallsIn.mono (callsIn_wide.2 (hL _)) ?_; rintro e w' ⟨rfl, rfl⟩))
        have r0 := blk_put (blk_put Q0.out 0 (.int .i64 ((a : Int) + 1)) rfl) 1 (.int .i64 ((n : Int) - b)) rfl
        refine leavesM0 (v := .tuple #[.agg #[.int .i64 ((a : Int) + 1), .int .i64 ((n : Int) - b)], .int .i64 0]) ?_ ?_
        · have c0 := (blk_cell r0 0).trans rfl
          have c1 := (blk_cell r0 1).trans rfl
          simp [results, Tryd.results35, go_sem, c0, c1]
        · exact ⟨rfl, (B1.out.setCell (p := ⟨w.heap.size, 0, none⟩) (Nat.le_refl _) _).setCell (p := ⟨w.heap.size, 1, none⟩) (Nat.le_refl _) _⟩
  · rw [if_neg c]
    have g1 : ((chkT s).2 == 0) = false := beq_false_of_ne c
    have g2 : ((chkT s).2 != 0) = true := bne_iff_ne.2 c
    clear hsm
    generalize (chkT s).2 = e1 at *
    generalize (chkT s).1 = e0 at *
    refine (callsIn_wide (n := 9)).1 ?_
    show CallsIn (FW none) 9 Tryd.prog 35 _ w _
    refine callsIn_of_wp_marks Tryd.func35 rfl trivial ?_ rfl
    simp only [Tryd.ntmps35, List.size_toArray, List.length_cons, List.length_nil, Nat.reduceAdd, Nat.reduceSub, Array.replicate_succ, Array.replicate_zero, List.push_toArray, List.append_toArray, List.nil_append, List.cons_append]
    gi_wp2_with (first | (gi_at_call 40; refine CallsIn.mono (callsIn_wide.2 (hchk _)) ?_; rintro e w1 ⟨rfl, hb1⟩; obtain ⟨hz1, Q0', B1'⟩ := boxes1 hb1; have Q0 := Aside0.mk Q0'; have B1 := Aside0.mk B1'; clear Q0' B1' hb1; have q0 : w1.cell? ⟨w.heap.size, 0, none⟩ = some (.int .i64 0) := (blk_cell Q0.out 0).trans rfl; have q1 : w1.cell? ⟨w.heap.size, 1, none⟩ = some (.int .i64 0) := (blk_cell Q0.out 1).trans rfl; have f0 := blk_frozen Q0.out 0; have f1 := blk_frozen Q0.out 1))
    have r0 := blk_put (blk_put Q0.out 0 (.int .i64 0) rfl) 1 (.int .i64 0) rfl
    refine leavesM0 (v := .tuple #[.agg #[.int .i64 0, .int .i64 0], .int .i64 e1]) ?_ ?_
    · have c0 := (blk_cell r0 0).trans rfl
      have c1 := (blk_cell r0 1).trans rfl
      simp [results, Tryd.results35, go_sem, c0, c1]
    · exact ⟨rfl, (B1.out.setCell (p := ⟨w.heap.size, 0, none⟩) (Nat.le_refl _) _).setCell (p := ⟨w.heap.size, 1, none⟩) (Nat.le_refl _) _⟩
end Go.Proofs.YtebidpcmcekbgaaDoor.P
namespace Go.Proofs.YtebidpcmcekbgaaDoor.P
open Go.RowKit Go.Shelf Go.Proofs.YtebidpcmcekbgaaDoorW.PrintWords Go.Proofs.YtebidpcmcekbgaaDoorW.PrintLast Go.Proofs.YtebidpcmcekbgaaDoorW.PrintMore
attribute [local go_sem] Oper.semAt_some
set_option linter.unusedVariables false
set_option linter.unusedSimpArgs false
theorem note_rest (s : ByteArray) (i : Nat) (hi : i ≤ s.size) : noteL (s.extract i s.size) 0 = noteL s i := by
  have hz : (s.extract i s.size).size = s.size - i := by rw [size_ex]; omega
  obtain ⟨a, b⟩ := noteL_in (s.extract i s.size) 0
  symm
  refine noteL_uniq s i _ (fun k hk => ?_) ?_
  · obtain ⟨h1, h2⟩ := a k hk
    rw [Nat.zero_add] at h1 h2
    rw [hz] at h1
    refine ⟨by omega, ?_⟩
    rw [← bt_ex s i s.size k (by omega)]
    exact h2
  · rw [Nat.zero_add, hz] at b
    by_cases c : noteL (s.extract i s.size) 0 < s.size - i
    · rcases b with b | b
      · omega
      · exact .inr (by rw [← bt_ex s i s.size _ (by omega)]; exact b)
    · exact .inl (by omega)
theorem lns_end (s : ByteArray) (i : Nat) (hi : i ≤ s.size) (h : Lib.indexByte (s.extract i s.size).data.toList 10 = -1) : i + noteL s i = s.size := by
  have h1 : noteL (s.extract i s.size) 0 = (s.extract i s.size).size := line_none _ h
  rw [note_rest s i hi, size_ex] at h1
  omega
theorem lns_mid (s : ByteArray) (i o : Nat) (hi : i ≤ s.size) (h : Lib.indexByte (s.extract i s.size).data.toList 10 = (o : Int)) : noteL s i = o ∧ i + o < s.size := by
  obtain ⟨h0, h1⟩ := line_some _ o h
  have h1 : noteL (s.extract i s.size) 0 = o := h1
  rw [note_rest s i hi] at h1
  rw [size_ex] at h0
  exact ⟨h1, by omega⟩
theorem St.setCellX {b g j : Nat} {wr : Nat → Prop} {W : World} (v : Value) (hg : wr g) : St b wr W (W.setCell ⟨g, j, none⟩ v) :=
  ⟨⟨rfl, rfl, rfl, by simp [World.setCell]⟩, fun k o hk hx _ => (Below.heap_setCell W ⟨g, j, none⟩ v k (by rintro rfl; exact hx hg)).trans hk⟩
set_option maxRecDepth 8000 in
set_option maxHeartbeats 4000000 in
theorem split1_gives {n₀ : Nat} {w0 : World} (bs bp bv : Nat) (s : ByteArray) (hn : n₀ ≤ bs) (hps : bp ≠ bs) (hvs : bv ≠ bs) (hs : s.size ≤ 140737488351232) :
    Gives Tryd.prog 113 (fun y => #[] ++ #[y] ++ #[.pointer (some ⟨bp, 0, none⟩), .pointer (some ⟨bs, 0, none⟩), .pointer (some ⟨bv, 0, none⟩)]) encS (lnsM s (s.size + 1) 0) n₀ w0 (fun k => k = bs) (fun k => k = bs ∨ k = bp ∨ k = bv) (fun _ => False) (fun W => W.heap[bs]? = some (.cells #[.string s] 9 (0, 0)) ∧ W.heap[bp]? = some (.cells #[.string ⟨#[10]⟩] 9 (0, 0)) ∧ W.heap[bv]? = some (.cells #[.int .i64 0] 3 (0, 0))) := by
  intro y J Jx W _ hB hn0 hpre hJ hJx hY h0
  refine (callsIn_wide (n := 9)).1 ?_
  show CallsIn (FW none) 9 Tryd.prog 113 #[y, .pointer (some ⟨bp, 0, none⟩), .pointer (some ⟨bs, 0, none⟩), .pointer (some ⟨bv, 0, none⟩)] W _
  generalize hL : lnsM s (s.size + 1) 0 = L at *
  obtain ⟨hp1, hp2, hp3⟩ := hpre
  have HJ := Aside0.mk hJ
  have HY := Aside0.mk hY
  have H0 := Aside0.mk h0
  have HB0 := Aside0.mk hB
  have HP1 := Aside0.mk hp1
  have HP2 := Aside0.mk hp2
  have HP3 := Aside0.mk hp3
  have HL := Aside0.mk hL
  have e0 : s.extract 0 s.size = s := ex_self s s.size (Nat.le_refl _)
  have HE0 := Aside0.mk e0
  have kp : W.cell? ⟨bp, 0, none⟩ = some (.string ⟨#[10]⟩) := (blk_cell hp2 0).trans rfl
  clear hJ hJx hY h0 hB hp1 hp2 hp3 hL e0
  gi_enter Tryd.func113, Tryd.ntmps113
  gi_wp2
  gi_loopg [] (s.size + 1) (fun gg wr => ∃ (i m : Nat), i ≤ s.size ∧ s.size - i < gg ∧ Aside0 (L.drop m = lnsM s gg i) ∧ m ≤ L.length ∧ Aside0 (J m wr) ∧ Aside0 (Below n₀ w0 wr) ∧ Aside0 (wr.heap[bs]? = some (.cells #[.string (s.extract i s.size)] 9 (0, 0))) ∧ Aside0 (wr.heap[bp]? = some (.cells #[.string ⟨#[10]⟩] 9 (0, 0))) ∧ Aside0 (wr.heap[bv]? = some (.cells #[.int .i64 0] 3 (0, 0))) ∧ W.heap.size ≤ wr.heap.size)
  case atStart => exact ⟨0, 0, Nat.zero_le _, by omega, ⟨HL.out.symm⟩, Nat.zero_le _, H0, HB0, ⟨by rw [HE0.out]; exact HP1.out⟩, HP2, HP3, Nat.le_refl _⟩
  case round =>
    obtain ⟨i, m, hi, hg, HD, hm, HJi, HB, HK, HKP, HKV, hsz⟩ := hrel
    obtain ⟨gk, rfl⟩ : ∃ m, gk = m + 1 := ⟨gk - 1, by omega⟩
    have k0 : wr.cell? ⟨bs, 0, none⟩ = some (.string (s.extract i s.size)) := (blk_cell HK.out 0).trans rfl
    have k1 : wr.cell? ⟨bp, 0, none⟩ = some (.string ⟨#[10]⟩) := (blk_cell HKP.out 0).trans rfl
    have k2 : wr.cell? ⟨bv, 0, none⟩ = some (.int .i64 0) := (blk_cell HKV.out 0).trans rfl
    have hzs : (s.extract i s.size).size = s.size - i := by rw [size_ex]; omega
    have hc := Tryd.strings_Index_one (s.extract i s.size) 10
    have hge := Lib.indexByte_ge (s.extract i s.size).data.toList 10
    have HD0 := HD.out
    unfold lnsM at HD0
    clear kp
    by_cases h : Lib.indexByte (s.extract i s.size).data.toList 10 = -1
    · have he := lns_end s i hi h
      rw [h] at hc
      rw [if_neg (by omega)] at HD0
      have hL1 := drop_at HD0
      have hml := (List.getElem?_eq_some_iff.1 hL1).1
      have hE := List.drop_eq_nil_iff.1 (drop_next HD0)
      have HV := Aside0.mk (HY.out m _ _ hL1 HJi.out hsz)
      clear HD0 hL1 HD h hge he hzs
      generalize s.extract i s.size = z at *
      gi_wp2_with (first | (gi_at_call 91; refine CallsIn.mono (callsIn_wide.2 (hc _)) ?_; rintro e wr ⟨rfl, rfl⟩) | ((with_reducible refine gateIn (N := 51) rfl ?_); refine wpListIn_vcall y (encS z) _ _ _ rfl rfl rfl rfl rfl HV.out ?_))
      rintro v w4 (⟨rfl, hj4, hk4⟩ | ⟨rfl, hj4, hk4⟩)
      · have hs4 : wr.heap.size ≤ w4.heap.size := hk4.1.2.2.2
        gi_wp2
        refine bodyPost_end (results_none rfl _ _ _) rfl ?_
        exact ⟨⟨_, rfl⟩, by omega, .inl (by rw [show L.length = m + 1 by omega]; exact hj4)⟩
      · have hs4 : wr.heap.size ≤ w4.heap.size := hk4.1.2.2.2
        gi_wp2
        refine bodyPost_end (results_none rfl _ _ _) rfl ?_
        exact ⟨⟨_, rfl⟩, by omega, .inr ⟨m, hml, hj4⟩⟩
    · obtain ⟨o, ho⟩ : ∃ o : Nat, Lib.indexByte (s.extract i s.size).data.toList 10 = (o : Int) := ⟨(Lib.indexByte (s.extract i s.size).data.toList 10).toNat, by omega⟩
      obtain ⟨hno, hio⟩ := lns_mid s i o hi ho
      rw [ho] at hc
      rw [hno, if_pos hio] at HD0
      have hL1 := drop_at HD0
      have hml := (List.getElem?_eq_some_iff.1 hL1).1
      have HD1 := Aside0.mk (drop_next HD0)
      have HV := Aside0.mk (HY.out m _ _ hL1 HJi.out hsz)
      have e1 : s.extract i (i + o) = (s.extract i s.size).extract 0 o := by rw [ex_ex s i s.size 0 o (by omega), Nat.add_zero]
      have e2 : (s.extract i s.size).extract (o + 1) (s.extract i s.size).size = s.extract (i + o + 1) s.size := by
        rw [hzs, ex_ex s i s.size (o + 1) (s.size - i) (by omega), show i + (s.size - i) = s.size by omega, ← Nat.add_assoc]
      rw [e1] at HV
      have HE2 := Aside0.mk e2
      clear HD0 hL1 HD h hge ho hno e1 e2
      generalize hz0 : s.extract i s.size = z at *
      have hzn : (z.size : Int) = (s.size : Int) - (i : Int) := by omega
      have c1 : (0 : Int) ≤ (o : Int) := by omega
      have c2 : (o : Int) ≤ (z.size : Int) := by omega
      have c3 : (0 : Int) ≤ (o : Int) + 1 := by omega
      have c4 : (o : Int) + 1 ≤ (z.size : Int) := by omega
      have c7 : decide ((o : Int) < 0) = false := decide_eq_false (by omega)
      have b1 : -9223372036854775808 ≤ (o : Int) + 1 := by omega
      have b2 : (o : Int) + 1 ≤ 9223372036854775807 := by omega
      have b3 : -9223372036854775808 ≤ (o : Int) := by omega
      have b4 : (o : Int) ≤ 9223372036854775807 := by omega
      have HC6 := Aside0.mk (show wrap64 ((o : Int) + 1) = (o : Int) + 1 from w64 b1 b2)
      have HC5 := Aside0.mk (show IntKind.i64.wrap ((o : Int) + 1) = (o : Int) + 1 from (IntWalk.i64_left _).trans (w64 b1 b2))
      have c8 : IntKind.i64.wrap (o : Int) = (o : Int) := (IntWalk.i64_left _).trans (w64 b3 b4)
      have c9 : wrap64 (o : Int) = (o : Int) := w64 b3 b4
      clear b1 b2 b3 b4
      have HN := Aside0.mk hn
      have HX := Aside0.mk (And.intro hps hvs)
      clear hzs hz0 hzn hn hps hvs
      gi_wp2_with (first | (gi_at_call 91; refine CallsIn.mono (callsIn_wide.2 (hc _)) ?_; rintro e wr ⟨rfl, rfl⟩) | ((with_reducible refine gateIn (N := 41) rfl ?_); refine wpListIn_vcall y (encS (z.extract 0 o)) _ _ _ rfl rfl rfl rfl rfl HV.out ?_))
      rintro v w4 (⟨rfl, hj4, hk4⟩ | ⟨rfl, hj4, hk4⟩)
      all_goals clear c8 c9
      · have HB4 := Aside0.mk (hk4.below HB.out (by omega))
        have HK4 := Aside0.mk (hk4.2 _ _ HK.out (.inr (.inl (.inl rfl))))
        have HP4 := Aside0.mk (hk4.2 _ _ HKP.out (.inr (.inl (.inr (.inl rfl)))))
        have HV4 := Aside0.mk (hk4.2 _ _ HKV.out (.inr (.inl (.inr (.inr rfl)))))
        have hs4 : wr.heap.size ≤ w4.heap.size := hk4.1.2.2.2
        have f4 := blk_frozen HK4.out 0
        have k4 : w4.cell? ⟨bs, 0, none⟩ = some (.string z) := (blk_cell HK4.out 0).trans rfl
        have k5 : w4.cell? ⟨bp, 0, none⟩ = some (.string ⟨#[10]⟩) := (blk_cell HP4.out 0).trans rfl
        have HJ5 := Aside0.mk (HJ.out _ _ _ hj4 (St.setCellX (j := 0) (.string (z.extract (o + 1) z.size)) rfl))
        have HK5 := Aside0.mk (show (w4.setCell ⟨bs, 0, none⟩ (.string (z.extract (o + 1) z.size))).heap[bs]? = some (.cells #[.string (s.extract (i + o + 1) s.size)] 9 (0, 0)) by rw [HE2.out]; exact blk_put HK4.out 0 _ rfl)
        have HP5 := Aside0.mk ((Below.heap_setCell w4 ⟨bs, 0, none⟩ (.string (z.extract (o + 1) z.size)) bp HX.out.1).trans HP4.out)
        have HV5 := Aside0.mk ((Below.heap_setCell w4 ⟨bs, 0, none⟩ (.string (z.extract (o + 1) z.size)) bv HX.out.2).trans HV4.out)
        have HB5 := Aside0.mk (HB4.out.setCell (p := ⟨bs, 0, none⟩) HN.out (.string (z.extract (o + 1) z.size)))
        have c6 := HC6.out
        have c5 := HC5.out
        clear hj4 hk4 k0 k1 k2 HV
        gi_wp2
        clear c5 c6
        gi_roundg gk
        case measure => omega
        case rel => exact ⟨i + o + 1, m + 1, by omega, by omega, HD1, by omega, HJ5, HB5, HK5, HP5, HV5, by simp; omega⟩
      · have hs4 : wr.heap.size ≤ w4.heap.size := hk4.1.2.2.2
        gi_wp2
        refine bodyPost_ret (results_none rfl _ _ _) rfl ?_
        exact ⟨⟨_, rfl⟩, by omega, .inr ⟨m, hml, hj4⟩⟩
end Go.Proofs.YtebidpcmcekbgaaDoor.P
namespace Go.Proofs.YtebidpcmcekbgaaDoor.P
open Go.RowKit Go.Shelf
end Go.Proofs.YtebidpcmcekbgaaDoor.P
namespace Go.Proofs.YtebidpcmcekbgaaDoor.P
open Go.RowKit Go.Shelf Go.Maps Go.Proofs.YtebidpcmcekbgaaDoorW.PrintWords Go.Proofs.YtebidpcmcekbgaaDoorW.PrintLast Go.Proofs.YtebidpcmcekbgaaDoorW.PrintMore
attribute [local go_sem] Oper.semAt_some
set_option linter.unusedVariables false
set_option linter.unusedSimpArgs false
theorem splitSeq_any (s z : ByteArray) (w : World) :
    Calls Tryd.prog 71 #[.string s, .string z] w fun e w' => e = .returned (.func (.func 113) #[] #[.pointer (some ⟨w.heap.size + 1, 0, none⟩), .pointer (some ⟨w.heap.size, 0, none⟩), .pointer (some ⟨w.heap.size + 1 + 1, 0, none⟩)]) ∧ w' = ((w.alloc (.cells #[.string s] 9)).alloc (.cells #[.string z] 9)).alloc (.cells #[.int .i64 0] 3) := by
  have h0 : Calls Tryd.prog 94 #[.string s, .string z, .int .i64 0] w fun e w' => e = .returned (.func (.func 113) #[] #[.pointer (some ⟨w.heap.size + 1, 0, none⟩), .pointer (some ⟨w.heap.size, 0, none⟩), .pointer (some ⟨w.heap.size + 1 + 1, 0, none⟩)]) ∧ w' = ((w.alloc (.cells #[.string s] 9)).alloc (.cells #[.string z] 9)).alloc (.cells #[.int .i64 0] 3) := by
    go_enter Tryd.func94, Tryd.ntmps94
    go_wp2
    go_ret
    exact ⟨rfl, rfl⟩
  go_enter Tryd.func71, Tryd.ntmps71
  go_wp2_with (go_at_call 94; refine h0.mono ?_; rintro e w' ⟨rfl, rfl⟩)
  go_ret
  exact ⟨rfl, rfl⟩
theorem enters_split1 : ∀ args w, (callFunc 113 args).run Tryd.prog w = .ok (.enter 113 args) w := enters_of Tryd.func113 (by kernel_rfl) rfl
/-- How far the lines reach, each with the byte behind it. -/
def sumL (L : List ByteArray) : Nat := (L.map fun x => x.size + 1).sum
theorem lnsM_sum (s : ByteArray) : ∀ (f i : Nat), s.size - i < f → i ≤ s.size → sumL (lnsM s f i) = s.size - i + 1
  | 0, i, h, _ => absurd h (Nat.not_lt_zero _)
  | f + 1, i, h, hi => by
    unfold lnsM
    by_cases c : i + noteL s i < s.size
    · rw [if_pos c]
      have ih := lnsM_sum s f (i + noteL s i + 1) (by omega) (by omega)
      unfold sumL at ih ⊢
      rw [List.map_cons, List.sum_cons, ih, size_ex]
      omega
    · rw [if_neg c]
      unfold sumL
      rw [List.map_cons, List.sum_cons, size_ex]
      simp only [List.map_nil, List.sum_nil]
      omega
theorem sumL_drop (L : List ByteArray) (i : Nat) (x : ByteArray) (h : L[i]? = some x) : sumL (L.drop i) = x.size + 1 + sumL (L.drop (i + 1)) := by
  obtain ⟨hl, e⟩ := List.getElem?_eq_some_iff.1 h
  rw [List.drop_eq_getElem_cons hl, e]
  rfl
theorem sumL_len : ∀ L : List ByteArray, L.length ≤ sumL L
  | [] => Nat.le_refl _
  | x :: r => by
    have := sumL_len r
    show r.length + 1 ≤ (x.size + 1) + sumL r
    omega
theorem atL_drop (p : Int × Int) (L : List ByteArray) (i : Nat) (x : ByteArray) (h : L[i]? = some x) (a n : Int) : atL p (L.drop i) a n = if n = p.1 ∧ 1 ≤ p.2 ∧ p.2 ≤ (x.size : Int) + 1 then (a + p.2 - 1, 0) else atL p (L.drop (i + 1)) (a + (x.size : Int) + 1) (n + 1) := by
  obtain ⟨hl, e⟩ := List.getElem?_eq_some_iff.1 h
  rw [List.drop_eq_getElem_cons hl, e]
  rfl
theorem boxes3 {w w1 : World} {o0 o1 o2 : Obj} (h : Below (((w.alloc o0).alloc o1).alloc o2).heap.size (((w.alloc o0).alloc o1).alloc o2) w1) :
    w.heap.size + 3 ≤ w1.heap.size ∧ w1.heap[w.heap.size]? = some o0 ∧ w1.heap[w.heap.size + 1]? = some o1 ∧ w1.heap[w.heap.size + 1 + 1]? = some o2 ∧ Below w.heap.size w w1 := by
  have hz : (((w.alloc o0).alloc o1).alloc o2).heap.size = w.heap.size + 3 := by simp
  have h0 := h.size
  refine ⟨by omega, (h.block _ (by omega)).trans (blk_alloc (blk_alloc (heap_alloc_new w _) _) _), (h.block _ (by omega)).trans (blk_alloc (heap_alloc_new' _ _ (by simp)) _), (h.block _ (by omega)).trans (heap_alloc_new' _ _ (by simp)), ?_⟩
  have b0 : Below w.heap.size w (((w.alloc o0).alloc o1).alloc o2) := (((Below.refl w.heap.size w).alloc (Nat.le_refl _) _).alloc (by simp) _).alloc (by simp; omega) _
  exact b0.trans (h.mono (by omega))
theorem store2 {W : World} {g1 g2 : Nat} {t1 t2 : TypeId} {a1 a2 : Value} (h1 : W.heap[g1]? = some (.cells #[a1] t1 (0, 0))) (h2 : W.heap[g2]? = some (.cells #[a2] t2 (0, 0))) (n12 : g1 ≠ g2) (v1 v2 : Value) :
    ((W.setCell ⟨g1, 0, none⟩ v1).setCell ⟨g2, 0, none⟩ v2).heap[g1]? = some (.cells #[v1] t1 (0, 0)) ∧ ((W.setCell ⟨g1, 0, none⟩ v1).setCell ⟨g2, 0, none⟩ v2).heap[g2]? = some (.cells #[v2] t2 (0, 0)) :=
  ⟨blk_far (p := ⟨g2, 0, none⟩) (blk_put h1 0 v1 rfl) n12 v2, blk_put (blk_far (p := ⟨g1, 0, none⟩) h2 (fun e => n12 e.symm) v1) 0 v2 rfl⟩
theorem far2 {W : World} {g1 g2 k : Nat} {o : Obj} (h : W.heap[k]? = some o) (n1 : k ≠ g1) (n2 : k ≠ g2) (v1 v2 : Value) : ((W.setCell ⟨g1, 0, none⟩ v1).setCell ⟨g2, 0, none⟩ v2).heap[k]? = some o :=
  (Below.heap_setCell _ ⟨g2, 0, none⟩ v2 k n2).trans ((Below.heap_setCell W ⟨g1, 0, none⟩ v1 k n1).trans h)
theorem below2 {W w : World} {n g1 g2 : Nat} (h : Below n w W) (h1 : n ≤ g1) (h2 : n ≤ g2) (v1 v2 : Value) : Below n w ((W.setCell ⟨g1, 0, none⟩ v1).setCell ⟨g2, 0, none⟩ v2) :=
  (h.setCell (p := ⟨g1, 0, none⟩) h1 v1).setCell (p := ⟨g2, 0, none⟩) h2 v2
set_option maxRecDepth 8000 in
set_option maxHeartbeats 4000000 in
theorem At_any (s : ByteArray) (p0 p1 : Int) (w : World) (hs : s.size ≤ 140737488351232) :
    Calls Tryd.prog 37 #[.string s, .agg #[.int .i64 p0, .int .i64 p1]] w fun e w' => e = .returned (.tuple #[.int .i64 (atE s (p0, p1)).1, .int .i64 (atE s (p0, p1)).2]) ∧ Below w.heap.size w w' := by
  have hchk := fun W => check_any s W hs
  have hsm := chk_small s
  obtain ⟨T, hT⟩ : ∃ T, atE s (p0, p1) = T := ⟨_, rfl⟩
  rw [hT]
  unfold atE at hT
  refine (callsIn_wide (n := 9)).1 ?_
  show CallsIn (FW none) 9 Tryd.prog 37 _ w _
  refine callsIn_of_wp_marks Tryd.func37 rfl trivial ?_ rfl
  simp only [Tryd.ntmps37, List.size_toArray, List.length_cons, List.length_nil, Nat.reduceAdd, Nat.reduceSub, Array.replicate_succ, Array.replicate_zero, List.push_toArray, List.append_toArray, List.nil_append, List.cons_append]
  generalize hch : chkT s = ch at *
  obtain ⟨ca, ce⟩ := ch
  by_cases hce : ce = 0
  · subst hce
    rw [if_pos rfl] at hT
    have hsz0 : s.size ≤ 2500 := hsm rfl
    have HT := Aside0.mk hT
    clear hT hch hsm
    gi_wp2_with (first | (gi_at_call 40; refine CallsIn.mono (callsIn_wide.2 (hchk _)) ?_; rintro e w1 ⟨rfl, hb1⟩; obtain ⟨hz1, Q0', Q1', Q2', B1'⟩ := boxes3 hb1; have Q0 := Aside0.mk Q0'; have Q1 := Aside0.mk Q1'; have Q2 := Aside0.mk Q2'; have B1 := Aside0.mk B1'; clear Q0' Q1' Q2' B1' hb1; have q1 : w1.cell? ⟨w.heap.size + 1, 0, none⟩ = some (.int .i64 0) := (blk_cell Q1.out 0).trans rfl; have q2 : w1.cell? ⟨w.heap.size + 1 + 1, 0, none⟩ = some (.int .i64 0) := (blk_cell Q2.out 0).trans rfl; have f1 := blk_frozen Q1.out 0; have f2 := blk_frozen Q2.out 0) | (gi_at_call 71; refine CallsIn.mono (callsIn_wide.2 (splitSeq_any s ⟨#[10]⟩ _)) ?_; rintro e w2 ⟨rfl, hw2⟩))
    have hz2 : w2.heap.size = w1.heap.size + 5 := by rw [hw2]; simp
    have R8 := Aside0.mk (show w2.heap[w1.heap.size]? = some (.cells #[.int .i64 0] 3 (0, 0)) by rw [hw2]; exact blk_alloc (blk_alloc (blk_alloc (blk_alloc (heap_alloc_new w1 _) _) _) _) _)
    have R9 := Aside0.mk (show w2.heap[w1.heap.size + 1]? = some (.cells #[.int .i64 1] 3 (0, 0)) by rw [hw2]; exact blk_alloc (blk_alloc (blk_alloc (heap_alloc_new' _ _ (by simp)) _) _) _)
    have RS := Aside0.mk (show w2.heap[w1.heap.size + 2]? = some (.cells #[.string s] 9 (0, 0)) by rw [hw2]; exact blk_alloc (blk_alloc (heap_alloc_new' _ _ (by simp)) _) _)
    have RP := Aside0.mk (show w2.heap[w1.heap.size + 3]? = some (.cells #[.string ⟨#[10]⟩] 9 (0, 0)) by rw [hw2]; exact blk_alloc (heap_alloc_new' _ _ (by simp)) _)
    have RV := Aside0.mk (show w2.heap[w1.heap.size + 4]? = some (.cells #[.int .i64 0] 3 (0, 0)) by rw [hw2]; exact heap_alloc_new' _ _ (by simp))
    have B12 := Aside0.mk (show Below w1.heap.size w1 w2 by rw [hw2]; exact (((((Below.refl w1.heap.size w1).alloc (Nat.le_refl _) _).alloc (by simp) _).alloc (by simp; omega) _).alloc (by simp; omega) _).alloc (by simp; omega) _)
    have B2 := Aside0.mk (B1.out.trans (B12.out.mono (by omega)))
    have T0 := Aside0.mk ((B12.out.block w.heap.size (by omega)).trans Q0.out)
    have T1 := Aside0.mk ((B12.out.block (w.heap.size + 1) (by omega)).trans Q1.out)
    have T2 := Aside0.mk ((B12.out.block (w.heap.size + 1 + 1) (by omega)).trans Q2.out)
    rw [← hw2]
    clear hw2 q1 q2 f1 f2
    have HGi := Aside0.mk (split1_gives (n₀ := w.heap.size) (w0 := w) (w1.heap.size + 1 + 1) (w1.heap.size + 1 + 1 + 1) (w1.heap.size + 1 + 1 + 1 + 1) s (by omega) (by omega) (by omega) hs)
    have HSL := Aside0.mk (lnsM_sum s (s.size + 1) 0 (by omega) (Nat.zero_le _))
    have h25 := Aside0.mk hsz0
    generalize hLe : lnsM s (s.size + 1) 0 = L at *
    clear hLe
    refine wp_range (gf := 113) (bs := #[]) (lb := #[.pointer (some ⟨w1.heap.size + 1 + 1 + 1, 0, none⟩), .pointer (some ⟨w1.heap.size + 1 + 1, 0, none⟩), .pointer (some ⟨w1.heap.size + 1 + 1 + 1 + 1, 0, none⟩)]) rfl enters_split1 HGi.out (hb0 := B2.out) (hn := by omega) (hwr := fun k h => by have h : k = w1.heap.size + 1 + 1 := h; omega) (hown := fun k h => by rcases h with h | h | h <;> omega)
      (hPre := fun W hW => ⟨(hW.block _ (by omega)).trans RS.out, (hW.block _ (by omega)).trans RP.out, (hW.block _ (by omega)).trans RV.out⟩) (hps := fun _ => rfl)
      (fun i V => ∃ a n : Nat, Aside0 (atL (p0, p1) (L.drop i) (a : Int) (n : Int) = T) ∧ Aside0 (a + sumL (L.drop i) = s.size + 1) ∧ Aside0 (n = i + 1) ∧ Aside0 (V.heap[w1.heap.size]? = some (.cells #[.int .i64 (a : Int)] 3 (0, 0))) ∧ Aside0 (V.heap[w1.heap.size + 1]? = some (.cells #[.int .i64 (n : Int)] 3 (0, 0))) ∧
        Aside0 (V.heap[w.heap.size]? = some (.cells #[.int .i64 p0, .int .i64 p1] 52 (0, 0))) ∧ Aside0 (V.heap[w.heap.size + 1]? = some (.cells #[.int .i64 0] 3 (0, 0))) ∧ Aside0 (V.heap[w.heap.size + 1 + 1]? = some (.cells #[.int .i64 0] 24 (0, 0))) ∧ Aside0 (Below w.heap.size w V) ∧ Aside0 (w2.heap.size ≤ V.heap.size))
      (fun c i V => c = .ret ∧ Aside0 (V.heap[w.heap.size + 1]? = some (.cells #[.int .i64 T.1] 3 (0, 0))) ∧ Aside0 (V.heap[w.heap.size + 1 + 1]? = some (.cells #[.int .i64 T.2] 24 (0, 0))) ∧ Aside0 (Below w.heap.size w V)) ?hI ?hIx ?h0
      (fun i a₁ V => ∃ x : ByteArray, L[i]? = some x ∧ ∃ x0 x1 x2 x6 x7 x11 x12 x13 x14 x15 x16 x17 x18 x19 x20 x21 x22 x23 x24 x25 x26 x27 x28 x29 x30 x31 x32 x33 x34 x35 x36 x37 x38 x39 x40 x41 x42 x43 x44 x45 x46 x47 x48 x49 x50 : Value, a₁ = { tmps := #[x0, x1, x2, .pointer (some ⟨w.heap.size, 0, none⟩), .pointer (some ⟨w.heap.size + 1, 0, none⟩), .pointer (some ⟨w.heap.size + 1 + 1, 0, none⟩), x6, x7, .pointer (some ⟨w1.heap.size, 0, none⟩), .pointer (some ⟨w1.heap.size + 1, 0, none⟩), .string x, x11, x12, x13, x14, x15, x16, x17, x18, x19, x20, x21, x22, x23, x24, x25, x26, x27, x28, x29, x30, x31, x32, x33, x34, x35, x36, x37, x38, x39, x40, x41, x42, x43, x44, x45, x46, x47, x48, x49, x50], defers := [] }) ?hAx ?assign ?body ?done ?stop
    case hI =>
      rintro i P Q ⟨a, n, e0, e1, en, q8, q9, q0, q1, q2, bl, sz⟩ hs'
      exact ⟨a, n, e0, e1, en, ⟨hs'.blk q8.out (fun h => by have h : w1.heap.size = w1.heap.size + 1 + 1 := h; omega)⟩, ⟨hs'.blk q9.out (fun h => by have h : w1.heap.size + 1 = w1.heap.size + 1 + 1 := h; omega)⟩, ⟨hs'.blk q0.out (fun h => by have h : w.heap.size = w1.heap.size + 1 + 1 := h; omega)⟩, ⟨hs'.blk q1.out (fun h => by have h : w.heap.size + 1 = w1.heap.size + 1 + 1 := h; omega)⟩, ⟨hs'.blk q2.out (fun h => by have h : w.heap.size + 1 + 1 = w1.heap.size + 1 + 1 := h; omega)⟩, ⟨hs'.below bl.out (by omega) (fun k h => by have h : k = w1.heap.size + 1 + 1 := h; omega) (by have := sz.out; omega)⟩, ⟨Nat.le_trans sz.out hs'.1.2.2.2⟩⟩
    case hIx =>
      rintro c i P Q ⟨hc, q1, q2, bl⟩ hs'
      exact ⟨hc, ⟨hs'.blk q1.out (fun h => by have h : w.heap.size + 1 = w1.heap.size + 1 + 1 := h; omega)⟩, ⟨hs'.blk q2.out (fun h => by have h : w.heap.size + 1 + 1 = w1.heap.size + 1 + 1 := h; omega)⟩, ⟨hs'.below bl.out (by omega) (fun k h => by have h : k = w1.heap.size + 1 + 1 := h; omega) (by have := blk_lt q1.out; omega)⟩⟩
    case h0 => exact ⟨0, 1, HT, ⟨by rw [Nat.zero_add]; exact HSL.out⟩, ⟨rfl⟩, R8, R9, T0, T1, T2, B2, ⟨Nat.le_refl _⟩⟩
    case hAx =>
      rintro i a₁ P Q h hs'
      exact h
    case assign =>
      intro m l i x P K hx hI hle hK
      simp only [encS, List.zip_toArray, List.zip_cons_cons, List.zip_nil_right, List.size_toArray, List.foldl_toArray', List.foldl_cons, List.foldl_nil]
      gi_wp2
      exact hK _ _ (Below.refl _ P) ⟨x, hx, _, _, _, _, _, _, _, _, _, _, _, _, _, _, _, _, _, _, _, _, _, _, _, _, _, _, _, _, _, _, _, _, _, _, _, _, _, _, _, _, _, _, _, _, _, rfl⟩
    case body =>
      rintro m l i x a₁ P hx ⟨a, n, e0, e1, en, q8, q9, q0, q1, q2, bl, sz⟩ ⟨x', hx', x0, x1, x2, x6, x7, x11, x12, x13, x14, x15, x16, x17, x18, x19, x20, x21, x22, x23, x24, x25, x26, x27, x28, x29, x30, x31, x32, x33, x34, x35, x36, x37, x38, x39, x40, x41, x42, x43, x44, x45, x46, x47, x48, x49, x50, rfl⟩ hle
      obtain rfl : x' = x := Option.some.inj (hx'.symm.trans hx)
      clear hx'
      have hst := e0.out
      rw [atL_drop _ _ _ _ hx] at hst
      have hsu := e1.out
      rw [sumL_drop _ _ _ hx] at hsu
      have hil : i < L.length := (List.getElem?_eq_some_iff.1 hx).1
      have hll := sumL_len L
      have hx2 : x'.size ≤ 2500 := by have := h25.out; omega
      have ha2 : a ≤ 2501 := by have := h25.out; omega
      have hn2 : n ≤ 2502 := by have := h25.out; have := HSL.out; have := en.out; omega
      have HSU := Aside0.mk (show (a + x'.size + 1) + sumL (L.drop (i + 1)) = s.size + 1 by omega)
      have HEN := Aside0.mk (show n + 1 = i + 1 + 1 by have := en.out; omega)
      have k0 : P.cell? ⟨w.heap.size, 0, none⟩ = some (.int .i64 p0) := (blk_cell q0.out 0).trans rfl
      have k1 : P.cell? ⟨w.heap.size, 1, none⟩ = some (.int .i64 p1) := (blk_cell q0.out 1).trans rfl
      have k4 : P.cell? ⟨w.heap.size + 1, 0, none⟩ = some (.int .i64 0) := (blk_cell q1.out 0).trans rfl
      have k5 : P.cell? ⟨w.heap.size + 1 + 1, 0, none⟩ = some (.int .i64 0) := (blk_cell q2.out 0).trans rfl
      have k8 : P.cell? ⟨w1.heap.size, 0, none⟩ = some (.int .i64 (a : Int)) := (blk_cell q8.out 0).trans rfl
      have k9 : P.cell? ⟨w1.heap.size + 1, 0, none⟩ = some (.int .i64 (n : Int)) := (blk_cell q9.out 0).trans rfl
      have z4 := blk_frozen q1.out 0
      have z5 := blk_frozen q2.out 0
      have z8 := blk_frozen q8.out 0
      have z9 := blk_frozen q9.out 0
      have hw2P : w2.heap.size ≤ P.heap.size := sz.out
      by_cases c : (n : Int) = p0 ∧ 1 ≤ p1 ∧ p1 ≤ (x'.size : Int) + 1
      · rw [if_pos c] at hst
        have HST := Aside0.mk hst
        obtain ⟨rfl, hc2, hc3⟩ := c
        have g2 : decide (1 ≤ p1) = true := decide_eq_true hc2
        have g3 : decide (p1 ≤ (x'.size : Int) + 1) = true := decide_eq_true hc3
        clear hst hsu hx e0
        gi_wp2
        obtain ⟨r4, r5⟩ := store2 q1.out q2.out (by omega) (.int .i64 ((a : Int) + p1 - 1)) (.int .i64 0)
        exact ⟨((Keeps.refl _ _ _ _ P).setCell _ (by omega) (by omega) (fun h => by rcases h with h | h | h <;> omega)).setCell _ (by omega) (by omega) (fun h => by rcases h with h | h | h <;> omega), rfl, ⟨by rw [← HST.out]; exact r4⟩, ⟨by rw [← HST.out]; exact r5⟩, ⟨below2 bl.out (by omega) (by omega) _ _⟩⟩
      · rw [if_neg c] at hst
        have HST := Aside0.mk (show atL (p0, p1) (L.drop (i + 1)) ((a + x'.size + 1 : Nat) : Int) ((n + 1 : Nat) : Int) = T by rw [← hst]; congr 1 <;> omega)
        clear hst hsu hx e0
        have W1 := Aside0.mk (show IntKind.i64.wrap (IntKind.i64.wrap ((a : Int) + (x'.size : Int)) + 1) = ((a + x'.size + 1 : Nat) : Int) by rw [IntWalk.i64_left, IntWalk.i64_left, w64 (x := (a : Int) + (x'.size : Int)) (by omega) (by omega), w64 (by omega) (by omega)]; omega)
        have W2 := Aside0.mk (show IntKind.i64.wrap ((n : Int) + 1) = ((n + 1 : Nat) : Int) by rw [IntWalk.i64_left, w64 (by omega) (by omega)]; omega)
        gi_upto_region 7 with fail
        dsimp only
        gi_cut [38] from 51 (fun s38 wc => s38 = .bool false ∧ wc = P)
        case first =>
          by_cases m1 : (n : Int) = p0
          · by_cases m2 : 1 ≤ p1
            · have m3 : ¬ p1 ≤ (x'.size : Int) + 1 := fun h => c ⟨m1, m2, h⟩
              have g1 : ((n : Int) == p0) = true := beq_iff_eq.2 m1
              have g2 : decide (1 ≤ p1) = true := decide_eq_true m2
              have g3 : decide (p1 ≤ (x'.size : Int) + 1) = false := decide_eq_false m3
              clear c m1 m2 m3
              gi_wp2
              gi_meet
              case rel => exact ⟨rfl, rfl⟩
            · have g1 : ((n : Int) == p0) = true := beq_iff_eq.2 m1
              have g2 : decide (1 ≤ p1) = false := decide_eq_false m2
              clear c m1 m2
              gi_wp2
              gi_meet
              case rel => exact ⟨rfl, rfl⟩
          · have g1 : ((n : Int) == p0) = false := beq_false_of_ne m1
            clear c m1
            gi_wp2
            gi_meet
            case rel => exact ⟨rfl, rfl⟩
        case rest =>
          obtain ⟨rfl, rfl⟩ := hcut
          clear c
          gi_wp2
          gi_region
          all_goals exact ⟨(((Keeps.refl _ _ _ _ _).setCell _ (by omega) (by omega) (fun h => by rcases h with h | h | h <;> omega)).setCell _ (by omega) (by omega) (fun h => by rcases h with h | h | h <;> omega)).trans (Keeps.of_below ((Below.refl _ _).drew)), a + x'.size + 1, n + 1, HST, HSU, HEN, ⟨by rw [← W1.out]; exact (store2 q8.out q9.out (by omega) _ _).1⟩, ⟨by rw [← W2.out]; exact (store2 q8.out q9.out (by omega) _ _).2⟩, ⟨far2 q0.out (by omega) (by omega) _ _⟩, ⟨far2 q1.out (by omega) (by omega) _ _⟩, ⟨far2 q2.out (by omega) (by omega) _ _⟩, ⟨(below2 bl.out (by omega) (by omega) _ _).drew⟩, ⟨by have := sz.out; simpa [World.setCell] using this⟩⟩
    case done =>
      rintro D V hle ⟨a, n, e0, e1, en, q8, q9, q0, q1, q2, bl, sz⟩ hD hDle
      have hst := e0.out
      rw [List.drop_length] at hst
      have HST := Aside0.mk (show ((0 : Int), (7 : Int)) = T from hst)
      have k4 : V.cell? ⟨w.heap.size + 1, 0, none⟩ = some (.int .i64 0) := (blk_cell q1.out 0).trans rfl
      have k5 : V.cell? ⟨w.heap.size + 1 + 1, 0, none⟩ = some (.int .i64 0) := (blk_cell q2.out 0).trans rfl
      have z4 := blk_frozen q1.out 0
      have z5 := blk_frozen q2.out 0
      have HD := Aside0.mk hD
      clear hD hst e0
      gi_wp2
      obtain ⟨r4, r5⟩ := store2 q1.out q2.out (by omega) (.int .i64 0) (.int .i64 7)
      have r4 := putObj_blk (D := D) (o' := .deferred none) r4 (by omega)
      have r5 := putObj_blk (D := D) (o' := .deferred none) r5 (by omega)
      refine leavesM1 (v := .tuple #[.int .i64 0, .int .i64 7]) (far2 HD.out (by omega) (by omega) _ _) ?_ ?_
      · have c4 := (blk_cell r4 0).trans rfl
        have c5 := (blk_cell r5 0).trans rfl
        simp [results, Tryd.results37, go_sem, c4, c5]
      · exact ⟨by rw [← HST.out], below_putObj (below2 bl.out (by omega) (by omega) _ _) (by omega)⟩
    case stop =>
      rintro D c i V hle hlt ⟨rfl, q1, q2, bl⟩ hD hDle
      gi_wp2
      have r4 := putObj_blk (D := D) (o' := .deferred none) q1.out (by omega)
      have r5 := putObj_blk (D := D) (o' := .deferred none) q2.out (by omega)
      refine leavesM1 (v := .tuple #[.int .i64 T.1, .int .i64 T.2]) hD ?_ ?_
      · have c4 := (blk_cell r4 0).trans rfl
        have c5 := (blk_cell r5 0).trans rfl
        simp [results, Tryd.results37, go_sem, c4, c5]
      · exact ⟨rfl, below_putObj bl.out (by omega)⟩
  · rw [if_neg hce] at hT
    subst hT
    have hc1 : (ce == 0) = false := beq_false_of_ne hce
    have hc2 : (ce != 0) = true := bne_iff_ne.2 hce
    clear hch hsm
    gi_wp2_with (first | (gi_at_call 40; refine CallsIn.mono (callsIn_wide.2 (hchk _)) ?_; rintro e w1 ⟨rfl, hb1⟩; obtain ⟨hz1, Q0', Q1', Q2', B1'⟩ := boxes3 hb1; have Q0 := Aside0.mk Q0'; have Q1 := Aside0.mk Q1'; have Q2 := Aside0.mk Q2'; have B1 := Aside0.mk B1'; clear Q0' Q1' Q2' B1' hb1; have q1 : w1.cell? ⟨w.heap.size + 1, 0, none⟩ = some (.int .i64 0) := (blk_cell Q1.out 0).trans rfl; have q2 : w1.cell? ⟨w.heap.size + 1 + 1, 0, none⟩ = some (.int .i64 0) := (blk_cell Q2.out 0).trans rfl; have f1 := blk_frozen Q1.out 0; have f2 := blk_frozen Q2.out 0))
    obtain ⟨r1, r2⟩ := store2 Q1.out Q2.out (by omega) (.int .i64 0) (.int .i64 ce)
    refine leavesM0 (v := .tuple #[.int .i64 0, .int .i64 ce]) ?_ ?_
    · have c1 := (blk_cell r1 0).trans rfl
      have c2 := (blk_cell r2 0).trans rfl
      simp [results, Tryd.results37, go_sem, c1, c2]
    · exact ⟨rfl, below2 B1.out (by omega) (by omega) _ _⟩
end Go.Proofs.YtebidpcmcekbgaaDoor.P
