/- What the claim's law needs, many texts in one (P9 Xc Xd Xt Xe Xs Xf Xg Hr Hx Hs Xh Hy Xi). No conditions of its own. -/
import Derived.Test.YtebidpcmcekbgaaDoorZo2
import Derived.Test.YtebidpcmcekbgaaDoorZo3
import Derived.Shelf.Strings.BuilderK
import Derived.Shelf.Strings.BuilderF
import Derived.Shelf.Small.Strs
import Derived.Shelf.Strings.Search1
import Derived.Shelf.Strings.Search2
import Derived.Shelf.Strings.Search3
import Derived.Shelf.Strings.Count
import Derived.Shelf.Strings.LastIndexAll
import Derived.Test.YtebidpcmcekbgaaDoorProg
import Derived.Shelf.RegionOpenPlain
import Derived.RangeFuncNested
import Derived.RangeFuncBound
import Derived.RangeFuncCalls
import Derived.RangeFuncLeaves
import Derived.Shelf.Abstract
import Derived.WalkKit
import Derived.OwnWalkIn
import Derived.TacticsInMore
import Derived.LoopNIn
import Derived.LoopIn
import Derived.StillTailTactics
import Derived.OrdersIn
import Derived.Sort.LoopGhostIn
import Derived.Maps.OwnOps
import Derived.Maps.OwnSet
import Derived.Maps.Views
import Derived.Maps.OwnIn
set_option linter.unusedVariables false
set_option linter.unusedSimpArgs false
namespace Go.Proofs.YtebidpcmcekbgaaDoor.P
open Go.RowKit Go.Proofs.YtebidpcmcekbgaaDoorW.PrintWords Go.Proofs.YtebidpcmcekbgaaDoorW.PrintLast Go.Proofs.YtebidpcmcekbgaaDoorW.PrintMore
attribute [local go_sem] min2_int min_two -- for this text's walks alone
set_option linter.unusedVariables false
set_option linter.unusedSimpArgs false

/-! ### riposteref01_All: function 45 -/

/-! ### riposteref01_Tokens: function 13 -/

/-! ### riposteref01_Notes: function 15 -/

-- NOT PRINTED: function 3 (ripostelaw01_LexTokens)

/-! ### riposteref01_IsRight: function 86 -/

/-! ### riposteref01_IsName: function 50 -/

end Go.Proofs.YtebidpcmcekbgaaDoor.P
namespace Go.Proofs.YtebidpcmcekbgaaDoor.P
open Go.RowKit Go.Proofs.YtebidpcmcekbgaaDoorW.PrintWords
set_option linter.unusedVariables false
set_option linter.unusedSimpArgs false
theorem w64 {x : Int} (h0 : -9223372036854775808 ≤ x) (h1 : x ≤ 9223372036854775807) : wrap64 x = x := by unfold wrap64; omega
theorem Bl (s t : ByteArray) : (s.toList == t.toList) = decide (s = t) := by
  rw [ByteArray.toList_eq, ByteArray.toList_eq]
  by_cases h : s = t
  · rw [decide_eq_true h, h, beq_self_eq_true]
  · rw [decide_eq_false h]
    exact beq_false_of_ne fun e => h (ba_ext e)
theorem toList_nil_iff (s : ByteArray) : s.toList = ([] : List UInt8) ↔ s.size = 0 := by
  rw [ByteArray.toList_eq, ← data_length s]
  exact ⟨fun h => by rw [h]; rfl, fun h => List.length_eq_zero_iff.1 h⟩
theorem succ_of {d k : Nat} (h : d < k) : ∃ m, k = m + 1 ∧ d ≤ m := ⟨k - 1, by omega, by omega⟩

/-! ### Bytes -/

/-! ### The text's own error -/
/-- What badAt says, as lex and the reference say it. -/
def badE : Option Nat → Int × Int | some j => ((j : Int), 2) | none => (0, 0)
theorem chkT_eq (s : ByteArray) : chkT s = if 2500 < s.size then (0, 5) else badE (badAt s s.size 0) := by
  unfold chkT badE; rfl

/-! ### Comments -/
theorem ll_fuel (s : ByteArray) : ∀ f g i, s.size - i ≤ f → s.size - i ≤ g → ll s f i = ll s g i
  | 0, 0, _, _, _ => rfl
  | 0, g + 1, i, hf, hg => by unfold ll; rw [if_neg (by omega)]
  | f + 1, 0, i, hf, hg => by unfold ll; rw [if_neg (by omega)]
  | f + 1, g + 1, i, hf, hg => by
    unfold ll
    by_cases c : i < s.size ∧ bt s (i : Int) ≠ 10
    · rw [if_pos c, if_pos c, ll_fuel s f g (i + 1) (by omega) (by omega)]
    · rw [if_neg c, if_neg c]

/-! ### Words -/

/-! ### Lists of texts -/
/-- Is a text in a list? -/
def memT (z : ByteArray) (xs : List ByteArray) : Bool := xs.any fun x => x.data.toList == z.data.toList
/-- The keywords. -/
def KW : List ByteArray := (riposteref01_Keywords.f).getD []
def kwM (z : ByteArray) : Bool := memT z KW

/-! ### Numbers -/

/-! ### Signs -/
def begB (s t : ByteArray) : Bool := decide (t.size ≤ s.size) && decide (s.extract 0 t.size = t)
theorem beg_two (s : ByteArray) (c d : UInt8) : begB s ⟨#[c, d]⟩ = decide (2 ≤ s.size ∧ bt s 0 = (c.toNat : Int) ∧ bt s 1 = (d.toNat : Int)) := by
  unfold begB
  have e : (⟨#[c, d]⟩ : ByteArray).size = 2 := rfl
  rw [e]
  have b0 : bt (⟨#[c, d]⟩ : ByteArray) 0 = (c.toNat : Int) := rfl
  have b1 : bt (⟨#[c, d]⟩ : ByteArray) 1 = (d.toNat : Int) := rfl
  by_cases h : 2 ≤ s.size
  · rw [decide_eq_true h, Bool.true_and]
    congr 1
    refine propext ⟨fun h2 => ⟨h, ?_, ?_⟩, fun h2 => ba_ext_bt (by rw [size_ex, e]; omega) fun k hk => ?_⟩
    · rw [← b0, ← h2]; exact (bt_ex s 0 2 0 (by omega)).symm
    · rw [← b1, ← h2]; exact (bt_ex s 0 2 1 (by omega)).symm
    · rw [size_ex] at hk
      obtain rfl | rfl : k = 0 ∨ k = 1 := by omega
      · exact (bt_ex s 0 2 0 (by omega)).trans (h2.2.1.trans b0.symm)
      · exact (bt_ex s 0 2 1 (by omega)).trans (h2.2.2.trans b1.symm)
  · rw [decide_eq_false h, Bool.false_and, decide_eq_false (show ¬ (2 ≤ s.size ∧ bt s 0 = (c.toNat : Int) ∧ bt s 1 = (d.toNat : Int)) from fun h2 => h h2.1)]
theorem sign_word (s : ByteArray) (h0 : wdB (bt s 0) = true) : signM s = none := by
  have hw : ∀ c : Int, wdB c = true → c ≠ 58 ∧ c ≠ 45 ∧ sgB c = false := by
    intro c hc
    have h1 : (48 ≤ c ∧ c ≤ 57) ∨ (97 ≤ c ∧ c ≤ 122) ∨ (65 ≤ c ∧ c ≤ 90) := by
      unfold wdB dgB smB gtB at hc
      simpa using hc
    refine ⟨by omega, by omega, ?_⟩
    unfold sgB
    rw [Bool.eq_false_iff]
    intro h
    simp at h
    omega
  obtain ⟨a, b, c⟩ := hw _ h0
  unfold signM
  rw [if_neg (fun h => a h.2.1), if_neg (fun h => b h.2.1), if_neg (fun h => by rw [c] at h; cases h.2)]
theorem wl_zero (s : ByteArray) (h : wlen s ≠ 0) : 0 < s.size ∧ wdB (bt s 0) = true := by
  unfold wlen at h
  by_cases c : s.size = 0
  · rw [c] at h; exact absurd rfl h
  · obtain ⟨m, hm⟩ : ∃ m, s.size = m + 1 := ⟨s.size - 1, by omega⟩
    rw [hm] at h
    unfold wl at h
    by_cases c2 : 0 < s.size ∧ wdB (bt s ((0 : Nat) : Int)) = true
    · exact c2
    · rw [if_neg c2] at h; exact absurd rfl h
/-! ### All tokens -/
theorem goT_cons (kw : ByteArray → Bool) (s : ByteArray) (x : Nat × ByteArray) (r : List (Nat × ByteArray)) (l : List Tk) : goT kw s (x :: r) l = if (stepT kw s l x).2.2 = 0 then goT kw s r (stepT kw s l x).1 else stepT kw s l x := rfl
theorem spB_iff (c : Int) : spB c = true ↔ c = 32 ∨ c = 10 := by unfold spB; simp

/-! ### All comments -/

/-! ### Lists of tokens compared -/
theorem rSame0 (l : List Tk) (hl : l.length ≤ 140737488351232) : ∀ (d i k : Nat), l.length - i = d → i ≤ l.length → d < k → riposteref01_SameTokens.l0 k l l (i : Int) = some true := by
  intro d
  induction d with
  | zero =>
    intro i k hd hi hk
    obtain ⟨k, rfl, _⟩ := succ_of hk
    unfold riposteref01_SameTokens.l0
    rw [if_neg (by omega)]
  | succ d ih =>
    intro i k hd hi hk
    obtain ⟨k, rfl, _⟩ := succ_of hk
    unfold riposteref01_SameTokens.l0
    rw [if_pos (by omega), if_pos (by omega), if_pos (by omega), if_neg (by simp), w64 (by omega) (by omega)]
    exact ih (i + 1) k (by omega) (by omega) (by omega)
theorem rSame (l : List Tk) (hl : l.length ≤ 140737488351232) (k : Nat) (hk : l.length < k) : riposteref01_SameTokens.f k l l = some true := by
  unfold riposteref01_SameTokens.f
  rw [if_pos rfl]
  exact rSame0 l hl l.length 0 k (by omega) (by omega) hk
theorem bt_out (s : ByteArray) (i : Nat) (h : s.size ≤ i) : bt s (i : Int) = 0 := by
  rw [bt_list, List.getElem?_eq_none (by simpa using h)]; rfl
theorem wdB_zero : wdB 0 = false := by decide
theorem wl_spec (s : ByteArray) : ∀ f i, s.size - i ≤ f → (∀ j, i ≤ j → j < i + wl s f i → j < s.size ∧ wdB (bt s (j : Int)) = true) ∧ wdB (bt s ((i + wl s f i : Nat) : Int)) = false
  | 0, i, h => by
    refine ⟨fun j h1 h2 => absurd h2 (by unfold wl; omega), ?_⟩
    rw [bt_out s _ (by unfold wl; omega)]; exact wdB_zero
  | f + 1, i, h => by
    unfold wl
    by_cases c : i < s.size ∧ wdB (bt s (i : Int)) = true
    · rw [if_pos c]
      obtain ⟨h1, h2⟩ := wl_spec s f (i + 1) (by omega)
      refine ⟨fun j h3 h4 => ?_, by rw [show i + (wl s f (i + 1) + 1) = i + 1 + wl s f (i + 1) by omega]; exact h2⟩
      by_cases e : j = i
      · subst e; exact c
      · exact h1 j (by omega) (by omega)
    · rw [if_neg c]
      refine ⟨fun j h3 h4 => absurd h4 (by omega), ?_⟩
      by_cases c2 : i < s.size
      · rw [Nat.add_zero]; exact Bool.eq_false_iff.2 fun h => c ⟨c2, h⟩
      · rw [bt_out s _ (by omega)]; exact wdB_zero
theorem wlen_in (s : ByteArray) (j : Nat) (h : j < wlen s) : wdB (bt s (j : Int)) = true := ((wl_spec s s.size 0 (by omega)).1 j (Nat.zero_le _) (by rw [Nat.zero_add]; exact h)).2
theorem wlen_stop (s : ByteArray) : wdB (bt s (wlen s : Int)) = false := by have := (wl_spec s s.size 0 (by omega)).2; rw [Nat.zero_add] at this; exact this
theorem wlen_uniq (s : ByteArray) (n : Nat) (h1 : ∀ j, j < n → wdB (bt s (j : Int)) = true) (h2 : wdB (bt s (n : Int)) = false) : wlen s = n := by
  by_cases c : wlen s < n
  · have := h1 _ c; rw [wlen_stop s] at this; cases this
  · by_cases c2 : n < wlen s
    · have := wlen_in s _ c2; rw [h2] at this; cases this
    · omega
/-- Does a text begin with another one? -/
def begT (s t : ByteArray) : Prop := t.size ≤ s.size ∧ ∀ j, j < t.size → bt s (j : Int) = bt t (j : Int)
theorem begT_ex {s t : ByteArray} (h : begT s t) : s.extract 0 t.size = t := by
  refine ba_ext_bt (by rw [size_ex]; have := h.1; omega) fun k hk => ?_
  rw [size_ex] at hk
  rw [bt_ex s 0 t.size k (by omega), Nat.zero_add]
  exact h.2 k (by omega)
theorem ex_begT (s : ByteArray) (n : Nat) (h : n ≤ s.size) : begT s (s.extract 0 n) := by
  have hz : (s.extract 0 n).size = n := by rw [size_ex]; omega
  refine ⟨by omega, fun j hj => ?_⟩
  rw [bt_ex s 0 n j (by omega), Nat.zero_add]
theorem begT_size0 {s t : ByteArray} (h : begT s t) (h0 : 0 < t.size) : bt s 0 = bt t 0 := h.2 0 h0
/-- May a byte stand behind a token? -/
def nxB (k : Int) (t : ByteArray) (c : Int) : Bool := if k = 4 then !(decide (t = ba [58]) && decide (c = 61)) && !(decide (t = ba [45]) && decide (c = 62)) else !wdB c
theorem one_ba {t : ByteArray} (c : UInt8) (h : t.size = 1) (h0 : bt t 0 = (c.toNat : Int)) : t = ba [c] := by
  refine ba_ext_bt (by rw [h]; rfl) fun k hk => ?_
  obtain rfl : k = 0 := by omega
  exact h0
theorem signM_word0 {t z : ByteArray} (h : signM t = some z) : wlen t = 0 := by
  by_cases c : wlen t = 0
  · exact c
  · have := sign_word t (wl_zero t c).2
    rw [this] at h; cases h
theorem firstM_sign (kw : ByteArray → Bool) {s t : ByteArray} (h : signM s = some t) : firstM kw s = ((4, t), 0) := by
  unfold firstM
  rw [if_pos (signM_word0 h), h]
/-- A token that begins a text begins it, is one by itself, and the byte behind it may stand there. -/
theorem firstM_self (kw : ByteArray → Bool) {s t : ByteArray} {k : Int} (h : firstM kw s = ((k, t), 0)) : firstM kw t = ((k, t), 0) ∧ begT s t ∧ nxB k t (bt s (t.size : Int)) = true ∧ 0 < t.size ∧ (k = 4 ↔ wlen t = 0) := by
  have hsz : 0 < t.size ∧ t.size ≤ s.size := by
    have := firstM_size kw s (by rw [h])
    rw [h] at this; exact this
  by_cases c : wlen s = 0
  · have hs : signM s = some t ∧ k = 4 := by
      unfold firstM at h
      rw [if_pos c] at h
      cases hs : signM s with
      | none => rw [hs] at h; cases h
      | some z => rw [hs] at h; cases h; exact ⟨rfl, rfl⟩
    obtain ⟨hs, rfl⟩ := hs
    have key : signM t = some t ∧ begT s t ∧ nxB 4 t (bt s (t.size : Int)) = true := by
      unfold signM at hs
      by_cases c1 : 2 ≤ s.size ∧ bt s 0 = 58 ∧ bt s 1 = 61
      · rw [if_pos c1] at hs; cases hs
        refine ⟨rfl, ⟨c1.1, fun j hj => ?_⟩, rfl⟩
        have : j = 0 ∨ j = 1 := by have : (ba [58, 61]).size = 2 := rfl
                                   omega
        rcases this with rfl | rfl
        · exact c1.2.1
        · exact c1.2.2
      · rw [if_neg c1] at hs
        by_cases c2 : 2 ≤ s.size ∧ bt s 0 = 45 ∧ bt s 1 = 62
        · rw [if_pos c2] at hs; cases hs
          refine ⟨rfl, ⟨c2.1, fun j hj => ?_⟩, rfl⟩
          have : j = 0 ∨ j = 1 := by have : (ba [45, 62]).size = 2 := rfl
                                     omega
          rcases this with rfl | rfl
          · exact c2.2.1
          · exact c2.2.2
        · rw [if_neg c2] at hs
          by_cases c3 : 0 < s.size ∧ sgB (bt s 0) = true
          · rw [if_pos c3] at hs
            have hs2 : s.extract 0 1 = t := Option.some.inj hs
            have hz : t.size = 1 := by rw [← hs2, size_ex]; omega
            have hb : begT s t := by rw [← hs2]; exact ex_begT s 1 c3.1
            have hb0 := begT_size0 hb hsz.1
            refine ⟨?_, hb, ?_⟩
            · unfold signM
              rw [if_neg (by omega), if_neg (by omega), if_pos ⟨hsz.1, by rw [← hb0]; exact c3.2⟩, ex_self t 1 (by omega)]
            · unfold nxB
              rw [if_pos rfl, hz]
              by_cases d1 : t = ba [58] ∧ bt s ((1 : Nat) : Int) = 61
              · have e0 : bt s 0 = 58 := by rw [hb0, d1.1]; rfl
                by_cases z : 2 ≤ s.size
                · exact absurd ⟨z, e0, d1.2⟩ c1
                · have := bt_out s 1 (by omega)
                  rw [d1.2] at this; cases this
              · by_cases d2 : t = ba [45] ∧ bt s ((1 : Nat) : Int) = 62
                · have e0 : bt s 0 = 45 := by rw [hb0, d2.1]; rfl
                  by_cases z : 2 ≤ s.size
                  · exact absurd ⟨z, e0, d2.2⟩ c2
                  · have := bt_out s 1 (by omega)
                    rw [d2.2] at this; cases this
                · rw [← Bool.decide_and, ← Bool.decide_and, decide_eq_false d1, decide_eq_false d2]; rfl
          · rw [if_neg c3] at hs; cases hs
    exact ⟨firstM_sign kw key.1, key.2.1, key.2.2, hsz.1, iff_of_true rfl (signM_word0 key.1)⟩
  · have hw := wlen_le s
    have ht : t = s.extract 0 (wlen s) ∧ k ≠ 4 := by
      unfold firstM at h
      rw [if_neg c] at h
      by_cases c2 : dgB (bt s 0) = true
      · rw [if_pos c2] at h
        have := congrArg Prod.fst h
        exact ⟨(congrArg Prod.snd this).symm, by have e : _ = k := congrArg Prod.fst this; intro h4; rw [h4] at e; simp at e⟩
      · rw [if_neg c2] at h
        by_cases c3 : smB (bt s 0) = false
        · rw [if_pos c3] at h; cases h
        · rw [if_neg c3] at h
          by_cases c4 : kw (s.extract 0 (wlen s)) = true
          · rw [if_pos c4] at h
            have := congrArg Prod.fst h
            exact ⟨(congrArg Prod.snd this).symm, by have e : _ = k := congrArg Prod.fst this; intro h4; rw [h4] at e; simp at e⟩
          · rw [if_neg c4] at h
            by_cases c5 : 12 < (s.extract 0 (wlen s)).size
            · rw [if_pos c5] at h; cases h
            · rw [if_neg c5] at h
              have := congrArg Prod.fst h
              exact ⟨(congrArg Prod.snd this).symm, by have e : _ = k := congrArg Prod.fst this; intro h4; rw [h4] at e; simp at e⟩
    obtain ⟨ht, hk⟩ := ht
    have hz : t.size = wlen s := by rw [ht, size_ex]; omega
    have hb : begT s t := by rw [ht]; exact ex_begT s _ hw
    have hwt : wlen t = wlen s := wlen_uniq t _ (fun j hj => by rw [← hb.2 j (by omega)]; exact wlen_in s j hj) (by rw [bt_out t _ (by omega)]; exact wdB_zero)
    have hb0 := begT_size0 hb hsz.1
    have htt : t.extract 0 (wlen t) = t := ex_self t _ (by omega)
    refine ⟨?_, hb, ?_, hsz.1, iff_of_false hk (by omega)⟩
    · unfold firstM at h ⊢
      rw [if_neg c, ← ht, hb0] at h
      rw [if_neg (by omega), htt]
      exact h
    · unfold nxB
      rw [if_neg hk, hz, wlen_stop]; rfl
/-- A token by itself, behind which a byte stands that may, begins a text. -/
theorem firstM_of (kw : ByteArray → Bool) {s t : ByteArray} {k : Int} (h : firstM kw t = ((k, t), 0)) (hb : begT s t) (hn : nxB k t (bt s (t.size : Int)) = true) : firstM kw s = ((k, t), 0) := by
  obtain ⟨-, -, -, h0, h4⟩ := firstM_self kw h
  have hb0 := begT_size0 hb h0
  by_cases c : wlen t = 0
  · obtain rfl := h4.2 c
    have hs : signM t = some t := by
      unfold firstM at h
      rw [if_pos c] at h
      cases hs : signM t with
      | none => rw [hs] at h; cases h
      | some z => rw [hs] at h; exact congrArg some (congrArg (fun y => y.1.2) h)
    refine firstM_sign kw ?_
    unfold nxB at hn
    rw [if_pos rfl, Bool.and_eq_true, Bool.not_eq_true', Bool.not_eq_true', ← Bool.decide_and, ← Bool.decide_and, decide_eq_false_iff_not, decide_eq_false_iff_not] at hn
    have hbs := hb.1
    unfold signM at hs ⊢
    by_cases c1 : 2 ≤ t.size ∧ bt t 0 = 58 ∧ bt t 1 = 61
    · rw [if_pos c1] at hs
      rw [if_pos ⟨by omega, by rw [hb0]; exact c1.2.1, (hb.2 1 (by omega)).trans c1.2.2⟩]; exact hs
    · rw [if_neg c1] at hs
      by_cases c2 : 2 ≤ t.size ∧ bt t 0 = 45 ∧ bt t 1 = 62
      · rw [if_pos c2] at hs
        have e0 : bt s 0 = 45 := by rw [hb0]; exact c2.2.1
        rw [if_neg (by omega), if_pos ⟨by omega, e0, (hb.2 1 (by omega)).trans c2.2.2⟩]; exact hs
      · rw [if_neg c2] at hs
        by_cases c3 : 0 < t.size ∧ sgB (bt t 0) = true
        · rw [if_pos c3] at hs
          have hz : t.size = 1 := by
            have := congrArg ByteArray.size (Option.some.inj hs)
            rw [size_ex] at this; omega
          rw [hz] at hn
          rw [if_neg (fun d => hn.1 ⟨one_ba 58 hz (by rw [← hb0]; exact d.2.1), d.2.2⟩), if_neg (fun d => hn.2 ⟨one_ba 45 hz (by rw [← hb0]; exact d.2.1), d.2.2⟩), if_pos ⟨by omega, by rw [hb0]; exact c3.2⟩]
          have := begT_ex hb
          rw [hz] at this
          rw [this]
        · rw [if_neg c3] at hs; cases hs
  · have hk : k ≠ 4 := fun e => c (h4.1 e)
    unfold nxB at hn
    rw [if_neg hk, Bool.not_eq_true'] at hn
    have htz : t.extract 0 (wlen t) = t := by
      unfold firstM at h
      rw [if_neg c] at h
      by_cases c2 : dgB (bt t 0) = true
      · rw [if_pos c2] at h; exact congrArg (fun y => y.1.2) h
      · rw [if_neg c2] at h
        by_cases c3 : smB (bt t 0) = false
        · rw [if_pos c3] at h; cases h
        · rw [if_neg c3] at h
          by_cases c4 : kw (t.extract 0 (wlen t)) = true
          · rw [if_pos c4] at h; exact congrArg (fun y => y.1.2) h
          · rw [if_neg c4] at h
            by_cases c5 : 12 < (t.extract 0 (wlen t)).size
            · rw [if_pos c5] at h; cases h
            · rw [if_neg c5] at h; exact congrArg (fun y => y.1.2) h
    have hz : wlen t = t.size := by
      have := congrArg ByteArray.size htz
      have := wlen_le t
      rw [size_ex] at *; omega
    have hws : wlen s = t.size := wlen_uniq s _ (fun j hj => by rw [hb.2 j hj]; exact wlen_in t j (by omega)) hn
    unfold firstM at h ⊢
    rw [if_neg c, htz, ← hb0] at h
    rw [if_neg (by omega), hws, begT_ex hb]
    exact h

/-! ### Ways through a text -/
/-- From a place of a text one comes to another one, by these tokens. -/
inductive Scan (s : ByteArray) : Nat → List Tk → Nat → Prop
  | done (i : Nat) : Scan s i [] i
  | blank {i j : Nat} {l : List Tk} : i < s.size → spB (bt s (i : Int)) = true → Scan s (i + 1) l j → Scan s i l j
  | note {i j : Nat} {l : List Tk} : i < s.size → bt s (i : Int) = 126 → Scan s (i + noteL s i) l j → Scan s i l j
  | tok {i j : Nat} {l : List Tk} {k : Int} {t : ByteArray} : i < s.size → spB (bt s (i : Int)) = false → bt s (i : Int) ≠ 126 → firstM kwM (s.extract i s.size) = ((k, t), 0) → Scan s (i + t.size) l j → Scan s i (⟨k, t, (i : Int)⟩ :: l) j
theorem noteL_le (s : ByteArray) (i : Nat) (h : i ≤ s.size) : i + noteL s i ≤ s.size := ll_le s s.size i h
theorem tok_size {s t : ByteArray} {k : Int} {i : Nat} (h : firstM kwM (s.extract i s.size) = ((k, t), 0)) : 0 < t.size ∧ i + t.size ≤ s.size := by
  have := firstM_size kwM _ (show (firstM kwM (s.extract i s.size)).2 = 0 by rw [h])
  rw [h, size_ex] at this
  simp only at this
  omega
theorem Scan.le {s : ByteArray} {i j : Nat} {l : List Tk} (h : Scan s i l j) : i ≤ j := by
  induction h with
  | done => exact Nat.le_refl _
  | blank _ _ _ ih => omega
  | note _ _ _ ih => omega
  | tok _ _ _ _ _ ih => omega
theorem Scan.goes {s : ByteArray} {i j : Nat} {l : List Tk} (h : Scan s i l j) : ∀ acc : List Tk, acc.length + l.length ≤ 900 → goT kwM s (pcsA s (lenT kwM s) i) acc = goT kwM s (pcsA s (lenT kwM s) j) (acc ++ l) := by
  induction h with
  | done => intro acc _; rw [List.append_nil]
  | blank h1 h2 _ ih =>
    intro acc ha
    rw [pcsA_step s _ (lenT_pos kwM s) _ h1, if_pos h2]
    exact ih acc ha
  | @note i j l h1 h2 _ ih =>
    intro acc ha
    have hn : spB (bt s (i : Int)) ≠ true := by rw [h2]; decide
    have hp := noteL_pos s i h1 h2
    have hz := noteT_size s i (by omega)
    have e : stepT kwM s acc (i, noteT s i) = (acc, 0, 0) := by unfold stepT; rw [if_pos (show (noteT s i).size ≠ 0 by omega)]
    rw [pcsA_step s _ (lenT_pos kwM s) _ h1, if_neg hn, if_pos h2, goT_cons, e, if_pos rfl]
    exact ih acc ha
  | @tok i j l k t h1 h2 h3 h4 _ ih =>
    intro acc ha
    have hn : spB (bt s (i : Int)) ≠ true := by rw [h2]; decide
    rw [List.length_cons] at ha
    have e : stepT kwM s acc (i, ByteArray.empty) = (acc ++ [⟨k, t, (i : Int)⟩], 0, 0) := by
      unfold stepT
      rw [if_neg (show ¬ (ByteArray.empty.size ≠ 0) by decide), h4]
      simp only [ne_eq, not_true_eq_false, if_false]
      rw [if_neg (by omega)]
    have el : lenT kwM s i = t.size := by unfold lenT; rw [h4]; rfl
    rw [pcsA_step s _ (lenT_pos kwM s) _ h1, if_neg hn, if_neg h3, goT_cons, e, if_pos rfl, el]
    show goT kwM s (pcsA s (lenT kwM s) (i + t.size)) (acc ++ [⟨k, t, (i : Int)⟩]) = _
    refine (ih (acc ++ [(⟨k, t, (i : Int)⟩ : Tk)]) (by rw [List.length_append, List.length_singleton]; omega)).trans ?_
    rw [List.append_assoc]
    rfl
theorem goT_scan (s : ByteArray) : ∀ (d i : Nat) (l l' : List Tk) (p : Int), s.size - i ≤ d → i ≤ s.size → goT kwM s (pcsA s (lenT kwM s) i) l = (l', p, 0) → ∃ r, l' = l ++ r ∧ Scan s i r s.size := by
  intro d
  induction d with
  | zero =>
    intro i l l' p hd hi h
    rw [pcsA_end s _ (lenT_pos kwM s) i (by omega)] at h
    obtain rfl : i = s.size := by omega
    exact ⟨[], by rw [List.append_nil]; exact (congrArg Prod.fst h).symm, .done _⟩
  | succ d ih =>
    intro i l l' p hd hi h
    by_cases hlt : i < s.size
    · rw [pcsA_step s _ (lenT_pos kwM s) i hlt] at h
      by_cases c1 : spB (bt s (i : Int)) = true
      · rw [if_pos c1] at h
        obtain ⟨r, h1, h2⟩ := ih (i + 1) l l' p (by omega) (by omega) h
        exact ⟨r, h1, .blank hlt c1 h2⟩
      · rw [if_neg c1] at h
        by_cases c2 : bt s (i : Int) = 126
        · have hp := noteL_pos s i hlt c2
          have hle := noteL_le s i hi
          have hz := noteT_size s i hi
          rw [if_pos c2, goT_cons] at h
          have e : stepT kwM s l (i, noteT s i) = (l, 0, 0) := by unfold stepT; rw [if_pos (show (noteT s i).size ≠ 0 by omega)]
          rw [e, if_pos rfl] at h
          obtain ⟨r, h1, h2⟩ := ih (i + noteL s i) l l' p (by omega) (by omega) h
          exact ⟨r, h1, .note hlt c2 h2⟩
        · rw [if_neg c2, goT_cons] at h
          have hst : stepT kwM s l (i, ByteArray.empty) = if (firstM kwM (s.extract i s.size)).2 ≠ 0 then ([], (i : Int), (firstM kwM (s.extract i s.size)).2) else if l.length = 900 then ([], (i : Int), 5) else (l ++ [⟨(firstM kwM (s.extract i s.size)).1.1, (firstM kwM (s.extract i s.size)).1.2, (i : Int)⟩], 0, 0) := by
            unfold stepT
            rw [if_neg (show ¬ (ByteArray.empty.size ≠ 0) by decide)]
          rw [hst] at h
          have hlen : (firstM kwM (s.extract i s.size)).2 = 0 → lenT kwM s i = (firstM kwM (s.extract i s.size)).1.2.size := fun h => by unfold lenT; rw [if_pos h]
          generalize hF : firstM kwM (s.extract i s.size) = F at *
          obtain ⟨⟨f0, f1⟩, f2⟩ := F
          by_cases c3 : f2 = 0
          · subst c3
            simp only [ne_eq, not_true_eq_false, if_false] at h
            by_cases c4 : l.length = 900
            · rw [if_pos c4, if_neg (show ¬ (5 : Int) = 0 by decide)] at h
              exact absurd (show (5 : Int) = 0 from congrArg (fun y => y.2.2) h) (by decide)
            · rw [if_neg c4, if_pos rfl, hlen rfl] at h
              have hz := tok_size hF
              simp only at h
              obtain ⟨r, h1, h2⟩ := ih _ _ l' p (by omega) (by omega) h
              exact ⟨_ :: r, by rw [h1, List.append_assoc]; rfl, .tok hlt (by simpa using c1) c2 hF h2⟩
          · simp only [ne_eq, c3, not_false_eq_true, if_true, if_false] at h
            exact absurd (congrArg (fun y => y.2.2) h) c3
    · rw [pcsA_end s _ (lenT_pos kwM s) i (by omega)] at h
      obtain rfl : i = s.size := by omega
      exact ⟨[], by rw [List.append_nil]; exact (congrArg Prod.fst h).symm, .done _⟩
theorem goT_lenT (kw : ByteArray → Bool) (s : ByteArray) : ∀ (L : List (Nat × ByteArray)) (l : List Tk), l.length ≤ 900 → (goT kw s L l).1.length ≤ 900
  | [], l, h => h
  | x :: r, l, h => by
    rw [goT_cons]
    have hs : (stepT kw s l x).1.length ≤ 900 := by
      unfold stepT
      by_cases c1 : x.2.size ≠ 0
      · rw [if_pos c1]; exact h
      · rw [if_neg c1]
        by_cases c2 : (firstM kw (s.extract x.1 s.size)).2 ≠ 0
        · rw [if_pos c2]; exact Nat.zero_le _
        · rw [if_neg c2]
          by_cases c3 : l.length = 900
          · rw [if_pos c3]; exact Nat.zero_le _
          · rw [if_neg c3]; simp only [List.length_append, List.length_singleton]; omega
    by_cases c : (stepT kw s l x).2.2 = 0
    · rw [if_pos c]; exact goT_lenT kw s r _ hs
    · rw [if_neg c]; exact hs
/-- What it says that a text has these tokens. -/
theorem toks_iff (s : ByteArray) (l : List Tk) : ((toksM kwM s).1 = l ∧ (toksM kwM s).2.2 = 0) ↔ ((chkT s).2 = 0 ∧ Scan s 0 l s.size ∧ l.length ≤ 900) := by
  unfold toksM
  constructor
  · rintro ⟨h1, h2⟩
    by_cases c : (chkT s).2 = 0
    · rw [if_neg (by simpa using c)] at h1 h2
      have hl := goT_lenT kwM s (pcsA s (lenT kwM s) 0) [] (by decide)
      obtain ⟨r, h3, h4⟩ := goT_scan s s.size 0 [] l (goT kwM s (pcsA s (lenT kwM s) 0) []).2.1 (by omega) (by omega) (by rw [← h1, ← h2])
      rw [List.nil_append] at h3
      subst h3
      rw [h1] at hl
      exact ⟨c, h4, hl⟩
    · rw [if_pos c] at h2
      exact absurd h2 c
  · rintro ⟨h1, h2, h3⟩
    rw [if_neg (by simpa using h1), h2.goes [] (by simpa using h3), pcsA_end s _ (lenT_pos kwM s) _ (Nat.le_refl _)]
    exact ⟨rfl, rfl⟩
theorem chk_iff (s : ByteArray) : (chkT s).2 = 0 ↔ s.size ≤ 2500 ∧ ∀ i, i < s.size → okB (bt s (i : Int)) = true := by
  have hb : ∀ d i, s.size - i ≤ d → (badAt s d i = none ↔ ∀ j, i ≤ j → j < s.size → okB (bt s (j : Int)) = true) := by
    intro d
    induction d with
    | zero => intro i hd; exact iff_of_true rfl fun j h1 h2 => by omega
    | succ d ih =>
      intro i hd
      unfold badAt
      by_cases c : i < s.size
      · rw [if_pos c]
        by_cases c2 : okB (bt s (i : Int)) = true
        · rw [if_pos c2, ih (i + 1) (by omega)]
          constructor
          · intro h j h1 h2
            by_cases e : j = i
            · subst e; exact c2
            · exact h j (by omega) h2
          · intro h j h1 h2; exact h j (by omega) h2
        · rw [if_neg c2]
          exact iff_of_false (by simp) fun h => c2 (h i (Nat.le_refl _) c)
      · rw [if_neg c]
        exact iff_of_true rfl fun j h1 h2 => by omega
  have hb := hb s.size 0 (by omega)
  rw [chkT_eq]
  by_cases c : 2500 < s.size
  · rw [if_pos c]
    exact iff_of_false (by decide) fun h => by omega
  · rw [if_neg c]
    cases hbad : badAt s s.size 0 with
    | none =>
      rw [hbad] at hb
      exact iff_of_true rfl ⟨by omega, fun i hi => hb.1 rfl i (Nat.zero_le _) hi⟩
    | some j =>
      refine iff_of_false (by show ¬ (2 : Int) = 0; decide) fun h => ?_
      have := hb.2 fun j _ hj => h.2 j hj
      rw [hbad] at this; cases this
/-- What a token of a text is: the one with which the text at its place begins. -/
theorem Scan.mem {s : ByteArray} {i j : Nat} {l : List Tk} (h : Scan s i l j) : ∀ x ∈ l, ∃ n : Nat, i ≤ n ∧ n < j ∧ x.f2 = (n : Int) ∧ firstM kwM (s.extract n s.size) = ((x.f0, x.f1), 0) := by
  induction h with
  | done => intro x hx; cases hx
  | blank _ _ _ ih => intro x hx; obtain ⟨n, h1, h2⟩ := ih x hx; exact ⟨n, by omega, h2⟩
  | note _ _ _ ih => intro x hx; obtain ⟨n, h1, h2⟩ := ih x hx; exact ⟨n, by omega, h2⟩
  | @tok i j l k t h1 h2 h3 h4 h5 ih =>
    intro x hx
    have hz := tok_size h4
    rcases List.mem_cons.1 hx with rfl | hx
    · exact ⟨i, Nat.le_refl _, by have := h5.le; omega, rfl, h4⟩
    · obtain ⟨n, h1, h2⟩ := ih x hx; exact ⟨n, by omega, h2⟩
theorem pClassOf (c : Int) (k : Nat) (hk : 4 ≤ k) : lex_classOf.f k c = some (clsB c) := by
  obtain ⟨k, rfl⟩ : ∃ m, k = m + 4 := ⟨k - 4, by omega⟩
  have e : ∀ b : Bool, b = spB c → lex_classOf.j0 (k + 4) c b = some (clsB c) := by
    rintro b rfl
    rw [lex_classOf.j0.eq_2]
    unfold clsB
    by_cases c1 : spB c = true
    · rw [if_pos c1, if_pos c1]
    · rw [if_neg c1, if_neg c1]
      have h10 : c ≠ 10 := fun h => c1 ((spB_iff c).2 (.inr h))
      have e1 : ∀ b : Bool, b = !okB c → lex_classOf.j1 (k + 3) c b = some (if okB c = false then 0 else if dgB c = true then 2 else if smB c = true then 3 else if gtB c = true then 4 else 5) := by
        rintro b rfl
        rw [lex_classOf.j1.eq_2]
        by_cases c2 : okB c = false
        · rw [if_pos (by rw [c2]; rfl), if_pos c2]
        · rw [if_neg (by simpa using c2), if_neg c2]
          have e2 : ∀ b : Bool, b = dgB c → lex_classOf.j2 (k + 2) c b = some (if dgB c = true then 2 else if smB c = true then 3 else if gtB c = true then 4 else 5) := by
            rintro b rfl
            rw [lex_classOf.j2.eq_2]
            by_cases c3 : dgB c = true
            · rw [if_pos c3, if_pos c3]
            · rw [if_neg c3, if_neg c3]
              have e3 : ∀ b : Bool, b = smB c → lex_classOf.j3 (k + 1) c b = some (if smB c = true then 3 else if gtB c = true then 4 else 5) := by
                rintro b rfl
                rw [lex_classOf.j3.eq_2]
                by_cases c4 : smB c = true
                · rw [if_pos c4, if_pos c4]
                · rw [if_neg c4, if_neg c4]
                  unfold gtB
                  by_cases h1 : c ≥ 65
                  · rw [if_pos h1, decide_eq_true (show (65 : Int) ≤ c from h1), Bool.true_and]
                    by_cases h2 : c ≤ 90
                    · rw [if_pos h2, if_pos (decide_eq_true h2)]
                    · rw [if_neg h2, if_neg (by simpa using h2)]
                  · rw [if_neg h1, decide_eq_false (show ¬ (65 : Int) ≤ c from h1), Bool.false_and, if_neg (by decide)]
              by_cases h1 : c ≥ 97
              · rw [if_pos h1]; exact e3 _ (by unfold smB; rw [decide_eq_true (show (97 : Int) ≤ c from h1), Bool.true_and])
              · rw [if_neg h1]; exact e3 _ (by unfold smB; rw [decide_eq_false (show ¬ (97 : Int) ≤ c from h1), Bool.false_and])
          by_cases h1 : c ≥ 48
          · rw [if_pos h1]; exact e2 _ (by unfold dgB; rw [decide_eq_true (show (48 : Int) ≤ c from h1), Bool.true_and])
          · rw [if_neg h1]; exact e2 _ (by unfold dgB; rw [decide_eq_false (show ¬ (48 : Int) ≤ c from h1), Bool.false_and])
      by_cases h1 : c < 32
      · rw [if_pos h1]; exact e1 _ (by unfold okB; rw [decide_eq_false h10, decide_eq_false (show ¬ (32 : Int) ≤ c by omega)]; rfl)
      · rw [if_neg h1]; exact e1 _ (by unfold okB; rw [decide_eq_false h10, decide_eq_true (show (32 : Int) ≤ c by omega), Bool.false_or, Bool.true_and, ← decide_not]; congr 1; rw [Int.not_le])
  unfold lex_classOf.f
  by_cases h1 : c = 32
  · rw [if_pos h1]; exact e _ (by rw [(spB_iff c).2 (.inl h1)])
  · rw [if_neg h1]
    refine e _ ?_
    unfold spB
    rw [decide_eq_false h1, Bool.false_or]
    by_cases c10 : c = 10
    · rw [decide_eq_true c10, beq_iff_eq.2 c10]
    · rw [decide_eq_false c10, beq_false_of_ne c10]
theorem rd_drop (l : List Int) (i : Nat) (h : i < l.length) : l.drop i = rd l (i : Int) :: l.drop (i + 1) := by
  rw [List.drop_eq_getElem_cons h]
  congr 1
  unfold rd
  simp [List.getD, List.getElem?_eq_getElem h]
theorem pIndex0 (l : List Int) (x : Int) (hl : l.length ≤ 1000) : ∀ (d i k : Nat), l.length - i = d → i ≤ l.length → d < k → ∃ r, lex_class_117.l0 k l x (l.length : Int) (i : Int) = some r ∧ decide (r ≥ 0) = (l.drop i).contains x := by
  intro d
  induction d with
  | zero =>
    intro i k hd hi hk
    obtain ⟨k, rfl, _⟩ := succ_of hk
    unfold lex_class_117.l0
    rw [if_neg (by omega), List.drop_eq_nil_of_le (by omega)]
    exact ⟨_, rfl, rfl⟩
  | succ d ih =>
    intro i k hd hi hk
    obtain ⟨k, rfl, hk'⟩ := succ_of hk
    unfold lex_class_117.l0
    rw [if_pos (by omega), if_pos (by omega), if_pos (by omega), rd_drop l i (by omega), List.contains_cons]
    by_cases c : x = rd l (i : Int)
    · rw [if_pos c, beq_iff_eq.2 c]
      exact ⟨_, rfl, by rw [Bool.true_or]; exact decide_eq_true (by omega)⟩
    · rw [if_neg c, beq_false_of_ne c, Bool.false_or, w64 (by omega) (by omega)]
      exact ih (i + 1) k (by omega) (by omega) (by omega)
theorem pIs (c : Int) (l : List Int) (hl : l.length ≤ 4) (k : Nat) (hk : 6 ≤ k) : lex_is.f k c l = some (l.contains (clsB c)) := by
  unfold lex_is.f lex_class_99.f lex_class_117.f
  rw [pClassOf c k (by omega)]
  obtain ⟨r, h1, h2⟩ := pIndex0 l (clsB c) (by omega) l.length 0 k (by omega) (by omega) (by omega)
  simp only [Option.bind_some]
  rw [show (0 : Int) = ((0 : Nat) : Int) from rfl, h1]
  simp only [Option.bind_some]
  rw [List.drop_zero] at h2
  rw [← h2]; rfl
theorem cls_cases (c : Int) : (clsB c = 0 ∧ okB c = false ∧ dgB c = false ∧ smB c = false ∧ gtB c = false) ∨ (clsB c = 1 ∧ okB c = true ∧ dgB c = false ∧ smB c = false ∧ gtB c = false) ∨ (clsB c = 2 ∧ okB c = true ∧ dgB c = true ∧ smB c = false ∧ gtB c = false) ∨
    (clsB c = 3 ∧ okB c = true ∧ dgB c = false ∧ smB c = true ∧ gtB c = false) ∨ (clsB c = 4 ∧ okB c = true ∧ dgB c = false ∧ smB c = false ∧ gtB c = true) ∨ (clsB c = 5 ∧ okB c = true ∧ dgB c = false ∧ smB c = false ∧ gtB c = false) := by
  unfold clsB spB okB dgB smB gtB
  simp only [Bool.or_eq_true, Bool.and_eq_true, decide_eq_true_eq, Bool.or_eq_false_iff, Bool.and_eq_false_iff, decide_eq_false_iff_not]
  repeat' split
  all_goals omega
theorem isOk (c : Int) : ([0] : List Int).contains (clsB c) = !okB c := by
  rcases cls_cases c with ⟨h, h1, _⟩ | ⟨h, h1, _⟩ | ⟨h, h1, _⟩ | ⟨h, h1, _⟩ | ⟨h, h1, _⟩ | ⟨h, h1, _⟩ <;> (rw [h, h1]; rfl)
theorem isDg (c : Int) : ([2] : List Int).contains (clsB c) = dgB c := by
  rcases cls_cases c with ⟨h, _, h1, _⟩ | ⟨h, _, h1, _⟩ | ⟨h, _, h1, _⟩ | ⟨h, _, h1, _⟩ | ⟨h, _, h1, _⟩ | ⟨h, _, h1, _⟩ <;> (rw [h, h1]; rfl)
theorem isSm (c : Int) : ([3] : List Int).contains (clsB c) = smB c := by
  rcases cls_cases c with ⟨h, _, _, h1, _⟩ | ⟨h, _, _, h1, _⟩ | ⟨h, _, _, h1, _⟩ | ⟨h, _, _, h1, _⟩ | ⟨h, _, _, h1, _⟩ | ⟨h, _, _, h1, _⟩ <;> (rw [h, h1]; rfl)
theorem isWd (c : Int) : ([2, 3, 4] : List Int).contains (clsB c) = wdB c := by
  unfold wdB
  rcases cls_cases c with ⟨h, _, h0, h1, h2⟩ | ⟨h, _, h0, h1, h2⟩ | ⟨h, _, h0, h1, h2⟩ | ⟨h, _, h0, h1, h2⟩ | ⟨h, _, h0, h1, h2⟩ | ⟨h, _, h0, h1, h2⟩ <;> (rw [h, h0, h1, h2]; rfl)
theorem pIsByte (c : Int) (k : Nat) (hk : 6 ≤ k) : lex_isByte.f k c = some (okB c) := by
  unfold lex_isByte.f
  rw [pIs c [0] (by decide) k hk, isOk]
  simp only [Option.bind_some, Bool.not_not]
theorem pCheck0 (s : ByteArray) (hs : s.size ≤ 140737488351232) : ∀ (d i k : Nat), s.size - i = d → i ≤ s.size → d + 8 < k → lex_check.l0 k s (s.size : Int) (i : Int) = some (badE (badAt s d i)) := by
  intro d
  induction d with
  | zero =>
    intro i k hd hi hk
    obtain ⟨k, rfl, _⟩ := succ_of hk
    unfold lex_check.l0 badAt
    rw [if_neg (by omega)]; rfl
  | succ d ih =>
    intro i k hd hi hk
    obtain ⟨k, rfl, hk'⟩ := succ_of hk
    unfold lex_check.l0 badAt
    rw [if_pos (by omega), if_pos (by omega), if_pos (by omega), pIsByte _ k (by omega), if_pos (show i < s.size by omega)]
    simp only [Option.bind_some]
    cases h : okB (bt s (i : Int)) with
    | false => rw [if_neg (by simp), if_neg (by simp)]; rfl
    | true =>
      rw [if_pos rfl, if_pos rfl, w64 (by omega) (by omega)]
      exact ih (i + 1) k (by omega) (by omega) (by omega)
theorem pCheck (s : ByteArray) (hs : s.size ≤ 140737488351232) (k : Nat) (hk : s.size + 8 < k) : lex_check.f k s = some (chkT s) := by
  unfold lex_check.f
  rw [chkT_eq]
  by_cases h : 2500 < s.size
  · rw [if_pos (by omega), if_pos h]
  · rw [if_neg (by omega), if_neg h]
    exact pCheck0 s hs s.size 0 k (by omega) (by omega) hk
theorem pRun0 (s : ByteArray) (hs : s.size ≤ 140737488351232) : ∀ (d i k : Nat), s.size - i = d → i ≤ s.size → d + 8 < k → lex_run.l0 k s (i : Int) = some ((i + wl s d i : Nat) : Int) := by
  intro d
  induction d with
  | zero =>
    intro i k hd hi hk
    obtain ⟨k, rfl, _⟩ := succ_of hk
    unfold lex_run.l0 wl
    rw [if_neg (by omega)]; rfl
  | succ d ih =>
    intro i k hd hi hk
    obtain ⟨k, rfl, hk'⟩ := succ_of hk
    unfold lex_run.l0 wl
    rw [if_pos (by omega), if_pos (by omega), pIs _ [2, 3, 4] (by decide) k (by omega), isWd]
    simp only [Option.bind_some]
    by_cases c : wdB (bt s (i : Int)) = true
    · rw [if_pos c, if_pos ⟨by omega, c⟩, w64 (by omega) (by omega), show i + (wl s d (i + 1) + 1) = i + 1 + wl s d (i + 1) by omega]
      exact ih (i + 1) k (by omega) (by omega) (by omega)
    · rw [if_neg c, if_neg (fun h => c h.2)]; rfl
theorem pRun (s : ByteArray) (hs : s.size ≤ 140737488351232) (k : Nat) (hk : s.size + 8 < k) : lex_run.f k s = some ((wlen s : Nat) : Int) := by
  unfold lex_run.f wlen
  have := pRun0 s hs s.size 0 k (by omega) (by omega) hk
  rw [Nat.zero_add] at this
  exact this
theorem pNum0 (s : ByteArray) (hs : s.size ≤ 140737488351232) : ∀ (d i k : Nat) (n : Int), s.size - i = d → i ≤ s.size → 0 ≤ n → n ≤ 1000001 → d + 10 < k →
    lex_number.l0 k s n (s.size : Int) (i : Int) = some (if allDg s d i = false then 4 else if 1 < s.size ∧ bt s 0 = 48 then 4 else if 1000000 < numV s d i n then 3 else 0) := by
  intro d
  induction d with
  | zero =>
    intro i k n hd hi h0 h1 hk
    obtain ⟨k, rfl⟩ : ∃ m, k = m + 2 := ⟨k - 2, by omega⟩
    rw [lex_number.l0.eq_2]
    unfold allDg numV
    have ej : ∀ b : Bool, lex_number.j1 (k + 1) n b = some (if b = true then 4 else if 1000000 < n then 3 else 0) := by
      intro b
      rw [lex_number.j1.eq_2]
      by_cases c : b = true
      · rw [if_pos c, if_pos c]
      · rw [if_neg c, if_neg c]
        by_cases c2 : n > 1000000
        · rw [if_pos c2, if_pos (show (1000000 : Int) < n from c2)]
        · rw [if_neg c2, if_neg (show ¬ (1000000 : Int) < n from c2)]
    rw [if_neg (by omega), if_neg (show ¬ (true = false) by decide)]
    by_cases c : 1 < s.size
    · rw [if_pos (by omega), if_pos (by omega), ej]
      by_cases c2 : bt s 0 = 48
      · rw [if_pos (beq_iff_eq.2 c2), if_pos ⟨c, c2⟩]
      · rw [if_neg (by rw [beq_false_of_ne c2]; decide), if_neg (show ¬ (1 < s.size ∧ bt s 0 = 48) from fun h => c2 h.2)]
    · rw [if_neg (by omega), ej, if_neg (by decide), if_neg (show ¬ (1 < s.size ∧ bt s 0 = 48) from fun h => c h.1)]
  | succ d ih =>
    intro i k n hd hi h0 h1 hk
    obtain ⟨k, rfl, hk'⟩ := succ_of hk
    rw [lex_number.l0.eq_2]
    unfold allDg numV
    rw [if_pos (by omega), if_pos (by omega), if_pos (by omega), pIs _ [2] (by decide) k (by omega), isDg, if_pos (show i < s.size by omega), if_pos (show i < s.size by omega)]
    simp only [Option.bind_some]
    cases hdg : dgB (bt s (i : Int)) with
    | false => rw [if_neg (by simp), if_pos (show (false && allDg s d (i + 1)) = false from rfl)]
    | true =>
      rw [if_pos rfl, Bool.true_and]
      have hb : 48 ≤ bt s (i : Int) ∧ bt s (i : Int) ≤ 57 := by unfold dgB at hdg; simpa using hdg
      have e3 : mn (wrap64 ((wrap64 (10 * n)) + (((bt s (i : Int)) - 48) % 256))) 1000001 = (if 10 * n + (bt s (i : Int) - 48) ≤ 1000001 then 10 * n + (bt s (i : Int) - 48) else 1000001) := by
        rw [w64 (x := 10 * n) (by omega) (by omega), Int.emod_eq_of_lt (by omega) (by omega), w64 (by omega) (by omega)]
        unfold mn
        split <;> split <;> omega
      rw [e3, w64 (x := (i : Int) + 1) (by omega) (by omega)]
      generalize hm : (if 10 * n + (bt s (i : Int) - 48) ≤ 1000001 then 10 * n + (bt s (i : Int) - 48) else 1000001) = m
      have hm0 : 0 ≤ m ∧ m ≤ 1000001 := by rw [← hm]; split <;> omega
      exact ih (i + 1) k m (by omega) (by omega) hm0.1 hm0.2 (by omega)
theorem pNum (s : ByteArray) (hs : s.size ≤ 140737488351232) (k : Nat) (hk : s.size + 10 < k) : lex_number.f k s = some (numE s) := by
  unfold lex_number.f numE
  exact pNum0 s hs s.size 0 k 0 (by omega) (by omega) (by omega) (by omega) hk

/-! ### The contracts -/
theorem is_any (c : Int) (A : Option Addr) (cap : Nat) (l : List Int) (w : World) (hl : l.length ≤ 4) (hr : Kd.C (Kd.int .i64) w A l.length l) (hc : l.length ≤ cap) :
    Calls Tryd.prog 80 #[.int .u8 c, .slice A l.length cap] w fun e w' => e = .returned (.bool (l.contains (clsB c))) ∧ Drawn0 w w' :=
  lex_is.calls 6 c A cap l _ w hr hc (pIs c l hl 6 (Nat.le_refl _))
theorem check_any (s : ByteArray) (w : World) (hs : s.size ≤ 140737488351232) :
    Calls Tryd.prog 40 #[.string s] w fun e w' => e = .returned (.tuple #[.int .i64 (chkT s).1, .int .i64 (chkT s).2]) ∧ Below w.heap.size w w' :=
  lex_check.calls (s.size + 9) s _ _ w (pCheck s hs _ (by omega))
theorem run_any (s : ByteArray) (w : World) (hs : s.size ≤ 140737488351232) :
    Calls Tryd.prog 78 #[.string s] w fun e w' => e = .returned (.int .i64 (wlen s : Nat)) ∧ Below w.heap.size w w' :=
  lex_run.calls (s.size + 9) s _ w (pRun s hs _ (by omega))
theorem number_any (s : ByteArray) (w : World) (hs : s.size ≤ 140737488351232) :
    Calls Tryd.prog 81 #[.string s] w fun e w' => e = .returned (.int .i64 (numE s)) ∧ Below w.heap.size w w' :=
  lex_number.calls (s.size + 11) s _ w (pNum s hs _ (by omega))
end Go.Proofs.YtebidpcmcekbgaaDoor.P
namespace Go.Proofs
open Go.Shelf Go.RowKit
def Tryd.lays170_ren : Go.Shelf.Ren := ⟨fun | 170 => 63 | n => n, fun | 70 => 84 | 3 => 3 | 0 => 0 | 72 => 86 | 37 => 77 | 5 => 5 | n => n, fun | n => n⟩
theorem Tryd.lays170 : Go.Proofs.Lays.n170 Tryd.prog Tryd.lays170_ren := {
  mixed := by kernel_rfl
  f170 := Tryd.func63.trans (congrArg some (by kernel_rfl))
  t0 := Tryd.underlying0
  a0 := Tryd.isAgg0
  z0 := Tryd.sizeOf0
  v0 := Tryd.zeroValue0
  t3 := Tryd.underlying3
  a3 := Tryd.isAgg3
  z3 := Tryd.sizeOf3
  v3 := Tryd.zeroValue3
  t37 := Tryd.underlying77
  a37 := Tryd.isAgg77
  z37 := Tryd.sizeOf77
  v37 := Tryd.zeroValue77
  t70 := Tryd.underlying84
  a70 := Tryd.isAgg84
  z70 := Tryd.sizeOf84
  v70 := Tryd.zeroValue84
  t72 := Tryd.underlying86
  a72 := Tryd.isAgg86
  z72 := Tryd.sizeOf86
  v72 := Tryd.zeroValue86 }
def Tryd.lays169_ren : Go.Shelf.Ren := ⟨fun | 169 => 64 | n => n, fun | 70 => 84 | 9 => 9 | 0 => 0 | 72 => 86 | 37 => 77 | 127 => 114 | 3 => 3 | 5 => 5 | n => n, fun | n => n⟩
theorem Tryd.lays169 : Go.Proofs.Lays.n169 Tryd.prog Tryd.lays169_ren := {
  mixed := by kernel_rfl
  f169 := Tryd.func64.trans (congrArg some (by kernel_rfl))
  t0 := Tryd.underlying0
  a0 := Tryd.isAgg0
  z0 := Tryd.sizeOf0
  v0 := Tryd.zeroValue0
  t3 := Tryd.underlying3
  a3 := Tryd.isAgg3
  z3 := Tryd.sizeOf3
  v3 := Tryd.zeroValue3
  t9 := Tryd.underlying9
  a9 := Tryd.isAgg9
  z9 := Tryd.sizeOf9
  v9 := Tryd.zeroValue9
  t37 := Tryd.underlying77
  a37 := Tryd.isAgg77
  z37 := Tryd.sizeOf77
  v37 := Tryd.zeroValue77
  t70 := Tryd.underlying84
  a70 := Tryd.isAgg84
  z70 := Tryd.sizeOf84
  v70 := Tryd.zeroValue84
  t72 := Tryd.underlying86
  a72 := Tryd.isAgg86
  z72 := Tryd.sizeOf86
  v72 := Tryd.zeroValue86
  t127 := Tryd.underlying114
  a127 := Tryd.isAgg114
  z127 := Tryd.sizeOf114
  v127 := Tryd.zeroValue114 }
theorem Tryd.Builder_Extra_169 : Builder.Extra Tryd.prog Tryd.lays169_ren := {
  sizeBuilder := by kernel_rfl
  liesBuilder := by kernel_rfl
  t5 := Tryd.underlying5
  a5 := Tryd.isAgg5
  z5 := Tryd.sizeOf5
  v5 := Tryd.zeroValue5
  infoByte := by kernel_rfl
  cellsByte := by kernel_rfl
  sizeByte := by kernel_rfl
  neB5 := by decide }
def Tryd.lays137_ren : Go.Shelf.Ren := ⟨fun | 137 => 98 | 217 => 116 | 266 => 125 | n => n, fun | 9 => 9 | 5 => 5 | 3 => 3 | n => n, fun | n => n⟩
theorem Tryd.lays137 : Go.Proofs.Lays.n137 Tryd.prog Tryd.lays137_ren := {
  mixed := by kernel_rfl
  f137 := Tryd.func98.trans (congrArg some (by kernel_rfl))
  f217 := Tryd.func116.trans (congrArg some (by kernel_rfl))
  f266 := Tryd.func125.trans (congrArg some (by kernel_rfl))
  t3 := Tryd.underlying3
  a3 := Tryd.isAgg3
  z3 := Tryd.sizeOf3
  v3 := Tryd.zeroValue3
  t5 := Tryd.underlying5
  a5 := Tryd.isAgg5
  z5 := Tryd.sizeOf5
  v5 := Tryd.zeroValue5
  t9 := Tryd.underlying9
  a9 := Tryd.isAgg9
  z9 := Tryd.sizeOf9
  v9 := Tryd.zeroValue9 }
open Go.RowKit in
theorem Tryd.strings_IndexByte (s : ByteArray) (c : Int) (w : World) :
    Calls Tryd.prog 98 #[.string s, .int .u8 c] w fun e w' => e = .returned (.int .i64 (Lib.indexByte s.data.toList c.toNat.toUInt8)) ∧ w' = w := Any.strings_IndexByte Tryd.lays137 s c w
open Go.RowKit in
theorem Tryd.Builder_Len_f (B b : Nat) (bs : List Value) (w : World) (h : Lib.IsBuilderF 86 5 B b bs w) :
    Calls Tryd.prog 63 #[.pointer (some ⟨b, 0, none⟩)] w fun e w' => e = .returned (.int .i64 bs.length) ∧ w' = w := Any.Builder_Len_f Tryd.lays170 B b bs w h
open Go.RowKit in
theorem Tryd.Builder_String_any_k (B b : Nat) (l : List UInt8) (w : World) (h : Lib.IsBuilderF 86 5 B b (Lib.byteCells l) w) (hBw : B ≤ w.heap.size) :
    Calls Tryd.prog 64 #[.pointer (some ⟨b, 0, none⟩)] w fun e w' => e = .returned (.string ⟨l.toArray⟩) ∧ (Lib.IsBuilderF 86 5 B b (Lib.byteCells l) w' ∧ Below B w w' ∧ Lib.OthersKept 5 (some b) w w') := Any.Builder_String_any_k Tryd.lays169 Tryd.Builder_Extra_169 B b l w h hBw
def Tryd.lays219_ren : Go.Shelf.Ren := ⟨fun | 219 => 111 | 217 => 116 | 225 => 121 | 224 => 122 | 267 => 123 | 266 => 125 | 314 => 127 | n => n, fun | 9 => 9 | 3 => 3 | 4 => 4 | 5 => 5 | 46 => 135 | 146 => 128 | 51 => 127 | n => n, fun | 1 => 0 | n => n⟩
theorem Tryd.lays219 : Go.Proofs.Lays.n219 Tryd.prog Tryd.lays219_ren := {
  mixed := by kernel_rfl
  f217 := Tryd.func116.trans (congrArg some (by kernel_rfl))
  f219 := Tryd.func111.trans (congrArg some (by kernel_rfl))
  f224 := Tryd.func122.trans (congrArg some (by kernel_rfl))
  f225 := Tryd.func121.trans (congrArg some (by kernel_rfl))
  f266 := Tryd.func125.trans (congrArg some (by kernel_rfl))
  f267 := Tryd.func123.trans (congrArg some (by kernel_rfl))
  f314 := Tryd.func127.trans (congrArg some (by kernel_rfl))
  t3 := Tryd.underlying3
  a3 := Tryd.isAgg3
  z3 := Tryd.sizeOf3
  v3 := Tryd.zeroValue3
  t4 := Tryd.underlying4
  a4 := Tryd.isAgg4
  z4 := Tryd.sizeOf4
  v4 := Tryd.zeroValue4
  t5 := Tryd.underlying5
  a5 := Tryd.isAgg5
  z5 := Tryd.sizeOf5
  v5 := Tryd.zeroValue5
  t9 := Tryd.underlying9
  a9 := Tryd.isAgg9
  z9 := Tryd.sizeOf9
  v9 := Tryd.zeroValue9
  t46 := Tryd.underlying135
  a46 := Tryd.isAgg135
  z46 := Tryd.sizeOf135
  v46 := Tryd.zeroValue135
  t51 := Tryd.underlying127
  a51 := Tryd.isAgg127
  z51 := Tryd.sizeOf127
  v51 := Tryd.zeroValue127
  t146 := Tryd.underlying128
  a146 := Tryd.isAgg128
  z146 := Tryd.sizeOf128
  v146 := Tryd.zeroValue128
  g1 := by kernel_rfl }
open Go.RowKit Go.Lib in
theorem Tryd.stringslite_Index_one (s : ByteArray) (c : UInt8) (w : World) :
    Calls Tryd.prog 111 #[.string s, .string ⟨#[c]⟩] w fun e w' => e = .returned (.int .i64 (Lib.indexByte s.data.toList c)) ∧ w' = w := Any.stringslite_Index_one Tryd.lays219 s c w
def Tryd.lays143_ren : Go.Shelf.Ren := ⟨fun | 143 => 91 | 219 => 111 | 217 => 116 | 225 => 121 | 224 => 122 | 267 => 123 | 266 => 125 | 314 => 127 | n => n, fun | 9 => 9 | 3 => 3 | 4 => 4 | 5 => 5 | 46 => 135 | 146 => 128 | 51 => 127 | n => n, fun | 1 => 0 | n => n⟩
theorem Tryd.lays143 : Go.Proofs.Lays.n143 Tryd.prog Tryd.lays143_ren := {
  mixed := by kernel_rfl
  f143 := Tryd.func91.trans (congrArg some (by kernel_rfl))
  f217 := Tryd.func116.trans (congrArg some (by kernel_rfl))
  f219 := Tryd.func111.trans (congrArg some (by kernel_rfl))
  f224 := Tryd.func122.trans (congrArg some (by kernel_rfl))
  f225 := Tryd.func121.trans (congrArg some (by kernel_rfl))
  f266 := Tryd.func125.trans (congrArg some (by kernel_rfl))
  f267 := Tryd.func123.trans (congrArg some (by kernel_rfl))
  f314 := Tryd.func127.trans (congrArg some (by kernel_rfl))
  t3 := Tryd.underlying3
  a3 := Tryd.isAgg3
  z3 := Tryd.sizeOf3
  v3 := Tryd.zeroValue3
  t4 := Tryd.underlying4
  a4 := Tryd.isAgg4
  z4 := Tryd.sizeOf4
  v4 := Tryd.zeroValue4
  t5 := Tryd.underlying5
  a5 := Tryd.isAgg5
  z5 := Tryd.sizeOf5
  v5 := Tryd.zeroValue5
  t9 := Tryd.underlying9
  a9 := Tryd.isAgg9
  z9 := Tryd.sizeOf9
  v9 := Tryd.zeroValue9
  t46 := Tryd.underlying135
  a46 := Tryd.isAgg135
  z46 := Tryd.sizeOf135
  v46 := Tryd.zeroValue135
  t51 := Tryd.underlying127
  a51 := Tryd.isAgg127
  z51 := Tryd.sizeOf127
  v51 := Tryd.zeroValue127
  t146 := Tryd.underlying128
  a146 := Tryd.isAgg128
  z146 := Tryd.sizeOf128
  v146 := Tryd.zeroValue128
  g1 := by kernel_rfl }
open Go.RowKit Go.Lib in
theorem Tryd.strings_Index_one (s : ByteArray) (c : UInt8) (w : World) :
    Calls Tryd.prog 91 #[.string s, .string ⟨#[c]⟩] w fun e w' => e = .returned (.int .i64 (Lib.indexByte s.data.toList c)) ∧ w' = w := Any.strings_Index_one Tryd.lays143 s c w
def Tryd.lays138_ren : Go.Shelf.Ren := ⟨fun | 138 => 68 | 195 => 89 | 218 => 90 | 143 => 91 | 219 => 111 | 217 => 116 | 225 => 121 | 224 => 122 | 267 => 123 | 266 => 125 | 314 => 127 | n => n, fun | 9 => 9 | 3 => 3 | 4 => 4 | 5 => 5 | 0 => 0 | 46 => 135 | 146 => 128 | 51 => 127 | n => n, fun | 1 => 0 | n => n⟩
theorem Tryd.lays138 : Go.Proofs.Lays.n138 Tryd.prog Tryd.lays138_ren := {
  mixed := by kernel_rfl
  f138 := Tryd.func68.trans (congrArg some (by kernel_rfl))
  f143 := Tryd.func91.trans (congrArg some (by kernel_rfl))
  f195 := Tryd.func89.trans (congrArg some (by kernel_rfl))
  f217 := Tryd.func116.trans (congrArg some (by kernel_rfl))
  f218 := Tryd.func90.trans (congrArg some (by kernel_rfl))
  f219 := Tryd.func111.trans (congrArg some (by kernel_rfl))
  f224 := Tryd.func122.trans (congrArg some (by kernel_rfl))
  f225 := Tryd.func121.trans (congrArg some (by kernel_rfl))
  f266 := Tryd.func125.trans (congrArg some (by kernel_rfl))
  f267 := Tryd.func123.trans (congrArg some (by kernel_rfl))
  f314 := Tryd.func127.trans (congrArg some (by kernel_rfl))
  t0 := Tryd.underlying0
  a0 := Tryd.isAgg0
  z0 := Tryd.sizeOf0
  v0 := Tryd.zeroValue0
  t3 := Tryd.underlying3
  a3 := Tryd.isAgg3
  z3 := Tryd.sizeOf3
  v3 := Tryd.zeroValue3
  t4 := Tryd.underlying4
  a4 := Tryd.isAgg4
  z4 := Tryd.sizeOf4
  v4 := Tryd.zeroValue4
  t5 := Tryd.underlying5
  a5 := Tryd.isAgg5
  z5 := Tryd.sizeOf5
  v5 := Tryd.zeroValue5
  t9 := Tryd.underlying9
  a9 := Tryd.isAgg9
  z9 := Tryd.sizeOf9
  v9 := Tryd.zeroValue9
  t46 := Tryd.underlying135
  a46 := Tryd.isAgg135
  z46 := Tryd.sizeOf135
  v46 := Tryd.zeroValue135
  t51 := Tryd.underlying127
  a51 := Tryd.isAgg127
  z51 := Tryd.sizeOf127
  v51 := Tryd.zeroValue127
  t146 := Tryd.underlying128
  a146 := Tryd.isAgg128
  z146 := Tryd.sizeOf128
  v146 := Tryd.zeroValue128
  g1 := by kernel_rfl }
open Go.RowKit Go.Lib in
theorem Tryd.strings_Count_one (s : ByteArray) (c : UInt8) (w : World) :
    Calls Tryd.prog 68 #[.string s, .string ⟨#[c]⟩] w fun e w' => e = .returned (.int .i64 (Lib.countByte s.data.toList c)) ∧ w' = w := Any.strings_Count_one Tryd.lays138 s c w
def Tryd.lays148_ren : Go.Shelf.Ren := ⟨fun | 148 => 69 | 222 => 92 | 223 => 93 | 269 => 112 | n => n, fun | 9 => 9 | 3 => 3 | 4 => 4 | 5 => 5 | 146 => 128 | 51 => 127 | 46 => 135 | n => n, fun | n => n⟩
theorem Tryd.lays148 : Go.Proofs.Lays.n148 Tryd.prog Tryd.lays148_ren := {
  mixed := by kernel_rfl
  f148 := Tryd.func69.trans (congrArg some (by kernel_rfl))
  f222 := Tryd.func92.trans (congrArg some (by kernel_rfl))
  f223 := Tryd.func93.trans (congrArg some (by kernel_rfl))
  f269 := Tryd.func112.trans (congrArg some (by kernel_rfl))
  t3 := Tryd.underlying3
  a3 := Tryd.isAgg3
  z3 := Tryd.sizeOf3
  v3 := Tryd.zeroValue3
  t4 := Tryd.underlying4
  a4 := Tryd.isAgg4
  z4 := Tryd.sizeOf4
  v4 := Tryd.zeroValue4
  t5 := Tryd.underlying5
  a5 := Tryd.isAgg5
  z5 := Tryd.sizeOf5
  v5 := Tryd.zeroValue5
  t9 := Tryd.underlying9
  a9 := Tryd.isAgg9
  z9 := Tryd.sizeOf9
  v9 := Tryd.zeroValue9
  t46 := Tryd.underlying135
  a46 := Tryd.isAgg135
  z46 := Tryd.sizeOf135
  v46 := Tryd.zeroValue135
  t51 := Tryd.underlying127
  a51 := Tryd.isAgg127
  z51 := Tryd.sizeOf127
  v51 := Tryd.zeroValue127
  t146 := Tryd.underlying128
  a146 := Tryd.isAgg128
  z146 := Tryd.sizeOf128
  v146 := Tryd.zeroValue128 }
open Go.RowKit Go.Lib in
theorem Tryd.strings_LastIndex (s sub : ByteArray) (hs : s.size < 4611686018427387904) (w : World) :
    Calls Tryd.prog 69 #[.string s, .string sub] w fun e w' => e = .returned (.int .i64 (Lib.lastIndex s.data.toList sub.data.toList)) ∧ w' = w := Any.strings_LastIndex Tryd.lays148 s sub hs w
def Tryd.laysB_ren : Go.Shelf.Ren := ⟨fun | 166 => 62 | 167 => 61 | 240 => 88 | 276 => 110 | n => n, fun | 0 => 0 | 3 => 3 | 4 => 4 | 5 => 5 | 9 => 9 | 20 => 20 | 37 => 77 | 70 => 84 | 72 => 86 | 75 => 89 | 80 => 93 | 164 => 125 | n => n, fun | n => n⟩
theorem Tryd.laysB167 : Go.Proofs.Lays.n167 Tryd.prog Tryd.laysB_ren := {
  mixed := by kernel_rfl
  f167 := Tryd.func61.trans (congrArg some (by kernel_rfl))
  f240 := Tryd.func88.trans (congrArg some (by kernel_rfl))
  f276 := Tryd.func110.trans (congrArg some (by kernel_rfl))
  t0 := Tryd.underlying0
  a0 := Tryd.isAgg0
  z0 := Tryd.sizeOf0
  v0 := Tryd.zeroValue0
  t4 := Tryd.underlying4
  a4 := Tryd.isAgg4
  z4 := Tryd.sizeOf4
  v4 := Tryd.zeroValue4
  t5 := Tryd.underlying5
  a5 := Tryd.isAgg5
  z5 := Tryd.sizeOf5
  v5 := Tryd.zeroValue5
  t9 := Tryd.underlying9
  a9 := Tryd.isAgg9
  z9 := Tryd.sizeOf9
  v9 := Tryd.zeroValue9
  t20 := Tryd.underlying20
  a20 := Tryd.isAgg20
  z20 := Tryd.sizeOf20
  v20 := Tryd.zeroValue20
  t37 := Tryd.underlying77
  a37 := Tryd.isAgg77
  z37 := Tryd.sizeOf77
  v37 := Tryd.zeroValue77
  t70 := Tryd.underlying84
  a70 := Tryd.isAgg84
  z70 := Tryd.sizeOf84
  v70 := Tryd.zeroValue84
  t72 := Tryd.underlying86
  a72 := Tryd.isAgg86
  z72 := Tryd.sizeOf86
  v72 := Tryd.zeroValue86
  t75 := Tryd.underlying89
  a75 := Tryd.isAgg89
  z75 := Tryd.sizeOf89
  v75 := Tryd.zeroValue89
  t164 := Tryd.underlying125
  a164 := Tryd.isAgg125
  z164 := Tryd.sizeOf125
  v164 := Tryd.zeroValue125 }
theorem Tryd.laysB166 : Go.Proofs.Lays.n166 Tryd.prog Tryd.laysB_ren := {
  mixed := by kernel_rfl
  f166 := Tryd.func62.trans (congrArg some (by kernel_rfl))
  f240 := Tryd.func88.trans (congrArg some (by kernel_rfl))
  f276 := Tryd.func110.trans (congrArg some (by kernel_rfl))
  t0 := Tryd.underlying0
  a0 := Tryd.isAgg0
  z0 := Tryd.sizeOf0
  v0 := Tryd.zeroValue0
  t3 := Tryd.underlying3
  a3 := Tryd.isAgg3
  z3 := Tryd.sizeOf3
  v3 := Tryd.zeroValue3
  t4 := Tryd.underlying4
  a4 := Tryd.isAgg4
  z4 := Tryd.sizeOf4
  v4 := Tryd.zeroValue4
  t9 := Tryd.underlying9
  a9 := Tryd.isAgg9
  z9 := Tryd.sizeOf9
  v9 := Tryd.zeroValue9
  t20 := Tryd.underlying20
  a20 := Tryd.isAgg20
  z20 := Tryd.sizeOf20
  v20 := Tryd.zeroValue20
  t37 := Tryd.underlying77
  a37 := Tryd.isAgg77
  z37 := Tryd.sizeOf77
  v37 := Tryd.zeroValue77
  t70 := Tryd.underlying84
  a70 := Tryd.isAgg84
  z70 := Tryd.sizeOf84
  v70 := Tryd.zeroValue84
  t72 := Tryd.underlying86
  a72 := Tryd.isAgg86
  z72 := Tryd.sizeOf86
  v72 := Tryd.zeroValue86
  t75 := Tryd.underlying89
  a75 := Tryd.isAgg89
  z75 := Tryd.sizeOf89
  v75 := Tryd.zeroValue89
  t164 := Tryd.underlying125
  a164 := Tryd.isAgg125
  z164 := Tryd.sizeOf125
  v164 := Tryd.zeroValue125 }
theorem Tryd.Builder_ExtraB : Builder.Extra Tryd.prog Tryd.laysB_ren := {
  sizeBuilder := by kernel_rfl
  liesBuilder := by kernel_rfl
  t5 := Tryd.underlying5
  a5 := Tryd.isAgg5
  z5 := Tryd.sizeOf5
  v5 := Tryd.zeroValue5
  infoByte := by kernel_rfl
  cellsByte := by kernel_rfl
  sizeByte := by kernel_rfl
  neB5 := by decide }
theorem Tryd.Builder_WriteByte_k (B b : Nat) (bs : List Value) (c : Int) (w : World) (h : Lib.IsBuilderF 86 5 B b bs w) (hlen : bs.length + 1 ≤ 140737488355328) (hBw : B ≤ w.heap.size) :
    Calls Tryd.prog 61 #[.pointer (some ⟨b, 0, none⟩), .int .u8 c] w fun e w' => e = .returned .nilIface ∧ (Lib.BuilderAtF 86 5 B b (.pointer (some ⟨b, 0, none⟩)) (bs ++ [.int .u8 c]) w' ∧ Below B w w' ∧ Lib.OthersKept 5 (some b) w w') := Any.Builder_WriteByte_k Tryd.laysB167 Tryd.Builder_ExtraB B b bs c w h hlen hBw
theorem Tryd.Builder_WriteString_k (B b : Nat) (bs : List Value) (s : ByteArray) (w : World) (h : Lib.IsBuilderF 86 5 B b bs w) (hlen : bs.length + s.size ≤ 140737488355328) (hBw : B ≤ w.heap.size) :
    Calls Tryd.prog 62 #[.pointer (some ⟨b, 0, none⟩), .string s] w fun e w' => e = .returned (.tuple #[.int .i64 s.size, .nilIface]) ∧ (Lib.BuilderAtF 86 5 B b (.pointer (some ⟨b, 0, none⟩)) (bs ++ Lib.strCells s) w' ∧ Below B w w' ∧ Lib.OthersKept 5 (some b) w w') := Any.Builder_WriteString_k Tryd.laysB166 Tryd.Builder_ExtraB B b bs s w h hlen hBw
end Go.Proofs
namespace Go.Proofs.YtebidpcmcekbgaaDoor.P
open Go.RowKit Go.Shelf Go.Proofs.YtebidpcmcekbgaaDoorW.PrintWords Go.Proofs.YtebidpcmcekbgaaDoorW.PrintLast Go.Proofs.YtebidpcmcekbgaaDoorW.PrintMore
set_option linter.unusedVariables false
set_option linter.unusedSimpArgs false
theorem pHasPrefix (s p : ByteArray) (hs : s.size ≤ 140737488351232) : strings_HasPrefix.f s p = some (begB s p) := by
  unfold strings_HasPrefix.f stringslite_HasPrefix.f begB
  by_cases c : p.size ≤ s.size
  · rw [if_pos (by omega), if_pos (by omega), if_pos (by omega), decide_eq_true c, Bool.true_and, Bl, Int.toNat_natCast]; rfl
  · rw [if_neg (by omega), decide_eq_false c]; rfl
theorem hasPrefix_any (s p : ByteArray) (w : World) (hs : s.size ≤ 140737488351232) :
    Calls Tryd.prog 97 #[.string s, .string p] w fun e w' => e = .returned (.bool (begB s p)) ∧ Drawn0 w w' :=
  strings_HasPrefix.calls s p _ w (pHasPrefix s p hs)

/-! ### The first line -/
theorem ll_none (s : ByteArray) (h : ∀ k : Nat, k < s.size → bt s (k : Int) ≠ 10) : ∀ f i, s.size - i ≤ f → ll s f i = s.size - i
  | 0, i, hf => by unfold ll; omega
  | f + 1, i, hf => by
    unfold ll
    by_cases c : i < s.size
    · rw [if_pos ⟨c, h i c⟩, ll_none s h f (i + 1) (by omega)]; omega
    · rw [if_neg (fun h2 => c h2.1)]; omega
theorem ll_some (s : ByteArray) (o : Nat) (ho : o < s.size) (hc : bt s (o : Int) = 10) (h : ∀ k : Nat, k < o → bt s (k : Int) ≠ 10) : ∀ f i, s.size - i ≤ f → i ≤ o → ll s f i = o - i
  | 0, i, hf, hi => by omega
  | f + 1, i, hf, hi => by
    unfold ll
    by_cases c : i = o
    · subst c
      rw [if_neg (fun h2 => h2.2 hc)]; omega
    · rw [if_pos ⟨by omega, h i (by omega)⟩, ll_some s o ho hc h f (i + 1) (by omega) (by omega)]; omega
theorem bt_ten (s : ByteArray) (k : Nat) (hk : k < s.size) : bt s (k : Int) = 10 ↔ s.data.toList[k]? = some 10 := by
  have hl : k < s.data.toList.length := by rw [data_length]; exact hk
  rw [bt_list, List.getElem?_eq_getElem hl]
  simp only [Option.getD_some, Option.some.injEq]
  constructor
  · intro h; exact UInt8.toNat_inj.1 (show _ = (10 : UInt8).toNat from by rw [show (10 : UInt8).toNat = 10 from rfl]; omega)
  · intro h; rw [h]; rfl
theorem line_none (s : ByteArray) (h : Lib.indexByte s.data.toList 10 = -1) : ll s s.size 0 = s.size := by
  rw [ll_none s (fun k hk e => Lib.indexByte_none h k ((bt_ten s k hk).1 e)) s.size 0 (by omega)]; omega
theorem line_some (s : ByteArray) (o : Nat) (h : Lib.indexByte s.data.toList 10 = (o : Int)) : o < s.size ∧ ll s s.size 0 = o := by
  obtain ⟨h1, h2⟩ := Lib.indexByte_some h
  have ho : o < s.size := by rw [← data_length]; exact (List.getElem?_eq_some_iff.1 h1).1
  refine ⟨ho, ?_⟩
  rw [ll_some s o ho ((bt_ten s o ho).2 h1) (fun k hk e => h2 k hk ((bt_ten s k (by omega)).1 e)) s.size 0 (by omega) (by omega)]; omega
set_option maxHeartbeats 2000000 in
theorem cut0_any (s : ByteArray) (w : World) (hs : s.size ≤ 140737488351232) :
    Calls Tryd.prog 96 #[.string s, .string ⟨#[10]⟩] w fun e w' => (∃ x y, e = .returned (.tuple #[.string (s.extract 0 (ll s s.size 0)), .string x, .bool y])) ∧ Drawn0 w w' := by
  have hge := Lib.indexByte_ge s.data.toList 10
  by_cases h : Lib.indexByte s.data.toList 10 = -1
  · have hl := line_none s h
    have hc := Tryd.stringslite_Index_one s 10
    rw [h] at hc
    rw [hl, ex_self s s.size (Nat.le_refl _)]
    clear hl h hge
    go_enter Tryd.func96, Tryd.ntmps96
    go_wp2_with (go_at_call 111; refine (hc _).mono ?_; rintro e w' ⟨rfl, rfl⟩)
    go_ret3
    exact ⟨⟨_, _, rfl⟩, ⟨0, rfl⟩⟩
  · obtain ⟨o, ho⟩ : ∃ o : Nat, Lib.indexByte s.data.toList 10 = (o : Int) := ⟨(Lib.indexByte s.data.toList 10).toNat, by omega⟩
    obtain ⟨h1, hl⟩ := line_some s o ho
    have hc := Tryd.stringslite_Index_one s 10
    rw [ho] at hc
    rw [hl]
    clear hl h hge ho
    have c1 : (0 : Int) ≤ (o : Int) := by omega
    have c2 : (o : Int) ≤ (s.size : Int) := by omega
    have c3 : (0 : Int) ≤ (o : Int) + 1 := by omega
    have c4 : (o : Int) + 1 ≤ (s.size : Int) := by omega
    have c5 : IntKind.i64.wrap ((o : Int) + 1) = (o : Int) + 1 := (IntWalk.i64_left _).trans (w64 (by omega) (by omega))
    have c6 : wrap64 ((o : Int) + 1) = (o : Int) + 1 := w64 (by omega) (by omega)
    have mixed : Tryd.prog.follows .mixedOrders = true := by kernel_rfl
    go_enter Tryd.func96, Tryd.ntmps96
    go_wp2_with (go_at_call 111; refine (hc _).mono ?_; rintro e w' ⟨rfl, rfl⟩)
    go_region_o
    go_wp2
    go_ret3
    exact ⟨⟨_, _, rfl⟩, ⟨1, rfl⟩⟩
theorem cut_any (s : ByteArray) (w : World) (hs : s.size ≤ 140737488351232) :
    Calls Tryd.prog 77 #[.string s, .string ⟨#[10]⟩] w fun e w' => (∃ x y, e = .returned (.tuple #[.string (s.extract 0 (ll s s.size 0)), .string x, .bool y])) ∧ Drawn0 w w' := by
  have hc := cut0_any s w hs
  go_enter Tryd.func77, Tryd.ntmps77
  go_wp2_with (go_at_call 96; refine hc.mono ?_; rintro e w' ⟨⟨x, y, rfl⟩, nd⟩)
  go_ret3
  exact ⟨⟨_, _, rfl⟩, nd⟩
def signR (s : ByteArray) : (Int × ByteArray) × Int := match signM s with | some t => ((4, t), 0) | none => ((0, ByteArray.empty), 4)
/-- The signs of one byte, as a text. -/
def sgT : List UInt8 := [61, 60, 43, 45, 42, 33, 40, 41, 123, 125, 44, 59, 58, 46]
theorem indexByte_neg (l : List UInt8) (c : UInt8) : decide (Lib.indexByte l c < 0) = !l.contains c := by
  have hge := Lib.indexByte_ge l c
  by_cases h : Lib.indexByte l c = -1
  · rw [h, decide_eq_true (by decide)]
    have h2 := Lib.indexByte_none h
    cases hc : l.contains c with
    | false => rfl
    | true =>
      obtain ⟨k, hk, e⟩ := List.getElem_of_mem (List.contains_iff_mem.1 hc)
      exact absurd (by rw [List.getElem?_eq_getElem hk, e]) (h2 k)
  · obtain ⟨o, ho⟩ : ∃ o : Nat, Lib.indexByte l c = (o : Int) := ⟨(Lib.indexByte l c).toNat, by omega⟩
    have h2 := (Lib.indexByte_some ho).1
    rw [ho, decide_eq_false (by omega), List.contains_iff_mem.2 (List.mem_of_getElem? h2)]; rfl
set_option maxRecDepth 100000 in
theorem sgT_has (s : ByteArray) : sgT.contains ((bt s 0).toNat.toUInt8) = sgB (bt s 0) := by
  obtain ⟨h0, h1⟩ := bt_range s 0
  unfold sgB sgT
  obtain ⟨n, hn⟩ : ∃ n : Nat, bt s 0 = (n : Int) := ⟨(bt s 0).toNat, by omega⟩
  rw [hn, Int.toNat_natCast]
  have hn2 : n < 256 := by omega
  clear hn h0 h1
  revert n
  decide
theorem signM_two {s : ByteArray} {a b : UInt8} (h : begB s ⟨#[a, b]⟩ = true) : 2 ≤ s.size ∧ bt s 0 = (a.toNat : Int) ∧ bt s 1 = (b.toNat : Int) := by
  rw [beg_two] at h; exact of_decide_eq_true h
theorem signM_not {s : ByteArray} {a b : UInt8} (h : begB s ⟨#[a, b]⟩ = false) : ¬ (2 ≤ s.size ∧ bt s 0 = (a.toNat : Int) ∧ bt s 1 = (b.toNat : Int)) := by
  rw [beg_two] at h; exact of_decide_eq_false h
theorem signR_a (s : ByteArray) (h : begB s ⟨#[58, 61]⟩ = true) : signR s = ((4, ⟨#[58, 61]⟩), 0) := by
  unfold signR signM
  rw [if_pos (show 2 ≤ s.size ∧ bt s 0 = 58 ∧ bt s 1 = 61 from signM_two h)]; rfl
theorem signR_b (s : ByteArray) (h0 : begB s ⟨#[58, 61]⟩ = false) (h : begB s ⟨#[45, 62]⟩ = true) : signR s = ((4, ⟨#[45, 62]⟩), 0) := by
  unfold signR signM
  rw [if_neg (show ¬ (2 ≤ s.size ∧ bt s 0 = 58 ∧ bt s 1 = 61) from signM_not h0), if_pos (show 2 ≤ s.size ∧ bt s 0 = 45 ∧ bt s 1 = 62 from signM_two h)]; rfl
theorem signR_c (s : ByteArray) (h0 : begB s ⟨#[58, 61]⟩ = false) (h : begB s ⟨#[45, 62]⟩ = false) : signR s = if 0 < s.size ∧ sgB (bt s 0) = true then ((4, s.extract 0 1), 0) else ((0, ByteArray.empty), 4) := by
  unfold signR signM
  rw [if_neg (show ¬ (2 ≤ s.size ∧ bt s 0 = 58 ∧ bt s 1 = 61) from signM_not h0), if_neg (show ¬ (2 ≤ s.size ∧ bt s 0 = 45 ∧ bt s 1 = 62) from signM_not h)]
  by_cases c : 0 < s.size ∧ sgB (bt s 0) = true
  · rw [if_pos c, if_pos c]
  · rw [if_neg c, if_neg c]
set_option maxRecDepth 8000 in
set_option maxHeartbeats 4000000 in
theorem sign_any (s : ByteArray) (w : World) (hs : s.size ≤ 140737488351232) :
    Calls Tryd.prog 79 #[.string s] w fun e w' => e = .returned (.tuple #[.agg #[.int .u8 (signR s).1.1, .string (signR s).1.2, .int .i64 0], .int .i64 (signR s).2]) ∧ Below w.heap.size w w' := by
  have hp := Aside0.mk (fun (p : ByteArray) (W : World) => hasPrefix_any s p W hs)
  obtain ⟨R, hR⟩ : ∃ R, signR s = R := ⟨_, rfl⟩
  rw [hR]
  have HR := Aside0.mk hR
  clear hR
  have hx0 : ∀ W : World, (Instr.index 74 (.agg #[.string ⟨#[58, 61]⟩, .string ⟨#[45, 62]⟩]) (.int .i64 0)).run Tryd.prog W = .ok (.string ⟨#[58, 61]⟩) W := fun W => by kernel_rfl
  have hx1 : ∀ W : World, (Instr.index 74 (.agg #[.string ⟨#[58, 61]⟩, .string ⟨#[45, 62]⟩]) (.int .i64 1)).run Tryd.prog W = .ok (.string ⟨#[45, 62]⟩) W := fun W => by kernel_rfl
  go_enter Tryd.func79, Tryd.ntmps79
  go_wp2
  go_loopg [7] 2 (fun gg s7 wr => ∃ i : Int, s7 = .int .i64 i ∧ (0 ≤ i ∧ i ≤ 2) ∧ 2 - i.toNat ≤ gg ∧ Aside0 (1 ≤ i → begB s ⟨#[58, 61]⟩ = false) ∧ Aside0 (2 ≤ i → begB s ⟨#[45, 62]⟩ = false) ∧ Aside0 (Below w.heap.size w wr) ∧ Aside0 (wr.heap[w.heap.size]? = some (.cells #[.int .u8 0, .string ⟨#[]⟩, .int .i64 0] 58 (0, 0))))
  case atStart => exact ⟨0, rfl, by omega, by omega, ⟨fun h => by omega⟩, ⟨fun h => by omega⟩, ⟨(Below.refl _ w).alloc (Nat.le_refl _) _⟩, ⟨heap_alloc_new w _⟩⟩
  case round =>
    obtain ⟨i, rfl, hi, hg, h1, h2, HB, HK⟩ := hrel
    have k0 : wr.cell? ⟨w.heap.size, 0, none⟩ = some (.int .u8 0) := (blk_cell HK.out 0).trans rfl
    have k1 : wr.cell? ⟨w.heap.size, 1, none⟩ = some (.string ⟨#[]⟩) := (blk_cell HK.out 1).trans rfl
    have k2 : wr.cell? ⟨w.heap.size, 2, none⟩ = some (.int .i64 0) := (blk_cell HK.out 2).trans rfl
    have z0 := blk_frozen HK.out 0
    have z1 := blk_frozen HK.out 1
    have z2 := blk_frozen HK.out 2
    obtain rfl | rfl | rfl : i = 0 ∨ i = 1 ∨ i = 2 := by omega
    · cases hb : begB s ⟨#[58, 61]⟩ with
      | true =>
        have hc := hp.out ⟨#[58, 61]⟩ wr
        rw [hb] at hc
        obtain rfl := (signR_a s hb).symm.trans HR.out
        clear hp hb h1 h2 HR
        go_wp2_with (go_at_call 97; refine hc.mono ?_; rintro e w' ⟨rfl, ⟨nd, rfl⟩⟩)
        refine bodyPost_ret (results_ct rfl _ _ w.heap.size 58 #[.int .u8 4, .string ⟨#[58, 61]⟩, .int .i64 0] (0, 0) _ rfl (by (with_reducible repeat (first | refine blk_drewN ?_ _ | refine blk_drew ?_ | refine blk_alloc ?_ _)); refine blk_put (cs := #[.int .u8 4, .string ⟨#[58, 61]⟩, .int .i64 0]) ?_ 2 _ rfl; refine blk_put (cs := #[.int .u8 4, .string ⟨#[]⟩, .int .i64 0]) ?_ 1 _ rfl; refine blk_put (cs := #[.int .u8 0, .string ⟨#[]⟩, .int .i64 0]) ?_ 0 _ rfl; (with_reducible repeat (first | refine blk_drewN ?_ _ | refine blk_drew ?_ | refine blk_alloc ?_ _)); exact HK.out) Tryd.underlying58 rfl (by kernel_rfl)) rfl ?_
        exact ⟨rfl, by repeat (first | (with_reducible first | exact HB.out | apply below_alloc | apply pw_below_drewN | apply below_drew1 | refine below_set ?_ (Nat.le_refl _)) | exact HB.out)⟩
      | false =>
        have hc := hp.out ⟨#[58, 61]⟩ wr
        rw [hb] at hc
        have Hb := Aside0.mk hb
        clear hb
        go_wp2_with (go_at_call 97; refine hc.mono ?_; rintro e w' ⟨rfl, ⟨nd, rfl⟩⟩)
        go_roundg 1
        case measure => omega
        case rel => exact ⟨1, rfl, by omega, by omega, ⟨fun _ => Hb.out⟩, ⟨fun h => by omega⟩, ⟨pw_below_drewN HB.out nd⟩, HK⟩
    · have hA := h1.out (by omega)
      cases hb : begB s ⟨#[45, 62]⟩ with
      | true =>
        have hc := hp.out ⟨#[45, 62]⟩ wr
        rw [hb] at hc
        obtain rfl := (signR_b s hA hb).symm.trans HR.out
        clear hp hb h1 h2 HR hA
        go_wp2_with (go_at_call 97; refine hc.mono ?_; rintro e w' ⟨rfl, ⟨nd, rfl⟩⟩)
        refine bodyPost_ret (results_ct rfl _ _ w.heap.size 58 #[.int .u8 4, .string ⟨#[45, 62]⟩, .int .i64 0] (0, 0) _ rfl (by (with_reducible repeat (first | refine blk_drewN ?_ _ | refine blk_drew ?_ | refine blk_alloc ?_ _)); refine blk_put (cs := #[.int .u8 4, .string ⟨#[45, 62]⟩, .int .i64 0]) ?_ 2 _ rfl; refine blk_put (cs := #[.int .u8 4, .string ⟨#[]⟩, .int .i64 0]) ?_ 1 _ rfl; refine blk_put (cs := #[.int .u8 0, .string ⟨#[]⟩, .int .i64 0]) ?_ 0 _ rfl; (with_reducible repeat (first | refine blk_drewN ?_ _ | refine blk_drew ?_ | refine blk_alloc ?_ _)); exact HK.out) Tryd.underlying58 rfl (by kernel_rfl)) rfl ?_
        exact ⟨rfl, by repeat (first | (with_reducible first | exact HB.out | apply below_alloc | apply pw_below_drewN | apply below_drew1 | refine below_set ?_ (Nat.le_refl _)) | exact HB.out)⟩
      | false =>
        have hc := hp.out ⟨#[45, 62]⟩ wr
        rw [hb] at hc
        have Hb := Aside0.mk hb
        have HA := Aside0.mk hA
        clear hb hA
        go_wp2_with (go_at_call 97; refine hc.mono ?_; rintro e w' ⟨rfl, ⟨nd, rfl⟩⟩)
        go_roundg 0
        case measure => omega
        case rel => exact ⟨2, rfl, by omega, by omega, ⟨fun _ => HA.out⟩, ⟨fun _ => Hb.out⟩, ⟨pw_below_drewN HB.out nd⟩, HK⟩
    · have hA := h1.out (by omega)
      have hB := h2.out (by omega)
      have hR := (signR_c s hA hB).symm.trans HR.out
      clear hp hA hB h1 h2 HR
      by_cases c : s.size = 0
      · rw [if_neg (by omega)] at hR
        subst hR
        obtain rfl : s = ByteArray.empty := ba_ext (List.length_eq_zero_iff.1 (by rw [data_length]; exact c))
        go_wp2
        refine bodyPost_ret (results_ct rfl _ _ w.heap.size 58 #[.int .u8 0, .string ⟨#[]⟩, .int .i64 0] (0, 0) _ rfl (by (with_reducible repeat (first | refine blk_drewN ?_ _ | refine blk_drew ?_ | refine blk_alloc ?_ _)); refine blk_put (cs := #[.int .u8 0, .string ⟨#[]⟩, .int .i64 0]) ?_ 2 _ rfl; refine blk_put (cs := #[.int .u8 0, .string ⟨#[]⟩, .int .i64 0]) ?_ 1 _ rfl; refine blk_put (cs := #[.int .u8 0, .string ⟨#[]⟩, .int .i64 0]) ?_ 0 _ rfl; (with_reducible repeat (first | refine blk_drewN ?_ _ | refine blk_drew ?_ | refine blk_alloc ?_ _)); exact HK.out) Tryd.underlying58 rfl (by kernel_rfl)) rfl ?_
        exact ⟨rfl, by repeat (first | (with_reducible first | exact HB.out | apply below_alloc | apply pw_below_drewN | apply below_drew1 | refine below_set ?_ (Nat.le_refl _)) | exact HB.out)⟩
      · have hix := Tryd.strings_IndexByte ⟨#[61, 60, 43, 45, 42, 33, 40, 41, 123, 125, 44, 59, 58, 46]⟩ (bt s 0)
        have hin := indexByte_neg sgT (bt s 0).toNat.toUInt8
        rw [sgT_has] at hin
        have hlt : (0 : Int) < (s.size : Int) := by omega
        have hne : s.toList ≠ [] := fun h => c ((toList_nil_iff s).1 h)
        have hb0 : ∀ h : 0 < s.size, ((s[0]'h).toNat : Int) = bt s 0 := fun h => bt_at s 0 h
        have e1 : (⟨#[61, 60, 43, 45, 42, 33, 40, 41, 123, 125, 44, 59, 58, 46]⟩ : ByteArray).data.toList = sgT := rfl
        rw [e1] at hix
        generalize Lib.indexByte sgT (bt s 0).toNat.toUInt8 = z at hix hin
        have hnb : (s.toList == ([] : List UInt8)) = false := beq_false_of_ne hne
        have hn1 : (0 : Int) ≤ 1 ∧ (1 : Int) ≤ (s.size : Int) := by omega
        have hn2 : (1 : Int) ≤ (s.size : Int) := by omega
        cases hsg : sgB (bt s 0) with
        | false =>
          rw [hsg] at hin
          rw [if_neg (by rw [hsg]; simp)] at hR
          subst hR
          have hz : decide (z < 0) = true := hin
          have Hin := Aside0.mk hin
          clear hin hsg
          go_wp2_with (go_at_call 98; refine (hix _).mono ?_; rintro e w' ⟨rfl, rfl⟩)
          refine bodyPost_ret (results_ct rfl _ _ w.heap.size 58 #[.int .u8 0, .string ⟨#[]⟩, .int .i64 0] (0, 0) _ rfl (by (with_reducible repeat (first | refine blk_drewN ?_ _ | refine blk_drew ?_ | refine blk_alloc ?_ _)); refine blk_put (cs := #[.int .u8 0, .string ⟨#[]⟩, .int .i64 0]) ?_ 2 _ rfl; refine blk_put (cs := #[.int .u8 0, .string ⟨#[]⟩, .int .i64 0]) ?_ 1 _ rfl; refine blk_put (cs := #[.int .u8 0, .string ⟨#[]⟩, .int .i64 0]) ?_ 0 _ rfl; (with_reducible repeat (first | refine blk_drewN ?_ _ | refine blk_drew ?_ | refine blk_alloc ?_ _)); exact HK.out) Tryd.underlying58 rfl (by kernel_rfl)) rfl ?_
          exact ⟨rfl, by repeat (first | (with_reducible first | exact HB.out | apply below_alloc | apply pw_below_drewN | apply below_drew1 | refine below_set ?_ (Nat.le_refl _)) | exact HB.out)⟩
        | true =>
          rw [hsg] at hin
          rw [if_pos ⟨by omega, hsg⟩] at hR
          subst hR
          have hz : decide (z < 0) = false := hin
          have Hin := Aside0.mk hin
          clear hin hsg
          go_wp2_with (go_at_call 98; refine (hix _).mono ?_; rintro e w' ⟨rfl, rfl⟩)
          refine bodyPost_ret (results_ct rfl _ _ w.heap.size 58 #[.int .u8 4, .string (s.extract 0 1), .int .i64 0] (0, 0) _ rfl (by (with_reducible repeat (first | refine blk_drewN ?_ _ | refine blk_drew ?_ | refine blk_alloc ?_ _)); refine blk_put (cs := #[.int .u8 4, .string (s.extract 0 1), .int .i64 0]) ?_ 2 _ rfl; refine blk_put (cs := #[.int .u8 4, .string ⟨#[]⟩, .int .i64 0]) ?_ 1 _ rfl; refine blk_put (cs := #[.int .u8 0, .string ⟨#[]⟩, .int .i64 0]) ?_ 0 _ rfl; (with_reducible repeat (first | refine blk_drewN ?_ _ | refine blk_drew ?_ | refine blk_alloc ?_ _)); exact HK.out) Tryd.underlying58 rfl (by kernel_rfl)) rfl ?_
          exact ⟨rfl, by repeat (first | (with_reducible first | exact HB.out | apply below_alloc | apply pw_below_drewN | apply below_drew1 | refine below_set ?_ (Nat.le_refl _)) | exact HB.out)⟩
end Go.Proofs.YtebidpcmcekbgaaDoor.P
namespace Go.Proofs.YtebidpcmcekbgaaDoor.P
open Go.RowKit Go.Shelf

/-- All frames are let in. -/
abbrev FW (rd : Option Nat) : Fence := { fn := fun _ => True, depth := none, alive := false, round := rd }

/-- A call of a function value, by what is known of it: it returns, and R tells what. -/
def VCall (P : Program) (y : Value) (args : Array Value) (W : World) (R : Value → World → Prop) : Prop :=
  ∀ (rd : Option Nat) (n : Nat) (o : Oper) (a : Act) (next : Act → World → Prop) (Q : Exit → Act → World → Prop) (c : Call) (s : Operand), o.op = .call c → c.callee = .value s → a.eval s = y → c.args.map a.eval = args →
    (∀ v W', R v W' → next (a.put o.dst v) W') → Oper.wpIn (FW rd) n P o a W next Q

theorem VCall.mono {P : Program} {y : Value} {args : Array Value} {W : World} {R R' : Value → World → Prop} (h : VCall P y args W R) (hr : ∀ v W', R v W' → R' v W') : VCall P y args W R' :=
  fun rd n o a next Q c s h1 h2 h3 h4 h5 => h rd n o a next Q c s h1 h2 h3 h4 (fun v W' hv => h5 v W' (hr v W' hv))

theorem VCall.of_calls {P : Program} {g : Nat} {bs lb args : Array Value} {W : World} {R : Value → World → Prop} (eg : ∀ args w, (callFunc g args).run P w = .ok (.enter g args) w)
    (h : Calls P g (bs ++ args ++ lb) W fun e W' => ∃ v, e = .returned v ∧ R v W') : VCall P (.func (.func g) bs lb) args W R := by
  intro rd n o a next Q c s h1 h2 h3 h4 h5
  refine ⟨fun _ _ => trivial, ?_⟩
  have hc : ∀ x, o.op ≠ .defer x := by rw [h1]; intro x e; cases e
  rw [Oper.semAt_eq _ _ _ hc]
  have hr : (resolve a.eval c o.type).run P W = .ok { target := .fn (.func g) lb, args := bs ++ args } W := by
    simp only [resolve, h2, h3, h4]
    simp [go_sem, Deferred.ofValue]
  have hx : (execOp a.eval o).run P W = .ok (.enter g (bs ++ args ++ lb)) W := by
    simp only [execOp, h1]
    rw [Sem.run_bind, hr]
    simp only [Result.andThen, invoke]
    exact eg _ _
  rw [hx]
  refine ⟨fun h => by simp at h, ?_⟩
  have hw : CallsIn (FW none) (n - 1) P g (bs ++ args ++ lb) W fun e W' => ∃ v, e = .returned v ∧ R v W' := callsIn_wide.2 h
  refine CallsIn.mono (R := fun e W' => ∃ v, e = .returned v ∧ R v W') ?_ ?_
  · cases rd with
    | none => exact hw
    | some l => exact CallsIn.inRound l hw
  · rintro e W' ⟨v, rfl, hv⟩
    exact h5 v W' hv

theorem VCall.of_yield {P : Program} {l : Nat} {args : Array Value} {W : World} {R : Value → World → Prop}
    (h : ∀ rd n, ∃ fn tmps assign body, (Instr.yield l args).run P W = .ok (.round l fn tmps assign body) W ∧ RoundIn (FW rd) n P l fn tmps assign body W fun e W' => ∃ v, e = .returned v ∧ R v W') : VCall P (.func (.yield l) #[] #[]) args W R := by
  intro rd n o a next Q c s h1 h2 h3 h4 h5
  obtain ⟨fn, tmps, assign, body, hy, hR⟩ := h rd (n - 1)
  refine ⟨fun _ _ => trivial, ?_⟩
  have hc : ∀ x, o.op ≠ .defer x := by rw [h1]; intro x e; cases e
  rw [Oper.semAt_eq _ _ _ hc]
  have hr : (resolve a.eval c o.type).run P W = .ok { target := .fn (.yield l) #[], args := args } W := by
    simp only [resolve, h2, h3, h4]
    simp [go_sem, Deferred.ofValue]
  have hx : (execOp a.eval o).run P W = .ok (.round l fn tmps assign body) W := by
    simp only [execOp, h1]
    rw [Sem.run_bind, hr]
    simp only [Result.andThen, invoke]
    exact hy
  rw [hx]
  refine ⟨fun h => by simp at h, ?_⟩
  refine hR.mono ?_
  rintro e W' ⟨v, rfl, hv⟩
  exact h5 v W' hv

theorem wpListIn_vcall {rd : Option Nat} {n : Nat} {P : Program} {ops : Array Oper} {Q : Exit → Act → World → Prop} {rest : List Oper} {o : Oper} {a : Act} {w : World}
    (y : Value) (args : Array Value) (R : Value → World → Prop) (c : Call) (s : Operand) (hw : Region.wanted o (yielded ops a.tmps) = true) (ho : o.op = .call c) (hc : c.callee = .value s) (hs : a.eval s = y) (hargs : c.args.toList.map a.eval = args.toList)
    (hv : VCall P y args w R) (h : ∀ v w', R v w' → wpListIn (FW rd) n P ops Q rest (a.put o.dst v) w') : wpListIn (FW rd) n P ops Q (o :: rest) a w := by
  simp only [wpListIn, hw, if_true]
  exact hv rd n o a _ Q c s ho hc hs (Array.toList_inj.1 (by rw [Array.toList_map]; exact hargs)) h

theorem gateIn {F : Fence} {n : Nat} {P : Program} {ops : Array Oper} {Q : Exit → Act → World → Prop} {rest : List Oper} {o : Oper} {a : Act} {w : World} {N : Tmp} (_hN : o.dst = some N) (h : wpListIn F n P ops Q (o :: rest) a w) : wpListIn F n P ops Q (o :: rest) a w := h

/-- What happens between two rounds: blocks below b, and cells, stand (but ex, which are the iterator's); there may be new ones. -/
def St (b : Nat) (ex : Nat → Prop) (W W' : World) : Prop := (W'.os = W.os ∧ W'.tape = W.tape ∧ W'.output = W.output ∧ W.heap.size ≤ W'.heap.size) ∧ ∀ k o, W.heap[k]? = some o → ¬ ex k → (k < b ∨ o.isCells = true) → W'.heap[k]? = some o
/-- What a round keeps: all blocks below n₀, ex, and from b on what is no cells, or cells of types ty. -/
def Keeps (n₀ b : Nat) (ex : Nat → Prop) (ty : TypeId → Prop) (W W' : World) : Prop := (W'.os = W.os ∧ W'.tape = W.tape ∧ W'.output = W.output ∧ W.heap.size ≤ W'.heap.size) ∧ ∀ k o, W.heap[k]? = some o → (k < n₀ ∨ ex k ∨ (b ≤ k ∧ ∀ cs t f, o = .cells cs t f → ty t)) → W'.heap[k]? = some o

section
variable {n n' b b' : Nat} {ex : Nat → Prop} {ty : TypeId → Prop} {A B C W : World}
theorem St.mono (hb : b ≤ b') (h : St b' ex A B) : St b ex A B := ⟨h.1, fun i o hi hx ho => h.2 i o hi hx (ho.imp (fun h => by omega) id)⟩
theorem St.of_below (h : Below A.heap.size A B) : St b ex A B := ⟨⟨h.os, h.tape, h.output, h.size⟩, fun i _ hi _ _ => (h.block i (Array.getElem?_eq_some_iff.1 hi).1).trans hi⟩
theorem Keeps.refl (n b : Nat) (ex : Nat → Prop) (ty : TypeId → Prop) (W : World) : Keeps n b ex ty W W := ⟨⟨rfl, rfl, rfl, Nat.le_refl _⟩, fun _ _ h _ => h⟩
theorem Keeps.trans (h : Keeps n b ex ty A B) (k : Keeps n b ex ty B C) : Keeps n b ex ty A C := ⟨⟨k.1.1.trans h.1.1, k.1.2.1.trans h.1.2.1, k.1.2.2.1.trans h.1.2.2.1, Nat.le_trans h.1.2.2.2 k.1.2.2.2⟩, fun i o hi ho => k.2 i o (h.2 i o hi ho) ho⟩
theorem Keeps.of_below (h : Below A.heap.size A B) : Keeps n b ex ty A B := ⟨⟨h.os, h.tape, h.output, h.size⟩, fun i _ hi _ => (h.block i (Array.getElem?_eq_some_iff.1 hi).1).trans hi⟩
theorem St.putObj {r : Nat} {o : Obj} (o' : Obj) (h : W.heap[r]? = some o) (hc : o.isCells = false) (hb : b ≤ r) : St b ex W (W.putObj r o') := by
  refine ⟨⟨rfl, rfl, rfl, by simp⟩, fun k x hk _ ho => ?_⟩
  by_cases e : k = r
  · subst e
    rw [h] at hk
    cases hk
    rcases ho with ho | ho
    · omega
    · rw [hc] at ho; cases ho
  · exact (World.putObj_heap_other e).trans hk
theorem Keeps.putObj {r : Nat} (o' : Obj) (hn : n ≤ r) (hb : r < b) (hx : ¬ ex r) : Keeps n b ex ty W (W.putObj r o') := by
  refine ⟨⟨rfl, rfl, rfl, by simp⟩, fun k x hk ho => ?_⟩
  by_cases e : k = r
  · subst e
    rcases ho with ho | ho | ho
    · omega
    · exact (hx ho).elim
    · omega
  · exact (World.putObj_heap_other e).trans hk
end

theorem St.below {n b : Nat} {ex : Nat → Prop} {w0 A B : World} (h : St b ex A B) (hb : Below n w0 A) (hn : n ≤ b) (hx : ∀ k, ex k → n ≤ k) (hs : n ≤ A.heap.size) : Below n w0 B :=
  hb.trans ⟨h.1.1, h.1.2.1, h.1.2.2.1, h.1.2.2.2, fun k hk => by
    have hlt : k < A.heap.size := by omega
    exact (h.2 k _ (Array.getElem?_eq_getElem hlt) (fun hx' => by have := hx k hx'; omega) (.inl (by omega))).trans (Array.getElem?_eq_getElem hlt).symm⟩
theorem Keeps.below {n b : Nat} {ex : Nat → Prop} {ty : TypeId → Prop} {w0 A B : World} (h : Keeps n b ex ty A B) (hb : Below n w0 A) (hs : n ≤ A.heap.size) : Below n w0 B :=
  hb.trans ⟨h.1.1, h.1.2.1, h.1.2.2.1, h.1.2.2.2, fun k hk => by
    have hlt : k < A.heap.size := by omega
    exact (h.2 k _ (Array.getElem?_eq_getElem hlt) (.inl hk)).trans (Array.getElem?_eq_getElem hlt).symm⟩
theorem Keeps.setCell {n b : Nat} {own : Nat → Prop} {ty : TypeId → Prop} {A W : World} {g j : Nat} (h : Keeps n b own ty A W) (v : Value) (hn : n ≤ g) (hb : g < b) (hx : ¬ own g) : Keeps n b own ty A (W.setCell ⟨g, j, none⟩ v) :=
  h.trans ⟨⟨rfl, rfl, rfl, by simp [World.setCell]⟩, fun k o hk ho => by
    have hne : k ≠ g := by
      rintro rfl
      rcases ho with ho | ho | ho
      · omega
      · exact hx ho
      · omega
    exact (Below.heap_setCell W ⟨g, j, none⟩ v k hne).trans hk⟩
theorem St.blk {b g : Nat} {ex : Nat → Prop} {A B : World} {cs : Array Value} {t : TypeId} {f : Nat × Nat} (h : St b ex A B) (hg : A.heap[g]? = some (.cells cs t f)) (hx : ¬ ex g) : B.heap[g]? = some (.cells cs t f) := h.2 g _ hg hx (.inr rfl)

/-- AN ITERATOR THAT GIVES A KNOWN LIST: function gf, called with 'args y' where y is yield. J i: i elements have been given; Jx i: the one that is number i has been given, and none is wanted more. n₀: below it lies what the iterator reads; wr: what it writes; own: what it reads or writes besides; ty: the types of its own variables. -/
def Gives (P : Program) (gf : Nat) (args : Value → Array Value) {α : Type} (encs : α → Array Value) (L : List α) (n₀ : Nat) (w0 : World) (wr own : Nat → Prop) (ty : TypeId → Prop) (Pre : World → Prop) : Prop :=
  ∀ (y : Value) (J Jx : Nat → World → Prop) (W : World), (∃ fn bs lb, y = .func fn bs lb) → Below n₀ w0 W → n₀ ≤ W.heap.size → Pre W →
    (∀ i W1 W2, J i W1 → St W.heap.size wr W1 W2 → J i W2) → (∀ i W1 W2, Jx i W1 → St W.heap.size wr W1 W2 → Jx i W2) →
    (∀ i x W1, L[i]? = some x → J i W1 → W.heap.size ≤ W1.heap.size → VCall P y (encs x) W1 fun v W' => (v = .bool true ∧ J (i + 1) W' ∧ Keeps n₀ W.heap.size own ty W1 W') ∨ (v = .bool false ∧ Jx i W' ∧ Keeps n₀ W.heap.size own ty W1 W')) →
    J 0 W → Calls P gf (args y) W fun e W' => (∃ v, e = .returned v) ∧ W.heap.size ≤ W'.heap.size ∧ (J L.length W' ∨ ∃ i, i < L.length ∧ Jx i W')


/-- HOW THE BODY OF A ROUND MAY BE LEFT. -/
def rPost (n₀ b : Nat) (own : Nat → Prop) (ty : TypeId → Prop) (I : Nat → World → Prop) (Ix : Code → Nat → World → Prop) (i : Nat) (W : World) : Exit → Act → World → Prop
  | .normal, _, W' => Keeps n₀ b own ty W W' ∧ I (i + 1) W'
  | .ret, _, W' => Keeps n₀ b own ty W W' ∧ Ix .ret i W'
  | .exit id, _, W' => Keeps n₀ b own ty W W' ∧ Ix (.exit id) i W'
  | .goto t, _, W' => Keeps n₀ b own ty W W' ∧ Ix (.goto t) i W'
  | .panic _, _, _ => False
  | .outgrown, _, _ => False

/-- 'for .. := range g { .. }' over an iterator that gives a known list, outside of other rounds. -/
theorem wp_range {P : Program} {α : Type} {g : Operand} {ps : Array Tmp} {assign body : Code} {Q : Exit → Act → World → Prop} {a : Act} {w : World} {n : Nat}
    {gf : Nat} {bs lb : Array Value} (hg : a.eval g = .func (.func gf) bs lb) (eg : ∀ args w, (callFunc gf args).run P w = .ok (.enter gf args) w)
    {encs : α → Array Value} {L : List α} {n₀ : Nat} {w0 : World} {wr own : Nat → Prop} {ty : TypeId → Prop} {Pre : World → Prop}
    (hG : Gives P gf (fun y => bs ++ #[y] ++ lb) encs L n₀ w0 wr own ty Pre) (hb0 : Below n₀ w0 w) (hn : n₀ ≤ w.heap.size) (hwr : ∀ k, wr k → k < w.heap.size) (hown : ∀ k, own k → k < w.heap.size)
    (hPre : ∀ W, Below w.heap.size w W → Pre W) (hps : ∀ x, (encs x).size = ps.size)
    (I : Nat → World → Prop) (Ix : Code → Nat → World → Prop) (hI : ∀ i W1 W2, I i W1 → St w.heap.size wr W1 W2 → I i W2) (hIx : ∀ c i W1 W2, Ix c i W1 → St w.heap.size wr W1 W2 → Ix c i W2) (h0 : I 0 w)
    (Ax : Nat → Act → World → Prop) (hAx : ∀ i a₁ W1 W2, Ax i a₁ W1 → St w.heap.size wr W1 W2 → Ax i a₁ W2)
    (hassign : ∀ (n l i : Nat) (x : α) (W : World) (K : Act → World → Prop), L[i]? = some x → I i W → w.heap.size ≤ W.heap.size → (∀ a₁ W₁, Below W.heap.size W W₁ → Ax i a₁ W₁ → K a₁ W₁) →
      assign.wpIn (FW (some l)) n P (Exit.then K (fun _ _ _ => False)) { tmps := (ps.zip (encs x)).foldl (fun t (p, v) => t.setIfInBounds p v) a.tmps, defers := [] } W)
    (hbody : ∀ (n l i : Nat) (x : α) (a₁ : Act) (W : World), L[i]? = some x → I i W → Ax i a₁ W → w.heap.size ≤ W.heap.size → body.wpIn (FW (some l)) n P (rPost n₀ w.heap.size own ty I Ix i W) a₁ W)
    (hdone : ∀ (D : Nat) (W : World), w.heap.size ≤ W.heap.size → I L.length W → W.heap[D]? = some (.deferred (some [])) → w.heap.size ≤ D → Q .normal { a with defers := { target := .collected D, args := #[] } :: a.defers } W)
    (hstop : ∀ (D : Nat) (c : Code) (i : Nat) (W : World), w.heap.size ≤ W.heap.size → i < L.length → Ix c i W → W.heap[D]? = some (.deferred (some [])) → w.heap.size ≤ D → c.wpIn (FW none) n P Q { a with defers := { target := .collected D, args := #[] } :: a.defers } W) :
    (Code.rangeFunc g ps assign body).wpIn (FW none) n P Q a w := by
  refine wpIn_rangeFunc ?_
  intro fn hfn
  obtain ⟨rec, hrec⟩ : ∃ rec : LoopState → Option Code → Loop, rec = fun st pe => { state := st, pending := pe, fn, tmps := a.tmps, params := ps, assign, body, defers := w.heap.size } := ⟨_, rfl⟩
  obtain ⟨W1, hW1⟩ : ∃ W1, (w.alloc (.deferred (some []))).alloc (.loop (rec .ready none)) = W1 := ⟨_, rfl⟩
  have hb1w : Below w.heap.size w W1 := by rw [← hW1]; exact ((Below.refl _ w).alloc (Nat.le_refl _) _).alloc (by simp) _
  have hL1 : W1.heap[w.heap.size + 1]? = some (.loop (rec .ready none)) := by
    rw [← hW1]; have := World.alloc_heap_new (w.alloc (.deferred (some []))) (.loop (rec .ready none)); rwa [World.size_alloc] at this
  have hK1 : W1.heap[w.heap.size]? = some (.deferred (some [])) := by
    rw [← hW1]; exact (Below.heap_alloc _ _ _ (by simp)).trans (World.alloc_heap_new w _)
  have hsz1 : W1.heap.size = w.heap.size + 2 := by rw [← hW1]; simp
  have hI1 : I 0 W1 := hI 0 _ _ h0 (St.of_below hb1w)
  refine ⟨w.heap.size + 1, [{ target := .collected w.heap.size, args := #[] }], W1, { target := .fn (.func gf) lb, args := bs ++ #[.func (.yield (w.heap.size + 1)) #[] #[]] }, W1, gf,
    bs ++ #[.func (.yield (w.heap.size + 1)) #[] #[]] ++ lb, W1, ?_, ?_, fun _ _ => trivial, ?_, fun h => by simp at h, ?_⟩
  · rw [← hW1, hrec]; exact run_enterLoop_outer _ _ _ _ _
  · simp only [resolve, hg]
    simp [go_sem, Deferred.ofValue]
  · simp only [invoke]; exact eg _ _
  · have hcall := hG (.func (.yield (w.heap.size + 1)) #[] #[])
      (fun i W => I i W ∧ W.heap[w.heap.size + 1]? = some (.loop (rec .ready none)) ∧ W.heap[w.heap.size]? = some (.deferred (some [])))
      (fun i W => ∃ c, Ix c i W ∧ W.heap[w.heap.size + 1]? = some (.loop (rec .done (some c))) ∧ W.heap[w.heap.size]? = some (.deferred (some [])))
      W1 ⟨_, _, _, rfl⟩ (hb0.trans (hb1w.mono hn)) (by omega) (hPre _ hb1w)
      (fun i A B h hs => ⟨hI i A B h.1 (hs.mono (by omega)), hs.2 _ _ h.2.1 (fun h => by have := hwr _ h; omega) (.inl (by omega)), hs.2 _ _ h.2.2 (fun h => by have := hwr _ h; omega) (.inl (by omega))⟩)
      (fun i A B h hs => by
        obtain ⟨c, h1, h2, h3⟩ := h
        exact ⟨c, hIx c i A B h1 (hs.mono (by omega)), hs.2 _ _ h2 (fun h => by have := hwr _ h; omega) (.inl (by omega)), hs.2 _ _ h3 (fun h => by have := hwr _ h; omega) (.inl (by omega))⟩)
      ?_ ⟨hI1, hL1, hK1⟩
    · refine (CallsIn.mono (callsIn_wide (n := n - 1).2 hcall) ?_ : CallsIn (FW none) (n - 1) P gf _ W1 _)
      rintro e W2 ⟨⟨v, rfl⟩, hsz, (⟨hi, hl, hk⟩ | ⟨i, hlt, c, hi, hl, hk⟩)⟩
      · have hl' : w.heap.size + 1 < W2.heap.size := (Array.getElem?_eq_some_iff.1 hl).1
        refine ⟨none, _, by have := run_endLoop (P := P) hl (by rw [hrec]; simp); rw [hrec] at this; exact this, ?_⟩
        exact hdone _ _ (by simp; omega) (hI _ _ _ hi (St.putObj _ hl rfl (by omega))) ((World.putObj_heap_other (by omega)).trans hk) (Nat.le_refl _)
      · have hl' : w.heap.size + 1 < W2.heap.size := (Array.getElem?_eq_some_iff.1 hl).1
        refine ⟨some c, _, by have := run_endLoop (P := P) hl (by rw [hrec]; simp); rw [hrec] at this; exact this, ?_⟩
        exact hstop _ c i _ (by simp; omega) hlt (hIx _ _ _ _ hi (St.putObj _ hl rfl (by omega))) ((World.putObj_heap_other (by omega)).trans hk) (Nat.le_refl _)
    · -- ONE ROUND
      rintro i x W hx ⟨hi, hl, hk⟩ hle
      refine VCall.of_yield (fun rd n' => ?_)
      have hlt : w.heap.size + 1 < W.heap.size := (Array.getElem?_eq_some_iff.1 hl).1
      have hy := run_yield (P := P) (args := encs x) hl (by rw [hrec]; exact hps x)
      rw [hrec] at hy
      refine ⟨fn, _, assign, body, hy, roundIn_of_wpIn (F := FW rd) trivial ?_⟩
      refine hassign n' (w.heap.size + 1) i x W _ hx hi (by omega) ?_
      intro a₁ Wa hba hax
      have hla : Wa.heap[w.heap.size + 1]? = some (.loop (rec .ready none)) := (hba.block _ hlt).trans hl
      have hka : Wa.heap[w.heap.size]? = some (.deferred (some [])) := (hba.block _ (by omega)).trans hk
      refine ⟨_, run_beginRound hla (by rw [hrec]), ?_⟩
      have hxl : ¬ own (w.heap.size + 1) := fun h => by have := hown _ h; omega
      have hl2 : (Wa.putObj (w.heap.size + 1) (.loop { rec .ready none with state := .busy })).heap[w.heap.size + 1]? = some (.loop { rec .ready none with state := .busy }) := World.putObj_heap_same (Array.getElem?_eq_some_iff.1 hla).1
      have hk2 : (Wa.putObj (w.heap.size + 1) (.loop { rec .ready none with state := .busy })).heap[w.heap.size]? = some (.deferred (some [])) := (World.putObj_heap_other (by omega)).trans hka
      have hst2 : St w.heap.size wr Wa (Wa.putObj (w.heap.size + 1) (.loop { rec .ready none with state := .busy })) := St.putObj _ hla rfl (by omega)
      have hsa : W.heap.size ≤ Wa.heap.size := hba.size
      have hkeep : ∀ o' : Obj, ∀ W3 : World, Keeps n₀ w.heap.size own ty (Wa.putObj (w.heap.size + 1) (.loop { rec .ready none with state := .busy })) W3 → Keeps n₀ W1.heap.size own ty W (W3.putObj (w.heap.size + 1) o') := by
        intro o' W3 h3
        have s1 : Keeps n₀ W1.heap.size own ty W Wa := Keeps.of_below hba
        have s2 : Keeps n₀ W1.heap.size own ty Wa (Wa.putObj (w.heap.size + 1) (.loop { rec .ready none with state := .busy })) := Keeps.putObj _ (by omega) (by omega) hxl
        have s4 : Keeps n₀ W1.heap.size own ty W3 (W3.putObj (w.heap.size + 1) o') := Keeps.putObj _ (by omega) (by omega) hxl
        exact s1.trans (s2.trans (Keeps.trans ⟨h3.1, fun k o hk ho => h3.2 k o hk (ho.imp id (Or.imp id (And.imp (fun h => by omega) id)))⟩ s4))
      refine wpIn_mono (hbody n' (w.heap.size + 1) i x a₁ _ hx (hI _ _ _ (hI _ _ _ hi (St.of_below hba)) hst2) (hAx _ _ _ _ hax hst2) (by simp; omega)) ?_
      have fin : ∀ (jump : Option Code) (W3 : World), Keeps n₀ w.heap.size own ty (Wa.putObj (w.heap.size + 1) (.loop { rec .ready none with state := .busy })) W3 →
          (Instr.endRound (w.heap.size + 1) jump).run P W3 = .ok (.bool jump.isNone) (W3.putObj (w.heap.size + 1) (.loop (rec (if jump.isNone then .ready else .done) jump))) ∧
          W3.heap[w.heap.size + 1]? = some (.loop { rec .ready none with state := .busy }) ∧
          (W3.putObj (w.heap.size + 1) (.loop (rec (if jump.isNone then .ready else .done) jump))).heap[w.heap.size + 1]? = some (.loop (rec (if jump.isNone then .ready else .done) jump)) ∧
          (W3.putObj (w.heap.size + 1) (.loop (rec (if jump.isNone then .ready else .done) jump))).heap[w.heap.size]? = some (.deferred (some [])) := fun jump W3 hk3 => by
        have hl3 := hk3.2 _ _ hl2 (.inr (.inr ⟨by omega, by intro _ _ _ e; cases e⟩))
        have hd3 := hk3.2 _ _ hk2 (.inr (.inr ⟨by omega, by intro _ _ _ e; cases e⟩))
        have := run_endRound (P := P) jump hl3
        rw [hrec] at this ⊢
        exact ⟨this, by rw [hrec] at hl3; exact hl3, World.putObj_heap_same (Array.getElem?_eq_some_iff.1 hl3).1, (World.putObj_heap_other (by omega)).trans hd3⟩
      rintro e a3 W3 hp
      cases e with
      | normal =>
        obtain ⟨hk3, hi3⟩ := hp
        obtain ⟨hr, hl3, hl4, hk4⟩ := fin none W3 hk3
        exact ⟨_, _, hr, _, rfl, .inl ⟨rfl, ⟨hI _ _ _ hi3 (St.putObj _ hl3 rfl (by omega)), hl4, hk4⟩, hkeep _ _ hk3⟩⟩
      | ret =>
        obtain ⟨hk3, hi3⟩ := hp
        obtain ⟨hr, hl3, hl4, hk4⟩ := fin (some .ret) W3 hk3
        exact ⟨_, _, hr, _, rfl, .inr ⟨rfl, ⟨.ret, hIx _ _ _ _ hi3 (St.putObj _ hl3 rfl (by omega)), hl4, hk4⟩, hkeep _ _ hk3⟩⟩
      | exit id =>
        obtain ⟨hk3, hi3⟩ := hp
        obtain ⟨hr, hl3, hl4, hk4⟩ := fin (some (.exit id)) W3 hk3
        exact ⟨_, _, hr, _, rfl, .inr ⟨rfl, ⟨.exit id, hIx _ _ _ _ hi3 (St.putObj _ hl3 rfl (by omega)), hl4, hk4⟩, hkeep _ _ hk3⟩⟩
      | goto t =>
        obtain ⟨hk3, hi3⟩ := hp
        obtain ⟨hr, hl3, hl4, hk4⟩ := fin (some (.goto t)) W3 hk3
        exact ⟨_, _, hr, _, rfl, .inr ⟨rfl, ⟨.goto t, hIx _ _ _ _ hi3 (St.putObj _ hl3 rfl (by omega)), hl4, hk4⟩, hkeep _ _ hk3⟩⟩
      | panic ch => exact hp.elim
      | outgrown => exact hp.elim

theorem leavesM1 {F : Fence} {n : Nat} {P : Program} {fn : Func} {tmps : Array Value} {R : Ending → World → Prop} {w : World} {v : Value} {D : Nat} (hD : w.heap[D]? = some (.deferred (some [])))
    (hr : (results fn tmps).run P (w.putObj D (.deferred none)) = .ok v (w.putObj D (.deferred none))) (h : R (.returned v) (w.putObj D (.deferred none))) :
    LeavesInM F n P fn tmps R [{ target := .collected D, args := #[] }] .returning w := ⟨by simp, .inl ⟨_, _, rfl, run_takeDeferred hD, ⟨v, hr, h⟩⟩⟩


/-- AN ITERATOR THAT GIVES A KNOWN LIST AND ASKS fd BEHIND SOME OF ITS ELEMENTS (tok; encd: what it hands to fd, vald: what it wants back): function gf, called with 'args y' where y is yield. J i: i elements have been given; Jx i: the one that is number i has been given, and none is wanted more. n₀: below it lies what the iterator reads; wr: what it writes; own: what it reads or writes besides; ty: the types of its own variables. -/
def GivesD (P : Program) (gf : Nat) (args : Value → Array Value) {α : Type} (encs : α → Array Value) (L : List α) (fd : Value) (tok : α → Bool) (encd : α → Array Value) (vald : α → Value) (n₀ : Nat) (w0 : World) (wr own : Nat → Prop) (ty : TypeId → Prop) (Pre : World → Prop) : Prop :=
  ∀ (y : Value) (J Jx : Nat → World → Prop) (W : World), (∃ fn bs lb, y = .func fn bs lb) → Below n₀ w0 W → n₀ ≤ W.heap.size → Pre W →
    (∀ i W1 W2, J i W1 → St W.heap.size wr W1 W2 → J i W2) → (∀ i W1 W2, Jx i W1 → St W.heap.size wr W1 W2 → Jx i W2) →
    (∀ i x W1, L[i]? = some x → J i W1 → W.heap.size ≤ W1.heap.size → VCall P y (encs x) W1 fun v W' => (v = .bool true ∧ J (i + 1) W' ∧ Keeps n₀ W.heap.size own ty W1 W') ∨ (v = .bool false ∧ Jx i W' ∧ Keeps n₀ W.heap.size own ty W1 W')) →
    (∀ i x W1, L[i]? = some x → tok x = true → J (i + 1) W1 → W.heap.size ≤ W1.heap.size → VCall P fd (encd x) W1 fun v W' => v = vald x ∧ J (i + 1) W' ∧ Keeps n₀ W.heap.size own ty W1 W') →
    J 0 W → Calls P gf (args y) W fun e W' => (∃ v, e = .returned v) ∧ W.heap.size ≤ W'.heap.size ∧ (J L.length W' ∨ ∃ i, i < L.length ∧ Jx i W')

/-- 'for .. := range g { .. }' over such an iterator, outside of other rounds. -/
theorem wp_rangeD {P : Program} {α : Type} {g : Operand} {ps : Array Tmp} {assign body : Code} {Q : Exit → Act → World → Prop} {a : Act} {w : World} {n : Nat}
    {gf : Nat} {bs lb : Array Value} (hg : a.eval g = .func (.func gf) bs lb) (eg : ∀ args w, (callFunc gf args).run P w = .ok (.enter gf args) w)
    {encs : α → Array Value} {L : List α} {fd : Value} {tok : α → Bool} {encd : α → Array Value} {vald : α → Value} {n₀ : Nat} {w0 : World} {wr own : Nat → Prop} {ty : TypeId → Prop} {Pre : World → Prop}
    (hG : GivesD P gf (fun y => bs ++ #[y] ++ lb) encs L fd tok encd vald n₀ w0 wr own ty Pre) (hb0 : Below n₀ w0 w) (hn : n₀ ≤ w.heap.size) (hwr : ∀ k, wr k → k < w.heap.size) (hown : ∀ k, own k → k < w.heap.size)
    (hPre : ∀ W, Below w.heap.size w W → Pre W) (hps : ∀ x, (encs x).size = ps.size)
    (I : Nat → World → Prop) (Ix : Code → Nat → World → Prop) (hI : ∀ i W1 W2, I i W1 → St w.heap.size wr W1 W2 → I i W2) (hIx : ∀ c i W1 W2, Ix c i W1 → St w.heap.size wr W1 W2 → Ix c i W2) (h0 : I 0 w)
    (Ax : Nat → Act → World → Prop) (hAx : ∀ i a₁ W1 W2, Ax i a₁ W1 → St w.heap.size wr W1 W2 → Ax i a₁ W2)
    (hassign : ∀ (n l i : Nat) (x : α) (W : World) (K : Act → World → Prop), L[i]? = some x → I i W → w.heap.size ≤ W.heap.size → (∀ a₁ W₁, Below W.heap.size W W₁ → Ax i a₁ W₁ → K a₁ W₁) →
      assign.wpIn (FW (some l)) n P (Exit.then K (fun _ _ _ => False)) { tmps := (ps.zip (encs x)).foldl (fun t (p, v) => t.setIfInBounds p v) a.tmps, defers := [] } W)
    (hbody : ∀ (n l i : Nat) (x : α) (a₁ : Act) (W : World), L[i]? = some x → I i W → Ax i a₁ W → w.heap.size ≤ W.heap.size → body.wpIn (FW (some l)) n P (rPost n₀ w.heap.size own ty I Ix i W) a₁ W)
    (hask : ∀ (i : Nat) (x : α) (W : World), L[i]? = some x → tok x = true → I (i + 1) W → w.heap.size ≤ W.heap.size → VCall P fd (encd x) W fun v W' => v = vald x ∧ I (i + 1) W' ∧ Keeps n₀ w.heap.size own ty W W')
    (hdone : ∀ (D : Nat) (W : World), w.heap.size ≤ W.heap.size → I L.length W → W.heap[D]? = some (.deferred (some [])) → w.heap.size ≤ D → Q .normal { a with defers := { target := .collected D, args := #[] } :: a.defers } W)
    (hstop : ∀ (D : Nat) (c : Code) (i : Nat) (W : World), w.heap.size ≤ W.heap.size → i < L.length → Ix c i W → W.heap[D]? = some (.deferred (some [])) → w.heap.size ≤ D → c.wpIn (FW none) n P Q { a with defers := { target := .collected D, args := #[] } :: a.defers } W) :
    (Code.rangeFunc g ps assign body).wpIn (FW none) n P Q a w := by
  refine wpIn_rangeFunc ?_
  intro fn hfn
  obtain ⟨rec, hrec⟩ : ∃ rec : LoopState → Option Code → Loop, rec = fun st pe => { state := st, pending := pe, fn, tmps := a.tmps, params := ps, assign, body, defers := w.heap.size } := ⟨_, rfl⟩
  obtain ⟨W1, hW1⟩ : ∃ W1, (w.alloc (.deferred (some []))).alloc (.loop (rec .ready none)) = W1 := ⟨_, rfl⟩
  have hb1w : Below w.heap.size w W1 := by rw [← hW1]; exact ((Below.refl _ w).alloc (Nat.le_refl _) _).alloc (by simp) _
  have hL1 : W1.heap[w.heap.size + 1]? = some (.loop (rec .ready none)) := by
    rw [← hW1]; have := World.alloc_heap_new (w.alloc (.deferred (some []))) (.loop (rec .ready none)); rwa [World.size_alloc] at this
  have hK1 : W1.heap[w.heap.size]? = some (.deferred (some [])) := by
    rw [← hW1]; exact (Below.heap_alloc _ _ _ (by simp)).trans (World.alloc_heap_new w _)
  have hsz1 : W1.heap.size = w.heap.size + 2 := by rw [← hW1]; simp
  have hI1 : I 0 W1 := hI 0 _ _ h0 (St.of_below hb1w)
  refine ⟨w.heap.size + 1, [{ target := .collected w.heap.size, args := #[] }], W1, { target := .fn (.func gf) lb, args := bs ++ #[.func (.yield (w.heap.size + 1)) #[] #[]] }, W1, gf,
    bs ++ #[.func (.yield (w.heap.size + 1)) #[] #[]] ++ lb, W1, ?_, ?_, fun _ _ => trivial, ?_, fun h => by simp at h, ?_⟩
  · rw [← hW1, hrec]; exact run_enterLoop_outer _ _ _ _ _
  · simp only [resolve, hg]
    simp [go_sem, Deferred.ofValue]
  · simp only [invoke]; exact eg _ _
  · have hcall := hG (.func (.yield (w.heap.size + 1)) #[] #[])
      (fun i W => I i W ∧ W.heap[w.heap.size + 1]? = some (.loop (rec .ready none)) ∧ W.heap[w.heap.size]? = some (.deferred (some [])))
      (fun i W => ∃ c, Ix c i W ∧ W.heap[w.heap.size + 1]? = some (.loop (rec .done (some c))) ∧ W.heap[w.heap.size]? = some (.deferred (some [])))
      W1 ⟨_, _, _, rfl⟩ (hb0.trans (hb1w.mono hn)) (by omega) (hPre _ hb1w)
      (fun i A B h hs => ⟨hI i A B h.1 (hs.mono (by omega)), hs.2 _ _ h.2.1 (fun h => by have := hwr _ h; omega) (.inl (by omega)), hs.2 _ _ h.2.2 (fun h => by have := hwr _ h; omega) (.inl (by omega))⟩)
      (fun i A B h hs => by
        obtain ⟨c, h1, h2, h3⟩ := h
        exact ⟨c, hIx c i A B h1 (hs.mono (by omega)), hs.2 _ _ h2 (fun h => by have := hwr _ h; omega) (.inl (by omega)), hs.2 _ _ h3 (fun h => by have := hwr _ h; omega) (.inl (by omega))⟩)
      ?_ ?_ ⟨hI1, hL1, hK1⟩
    · refine (CallsIn.mono (callsIn_wide (n := n - 1).2 hcall) ?_ : CallsIn (FW none) (n - 1) P gf _ W1 _)
      rintro e W2 ⟨⟨v, rfl⟩, hsz, (⟨hi, hl, hk⟩ | ⟨i, hlt, c, hi, hl, hk⟩)⟩
      · have hl' : w.heap.size + 1 < W2.heap.size := (Array.getElem?_eq_some_iff.1 hl).1
        refine ⟨none, _, by have := run_endLoop (P := P) hl (by rw [hrec]; simp); rw [hrec] at this; exact this, ?_⟩
        exact hdone _ _ (by simp; omega) (hI _ _ _ hi (St.putObj _ hl rfl (by omega))) ((World.putObj_heap_other (by omega)).trans hk) (Nat.le_refl _)
      · have hl' : w.heap.size + 1 < W2.heap.size := (Array.getElem?_eq_some_iff.1 hl).1
        refine ⟨some c, _, by have := run_endLoop (P := P) hl (by rw [hrec]; simp); rw [hrec] at this; exact this, ?_⟩
        exact hstop _ c i _ (by simp; omega) hlt (hIx _ _ _ _ hi (St.putObj _ hl rfl (by omega))) ((World.putObj_heap_other (by omega)).trans hk) (Nat.le_refl _)
    · -- ONE ROUND
      rintro i x W hx ⟨hi, hl, hk⟩ hle
      refine VCall.of_yield (fun rd n' => ?_)
      have hlt : w.heap.size + 1 < W.heap.size := (Array.getElem?_eq_some_iff.1 hl).1
      have hy := run_yield (P := P) (args := encs x) hl (by rw [hrec]; exact hps x)
      rw [hrec] at hy
      refine ⟨fn, _, assign, body, hy, roundIn_of_wpIn (F := FW rd) trivial ?_⟩
      refine hassign n' (w.heap.size + 1) i x W _ hx hi (by omega) ?_
      intro a₁ Wa hba hax
      have hla : Wa.heap[w.heap.size + 1]? = some (.loop (rec .ready none)) := (hba.block _ hlt).trans hl
      have hka : Wa.heap[w.heap.size]? = some (.deferred (some [])) := (hba.block _ (by omega)).trans hk
      refine ⟨_, run_beginRound hla (by rw [hrec]), ?_⟩
      have hxl : ¬ own (w.heap.size + 1) := fun h => by have := hown _ h; omega
      have hl2 : (Wa.putObj (w.heap.size + 1) (.loop { rec .ready none with state := .busy })).heap[w.heap.size + 1]? = some (.loop { rec .ready none with state := .busy }) := World.putObj_heap_same (Array.getElem?_eq_some_iff.1 hla).1
      have hk2 : (Wa.putObj (w.heap.size + 1) (.loop { rec .ready none with state := .busy })).heap[w.heap.size]? = some (.deferred (some [])) := (World.putObj_heap_other (by omega)).trans hka
      have hst2 : St w.heap.size wr Wa (Wa.putObj (w.heap.size + 1) (.loop { rec .ready none with state := .busy })) := St.putObj _ hla rfl (by omega)
      have hsa : W.heap.size ≤ Wa.heap.size := hba.size
      have hkeep : ∀ o' : Obj, ∀ W3 : World, Keeps n₀ w.heap.size own ty (Wa.putObj (w.heap.size + 1) (.loop { rec .ready none with state := .busy })) W3 → Keeps n₀ W1.heap.size own ty W (W3.putObj (w.heap.size + 1) o') := by
        intro o' W3 h3
        have s1 : Keeps n₀ W1.heap.size own ty W Wa := Keeps.of_below hba
        have s2 : Keeps n₀ W1.heap.size own ty Wa (Wa.putObj (w.heap.size + 1) (.loop { rec .ready none with state := .busy })) := Keeps.putObj _ (by omega) (by omega) hxl
        have s4 : Keeps n₀ W1.heap.size own ty W3 (W3.putObj (w.heap.size + 1) o') := Keeps.putObj _ (by omega) (by omega) hxl
        exact s1.trans (s2.trans (Keeps.trans ⟨h3.1, fun k o hk ho => h3.2 k o hk (ho.imp id (Or.imp id (And.imp (fun h => by omega) id)))⟩ s4))
      refine wpIn_mono (hbody n' (w.heap.size + 1) i x a₁ _ hx (hI _ _ _ (hI _ _ _ hi (St.of_below hba)) hst2) (hAx _ _ _ _ hax hst2) (by simp; omega)) ?_
      have fin : ∀ (jump : Option Code) (W3 : World), Keeps n₀ w.heap.size own ty (Wa.putObj (w.heap.size + 1) (.loop { rec .ready none with state := .busy })) W3 →
          (Instr.endRound (w.heap.size + 1) jump).run P W3 = .ok (.bool jump.isNone) (W3.putObj (w.heap.size + 1) (.loop (rec (if jump.isNone then .ready else .done) jump))) ∧
          W3.heap[w.heap.size + 1]? = some (.loop { rec .ready none with state := .busy }) ∧
          (W3.putObj (w.heap.size + 1) (.loop (rec (if jump.isNone then .ready else .done) jump))).heap[w.heap.size + 1]? = some (.loop (rec (if jump.isNone then .ready else .done) jump)) ∧
          (W3.putObj (w.heap.size + 1) (.loop (rec (if jump.isNone then .ready else .done) jump))).heap[w.heap.size]? = some (.deferred (some [])) := fun jump W3 hk3 => by
        have hl3 := hk3.2 _ _ hl2 (.inr (.inr ⟨by omega, by intro _ _ _ e; cases e⟩))
        have hd3 := hk3.2 _ _ hk2 (.inr (.inr ⟨by omega, by intro _ _ _ e; cases e⟩))
        have := run_endRound (P := P) jump hl3
        rw [hrec] at this ⊢
        exact ⟨this, by rw [hrec] at hl3; exact hl3, World.putObj_heap_same (Array.getElem?_eq_some_iff.1 hl3).1, (World.putObj_heap_other (by omega)).trans hd3⟩
      rintro e a3 W3 hp
      cases e with
      | normal =>
        obtain ⟨hk3, hi3⟩ := hp
        obtain ⟨hr, hl3, hl4, hk4⟩ := fin none W3 hk3
        exact ⟨_, _, hr, _, rfl, .inl ⟨rfl, ⟨hI _ _ _ hi3 (St.putObj _ hl3 rfl (by omega)), hl4, hk4⟩, hkeep _ _ hk3⟩⟩
      | ret =>
        obtain ⟨hk3, hi3⟩ := hp
        obtain ⟨hr, hl3, hl4, hk4⟩ := fin (some .ret) W3 hk3
        exact ⟨_, _, hr, _, rfl, .inr ⟨rfl, ⟨.ret, hIx _ _ _ _ hi3 (St.putObj _ hl3 rfl (by omega)), hl4, hk4⟩, hkeep _ _ hk3⟩⟩
      | exit id =>
        obtain ⟨hk3, hi3⟩ := hp
        obtain ⟨hr, hl3, hl4, hk4⟩ := fin (some (.exit id)) W3 hk3
        exact ⟨_, _, hr, _, rfl, .inr ⟨rfl, ⟨.exit id, hIx _ _ _ _ hi3 (St.putObj _ hl3 rfl (by omega)), hl4, hk4⟩, hkeep _ _ hk3⟩⟩
      | goto t =>
        obtain ⟨hk3, hi3⟩ := hp
        obtain ⟨hr, hl3, hl4, hk4⟩ := fin (some (.goto t)) W3 hk3
        exact ⟨_, _, hr, _, rfl, .inr ⟨rfl, ⟨.goto t, hIx _ _ _ _ hi3 (St.putObj _ hl3 rfl (by omega)), hl4, hk4⟩, hkeep _ _ hk3⟩⟩
      | panic ch => exact hp.elim
      | outgrown => exact hp.elim
    · -- WHAT fd IS ASKED
      rintro i x W hx ht ⟨hi, hl, hk⟩ hle
      refine (hask i x W hx ht hi (by omega)).mono ?_
      rintro v W' ⟨hv, hi', hkp⟩
      have hl3 := hkp.2 _ _ hl (.inr (.inr ⟨by omega, by intro _ _ _ e; cases e⟩))
      have hd3 := hkp.2 _ _ hk (.inr (.inr ⟨by omega, by intro _ _ _ e; cases e⟩))
      exact ⟨hv, ⟨hi', hl3, hd3⟩, hkp.1, fun k o hk ho => hkp.2 k o hk (ho.imp id (Or.imp id (And.imp (fun h => by omega) id)))⟩

end Go.Proofs.YtebidpcmcekbgaaDoor.P
namespace Go.Proofs.YtebidpcmcekbgaaDoor.P
open Go.RowKit Go.Shelf Go.Proofs.YtebidpcmcekbgaaDoorW.PrintWords Go.Proofs.YtebidpcmcekbgaaDoorW.PrintLast Go.Proofs.YtebidpcmcekbgaaDoorW.PrintMore
attribute [local go_sem] Oper.semAt_some
set_option linter.unusedVariables false
set_option linter.unusedSimpArgs false
theorem drop_at {α : Type} {L : List α} {m : Nat} {x : α} {r : List α} (h : L.drop m = x :: r) : L[m]? = some x := by
  have h1 : (L.drop m)[0]? = some x := by rw [h]; rfl
  rw [List.getElem?_drop] at h1
  simpa using h1
theorem drop_next {α : Type} {L : List α} {i : Nat} {x : α} {r : List α} (h : L.drop i = x :: r) : L.drop (i + 1) = r := by
  rw [← List.drop_drop, h]; rfl
def encS (x : ByteArray) : Array Value := #[.string x]
/-- The library's table of the bytes that are white space. -/
def aspB (c : Int) : Bool := decide (c = 32) || (decide (9 ≤ c) && decide (c ≤ 13))
def Gl (w : World) : Prop := ∀ c : Nat, c < 256 → w.cell? ⟨1, c, none⟩ = some (.int .u8 (if aspB (c : Int) = true then 1 else 0))
theorem Gl.below {n : Nat} {w w' : World} (h : Gl w) (hn : 1 < n) (hb : Below n w w') : Gl w' := fun c hc => (hb.cell (p := ⟨1, c, none⟩) hn).trans (h c hc)
theorem Gl.lt {w : World} (h : Gl w) : 1 < w.heap.size := World.block_lt_of_cell? w _ (h 0 (by decide))
theorem Gl.mono {w w' : World} (h : Gl w) (hb : Below w.heap.size w w') : Gl w' := h.below h.lt hb
/-- The fields of a text, from a place on; st: where the field began in which it is. -/
def flds (s : ByteArray) : Nat → Int → Nat → List ByteArray
  | 0, st, i => if 0 ≤ st then [s.extract st.toNat s.size] else []
  | f + 1, st, i => if aspB (bt s (i : Int)) = true then (if 0 ≤ st then s.extract st.toNat i :: flds s f (-1) (i + 1) else flds s f st (i + 1)) else if st < 0 then flds s f (i : Int) (i + 1) else flds s f st (i + 1)
set_option maxRecDepth 8000 in
set_option maxHeartbeats 4000000 in
theorem fields1_gives {n₀ : Nat} {w0 : World} (bs : Nat) (s : ByteArray) (hg : Gl w0) (hn : 1 < n₀) (hA : ∀ k : Nat, k < s.size → bt s (k : Int) < 128) (hs : s.size ≤ 140737488351232) :
    Gives Tryd.prog 118 (fun y => #[] ++ #[y] ++ #[.pointer (some ⟨bs, 0, none⟩)]) encS (flds s s.size (-1) 0) n₀ w0 (fun _ => False) (fun k => k = bs) (fun _ => False) (fun W => W.heap[bs]? = some (.cells #[.string s] 9 (0, 0))) := by
  intro y J Jx W _ hB hn0 hpre hJ hJx hY h0
  refine (callsIn_wide (n := 9)).1 ?_
  show CallsIn (FW none) 9 Tryd.prog 118 #[y, .pointer (some ⟨bs, 0, none⟩)] W _
  generalize hL : flds s s.size (-1) 0 = L at *
  have HJ := Aside0.mk hJ
  have HY := Aside0.mk hY
  have H0 := Aside0.mk h0
  have HB0 := Aside0.mk hB
  have HP := Aside0.mk hpre
  have HG := Aside0.mk hg
  have HA := Aside0.mk hA
  have HL := Aside0.mk hL
  have HN := Aside0.mk hn
  clear hJ hJx hY h0 hB hpre hg hA hL hn
  gi_enter Tryd.func118, Tryd.ntmps118
  gi_wp2
  gi_loopg [3, 4] s.size (fun gg s3 s4 wr => ∃ (i m : Nat) (st : Int), s3 = .int .i64 st ∧ s4 = .int .i64 i ∧ i ≤ s.size ∧ s.size - i = gg ∧ Aside0 (-1 ≤ st ∧ st ≤ i) ∧ Aside0 (L.drop m = flds s gg st i) ∧ m ≤ L.length ∧ Aside0 (J m wr) ∧ Aside0 (Below n₀ w0 wr) ∧ Aside0 (wr.heap[bs]? = some (.cells #[.string s] 9 (0, 0))) ∧ W.heap.size ≤ wr.heap.size)
  case atStart => exact ⟨0, 0, -1, rfl, rfl, Nat.zero_le _, by omega, ⟨by omega⟩, ⟨HL.out.symm⟩, Nat.zero_le _, H0, HB0, HP, Nat.le_refl _⟩
  case round =>
    obtain ⟨i, m, st, rfl, rfl, hi, hg, HST, HD, hm, HJi, HB, HK, hsz⟩ := hrel
    have k0 : wr.cell? ⟨bs, 0, none⟩ = some (.string s) := (blk_cell HK.out 0).trans rfl
    have hst := HST.out
    by_cases hlt : i < s.size
    · obtain ⟨gk, rfl⟩ : ∃ m, gk = m + 1 := ⟨gk - 1, by omega⟩
      have hltz : (i : Int) < (s.size : Int) := by omega
      have h0i : (0 : Int) ≤ (i : Int) := by omega
      obtain ⟨q0, q1⟩ := bt_range s (i : Int)
      have q2 := HA.out i hlt
      have hbt := bt_at s (i : Int)
      rw [Int.toNat_natCast] at hbt
      have hasp := (HG.out.below HN.out HB.out) (bt s (i : Int)).toNat (by omega)
      rw [Int.toNat_of_nonneg q0] at hasp
      have HD0 := HD.out
      unfold flds at HD0
      generalize hq : bt s (i : Int) = q at *
      have g128 : decide (128 ≤ q) = false := decide_eq_false (by omega)
      have cv : IntKind.i32.wrap q = q := by rw [IntKind.wrap_i32]; omega
      have cv2 : wrap32 q = q := by unfold wrap32; omega
      have q3 : q < 256 := by omega
      cases ha : aspB q with
      | true =>
        rw [ha, if_pos rfl] at hasp
        rw [if_pos ha] at HD0
        by_cases hs0 : 0 ≤ st
        · have gst : decide (0 ≤ st) = true := decide_eq_true hs0
          rw [if_pos hs0] at HD0
          have hL1 := drop_at HD0
          have HD1 := Aside0.mk (drop_next HD0)
          have HST1 := Aside0.mk hst
          have hml := (List.getElem?_eq_some_iff.1 hL1).1
          have hc1 : st ≤ (i : Int) := hst.2
          have hc2 : (i : Int) ≤ (s.size : Int) := by omega
          have HQ := Aside0.mk hq
          have HV := Aside0.mk (HY.out m _ _ hL1 HJi.out hsz)
          clear HD0 hL1 HD hst hq ha
          gi_wp2_with ((with_reducible refine gateIn (N := 41) rfl ?_); refine wpListIn_vcall y (encS (s.extract st.toNat i)) _ _ _ rfl rfl rfl rfl rfl HV.out ?_)
          rintro v w4 (⟨rfl, hj4, hk4⟩ | ⟨rfl, hj4, hk4⟩)
          · have HB4 := Aside0.mk (hk4.below HB.out (by omega))
            have HK4 := Aside0.mk (hk4.2 _ _ HK.out (.inr (.inl rfl)))
            have hs4 : wr.heap.size ≤ w4.heap.size := hk4.1.2.2.2
            have HJ4 := Aside0.mk hj4
            clear hj4 hk4 k0 hasp hbt HV
            gi_wp2
            gi_roundg gk
            case measure => omega
            case rel => exact ⟨i + 1, m + 1, -1, rfl, by go_num, by omega, by omega, ⟨by omega⟩, HD1, by omega, HJ4, HB4, HK4, by omega⟩
          · have hs4 : wr.heap.size ≤ w4.heap.size := hk4.1.2.2.2
            gi_wp2
            refine bodyPost_ret (results_none rfl _ _ _) rfl ?_
            exact ⟨⟨_, rfl⟩, by omega, .inr ⟨m, hml, hj4⟩⟩
        · have gst : decide (0 ≤ st) = false := decide_eq_false hs0
          rw [if_neg hs0] at HD0
          obtain rfl : st = -1 := by omega
          have HD1 := Aside0.mk HD0
          clear HD0 HD hst hq ha hs0
          gi_wp2
          gi_roundg gk
          case measure => omega
          case rel => exact ⟨i + 1, m, -1, rfl, by go_num, by omega, by omega, ⟨by omega⟩, HD1, by omega, HJi, HB, HK, by omega⟩
      | false =>
        rw [ha, if_neg (by decide)] at hasp
        rw [if_neg (by rw [ha]; decide)] at HD0
        by_cases hs0 : st < 0
        · have gst : decide (st < 0) = true := decide_eq_true hs0
          rw [if_pos hs0] at HD0
          have HD1 := Aside0.mk HD0
          clear HD0 HD hst hq ha
          gi_wp2
          gi_roundg gk
          case measure => omega
          case rel => exact ⟨i + 1, m, (i : Int), rfl, by go_num, by omega, by omega, ⟨by omega⟩, HD1, by omega, HJi, HB, HK, by omega⟩
        · have gst : decide (st < 0) = false := decide_eq_false hs0
          rw [if_neg hs0] at HD0
          have HD1 := Aside0.mk HD0
          clear HD0 HD hq ha
          gi_wp2
          gi_roundg gk
          case measure => omega
          case rel => exact ⟨i + 1, m, st, rfl, by go_num, by omega, by omega, ⟨by omega⟩, HD1, by omega, HJi, HB, HK, by omega⟩
    · have hlt2 : decide ((i : Int) < (s.size : Int)) = false := decide_eq_false (by omega)
      have hlt3 : decide (i < s.size) = false := decide_eq_false hlt
      obtain rfl : gk = 0 := by omega
      have HD0 := HD.out
      unfold flds at HD0
      by_cases hs0 : 0 ≤ st
      · have gst : decide (0 ≤ st) = true := decide_eq_true hs0
        rw [if_pos hs0] at HD0
        have hL1 := drop_at HD0
        have hml := (List.getElem?_eq_some_iff.1 hL1).1
        have hE := List.drop_eq_nil_iff.1 (drop_next HD0)
        have hc1 : st ≤ (s.size : Int) := by omega
        have HV := Aside0.mk (HY.out m _ _ hL1 HJi.out hsz)
        clear HD0 hL1 HD hst
        gi_wp2_with ((with_reducible refine gateIn (N := 55) rfl ?_); refine wpListIn_vcall y (encS (s.extract st.toNat s.size)) _ _ _ rfl rfl rfl rfl rfl HV.out ?_)
        rintro v w4 (⟨rfl, hj4, hk4⟩ | ⟨rfl, hj4, hk4⟩)
        · have hs4 : wr.heap.size ≤ w4.heap.size := hk4.1.2.2.2
          gi_wp2
          refine bodyPost_end (results_none rfl _ _ _) rfl ?_
          exact ⟨⟨_, rfl⟩, by omega, .inl (by rw [show L.length = m + 1 by omega]; exact hj4)⟩
        · have hs4 : wr.heap.size ≤ w4.heap.size := hk4.1.2.2.2
          gi_wp2
          refine bodyPost_end (results_none rfl _ _ _) rfl ?_
          exact ⟨⟨_, rfl⟩, by omega, .inr ⟨m, hml, hj4⟩⟩
      · have gst : decide (0 ≤ st) = false := decide_eq_false hs0
        rw [if_neg hs0] at HD0
        have hE := List.drop_eq_nil_iff.1 HD0
        clear HD0 HD hst
        gi_wp2
        refine bodyPost_end (results_none rfl _ _ _) rfl ?_
        exact ⟨⟨_, rfl⟩, by omega, .inl (by rw [show L.length = m by omega]; exact HJi.out)⟩
end Go.Proofs.YtebidpcmcekbgaaDoor.P
namespace Go.Proofs.YtebidpcmcekbgaaDoor.P
open Go Go.RowKit Go.Maps
set_option linter.unusedVariables false
def kS (x : ByteArray) : Lit := .string x.data.toList
/-- The set, as the map reads. -/
def DsS (xs : List ByteArray) : DataW Unit := xs.foldl (fun D x => D.put (kS x) (.lit (.bool true))) (.map [])
theorem DsS_snoc (xs : List ByteArray) (x : ByteArray) : DsS (xs ++ [x]) = (DsS xs).put (kS x) (.lit (.bool true)) := by unfold DsS; rw [List.foldl_append]; rfl
theorem putS_isMap {D : DataW Unit} (h : IsMap D) (k : Lit) (d : DataW Unit) : IsMap (D.put k d) := by
  obtain ⟨es, rfl⟩ := h
  exact ⟨_, DataW.put_eq es k d⟩
/-- Is a text in the set? -/
def memS (z : ByteArray) (xs : List ByteArray) : Bool := xs.any fun x => x.data.toList == z.data.toList
theorem foldlS_at (z : ByteArray) : ∀ (xs : List ByteArray) (D : DataW Unit), IsMap D → (xs.foldl (fun D x => D.put (kS x) (.lit (.bool true))) D).atKey (kS z) (.lit (.bool false)) = if memS z xs = true then .lit (.bool true) else D.atKey (kS z) (.lit (.bool false)) := by
  intro xs
  induction xs with
  | nil => intro D _; rfl
  | cons x xs ih =>
    intro D hD
    have hm : memS z (x :: xs) = (x.data.toList == z.data.toList || memS z xs) := rfl
    rw [List.foldl_cons, ih _ (putS_isMap hD _ _), hm]
    by_cases h : memS z xs = true
    · rw [if_pos h, if_pos (by rw [h, Bool.or_true])]
    · rw [if_neg h]
      by_cases e : x.data.toList = z.data.toList
      · rw [if_pos (by rw [beq_iff_eq.2 e, Bool.true_or])]
        have ek : kS x = kS z := by unfold kS; rw [e]
        rw [ek]
        exact atKey_put_same hD (show WideAt.IsKeyLit (kS z) from trivial) _ _
      · rw [if_neg (by rw [beq_false_of_ne e, Bool.false_or]; exact h)]
        exact atKey_put_other (fun h2 => e (by unfold kS at h2; injection h2 with h2; exact h2.symm)) _ _
theorem DsS_at (xs : List ByteArray) (z : ByteArray) : (DsS xs).atKey (kS z) (.lit (.bool false)) = .lit (.bool (memS z xs)) := by
  unfold DsS
  rw [foldlS_at z xs _ ⟨[], rfl⟩]
  cases h : memS z xs
  · rfl
  · rfl
theorem plainElem_boolS {H : Type} {P : Program} {e : TypeId} (he : P.underlying e = some .bool) {v : Value} {z : DataW H × List MemPlace} (h : plainElem P e v = some z) : ∃ a, v = .bool a ∧ z = (.lit (.bool a), []) := by
  unfold plainElem at h
  rw [he] at h
  cases v <;> simp at h
  subst h
  exact ⟨_, rfl, rfl⟩
def litBS : DataW Unit → Bool
  | .lit (.bool b) => b
  | _ => false
theorem keyOf_str {P : Program} {k : TypeId} (hk : P.underlying k = some .string) {s : ByteArray} (hs : s.size ≤ maxLen) : keyOf P k (.string s) = some (kS s) := by
  simp [keyOf, hk, mapKey, hs, kS]
/-- The block of the set. -/
abbrev SetS (P : Program) (k e : TypeId) (w : World) (b n : Nat) (xs : List ByteArray) : Prop := w.ownsMap P k (plainElem (H := Unit) P e) b n (DsS xs)
theorem look_setS {P : Program} {t k e : TypeId} (ht : P.underlying t = some (.map k e)) (hk : P.underlying k = some .string) (he : P.underlying e = some .bool) {w : World} (h0 : (zeroValue e).run P w = .ok (.bool false) w) {b n : Nat} {xs : List ByteArray} (h : SetS P k e w b n xs) (z : ByteArray) (hz : z.size ≤ maxLen) :
    (Instr.lookup t (.map (some b)) (.string z) false).run P w = .ok (.bool (memS z xs)) w := by
  obtain ⟨v, ps, hrun, hv⟩ := World.ownsMap.lookup h (string_keyed hk) ht h0 (plainElem_bool he false) (keyOf_str hk hz)
  have e1 := DsS_at xs z
  obtain ⟨a, rfl, ha⟩ := plainElem_boolS he hv
  have h1 : (DsS xs).atKey (kS z) (.lit (.bool false)) = .lit (.bool a) := congrArg Prod.fst ha
  rw [e1] at h1
  have h2 : memS z xs = a := congrArg litBS h1
  rw [hrun, h2]
end Go.Proofs.YtebidpcmcekbgaaDoor.P
namespace Go.Proofs.YtebidpcmcekbgaaDoor.P
open Go.RowKit Go.Shelf Go.Maps Go.Proofs.YtebidpcmcekbgaaDoorW.PrintWords Go.Proofs.YtebidpcmcekbgaaDoorW.PrintLast Go.Proofs.YtebidpcmcekbgaaDoorW.PrintMore
attribute [local go_sem] Oper.semAt_some
set_option linter.unusedVariables false
set_option linter.unusedSimpArgs false
theorem fieldsSeq_any (s : ByteArray) (w : World) :
    Calls Tryd.prog 101 #[.string s] w fun e w' => e = .returned (.func (.func 118) #[] #[.pointer (some ⟨w.heap.size, 0, none⟩)]) ∧ w' = w.alloc (.cells #[.string s] 9) := by
  go_enter Tryd.func101, Tryd.ntmps101
  go_wp2
  go_ret
  exact ⟨rfl, rfl⟩
theorem enters_fields1 : ∀ args w, (callFunc 118 args).run Tryd.prog w = .ok (.enter 118 args) w := enters_of Tryd.func118 (by kernel_rfl) rfl
/-- All keywords, as the program has them. -/
def kwT : ByteArray := ⟨#[97, 110, 100, 32, 97, 115, 32, 98, 111, 111, 108, 32, 99, 101, 108, 108, 32, 99, 104, 111, 111, 115, 101, 32, 99, 111, 109, 32, 100, 101, 102, 32, 100, 111, 32, 101, 108, 115, 101, 32, 101, 120, 112, 111, 114, 116, 32, 102, 97, 108, 115, 101, 32, 102, 110, 32, 103, 101, 116, 32, 104, 97, 110, 103, 32, 105, 102, 32, 105, 109, 112, 111, 114, 116, 32, 105, 110, 32, 105, 110, 116, 32, 106, 117, 109, 112, 32, 108, 97, 98, 101, 108, 32, 110, 101, 119, 32, 110, 111, 116, 32, 110, 111, 116, 105, 99, 101, 32, 111, 102, 32, 111, 114, 32, 112, 117, 116, 32, 115, 107, 105, 112, 32, 116, 104, 101, 110, 32, 116, 114, 117, 101, 32, 119, 104, 105, 108, 101]⟩
theorem kwT_ascii : ∀ k : Nat, k < kwT.size → bt kwT (k : Int) < 128 := by decide +kernel
theorem kwT_fields : flds kwT kwT.size (-1) 0 = KW := by decide +kernel
theorem kw_mem (z : ByteArray) : memS z (flds kwT kwT.size (-1) 0) = kwM z := by rw [kwT_fields]; rfl
abbrev SetK (w : World) (b n : Nat) (xs : List ByteArray) : Prop := SetS Tryd.prog 9 4 w b n xs
theorem SetK.st {V W : World} {b b' n : Nat} {ks : List ByteArray} {ex : Nat → Prop} (h : SetK V b n ks) (hs : St b' ex V W) (hx : ¬ ex b) (hb' : b < b') : SetK W b n ks := by
  obtain ⟨es, clock, hb, F, hn, hD⟩ := h
  exact ⟨es, clock, hs.2 b _ hb hx (.inl hb'), F, hn, hD⟩
theorem flds_short : ∀ x ∈ flds kwT kwT.size (-1) 0, x.size ≤ 100 := by rw [kwT_fields]; decide +kernel
theorem flds_len : (flds kwT kwT.size (-1) 0).length = 30 := by rw [kwT_fields]; decide +kernel
theorem below_putObj {n D : Nat} {w W : World} {o' : Obj} (h : Below n w W) (hn : n ≤ D) : Below n w (W.putObj D o') :=
  h.trans ⟨rfl, rfl, rfl, by simp, fun k hk => World.putObj_heap_other (by omega)⟩
set_option maxRecDepth 8000 in
set_option maxHeartbeats 4000000 in
theorem words_any (w : World) (hg : Gl w) :
    Calls Tryd.prog 82 #[] w fun e w' => ∃ b n, e = .returned (.map (some b)) ∧ SetK w' b n (flds kwT kwT.size (-1) 0) ∧ Below w.heap.size w w' := by
  have HG := Aside0.mk hg
  clear hg
  refine (callsIn_wide (n := 9)).1 ?_
  show CallsIn (FW none) 9 Tryd.prog 82 _ w _
  refine callsIn_of_wp_marks Tryd.func82 rfl trivial ?_ rfl
  simp only [Tryd.ntmps82, List.size_toArray, List.length_cons, List.length_nil, Nat.reduceAdd, Nat.reduceSub, Array.replicate_succ, Array.replicate_zero, List.push_toArray, List.append_toArray, List.nil_append, List.cons_append]
  have hmm := @run_makeMap Tryd.prog
  gi_wp2_with (gi_at_call 101; refine CallsIn.mono (callsIn_wide.2 (fieldsSeq_any kwT _)) ?_; rintro e w1 ⟨rfl, hw1⟩)
  have HK := Aside0.mk (show w1.heap[w.heap.size + 1]? = some (.cells #[.map (some w.heap.size)] 110 (0, 0)) by
    rw [hw1]; refine (Below.heap_alloc _ _ _ (by simp)).trans ?_
    have := World.alloc_heap_new (w.alloc (Obj.map #[] 0)) (.cells #[.map (some w.heap.size)] 110)
    rwa [World.size_alloc] at this)
  have HF := Aside0.mk (show w1.heap[w.heap.size + 1 + 1]? = some (.cells #[.string kwT] 9 (0, 0)) by
    rw [hw1]
    have := World.alloc_heap_new ((w.alloc (Obj.map #[] 0)).alloc (.cells #[.map (some w.heap.size)] 110)) (.cells #[.string kwT] 9)
    rwa [World.size_alloc, World.size_alloc] at this)
  have HS := Aside0.mk (show SetK w1 w.heap.size 0 [] by
    rw [hw1]; exact (World.ownsMap_made w Tryd.prog 9 (plainElem (H := Unit) Tryd.prog 4)).alloc _ |>.alloc _)
  have HBW := Aside0.mk (show Below w.heap.size w w1 by rw [hw1]; exact (((Below.refl _ w).alloc (Nat.le_refl _) _).alloc (by simp) _).alloc (by simp; omega) _)
  have hsz : w1.heap.size = w.heap.size + 3 := by rw [hw1]; simp
  rw [← hw1]
  clear hw1
  have HGi := Aside0.mk (fields1_gives (n₀ := w.heap.size) (w0 := w) (w.heap.size + 1 + 1) kwT HG.out HG.out.lt kwT_ascii (by decide))
  have HSH := Aside0.mk flds_short
  have HLE := Aside0.mk flds_len
  generalize hLe : flds kwT kwT.size (-1) 0 = L at *
  have HLQ := Aside0.mk hLe
  clear hLe
  refine wp_range (gf := 118) (bs := #[]) (lb := #[.pointer (some ⟨w.heap.size + 1 + 1, 0, none⟩)]) rfl enters_fields1 HGi.out (hb0 := HBW.out) (hn := by omega) (hwr := fun k h => h.elim) (hown := fun k h => by omega)
    (hPre := fun W hW => (hW.block _ (by omega)).trans HF.out) (hps := fun _ => rfl)
    (fun i V => Aside0 (SetK V w.heap.size i (L.take i)) ∧ Aside0 (V.heap[w.heap.size + 1]? = some (.cells #[.map (some w.heap.size)] 110 (0, 0))) ∧ Aside0 (Below w.heap.size w V) ∧ Aside0 (w1.heap.size ≤ V.heap.size))
    (fun _ _ _ => False) ?hI (fun _ _ _ _ h _ => h) ?h0
    (fun i a₁ V => ∃ x, L[i]? = some x ∧ ∃ x0 x3 x4 x5 x6 x7 x8 : Value, a₁ = { tmps := #[x0, .pointer (some ⟨w.heap.size + 1, 0, none⟩), .string x, x3, x4, x5, x6, x7, x8], defers := [] }) ?hAx ?assign ?body ?done (fun _ _ _ _ _ _ h _ _ => h.elim)
  case hI =>
    rintro i P Q ⟨q2, q3, bl, sz⟩ hs
    exact ⟨⟨q2.out.st hs (fun h => h) (by omega)⟩, ⟨hs.blk q3.out (fun h => h)⟩, ⟨hs.below bl.out (by omega) (fun k h => h.elim) (by have := sz.out; omega)⟩, ⟨Nat.le_trans sz.out hs.1.2.2.2⟩⟩
  case h0 => exact ⟨⟨HS.out⟩, HK, HBW, ⟨Nat.le_refl _⟩⟩
  case hAx =>
    rintro i a₁ P Q h hs
    exact h
  case assign =>
    intro m l i x P K hx hI hle hK
    simp only [encS, List.zip_toArray, List.zip_cons_cons, List.zip_nil_right, List.size_toArray, List.foldl_toArray', List.foldl_cons, List.foldl_nil]
    gi_wp2
    exact hK _ _ (Below.refl _ P) ⟨x, hx, _, _, _, _, _, _, _, rfl⟩
  case body =>
    rintro m l i x a₁ P hx ⟨q2, q3, bl, sz⟩ ⟨x', hx', x0, x3, x4, x5, x6, x7, x8, rfl⟩ hle
    obtain rfl : x' = x := Option.some.inj (hx'.symm.trans hx)
    clear hx'
    have HX := Aside0.mk hx
    have hil : i < L.length := (List.getElem?_eq_some_iff.1 hx).1
    have hi30 : i < 30 := by have := HLE.out; omega
    have hxs : x'.size ≤ maxLen := by have := HSH.out x' (List.mem_of_getElem? hx); unfold maxLen; omega
    clear hx
    have hc0 : P.cell? ⟨w.heap.size + 1, 0, none⟩ = some (.map (some w.heap.size)) := (blk_cell q3.out 0).trans rfl
    gi_wp2_with (gi_at_mapUpdate; refine wpListIn_mapUpdate_own _ rfl _ _ _ 110 rfl 9 4 (string_keyed Tryd.underlying9) Tryd.underlying110 (plainElem (H := Unit) Tryd.prog 4) w.heap.size i (DsS (L.take i)) rfl q2.out (by unfold maxLen; omega) (.string x') (.bool true) (kS x') rfl rfl (keyOf_str Tryd.underlying9 hxs) (.lit (.bool true)) [] (plainElem_bool Tryd.underlying4 true) ?_; intro w2 hown1 hgrow1; have HO1 := Aside0.mk hown1; have HG1 := Aside0.mk hgrow1; clear hown1 hgrow1)
    gi_wp2
    have hk2 : ∀ k, k < P.heap.size → k ≠ w.heap.size → w2.heap[k]? = P.heap[k]? := fun k hk hne => HG1.out.block k hk (by intro e; cases e; exact hne rfl)
    have hlP : w1.heap.size ≤ P.heap.size := sz.out
    have hs2 : P.heap.size ≤ w2.heap.size := HG1.out.size
    refine ⟨⟨⟨HG1.out.os, HG1.out.tape, HG1.out.output, HG1.out.size⟩, fun k o hk ho => (hk2 k (blk_lt hk) ?_).trans hk⟩, ⟨?_⟩, ⟨(hk2 _ (blk_lt q3.out) (by omega)).trans q3.out⟩, ⟨bl.out.trans ⟨HG1.out.os, HG1.out.tape, HG1.out.output, HG1.out.size, fun k hk => hk2 k (by omega) (by omega)⟩⟩, ⟨by omega⟩⟩
    · rcases ho with ho | ho | ⟨ho, _⟩ <;> omega
    · have := HO1.out
      rw [← DsS_snoc] at this
      rw [show L.take (i + 1) = L.take i ++ [x'] by rw [List.take_succ_eq_append_getElem hil]; congr 1; rw [← Option.some.inj ((List.getElem?_eq_getElem hil).symm.trans HX.out)]]
      exact this
  case done =>
    rintro D V hle ⟨q2, q3, bl, sz⟩ hD hDle
    have hc0 : V.cell? ⟨w.heap.size + 1, 0, none⟩ = some (.map (some w.heap.size)) := (blk_cell q3.out 0).trans rfl
    have HD := Aside0.mk hD
    clear hD
    gi_wp2
    refine leavesM1 (v := .map (some w.heap.size)) HD.out ?_ ?_
    · simp [results, Tryd.results82, go_sem]
    · refine ⟨w.heap.size, L.length, rfl, ?_, below_putObj bl.out (by omega)⟩
      rw [HLQ.out]
      have h2 := q2.out
      rw [List.take_length] at h2
      exact h2.st (St.putObj (ex := fun _ => False) (b := D) _ HD.out rfl (Nat.le_refl _)) (fun h => h) (by omega)
end Go.Proofs.YtebidpcmcekbgaaDoor.P
