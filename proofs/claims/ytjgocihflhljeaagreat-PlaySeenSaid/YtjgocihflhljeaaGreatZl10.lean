/- What the claim's law needs, many texts in one (P10 Da). No conditions of its own. -/
import Derived.Test.YtjgocihflhljeaaGreatZl2
import Derived.Test.YtjgocihflhljeaaGreatZl9
set_option linter.unusedVariables false
set_option linter.unusedSimpArgs false
namespace Go.Proofs.YtjgocihflhljeaaGreat.P
open Go.RowKit Go.Proofs.YtjgocihflhljeaaGreatW.PrintWords Go.Proofs.YtjgocihflhljeaaGreatW.PrintLast Go.Proofs.YtjgocihflhljeaaGreatW.PrintMore
attribute [local go_sem] max2_int max_two

mutual
def riposteref04_Same.j0 : Nat → Bool → List (S68) → Bool → Int → Bool → List (S68) → Bool → Int → Bool → Option (Bool)
 | 0, _, _, _, _, _, _, _, _, _ => none
 | k + 1, x26, x293000, x293001, x293002, x293003, x294000, x294001, x294002, x294003 => if x26 = true then (some false) else (riposteref04_Same.l0 k 0 x293000 x293001 x293002 x293003 x294000 x294001 x294002 x294003)
def riposteref04_Same.l0 : Nat → Int → List (S68) → Bool → Int → Bool → List (S68) → Bool → Int → Bool → Option (Bool)
 | 0, _, _, _, _, _, _, _, _, _ => none
 | k + 1, x5, x293000, x293001, x293002, x293003, x294000, x294001, x294002, x294003 => if x5 < (x293000.length : Int) then (if 0 ≤ x5 then (if x5 < (x294000.length : Int) then ((riposteref04_SameType.f k ((rd_T68 x293000 x5).f0) ((rd_T68 x293000 x5).f1.f0) ((rd_T68 x293000 x5).f1.f1) ((rd_T68 x294000 x5).f0) ((rd_T68 x294000 x5).f1.f0) ((rd_T68 x294000 x5).f1.f1)).bind fun t296 => (if t296 = true then (riposteref04_Same.l0 k (wrap64 (x5 + 1)) x293000 x293001 x293002 x293003 x294000 x294001 x294002 x294003) else (some false))) else (none)) else (none)) else (some true)
end
def riposteref04_Same.f (k : Nat) (l0_0 : List (S68)) (a0_1 : Bool) (a0_2 : Int) (a0_3 : Bool) (l1_0 : List (S68)) (a1_1 : Bool) (a1_2 : Int) (a1_3 : Bool) : Option (Bool) := if (l0_0.length : Int) = (l1_0.length : Int) then (if (!(a0_1 == a1_1) || (!(a0_2 == a1_2))) = true then (riposteref04_Same.j0 k true l0_0 a0_1 a0_2 a0_3 l1_0 a1_1 a1_2 a1_3) else (riposteref04_Same.j0 k (a0_3 != a1_3) l0_0 a0_1 a0_2 a0_3 l1_0 a1_1 a1_2 a1_3)) else (riposteref04_Same.j0 k true l0_0 a0_1 a0_2 a0_3 l1_0 a1_1 a1_2 a1_3)
end Go.Proofs.YtjgocihflhljeaaGreat.P
namespace Go.Proofs.YtjgocihflhljeaaGreat.P
open Go.RowKit Go.Shelf Go.Proofs.YtjgocihflhljeaaGreatW.PrintWords Go.Proofs.YtjgocihflhljeaaGreatW.PrintLast Go.Proofs.YtjgocihflhljeaaGreatW.PrintMore
theorem wrap_up {i n : Nat} (h : i < n) (hl : n ≤ 1000000) : wrap64 ((i : Int) + 1) = ((i + 1 : Nat) : Int) := by
 rw [wrap_in (by omega) (by omega)]
 simp
theorem sameType_l0 (xs : List S24) (b : Bool) (n : Int) (hl : xs.length ≤ 1000000) : ∀ (d i k : Nat), xs.length - i = d → i ≤ xs.length → d < k → riposteref04_SameType.l0 k (i : Int) xs b n xs b n = some true := by
 intro d
 induction d with
 | zero =>
  intro i k hd hi hk
  obtain ⟨k, rfl⟩ : ∃ k', k = k' + 1 := ⟨k - 1, by omega⟩
  rw [riposteref04_SameType.l0, if_neg (by omega)]
 | succ d ih =>
  intro i k hd hi hk
  obtain ⟨k, rfl⟩ : ∃ k', k = k' + 1 := ⟨k - 1, by omega⟩
  rw [riposteref04_SameType.l0, if_pos (by omega), if_pos (by omega), if_pos (by omega), if_neg (by simp), wrap_up (show i < xs.length by omega) hl, ih (i + 1) k (by omega) (by omega) (by omega)]
theorem sameType_f (k : Nat) (xs : List S24) (b : Bool) (n : Int) (hl : xs.length ≤ 1000000) (hk : xs.length + 1 < k) : riposteref04_SameType.f k xs b n xs b n = some true := by
 obtain ⟨k, rfl⟩ : ∃ k', k = k' + 1 := ⟨k - 1, by omega⟩
 rw [riposteref04_SameType.f, if_pos rfl, riposteref04_SameType.j0, if_neg (by simp)]
 exact sameType_l0 xs b n hl xs.length 0 k rfl (Nat.zero_le _) (by omega)
theorem same_l0 (xs : List S68) (b : Bool) (n : Int) (j : Bool) (hl : xs.length ≤ 1000000) (hp : ∀ x ∈ xs, x.f0.length ≤ 8) : ∀ (d i k : Nat), xs.length - i = d → i ≤ xs.length → d + 10 < k → riposteref04_Same.l0 k (i : Int) xs b n j xs b n j = some true := by
 intro d
 induction d with
 | zero =>
  intro i k hd hi hk
  obtain ⟨k, rfl⟩ : ∃ k', k = k' + 1 := ⟨k - 1, by omega⟩
  rw [riposteref04_Same.l0, if_neg (by omega)]
 | succ d ih =>
  intro i k hd hi hk
  obtain ⟨k, rfl⟩ : ∃ k', k = k' + 1 := ⟨k - 1, by omega⟩
  have hlt : i < xs.length := by omega
  have hr : rd_T68 xs (i : Int) = xs[i] := by
   unfold rd_T68
   rw [Int.toNat_natCast]
   exact getD_get xs z68 i hlt
  have h8 := hp _ (List.getElem_mem hlt)
  rw [riposteref04_Same.l0, if_pos (by omega), if_pos (by omega), if_pos (by omega), hr, sameType_f k _ _ _ (by omega) (by omega), Option.bind_some, if_pos rfl, wrap_up hlt hl, ih (i + 1) k (by omega) (by omega) (by omega)]
theorem same_f (xs : List S68) (b : Bool) (n : Int) (j : Bool) (hl : xs.length ≤ 12) (hp : ∀ x ∈ xs, x.f0.length ≤ 8) : riposteref04_Same.f 40 xs b n j xs b n j = some true := by
 rw [riposteref04_Same.f, if_pos rfl, if_neg (by simp), riposteref04_Same.j0, if_neg (by simp)]
 exact same_l0 xs b n j (by omega) hp xs.length 0 39 rfl (Nat.zero_le _) (by omega)
def thinA (ids : List S68) : Bool := decide (ids.length ≤ 12) && ids.all fun x => decide (x.f0.length ≤ 8)
theorem thinA_ids {ids : List S68} (h : thinA ids = true) : ids.length ≤ 12 ∧ ∀ x ∈ ids, x.f0.length ≤ 8 := by
 unfold thinA at h
 simp only [Bool.and_eq_true, decide_eq_true_eq, List.all_eq_true] at h
 exact h
theorem thin04_l0 (xs : List S68) (b : Bool) (n : Int) (j : Bool) (hl : xs.length ≤ 1000000) : ∀ (d i k : Nat), xs.length - i = d → i ≤ xs.length → d < k → ripostelaw04_Thin.l0 k (i : Int) xs b n j = some ((xs.drop i).all fun x => decide (x.f0.length ≤ 8)) := by
 intro d
 induction d with
 | zero =>
  intro i k hd hi hk
  obtain ⟨k, rfl⟩ : ∃ k', k = k' + 1 := ⟨k - 1, by omega⟩
  rw [ripostelaw04_Thin.l0, if_neg (by omega), List.drop_eq_nil_of_le (by omega)]
  rfl
 | succ d ih =>
  intro i k hd hi hk
  obtain ⟨k, rfl⟩ : ∃ k', k = k' + 1 := ⟨k - 1, by omega⟩
  have hlt : i < xs.length := by omega
  have hr : rd_T68 xs (i : Int) = xs[i] := by
   unfold rd_T68
   rw [Int.toNat_natCast]
   exact getD_get xs z68 i hlt
  rw [ripostelaw04_Thin.l0, if_pos (by omega), if_pos (by omega), hr, List.drop_eq_getElem_cons hlt, List.all_cons]
  by_cases h8 : (xs[i].f0.length : Int) > 8
  ·rw [if_pos h8, decide_eq_false (by omega)]
   rfl
  rw [if_neg h8, wrap_up hlt hl, ih (i + 1) k (by omega) (by omega) (by omega), decide_eq_true (by omega), Bool.true_and]
theorem thin04_f (k : Nat) (hk : 13 ≤ k) (xs : List S68) (b : Bool) (n : Int) (j : Bool) : ripostelaw04_Thin.f k xs b n j = some (thinA xs) := by
 rw [ripostelaw04_Thin.f]
 unfold thinA
 by_cases h : (xs.length : Int) > 12
 ·rw [if_pos h, decide_eq_false (by omega)]
  rfl
 rw [if_neg h, decide_eq_true (by omega), Bool.true_and]
 have := thin04_l0 xs b n j (by omega) xs.length 0 k rfl (Nat.zero_le _) (by omega)
 rw [List.drop_zero] at this
 exact this
theorem copyType_f (xs : List S24) (b : Bool) (n : Int) (h : xs.length ≤ 1000000) : riposteref04_CopyType.f xs b n = some (xs, b, n) := by
 rw [riposteref04_CopyType.f, Option.bind_some, if_pos (by simp; omega)]
 rfl
theorem copy_l0 (xs : List S68) (b : Bool) (n : Int) (j : Bool) (hl : xs.length ≤ 1000000) (hp : ∀ x ∈ xs, x.f0.length ≤ 8) : ∀ (d i k : Nat), xs.length - i = d → i ≤ xs.length → d < k → riposteref04_Copy.l0 k (i : Int) xs b n j (xs.take i) b n j = some (xs, b, n, j) := by
 intro d
 induction d with
 | zero =>
  intro i k hd hi hk
  obtain ⟨k, rfl⟩ : ∃ k', k = k' + 1 := ⟨k - 1, by omega⟩
  rw [riposteref04_Copy.l0, if_neg (by omega), List.take_of_length_le (by omega)]
 | succ d ih =>
  intro i k hd hi hk
  obtain ⟨k, rfl⟩ : ∃ k', k = k' + 1 := ⟨k - 1, by omega⟩
  have hlt : i < xs.length := by omega
  have hr : rd_T68 xs (i : Int) = xs[i] := by
   unfold rd_T68
   rw [Int.toNat_natCast]
   exact getD_get xs z68 i hlt
  have h8 := hp _ (List.getElem_mem hlt)
  rw [riposteref04_Copy.l0, if_pos (by omega), if_pos (by omega), hr, copyType_f _ _ _ (by omega), Option.bind_some, if_pos (by simp; omega), wrap_up hlt hl]
  have e : xs.take i ++ [(⟨xs[i].f0, (⟨xs[i].f1.f0, xs[i].f1.f1⟩ : S24)⟩ : S68)] = xs.take (i + 1) := by rw [List.take_succ_eq_append_getElem hlt]
  rw [e, ih (i + 1) k (by omega) (by omega) (by omega)]
theorem copy_f (xs : List S68) (b : Bool) (n : Int) (j : Bool) (hl : xs.length ≤ 12) (hp : ∀ x ∈ xs, x.f0.length ≤ 8) : riposteref04_Copy.f 20 xs b n j = some (xs, b, n, j) := by
 rw [riposteref04_Copy.f]
 exact copy_l0 xs b n j (by omega) hp xs.length 0 20 rfl (Nat.zero_le _) (by omega)
theorem copyW_f (l : List S52) (hl : l.length ≤ 1000000) : riposteref05_Copy.f l = some l := by
 rw [riposteref05_Copy.f, Option.bind_some, if_pos (by simp; omega)]
 rfl
end Go.Proofs.YtjgocihflhljeaaGreat.P
