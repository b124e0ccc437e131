/- What the claim's law needs, many texts in one (Uh Vd Ui Uj Uk Db Dc Dd P11 Vg Ve Ul Vf Um Un Vh Uo Di Vi Dj Dk Vj Vk Dl Vl Vm). No conditions of its own. -/
import Derived.Test.YtjgocihflhljeaaGreatZl18
import Derived.Test.YtjgocihflhljeaaGreatZl20
import Derived.Test.YtjgocihflhljeaaGreatZl12
import Derived.Test.YtjgocihflhljeaaGreatZl9
import Derived.Test.YtjgocihflhljeaaGreatZl14
import Derived.Test.YtjgocihflhljeaaGreatZl10
import Derived.Test.YtjgocihflhljeaaGreatZl17
import Derived.Test.YtjgocihflhljeaaGreatZl2
set_option linter.unusedVariables false
set_option linter.unusedSimpArgs false
namespace Go.Proofs.YtjgocihflhljeaaGreat.P
open Go.RowKit Go.Shelf Go.Proofs.YtjgocihflhljeaaGreatW.PrintWords Go.Proofs.YtjgocihflhljeaaGreatW.PrintLast Go.Proofs.YtjgocihflhljeaaGreatW.PrintMore
attribute [local go_sem] Oper.semAt_some
structure Takes (t : Tk) (m : Mv) : Prop where
 i : 0 ≤ m.f0 ∧ 0 ≤ m.f1 ∧ (m.f0 = 0 → m.f1 = 0)
 k : askB m = !isAns m
 o : isAns m = true → t.opn ≠ []
 p : isAns m = false → 0 < m.f1 → t.opn ≠ []
theorem rTakeZ_any {base : Nat} {w : World} {g : Nat} {A : Option Addr} {c : Nat} {ids : List S68} {rc : Bool} {rn : Int} {jb : Bool} {t : Tk} {vw vo vp vj : Value} (h : Wlk base w g A c ids rc rn jb t vw vo vp vj) (hL : t.Legal ids rc rn jb) (m : Mv) (hm : Takes t m) (hw : t.word.length < 1048576) :
  Calls Tryz.prog 85 #[.pointer (some ⟨g, 0, none⟩), .agg #[.int .i64 m.f0, .int .i64 m.f1, .int .u8 m.f2, .int .i64 m.f3]] w fun e w' => e = .returned (.tuple #[]) ∧ SK base 86 w w' ∧ (∀ bz cs, Boxy w g bz → w.heap[bz]? = some (.cells cs 52 (0, 0)) → w'.heap[bz]? = some (.cells cs 52 (0, 0))) ∧ ∃ vw vo vp vj, Wlk base w' g A c ids rc rn jb (t.say m) vw vo vp vj := by
 have hk := hm.k
 cases ha : isAns m with
 | true =>
  rw [ha] at hk
  exact take_ans h m hw hk ha (hm.o ha) hL.fo.symm hL.dp
 | false =>
  rw [ha] at hk
  refine take_ask h m hw hk ha (hm.p ha) ?_
  have hi := hm.i
  unfold Tk.justOf isIdent isPar
  rw [ha]
  by_cases h1 : 0 < m.f1
  ·have h0 : 0 < m.f0 := by have := hi.2.2; omega
   have h2 : (m.f1 == 0) = false := by simp; omega
   simp [h1, h0, h2]
  have h2 : m.f1 = 0 := by omega
  by_cases h0 : 0 < m.f0
  ·simp [h1, h0, h2]
  simp [h1, h0, h2]
theorem rTake_any {base : Nat} {w : World} {g : Nat} {A : Option Addr} {c : Nat} {ids : List S68} {rc : Bool} {rn : Int} {jb : Bool} {t : Tk} {vw vo vp vj : Value} (h : Wlk base w g A c ids rc rn jb t vw vo vp vj) (hL : t.Legal ids rc rn jb) (m : Mv) (hm : Takes t m) (hw : t.word.length < 1048576) :
  Calls Tryz.prog 85 #[.pointer (some ⟨g, 0, none⟩), .agg #[.int .i64 m.f0, .int .i64 m.f1, .int .u8 m.f2, .int .i64 m.f3]] w fun e w' => e = .returned (.tuple #[]) ∧ SK base 86 w w' ∧ ∃ vw vo vp vj, Wlk base w' g A c ids rc rn jb (t.say m) vw vo vp vj := by
 refine (rTakeZ_any h hL m hm hw).mono ?_
 rintro e w' ⟨h1, h2, _, h3⟩
 exact ⟨h1, h2, h3⟩
theorem may_takes {ids : List S68} {rc : Bool} {rn : Int} {jb : Bool} {t : Tk} {m : Mv} (hm : hasR ids rc rn jb m = true) (hc : t.can jb m = true) : Takes t m := by
 have hk := hasR_ok hm
 refine ⟨hk.i, ?_, Tk.can_ans hc, ?_⟩
 ·have h1 := hk.k
  unfold askB isAns
  rcases h1 with h | h | h <;> rw [h] <;> rfl
 intro ha h1 hn
 unfold Tk.can Tk.top at hc
 rw [hn] at hc
 simp only [List.getLast?_nil] at hc
 unfold atB at hc
 simp only [Bool.and_eq_true, beq_iff_eq] at hc
 omega
set_option maxHeartbeats 2000000 in
theorem rRun_any (A : Option Addr) (c : Nat) (ids : List S68) (rc : Bool) (rn : Int) (jb : Bool) (A1 : Option Addr) (c1 : Nat) (l : List Mv) (w : World) (hr : Kd.C k68 w A ids.length ids) (hlc : ids.length ≤ c) (hr1 : Kd.C k52 w A1 l.length l) (hl : l.length ≤ 1000000) (hok : checkE ids rn = 0) :
  Calls Tryz.prog 97 #[.agg #[.slice A ids.length c, .bool rc, .int .i64 rn, .bool jb], .slice A1 l.length c1] w fun e w' => e = .returned (.tuple #[.pointer (some ⟨w.heap.size + 1, 0, none⟩), .int .i64 (talkL ids rc rn jb l).word.length]) ∧ Below w.heap.size w w' ∧ ∃ vw vo vp vj, Wlk w.heap.size w' (w.heap.size + 1) A c ids rc rn jb (talkL ids rc rn jb l) vw vo vp vj := by
 have HRI := am hr
 have HR1 := am hr1
 clear hr hr1
 go_enter Tryz.func97, Tryz.ntmps97
 go_wp2
 have hT0 : Wlk w.heap.size ((w.alloc (.cells #[.slice A ids.length c, .bool rc, .int .i64 rn, .bool jb] 26)).alloc (.cells #[.slice A ids.length c, .bool rc, .int .i64 rn, .bool jb, .slice none 0 0, .slice none 0 0, .slice none 0 0, .slice none 0 0, .bool false, .int .i64 0] 86)) (w.heap.size + 1) A c ids rc rn jb Tk.empty (.slice none 0 0) (.slice none 0 0) (.slice none 0 0) (.slice none 0 0) :=
  ⟨(two w _ _).2, ⟨Kd.R_nil _ _ _ _ _, Kd.R_nil _ _ _ _ _, Kd.R_nil _ _ _ _ _, Kd.R_nil _ _ _ _ _, Kd.R_nil _ _ _ _ _, Ap.none _, Ap.none _, Ap.none _⟩, by omega, Tk.Ok.empty⟩
 go_loopg [7] l.length (fun gg s7 wr => ∃ (kk : Nat) (t : Tk), kk ≤ l.length ∧ l.length - kk ≤ gg ∧ s7 = .int .i64 kk ∧ t.word.length = kk ∧ Aside0 (walkL ids rc rn jb Tk.empty l = walkL ids rc rn jb t (l.drop kk)) ∧ Aside0 (Below w.heap.size w wr) ∧ w.heap.size ≤ wr.heap.size ∧ Aside0 (t.Legal ids rc rn jb) ∧ Aside0 (∃ vw vo vp vj, Wlk w.heap.size wr (w.heap.size + 1) A c ids rc rn jb t vw vo vp vj))
 case atStart => exact ⟨0, Tk.empty, Nat.zero_le _, by omega, rfl, rfl, ⟨rfl⟩, ⟨((Below.refl _ w).alloc (Nat.le_refl _) _).alloc (by simp) _⟩, by simp; omega, ⟨Tk.Legal.empty ids rc rn jb⟩, ⟨_, _, _, _, hT0⟩⟩
 case round =>
  obtain ⟨kk, t, hkk, hg, rfl, hwl, HE, BW, hsw, HL, HT⟩ := hrel
  clear hT0
  by_cases hlt : kk < l.length
  ·have hltz : (kk : Int) < (l.length : Int) := by omega
   obtain ⟨ad, e0, a0, a1, a2, a3⟩ := at_T52 HR1.out (kk : Int) (by omega) hltz
   cases e0
   rw [Int.toNat_natCast] at a0 a1 a2 a3
   have cb : decide ((kk : Int) < (l.length : Int)) = true := decide_eq_true hltz
   replace a0 := (BW.out.cell (World.block_lt_of_cell? w _ a0)).trans a0
   replace a1 := (BW.out.cell (World.block_lt_of_cell? w _ a1)).trans a1
   replace a2 := (BW.out.cell (World.block_lt_of_cell? w _ a2)).trans a2
   replace a3 := (BW.out.cell (World.block_lt_of_cell? w _ a3)).trans a3
   have HQ : Aside0 (l.drop kk = rd_T52 l (kk : Int) :: l.drop (kk + 1)) := ⟨by rw [List.drop_eq_getElem_cons hlt, rd_T52, Int.toNat_natCast, ← getD_get l z52 kk hlt]⟩
   generalize rd_T52 l (kk : Int) = m at *
   obtain ⟨vw, vo, vp, vj, hT⟩ := HT.out
   have HCAN := am (rCan_any hT m (Kd.C_below HRI.out BW.out) hlc hok)
   have HT := am hT
   clear hT
   cases hm : (hasR ids rc rn jb m && canR t jb m) with
   | false =>
    rw [hm] at HCAN
    have HF := am (show t.may ids rc rn jb m = false by
     unfold Tk.may
     cases hh : hasR ids rc rn jb m with
     | false => simp
     | true => rw [hh, Bool.true_and, canR_eq HL.out hh] at hm; rw [hm]; simp)
    clear hm
    go_wp2_with (go_at_call 87; refine HCAN.out.mono ?_; rintro e w1 ⟨rfl, hb1⟩)
    go_ret2
    have e : walkL ids rc rn jb Tk.empty l = t := by rw [HE.out, HQ.out, walkL, if_neg (by rw [HF.out]; decide)]
    refine ⟨by rw [show (talkL ids rc rn jb l) = t from e, hwl]; rfl, BW.out.trans (hb1.mono hsw), vw, vo, vp, vj, ?_⟩
    rw [show (talkL ids rc rn jb l) = t from e]
    exact HT.out.below hb1
   | true =>
    rw [hm] at HCAN
    have hh : hasR ids rc rn jb m = true := by
     cases hh : hasR ids rc rn jb m with
     | false => rw [hh] at hm; cases hm
     | true => rfl
    have hcn : t.can jb m = true := by rw [hh, Bool.true_and, canR_eq HL.out hh] at hm; exact hm
    have HF := am (show t.may ids rc rn jb m = true by unfold Tk.may; rw [hok, hh, hcn]; rfl)
    have HTK := am (may_takes hh hcn)
    have HLS := am (HL.out.say m (may_takes hh hcn).i (fun _ => hh) (by omega))
    clear hm hh hcn
    go_wp2_with (first
     | (go_at_call 87; refine HCAN.out.mono ?_; rintro e w1 ⟨rfl, hb1⟩; have HT1 := am (HT.out.below hb1); have HB1 := am (BW.out.trans (hb1.mono hsw)); have hs1 := hb1.size; have c0 := pw_cell_below hb1 a0; have c1 := pw_cell_below hb1 a1; have c2 := pw_cell_below hb1 a2; have c3 := pw_cell_below hb1 a3)
     | (go_at_call 85; refine (rTake_any HT1.out HL.out m HTK.out (by omega)).mono ?_; rintro e w2 ⟨rfl, hk2, hT2⟩))
    go_roundg (l.length - (kk + 1))
    case measure => omega
    case rel => exact ⟨kk + 1, t.say m, by omega, by omega, by go_num, by simp [Tk.say]; omega, ⟨by rw [HE.out, HQ.out, walkL, if_pos HF.out]⟩, ⟨hk2.below HB1.out (by omega)⟩, by have := hk2.1.2.2.2; omega, HLS, ⟨hT2⟩⟩
  have cb : decide ((kk : Int) < (l.length : Int)) = false := decide_eq_false (by omega)
  have e : walkL ids rc rn jb Tk.empty l = t := by rw [HE.out, List.drop_eq_nil_of_le (by omega), walkL]
  have EE := am e
  have HKL := am (show (t.word.length : Int) = (l.length : Int) by omega)
  clear e
  go_wp2
  go_ret2
  refine ⟨by rw [show (talkL ids rc rn jb l) = t from EE.out, HKL.out]; rfl, BW.out, ?_⟩
  rw [show (talkL ids rc rn jb l) = t from EE.out]
  exact HT.out
end Go.Proofs.YtjgocihflhljeaaGreat.P
namespace Go.Proofs.YtjgocihflhljeaaGreat.P
open Go.RowKit Go.Shelf Go.Proofs.YtjgocihflhljeaaGreatW.PrintWords Go.Proofs.YtjgocihflhljeaaGreatW.PrintLast Go.Proofs.YtjgocihflhljeaaGreatW.PrintMore
theorem isBase_f (b : Bool) (n : Int) : riposteref04_IsBase.f b n = some (isBaseB n) := by
 rw [riposteref04_IsBase.f, inF_eq, Option.bind_some]
 rfl
theorem isType_l0 (ps : List S24) (b : Bool) (n : Int) (hp : ps.length ≤ 5) : ∀ (d i k : Nat), ps.length - i = d → i ≤ ps.length → d < k → riposteref04_IsType.l0 k (i : Int) ps b n = some ((ps.drop i).all (fun x => isBaseB x.f1) && (isBaseB n && (decide (ps.length = 0) || !b))) := by
 intro d
 induction d with
 | zero =>
  intro i k hd hi hk
  obtain ⟨k, rfl⟩ : ∃ k', k = k' + 1 := ⟨k - 1, by omega⟩
  rw [riposteref04_IsType.l0, if_neg (by omega), isBase_f, Option.bind_some, List.drop_eq_nil_of_le (by omega)]
  simp only [List.all_nil, Bool.true_and]
  cases isBaseB n with
  | false => simp
  | true =>
   by_cases h : ps.length = 0
   ·simp [h]
   have : ¬ ((ps.length : Int) = 0) := by omega
   simp only [if_true, if_neg this, decide_eq_false h, Bool.false_or, Bool.true_and]
 | succ d ih =>
  intro i k hd hi hk
  obtain ⟨k, rfl⟩ : ∃ k', k = k' + 1 := ⟨k - 1, by omega⟩
  have hlt : i < ps.length := by omega
  have hr : rd_T24 ps (i : Int) = ps[i] := by
   unfold rd_T24
   rw [Int.toNat_natCast]
   exact getD_get ps z24 i hlt
  have hw : wrap64 ((i : Int) + 1) = ((i + 1 : Nat) : Int) := by
   rw [wrap_in (by omega) (by omega)]
   simp
  rw [riposteref04_IsType.l0, if_pos (by omega), if_pos (by omega), hr, isBase_f, Option.bind_some, hw, List.drop_eq_getElem_cons hlt, List.all_cons]
  cases hb : isBaseB ps[i].f1 with
  | false => simp
  | true => rw [if_pos rfl, Bool.true_and, ih (i + 1) k (by omega) (by omega) (by omega)]
theorem isType_f (k : Nat) (hk : 6 ≤ k) (x : S68) (hp : x.f0.length ≤ 5) : riposteref04_IsType.f k x.f0 x.f1.f0 x.f1.f1 = some (isTypeB x) := by
 have := isType_l0 x.f0 x.f1.f0 x.f1.f1 hp x.f0.length 0 k rfl (Nat.zero_le _) (by omega)
 rw [riposteref04_IsType.f]
 rw [show ((0 : Nat) : Int) = 0 from rfl] at this
 rw [this, List.drop_zero]
 congr 1
 unfold isTypeB
 have e : (!x.f0.any fun b => !isBaseB b.f1) = x.f0.all (fun b => isBaseB b.f1) := by
  rw [Bool.eq_iff_iff]
  simp
 rw [e, ← Bool.and_assoc, Bool.and_comm (x.f0.all _)]
theorem check_l1 (ids : List S68) (rc : Bool) (rn : Int) (j : Bool) (hl : ids.length ≤ 8) (hp : ∀ x ∈ ids, x.f0.length ≤ 5) : ∀ (d i k : Nat), ids.length - i = d → i ≤ ids.length → d + 6 < k → riposteref04_Check.l1 k (i : Int) ids rc rn j = some (if isBaseB rn = false ∨ ((ids.drop i).any fun x => !isTypeB x) = true then 4 else 0) := by
 intro d
 induction d with
 | zero =>
  intro i k hd hi hk
  obtain ⟨k, rfl⟩ : ∃ k', k = k' + 1 := ⟨k - 1, by omega⟩
  rw [riposteref04_Check.l1, if_neg (by omega), isBase_f, Option.bind_some, List.drop_eq_nil_of_le (by omega)]
  cases isBaseB rn <;> simp
 | succ d ih =>
  intro i k hd hi hk
  obtain ⟨k, rfl⟩ : ∃ k', k = k' + 1 := ⟨k - 1, by omega⟩
  have hlt : i < ids.length := by omega
  have hr : rd_T68 ids (i : Int) = ids[i] := by
   unfold rd_T68
   rw [Int.toNat_natCast]
   exact getD_get ids z68 i hlt
  have hw : wrap64 ((i : Int) + 1) = ((i + 1 : Nat) : Int) := by
   rw [wrap_in (by omega) (by omega)]
   simp
  rw [riposteref04_Check.l1, if_pos (by omega), if_pos (by omega), hr, isType_f k (by omega) ids[i] (hp _ (List.getElem_mem _)), Option.bind_some, hw, List.drop_eq_getElem_cons hlt, List.any_cons]
  cases hb : isTypeB ids[i] with
  | false => simp
  | true => rw [if_pos rfl, ih (i + 1) k (by omega) (by omega) (by omega)]; simp
theorem check_l0 (ids : List S68) (rc : Bool) (rn : Int) (j : Bool) (hl : ids.length ≤ 8) : ∀ (d i k : Nat), ids.length - i = d → i ≤ ids.length → d + 20 < k → (∀ m, m < i → ∀ h : m < ids.length, longB ids[m] = false) → riposteref04_Check.l0 k (i : Int) ids rc rn j = some (checkE ids rn) := by
 intro d
 induction d with
 | zero =>
  intro i k hd hi hk hn
  obtain ⟨k, rfl⟩ : ∃ k', k = k' + 1 := ⟨k - 1, by omega⟩
  have ha : ids.any longB = false := by
   rw [List.any_eq_false]
   intro x hx
   obtain ⟨m, hm, rfl⟩ := List.getElem_of_mem hx
   simp [hn m (by omega) hm]
  have hp : ∀ x ∈ ids, x.f0.length ≤ 5 := by
   intro x hx
   have := List.any_eq_false.1 ha x hx
   unfold longB at this
   simpa using this
  have h1 := check_l1 ids rc rn j hl hp ids.length 0 k rfl (Nat.zero_le _) (by omega)
  rw [show ((0 : Nat) : Int) = 0 from rfl, List.drop_zero] at h1
  rw [riposteref04_Check.l0, if_neg (by omega), h1]
  unfold checkE
  rw [if_neg (show ¬ (8 < ids.length ∨ ids.any longB = true) by rw [ha]; simp; omega)]
 | succ d ih =>
  intro i k hd hi hk hn
  obtain ⟨k, rfl⟩ : ∃ k', k = k' + 1 := ⟨k - 1, by omega⟩
  have hlt : i < ids.length := by omega
  have hr : rd_T68 ids (i : Int) = ids[i] := by
   unfold rd_T68
   rw [Int.toNat_natCast]
   exact getD_get ids z68 i hlt
  have hw : wrap64 ((i : Int) + 1) = ((i + 1 : Nat) : Int) := by
   rw [wrap_in (by omega) (by omega)]
   simp
  rw [riposteref04_Check.l0, if_pos (by omega), if_pos (by omega), hr, hw]
  by_cases h5 : ((ids[i].f0.length : Nat) : Int) > 5
  ·rw [if_pos h5]
   unfold checkE
   rw [if_pos (.inr (List.any_eq_true.2 ⟨ids[i], List.getElem_mem _, by unfold longB; simp; omega⟩))]
  rw [if_neg h5]
  refine ih (i + 1) k (by omega) (by omega) (by omega) (fun m hm h => ?_)
  by_cases e : m = i
  ·subst e
   unfold longB
   simp
   omega
  exact hn m (by omega) h
theorem check_f (k : Nat) (hk : 60 ≤ k) (ids : List S68) (rc : Bool) (rn : Int) (j : Bool) : riposteref04_Check.f k ids rc rn j = some (checkE ids rn) := by
 rw [riposteref04_Check.f]
 by_cases h : (ids.length : Int) > 8
 ·rw [if_pos h]
  unfold checkE
  rw [if_pos (.inl (by omega))]
 rw [if_neg h]
 have := check_l0 ids rc rn j (by omega) ids.length 0 k rfl (Nat.zero_le _) (by omega) (fun m hm => absurd hm (Nat.not_lt_zero _))
 rw [show ((0 : Nat) : Int) = 0 from rfl] at this
 exact this
end Go.Proofs.YtjgocihflhljeaaGreat.P
namespace Go.Proofs.YtjgocihflhljeaaGreat.P
open Go.RowKit Go.Shelf Go.Proofs.YtjgocihflhljeaaGreatW.PrintWords Go.Proofs.YtjgocihflhljeaaGreatW.PrintLast Go.Proofs.YtjgocihflhljeaaGreatW.PrintMore
attribute [local go_sem] Oper.semAt_some
theorem rArena_any (A : Option Addr) (c : Nat) (ids : List S68) (rc : Bool) (rn : Int) (jb : Bool) (w : World) (hr : Kd.C k68 w A ids.length ids) (hlc : ids.length ≤ c) :
  Calls Tryz.prog 96 #[.agg #[.slice A ids.length c, .bool rc, .int .i64 rn, .bool jb]] w fun e w' => e = .returned (.int .i64 (checkE ids rn)) ∧ Below w.heap.size w w' :=
 riposteref04_Check.calls 60 A c ids rc rn jb _ w hr hlc (check_f 60 (Nat.le_refl _) ids rc rn jb)
def BeginPost (A : Option Addr) (c : Nat) (ids : List S68) (rc : Bool) (rn : Int) (jb : Bool) (l : List Mv) (w : World) (e : Ending) (w' : World) : Prop :=
 Below w.heap.size w w' ∧ ((tellE ids rc rn jb l ≠ 0 ∧ e = .returned (.tuple #[.pointer none, .int .i64 (tellAt ids rc rn jb l), .int .i64 (tellE ids rc rn jb l)])) ∨
  (tellE ids rc rn jb l = 0 ∧ ∃ g, e = .returned (.tuple #[.pointer (some ⟨g, 0, none⟩), .int .i64 0, .int .i64 0]) ∧ ∃ vw vo vp vj, Wlk w.heap.size w' g A c ids rc rn jb (talkL ids rc rn jb l) vw vo vp vj))
set_option maxHeartbeats 2000000 in
theorem rBegin_any (A : Option Addr) (c : Nat) (ids : List S68) (rc : Bool) (rn : Int) (jb : Bool) (A1 : Option Addr) (c1 : Nat) (l : List Mv) (w : World) (hr : Kd.C k68 w A ids.length ids) (hlc : ids.length ≤ c) (hr1 : Kd.C k52 w A1 l.length l) (hl : l.length ≤ 1000000) : Calls Tryz.prog 60 #[.agg #[.slice A ids.length c, .bool rc, .int .i64 rn, .bool jb], .slice A1 l.length c1] w (BeginPost A c ids rc rn jb l w) := by
 have HB := am ((Below.refl _ w).alloc (Nat.le_refl _) (.cells #[.slice A ids.length c, .bool rc, .int .i64 rn, .bool jb] 26))
 have HC := am (fun (V : World) (hb : Below w.heap.size w V) => rArena_any A c ids rc rn jb V (Kd.C_below hr hb) hlc)
 have HKA := am (heap_alloc_new w (.cells #[.slice A ids.length c, .bool rc, .int .i64 rn, .bool jb] 26))
 by_cases h1 : checkE ids rn ≠ 0
 ·have HE := am (tellE_err (rc := rc) (jb := jb) (l := l) h1)
  have HA := am (show tellAt ids rc rn jb l = 0 by rw [tellAt, HE.out, if_neg (by have := checkE_or ids rn; omega)])
  have hb : (checkE ids rn != 0) = true := by simpa using h1
  clear hr hr1
  go_enter Tryz.func60, Tryz.ntmps60
  go_wp2_with (go_at_call 96; refine (HC.out _ HB.out).mono ?_; rintro e w1 ⟨rfl, hb1⟩; have HB1 := am (HB.out.trans (hb1.mono (by simp))); have hs1 : w.heap.size + 1 ≤ w1.heap.size := (by have := hb1.size; simpa using this); have HK1 := am ((hb1.block _ (by simp)).trans HKA.out); have k0 : w1.cell? ⟨w.heap.size, 0, none⟩ = some (.slice A ids.length c) := (blk_cell HK1.out 0).trans rfl; have k1 : w1.cell? ⟨w.heap.size, 1, none⟩ = some (.bool rc) := (blk_cell HK1.out 1).trans rfl; have k2 : w1.cell? ⟨w.heap.size, 2, none⟩ = some (.int .i64 rn) := (blk_cell HK1.out 2).trans rfl; have k3 : w1.cell? ⟨w.heap.size, 3, none⟩ = some (.bool jb) := (blk_cell HK1.out 3).trans rfl)
  go_ret3
  exact ⟨HB1.out, Or.inl ⟨by rw [HE.out]; exact h1, by rw [HE.out, HA.out]; rfl⟩⟩
 have h1' : checkE ids rn = 0 := by omega
 by_cases h2 : 400 < l.length
 ·have HE := am (tellE_long (rc := rc) (jb := jb) (l := l) h1' h2)
  have HA := am (show tellAt ids rc rn jb l = 0 by rw [tellAt, HE.out, if_neg (by omega)])
  have hz : (400 : Int) < (l.length : Int) := by omega
  clear hr hr1
  go_enter Tryz.func60, Tryz.ntmps60
  go_wp2_with (go_at_call 96; refine (HC.out _ HB.out).mono ?_; rw [h1']; rintro e w1 ⟨rfl, hb1⟩; have HB1 := am (HB.out.trans (hb1.mono (by simp))); have hs1 : w.heap.size + 1 ≤ w1.heap.size := (by have := hb1.size; simpa using this); have HK1 := am ((hb1.block _ (by simp)).trans HKA.out); have k0 : w1.cell? ⟨w.heap.size, 0, none⟩ = some (.slice A ids.length c) := (blk_cell HK1.out 0).trans rfl; have k1 : w1.cell? ⟨w.heap.size, 1, none⟩ = some (.bool rc) := (blk_cell HK1.out 1).trans rfl; have k2 : w1.cell? ⟨w.heap.size, 2, none⟩ = some (.int .i64 rn) := (blk_cell HK1.out 2).trans rfl; have k3 : w1.cell? ⟨w.heap.size, 3, none⟩ = some (.bool jb) := (blk_cell HK1.out 3).trans rfl)
  go_ret3
  exact ⟨HB1.out, Or.inl ⟨by rw [HE.out]; decide, by rw [HE.out, HA.out]; rfl⟩⟩
 have h2' : l.length ≤ 400 := by omega
 have hz2 : decide ((400 : Int) < (l.length : Int)) = false := decide_eq_false (by omega)
 have HR := am (fun (V : World) (hb : Below w.heap.size w V) => rRun_any A c ids rc rn jb A1 c1 l V (Kd.C_below hr hb) hlc (Kd.C_below hr1 hb) hl h1')
 clear hr hr1
 by_cases h3 : (talkL ids rc rn jb l).word.length < l.length
 ·have HE := am (tellE_odd h1' h2' h3)
  have HA := am (show tellAt ids rc rn jb l = (talkL ids rc rn jb l).word.length by rw [tellAt, HE.out, if_pos rfl])
  have hzb : decide (((talkL ids rc rn jb l).word.length : Int) < (l.length : Int)) = true := decide_eq_true (by omega)
  go_enter Tryz.func60, Tryz.ntmps60
  go_wp2_with (first
   | (go_at_call 96; refine (HC.out _ HB.out).mono ?_; rw [h1']; rintro e w1 ⟨rfl, hb1⟩; have HB1 := am (HB.out.trans (hb1.mono (by simp))); have hs1 : w.heap.size + 1 ≤ w1.heap.size := (by have := hb1.size; simpa using this); have HK1 := am ((hb1.block _ (by simp)).trans HKA.out); have k0 : w1.cell? ⟨w.heap.size, 0, none⟩ = some (.slice A ids.length c) := (blk_cell HK1.out 0).trans rfl; have k1 : w1.cell? ⟨w.heap.size, 1, none⟩ = some (.bool rc) := (blk_cell HK1.out 1).trans rfl; have k2 : w1.cell? ⟨w.heap.size, 2, none⟩ = some (.int .i64 rn) := (blk_cell HK1.out 2).trans rfl; have k3 : w1.cell? ⟨w.heap.size, 3, none⟩ = some (.bool jb) := (blk_cell HK1.out 3).trans rfl)
   | (go_at_call 97; refine (HR.out _ HB1.out).mono ?_; rintro e w2 ⟨rfl, hb2, vw, vo, vp, vj, hT⟩))
  go_ret3
  exact ⟨HB1.out.trans (hb2.mono (by omega)), Or.inl ⟨by rw [HE.out]; decide, by rw [HE.out, HA.out]; rfl⟩⟩
 have HE := am (tellE_ok h1' h2' h3)
 have hzb : decide (((talkL ids rc rn jb l).word.length : Int) < (l.length : Int)) = false := decide_eq_false (by omega)
 go_enter Tryz.func60, Tryz.ntmps60
 go_wp2_with (first
  | (go_at_call 96; refine (HC.out _ HB.out).mono ?_; rw [h1']; rintro e w1 ⟨rfl, hb1⟩; have HB1 := am (HB.out.trans (hb1.mono (by simp))); have hs1 : w.heap.size + 1 ≤ w1.heap.size := (by have := hb1.size; simpa using this); have HK1 := am ((hb1.block _ (by simp)).trans HKA.out); have k0 : w1.cell? ⟨w.heap.size, 0, none⟩ = some (.slice A ids.length c) := (blk_cell HK1.out 0).trans rfl; have k1 : w1.cell? ⟨w.heap.size, 1, none⟩ = some (.bool rc) := (blk_cell HK1.out 1).trans rfl; have k2 : w1.cell? ⟨w.heap.size, 2, none⟩ = some (.int .i64 rn) := (blk_cell HK1.out 2).trans rfl; have k3 : w1.cell? ⟨w.heap.size, 3, none⟩ = some (.bool jb) := (blk_cell HK1.out 3).trans rfl)
  | (go_at_call 97; refine (HR.out _ HB1.out).mono ?_; rintro e w2 ⟨rfl, hb2, vw, vo, vp, vj, hT⟩))
 go_ret3
 exact ⟨HB1.out.trans (hb2.mono (by omega)), Or.inr ⟨HE.out, _, rfl, _, _, _, _, hT.lower (by omega)⟩⟩
theorem tellAt_ok {ids : List S68} {rc : Bool} {rn : Int} {jb : Bool} {l : List Mv} (h : tellE ids rc rn jb l = 0) : tellAt ids rc rn jb l = 0 := by rw [tellAt, if_neg (by omega)]
section
variable {A : Option Addr} {c : Nat} {ids : List S68} {rc : Bool} {rn : Int} {jb : Bool} {l : List Mv} {w : World} {e : Ending} {w' : World}
theorem BeginPost.both (h : BeginPost A c ids rc rn jb l w e w') : ∃ p, e = .returned (.tuple #[.pointer p, .int .i64 (tellAt ids rc rn jb l), .int .i64 (tellE ids rc rn jb l)]) ∧ Below w.heap.size w w' := by
 obtain ⟨hb, ⟨h0, rfl⟩ | ⟨h0, g, rfl, _⟩⟩ := h
 ·exact ⟨_, rfl, hb⟩
 exact ⟨some ⟨g, 0, none⟩, by rw [tellAt_ok h0, h0], hb⟩
end
theorem rCheck_any (A : Option Addr) (c : Nat) (ids : List S68) (rc : Bool) (rn : Int) (jb : Bool) (A1 : Option Addr) (c1 : Nat) (l : List Mv) (w : World) (hr : Kd.C k68 w A ids.length ids) (hlc : ids.length ≤ c) (hr1 : Kd.C k52 w A1 l.length l) (hl : l.length ≤ 1000000) : Calls Tryz.prog 20 #[.agg #[.slice A ids.length c, .bool rc, .int .i64 rn, .bool jb], .slice A1 l.length c1] w fun e w' => e = .returned (.tuple #[.int .i64 (tellAt ids rc rn jb l), .int .i64 (tellE ids rc rn jb l)]) ∧ Below w.heap.size w w' := by
 have HB := am ((Below.refl _ w).alloc (Nat.le_refl _) (.cells #[.slice A ids.length c, .bool rc, .int .i64 rn, .bool jb] 26))
 have HO := am (fun (V : World) (hb : Below w.heap.size w V) => rBegin_any A c ids rc rn jb A1 c1 l V (Kd.C_below hr hb) hlc (Kd.C_below hr1 hb) hl)
 clear hr hr1
 go_enter Tryz.func20, Tryz.ntmps20
 go_wp2_with (go_at_call 60; refine (HO.out _ HB.out).mono ?_; rintro e w1 hp; obtain ⟨p, rfl, hb1⟩ := hp.both)
 go_ret2
 exact ⟨rfl, HB.out.trans (hb1.mono (by simp))⟩
end Go.Proofs.YtjgocihflhljeaaGreat.P
namespace Go.Proofs.YtjgocihflhljeaaGreat.P
open Go.RowKit Go.Shelf Go.Proofs.YtjgocihflhljeaaGreatW.PrintWords Go.Proofs.YtjgocihflhljeaaGreatW.PrintLast Go.Proofs.YtjgocihflhljeaaGreatW.PrintMore
attribute [local go_sem] Oper.semAt_some
structure Lw (w W : World) (I : List (Option Addr × List S68)) (Y : List (Option Addr × List Mv)) (X : List (Option Addr × List Int)) (G : List (Nat × Array Value × TypeId)) : Prop where
 b : Below w.heap.size w W
 i : ∀ p ∈ I, Kd.C k68 W p.1 p.2.length p.2
 y : ∀ p ∈ Y, Kd.C k52 W p.1 p.2.length p.2
 x : ∀ p ∈ X, Kd.C (Kd.int .i64) W p.1 p.2.length p.2
 g : ∀ p ∈ G, W.heap[p.1]? = some (.cells p.2.1 p.2.2 (0, 0))
section
variable {w W W' : World} {I : List (Option Addr × List S68)} {Y : List (Option Addr × List Mv)} {X : List (Option Addr × List Int)} {G : List (Nat × Array Value × TypeId)}
theorem Lw.below (h : Lw w W I Y X G) (hb : Below W.heap.size W W') : Lw w W' I Y X G :=
 ⟨h.b.trans (hb.mono h.b.size), fun p hp => Kd.C_below (h.i p hp) hb, fun p hp => Kd.C_below (h.y p hp) hb, fun p hp => Kd.C_below (h.x p hp) hb, fun p hp => (hb.block _ (blk_lt (h.g p hp))).trans (h.g p hp)⟩
theorem Lw.addi (h : Lw w W I Y X G) {B : Option Addr} {xs : List S68} (hx : Kd.C k68 W B xs.length xs) : Lw w W ((B, xs) :: I) Y X G :=
 ⟨h.b, fun p hp => by rcases List.mem_cons.1 hp with rfl | hp <;> first | exact hx | exact h.i p hp, h.y, h.x, h.g⟩
theorem Lw.addy (h : Lw w W I Y X G) {B : Option Addr} {xs : List Mv} (hx : Kd.C k52 W B xs.length xs) : Lw w W I ((B, xs) :: Y) X G :=
 ⟨h.b, h.i, fun p hp => by rcases List.mem_cons.1 hp with rfl | hp <;> first | exact hx | exact h.y p hp, h.x, h.g⟩
theorem Lw.addx (h : Lw w W I Y X G) {B : Option Addr} {xs : List Int} (hx : Kd.C (Kd.int .i64) W B xs.length xs) : Lw w W I Y ((B, xs) :: X) G :=
 ⟨h.b, h.i, h.y, fun p hp => by rcases List.mem_cons.1 hp with rfl | hp <;> first | exact hx | exact h.x p hp, h.g⟩
theorem Lw.addg (h : Lw w W I Y X G) {b : Nat} {cs : Array Value} {t : TypeId} (hx : W.heap[b]? = some (.cells cs t (0, 0))) : Lw w W I Y X ((b, cs, t) :: G) :=
 ⟨h.b, h.i, h.y, h.x, fun p hp => by rcases List.mem_cons.1 hp with rfl | hp <;> first | exact hx | exact h.g p hp⟩
theorem Lw.new (h : Lw w W I Y X G) (cs : Array Value) (t : TypeId) : Lw w (W.alloc (.cells cs t)) I Y X ((W.heap.size, cs, t) :: G) :=
 (h.below ((Below.refl _ W).alloc (Nat.le_refl _) _)).addg (heap_alloc_new W _)
theorem Lw.cell (h : Lw w W I Y X G) {b : Nat} {cs : Array Value} {t : TypeId} (hg : (b, cs, t) ∈ G) (i : Nat) {v : Value} (hv : cs[i]? = some v) : W.cell? ⟨b, i, none⟩ = some v := (blk_cell (h.g _ hg) i).trans hv
theorem Lw.awake (h : Lw w W I Y X G) : Calls Tryz.prog 15 #[] W fun e w' => e = .returned (.bool true) ∧ Lw w w' I Y X G :=
 (awake_any W).mono (by rintro e w' ⟨rfl, hb⟩; exact ⟨rfl, h.below hb⟩)
theorem Lw.copyA (h : Lw w W I Y X G) {A : Option Addr} {c : Nat} {ids : List S68} (rc : Bool) (rn : Int) (jb : Bool) (hi : (A, ids) ∈ I) (hc : ids.length ≤ c) (ht : ids.length ≤ 12 ∧ ∀ x ∈ ids, x.f0.length ≤ 8) :
  Calls Tryz.prog 16 #[.agg #[.slice A ids.length c, .bool rc, .int .i64 rn, .bool jb]] W fun e w' => ∃ B k, e = .returned (.agg #[.slice B ids.length k, .bool rc, .int .i64 rn, .bool jb]) ∧ ids.length ≤ k ∧ Lw w w' ((B, ids) :: I) Y X G :=
 (riposteref04_Copy.calls 20 A c ids rc rn jb _ _ _ _ W (h.i _ hi) hc (copy_f ids rc rn jb ht.1 ht.2)).mono (by
  rintro e w' ⟨v, rfl, hR, hb⟩
  obtain ⟨B, k, rfl, hk, hC⟩ := Kd.S_reads hR
  exact ⟨B, k, rfl, hk, (h.below hb).addi hC⟩)
theorem Lw.copyW (h : Lw w W I Y X G) {A1 : Option Addr} {c1 : Nat} {l : List Mv} (hy : (A1, l) ∈ Y) (hc1 : l.length ≤ c1) (hl : l.length ≤ 1000000) :
  Calls Tryz.prog 17 #[.slice A1 l.length c1] W fun e w' => ∃ B k, e = .returned (.slice B l.length k) ∧ l.length ≤ k ∧ Lw w w' I ((B, l) :: Y) X G :=
 (riposteref05_Copy.calls A1 c1 l l W (h.y _ hy) hc1 (copyW_f l hl)).mono (by
  rintro e w' ⟨v, rfl, hR, hb⟩
  obtain ⟨B, k, rfl, hk, hC⟩ := Kd.R_reads hR
  exact ⟨B, k, rfl, hk, (h.below hb).addy hC⟩)
end
section
variable {w W W' : World} {I : List (Option Addr × List S68)} {Y : List (Option Addr × List Mv)} {X : List (Option Addr × List Int)} {G : List (Nat × Array Value × TypeId)}
variable (h : Lw w W I Y X G) {A A1 : Option Addr} {c c1 : Nat} {ids : List S68} {l : List Mv} (rc : Bool) (rn : Int) (jb : Bool) (hi : (A, ids) ∈ I) (hy : (A1, l) ∈ Y) (hl : l.length ≤ 1000000)
include h hi hy hl
theorem Lw.check : Calls Tryz.prog 18 #[.agg #[.slice A ids.length c, .bool rc, .int .i64 rn, .bool jb], .slice A1 l.length c1] W fun e w' => e = .returned (.tuple #[.int .i64 (tellAt ids rc rn jb l), .int .i64 (tellE ids rc rn jb l)]) ∧ Lw w w' I Y X G :=
 (pCheck_any A c ids rc rn jb A1 c1 l W (h.i _ hi) (h.y _ hy) hl).mono (by rintro e w' ⟨rfl, hb⟩; exact ⟨rfl, h.below hb⟩)
theorem Lw.rcheck (hc : ids.length ≤ c) : Calls Tryz.prog 20 #[.agg #[.slice A ids.length c, .bool rc, .int .i64 rn, .bool jb], .slice A1 l.length c1] W fun e w' => e = .returned (.tuple #[.int .i64 (tellAt ids rc rn jb l), .int .i64 (tellE ids rc rn jb l)]) ∧ Lw w w' I Y X G :=
 (rCheck_any A c ids rc rn jb A1 c1 l W (h.i _ hi) hc (h.y _ hy) hl).mono (by rintro e w' ⟨rfl, hb⟩; exact ⟨rfl, h.below hb⟩)
end
theorem Lw.start {w : World} {A A1 : Option Addr} {ids : List S68} {l : List Mv} (hr : Kd.C k68 w A ids.length ids) (hr1 : Kd.C k52 w A1 l.length l) : Lw w w [(A, ids)] [(A1, l)] [] [] := by
 refine ⟨Below.refl _ _, ?_, ?_, ?_, ?_⟩ <;> intro p hp
 ·rw [List.mem_singleton] at hp
  subst hp
  exact hr
 ·rw [List.mem_singleton] at hp
  subst hp
  exact hr1
 ·cases hp
 cases hp
end Go.Proofs.YtjgocihflhljeaaGreat.P
namespace Go.Proofs.YtjgocihflhljeaaGreat.P
open Go.RowKit Go.Shelf Go.Proofs.YtjgocihflhljeaaGreatW.PrintWords Go.Proofs.YtjgocihflhljeaaGreatW.PrintLast Go.Proofs.YtjgocihflhljeaaGreatW.PrintMore
section
variable {w W W' : World} {I : List (Option Addr × List S68)} {Y : List (Option Addr × List Mv)} {X : List (Option Addr × List Int)} {G : List (Nat × Array Value × TypeId)}
theorem Lw.popi {p : Option Addr × List S68} (h : Lw w W (p :: I) Y X G) : Lw w W I Y X G := ⟨h.b, fun q hq => h.i q (List.mem_cons_of_mem _ hq), h.y, h.x, h.g⟩
theorem Lw.popy {p : Option Addr × List Mv} (h : Lw w W I (p :: Y) X G) : Lw w W I Y X G := ⟨h.b, h.i, fun q hq => h.y q (List.mem_cons_of_mem _ hq), h.x, h.g⟩
variable (h : Lw w W I Y X G) {A A1 : Option Addr} {c c1 : Nat} {ids : List S68} {l : List Mv} (rc : Bool) (rn : Int) (jb : Bool) (hi : (A, ids) ∈ I) (hy : (A1, l) ∈ Y) (hl : l.length ≤ 1000000)
include h hi hy hl
theorem Lw.justifiers : Calls Tryz.prog 40 #[.agg #[.slice A ids.length c, .bool rc, .int .i64 rn, .bool jb], .slice A1 l.length c1] W fun e w' => ∃ B k, e = .returned (.tuple #[.slice B (okL (tellE ids rc rn jb l) (talkL ids rc rn jb l).just).length k, .int .i64 (tellE ids rc rn jb l)]) ∧ (okL (tellE ids rc rn jb l) (talkL ids rc rn jb l).just).length ≤ k ∧ Lw w w' I Y ((B, okL (tellE ids rc rn jb l) (talkL ids rc rn jb l).just) :: X) G :=
 (pJustifiers_any A c ids rc rn jb A1 c1 l W (h.i _ hi) (h.y _ hy) hl).mono (by
  rintro e w' ⟨r, rfl, hR, hb⟩
  obtain ⟨B, k, rfl, hk, hC⟩ := Kd.R_reads hR
  exact ⟨B, k, rfl, hk, (h.below hb).addx hC⟩)
end
end Go.Proofs.YtjgocihflhljeaaGreat.P
namespace Go.Proofs.YtjgocihflhljeaaGreat.P
open Go.RowKit Go.Proofs.YtjgocihflhljeaaGreatW.PrintWords Go.Proofs.YtjgocihflhljeaaGreatW.PrintLast Go.Proofs.YtjgocihflhljeaaGreatW.PrintMore
attribute [local go_sem] max2_int max_two
def riposteref05_Among.l0 : Nat → List Int → Int → Int → Option (Bool)
 | 0, _, _, _ => none
 | k + 1, x0, x1, x5 => if x5 < (x0.length : Int) then (if 0 ≤ x5 then (if (rd x0 x5) = x1 then (some true) else (riposteref05_Among.l0 k x0 x1 (wrap64 (x5 + 1)))) else (none)) else (some false)
def riposteref05_Among.f (k : Nat) (l0 : List Int) (a1 : Int) : Option (Bool) := riposteref05_Among.l0 k l0 a1 0
set_option maxHeartbeats 8000000 in
set_option maxRecDepth 100000 in
theorem riposteref05_Among.calls (k : Nat) (A0 : Option Addr) (c0 : Nat) (l0 : List Int) (a1 : Int) (r : Bool) (w : World) (hr0 : Kd.C (Kd.int .i64) w A0 l0.length l0) (hc0 : l0.length ≤ c0) (h : riposteref05_Among.f k l0 a1 = some r) :
  Calls Tryz.prog 41 #[.slice A0 l0.length c0, .int .i64 a1] w fun e w' => e = .returned (.bool r) ∧ Drawn0 w w' := by
 have HR0 := am hr0
 have HC0 := am hc0
 clear hr0 hc0
 have H : (riposteref05_Among.l0 k l0 a1 0) = some r := h
 clear h
 have H' := am H
 clear H
 go_enter Tryz.func41, Tryz.ntmps41
 go_wp2
 go_loopg [5] k (fun kq v5 w' => ∃ (x5_1 : Int), v5 = .int .i64 x5_1 ∧ Aside0 (riposteref05_Among.l0 kq l0 a1 x5_1 = some r) ∧ Aside0 (kq ≤ k) ∧ Drawn0 w w')
 case atStart => exact ⟨(0), (by first | rfl), H', ⟨Nat.le_refl _⟩, by repeat (first | exact Drawn0.refl _)⟩
 case round =>
  clear H'
  try clear p2
  obtain ⟨x5_1, rfl, HA, HK1, ⟨m1, rfl⟩⟩ := hrel
  cases gk with
  | zero => exact absurd HA.out (by simp [riposteref05_Among.l0])
  | succ k1 =>
   have H := HA.out
   clear HA
   simp only [riposteref05_Among.l0] at H
   by_cases c3 : x5_1 < (l0.length : Int)
   ·rw [if_pos c3] at H
    have c3b0 : decide (x5_1 < (l0.length : Int)) = true := decide_eq_true c3
    clear c3
    by_cases c4 : 0 ≤ x5_1
    ·rw [if_pos c4] at H
     have c4b0 : decide (0 ≤ x5_1) = true := decide_eq_true c4
     clear c4
     by_cases c5 : (rd l0 x5_1) = a1
     ·rw [if_pos c5] at H
      have c5b0 : ((rd l0 x5_1) == a1) = true := beq_iff_eq.mpr c5
      have c5b1 : ((rd l0 x5_1) != a1) = false := bne_eq_false_iff_eq.mpr c5
      clear c5
      obtain rfl := Option.some.inj H
      have p400 : 0 ≤ (x5_1 : Int) := of_decide_eq_true (by first | (with_reducible assumption))
      have q400 : x5_1 < (l0.length : Int) := of_decide_eq_true (by first | (with_reducible assumption))
      obtain ⟨ad400, e400, hx400_0⟩ := Kd.at_int HR0.out x5_1 p400 q400
      cases e400
      replace p400 := eq_true p400
      replace q400 := eq_true q400
      go_wp2
      go_ret
      exact ⟨by first | rfl, by repeat (first | exact Drawn0.refl _ | apply Drawn0.step)⟩
     rw [if_neg c5] at H
     have c5b0 : ((rd l0 x5_1) == a1) = false := beq_eq_false_iff_ne.mpr c5
     have c5b1 : ((rd l0 x5_1) != a1) = true := bne_iff_ne.mpr c5
     have H' := am H
     clear H
     have p400 : 0 ≤ (x5_1 : Int) := of_decide_eq_true (by first | (with_reducible assumption))
     have q400 : x5_1 < (l0.length : Int) := of_decide_eq_true (by first | (with_reducible assumption))
     obtain ⟨ad400, e400, hx400_0⟩ := Kd.at_int HR0.out x5_1 p400 q400
     cases e400
     replace p400 := eq_true p400
     replace q400 := eq_true q400
     go_wp2
     go_roundg k1
     case measure => have := HK1.out; omega
     case rel => exact ⟨(wrap64 (x5_1 + 1)), (by first | rfl), H', ⟨by have := HK1.out; omega⟩, by repeat (first | exact Drawn0.refl _ | apply Drawn0.step)⟩
    rw [if_neg c4] at H
    exact absurd H (by simp)
   rw [if_neg c3] at H
   have c3b0 : decide (x5_1 < (l0.length : Int)) = false := decide_eq_false c3
   clear c3
   obtain rfl := Option.some.inj H
   go_wp2
   go_ret
   exact ⟨by first | rfl, by repeat (first | exact Drawn0.refl _ | apply Drawn0.step)⟩
end Go.Proofs.YtjgocihflhljeaaGreat.P
namespace Go.Proofs.YtjgocihflhljeaaGreat.P
open Go.RowKit Go.Shelf Go.Proofs.YtjgocihflhljeaaGreatW.PrintWords Go.Proofs.YtjgocihflhljeaaGreatW.PrintLast Go.Proofs.YtjgocihflhljeaaGreatW.PrintMore
def isOB (m : Mv) : Bool := isIdent m != askB m
theorem ask_ans {m : Mv} (h : MvOk m) : askB m = !isAns m := by
 unfold askB isAns
 rcases h.k with h | h | h <;> rw [h] <;> rfl
theorem par_ident {m : Mv} (h : isPar m = true) : isIdent m = false := by
 unfold isPar at h
 unfold isIdent
 simp only [Bool.and_eq_true, decide_eq_true_eq] at h
 have : (m.f1 == 0) = false := by simp; omega
 rw [this, Bool.and_false]
inductive Way (t : Tk) (jb : Bool) (m : Mv) : Prop where
 | root (h0 : t.word.length = 0) (ht : t.opn = []) (ha : isAns m = false) (h1 : m.f0 = 0) (h2 : m.f1 = 0) : Way t jb m
 | ident (q : Int) (ht : t.top = some q) (hq : isIdent (t.mv q) = false) (ha : isAns m = false) (hi : isIdent m = true) (hf : t.force = false) (hl : t.lost = false) : Way t jb m
 | param (q : Int) (ht : t.top = some q) (hq : isIdent (t.mv q) = true) (ha : isAns m = false) (hp : isPar m = true) (h0 : m.f0 = (t.mv q).f0) (hf : t.force = false) (hl : t.lost = false) : Way t jb m
 | answer (q : Int) (ht : t.top = some q) (ha : isAns m = true) (h0 : m.f0 = (t.mv q).f0) (h1 : m.f1 = (t.mv q).f1) (hn : t.answers jb (t.mv q) m = true) : Way t jb m
theorem way_of {t : Tk} {jb : Bool} {m : Mv} (ho : t.opn.length ≤ t.word.length) (h : t.can jb m = true) : Way t jb m := by
 unfold Tk.can at h
 cases ht : t.top with
 | none =>
  rw [ht] at h
  unfold atB at h
  simp only [Bool.and_eq_true, beq_iff_eq] at h
  obtain ⟨⟨h0, h1, h2⟩, h3⟩ := h
  exact .root (by omega) (List.getLast?_eq_none_iff.1 ht) (by simpa using h3) h1 h2
 | some q =>
  rw [ht] at h
  simp only at h
  have hn : t.opn ≠ [] := by
   intro hn
   rw [Tk.top, hn] at ht
   cases ht
  have hp := List.length_pos_iff.2 hn
  cases ha : isAns m with
  | true =>
   rw [ha, if_pos rfl] at h
   unfold atB at h
   simp only [Bool.and_eq_true, beq_iff_eq] at h
   obtain ⟨⟨h1, h2⟩, h3⟩ := h
   exact .answer q ht ha h1 h2 h3
  | false =>
   rw [ha, if_neg (by decide)] at h
   cases hf : (t.force || t.lost) with
   | true => rw [hf, if_pos rfl] at h; cases h
   | false =>
    rw [hf, if_neg (by decide)] at h
    rw [Bool.or_eq_false_iff] at hf
    have hov : t.over = false := by
     unfold Tk.over
     have : ((t.opn.length : Int) == 0) = false := by simp; omega
     rw [this, Bool.and_false]
    have htu : t.turn = if isIdent (t.mv q) then 1 else 2 := by
     unfold Tk.turn
     rw [hov, if_neg (by decide), ht]
    cases hq : isIdent (t.mv q) with
    | false =>
     rw [htu, hq, if_pos (by rfl)] at h
     exact .ident q ht hq ha h hf.1 hf.2
    | true =>
     rw [htu, hq, if_neg (by decide)] at h
     simp only [Bool.and_eq_true, beq_iff_eq] at h
     exact .param q ht hq ha h.1 h.2 hf.1 hf.2
theorem top_get {t : Tk} {q : Int} (h : t.top = some q) : 0 < t.opn.length ∧ t.opn.getD (t.opn.length - 1) 0 = q := by
 unfold Tk.top at h
 rw [List.getLast?_eq_getElem?] at h
 have hl : t.opn.length - 1 < t.opn.length := by
  rcases Nat.lt_or_ge (t.opn.length - 1) t.opn.length with hh | hh
  ·exact hh
  rw [List.getElem?_eq_none hh] at h; cases h
 rw [List.getD_eq_getElem?_getD, h]
 exact ⟨by omega, rfl⟩
theorem getD_snoc {α : Type} (l : List α) (x z : α) (k : Nat) : (l ++ [x]).getD k z = if k < l.length then l.getD k z else if k = l.length then x else z := by
 rw [List.getD_eq_getElem?_getD, List.getD_eq_getElem?_getD]
 split
 ·rw [List.getElem?_append_left (by assumption)]
 rw [List.getElem?_append_right (by omega)]
 split
 ·subst k; simp
 have : 1 ≤ k - l.length := by omega
 rw [List.getElem?_eq_none (by simpa using this)]
 rfl
theorem getD_dropLast {α : Type} (l : List α) (z : α) (k : Nat) (h : k + 1 < l.length) : l.dropLast.getD k z = l.getD k z := by
 rw [List.getD_eq_getElem?_getD, List.getD_eq_getElem?_getD, List.getElem?_dropLast, if_pos (by omega)]
theorem say_len (t : Tk) (m : Mv) : (t.say m).word.length = t.word.length + 1 := by simp [Tk.say]
theorem say_mv (t : Tk) (m : Mv) (n : Int) (h0 : 0 ≤ n) (h1 : n ≤ t.word.length) : (t.say m).mv n = if n = t.word.length then m else t.mv n := by
 split
 ·rename_i h; rw [h, say_mv_new]
 exact say_mv_old h0 (by omega)
theorem say_opn_ans {t : Tk} {m : Mv} (h : isAns m = true) : (t.say m).opn = t.opn.dropLast := by
 show t.opn' m = _
 rw [Tk.opn', if_pos h]
theorem say_opn_ask {t : Tk} {m : Mv} (h : isAns m = false) : (t.say m).opn = t.opn ++ [(t.word.length : Int)] := by
 show t.opn' m = _
 rw [Tk.opn', if_neg (by rw [h]; decide)]
structure Tk.InvA (t : Tk) : Prop where
 par : (t.word.length + t.opn.length) % 2 = 0
 lo : ∀ k, k < t.opn.length → 0 ≤ t.opn.getD k 0 ∧ t.opn.getD k 0 < t.word.length
 asc : ∀ k, k + 1 < t.opn.length → t.opn.getD k 0 < t.opn.getD (k + 1) 0
 alt : ∀ k, k < t.opn.length → isIdent (t.mv (t.opn.getD k 0)) = decide (k % 2 = 1)
 ask : ∀ k, k < t.opn.length → isAns (t.mv (t.opn.getD k 0)) = false
 pty : ∀ k, k < t.opn.length → (t.opn.getD k 0) % 2 = (k : Int) % 2
 oth : ∀ i : Nat, i < t.word.length → isOB (t.mv i) = decide (i % 2 = 0)
 root : ∀ i : Nat, i < t.word.length → isAns (t.mv i) = false → (t.mv i).f0 = 0 → i = 0
 mvs : ∀ i : Nat, i < t.word.length → MvOk (t.mv i)
theorem Tk.InvA.empty : Tk.empty.InvA := ⟨rfl, fun k h => by simp [Tk.empty] at h, fun k h => by simp [Tk.empty] at h, fun k h => by simp [Tk.empty] at h, fun k h => by simp [Tk.empty] at h, fun k h => by simp [Tk.empty] at h, fun k h => by simp [Tk.empty] at h, fun k h => by simp [Tk.empty] at h, fun k h => by simp [Tk.empty] at h⟩
theorem Tk.InvA.top {t : Tk} (h : t.InvA) {q : Int} (ht : t.top = some q) : 0 ≤ q ∧ q < t.word.length ∧ isAns (t.mv q) = false ∧ isIdent (t.mv q) = decide (t.opn.length % 2 = 0) ∧ 0 < t.opn.length := by
 obtain ⟨h0, hq⟩ := top_get ht
 have h1 := h.lo (t.opn.length - 1) (by omega)
 have h2 := h.ask (t.opn.length - 1) (by omega)
 have h3 := h.alt (t.opn.length - 1) (by omega)
 rw [hq] at h1 h2 h3
 refine ⟨h1.1, h1.2, h2, ?_, h0⟩
 rw [h3, decide_eq_decide]
 omega
theorem way_oth {t : Tk} {jb : Bool} {m : Mv} (h : t.InvA) (hm : MvOk m) (hw : Way t jb m) : isOB m = decide (t.word.length % 2 = 0) := by
 have hpar := h.par
 unfold isOB
 rw [ask_ans hm]
 cases hw with
 | root h0 ht ha h1 h2 =>
  have : isIdent m = false := by simp [isIdent, h1]
  rw [this, ha, h0]
  rfl
 | ident q ht hq ha hi hf hl =>
  have h3 := (h.top ht).2.2.2.1
  rw [hq] at h3
  have h4 := of_decide_eq_false h3.symm
  rw [hi, ha, decide_eq_false (by omega)]
  rfl
 | param q ht hq ha hp h0 hf hl =>
  have h3 := (h.top ht).2.2.2.1
  rw [hq] at h3
  have h4 := of_decide_eq_true h3.symm
  rw [par_ident hp, ha, decide_eq_true (by omega)]
  rfl
 | answer q ht ha h0 h1 hn =>
  have h3 := (h.top ht).2.2.2.1
  have e : isIdent m = isIdent (t.mv q) := by unfold isIdent; rw [h0, h1]
  rw [e, h3, ha]
  by_cases hp : t.opn.length % 2 = 0
  ·rw [decide_eq_true hp, decide_eq_true (by omega)]; rfl
  rw [decide_eq_false hp, decide_eq_false (by omega)]; rfl
theorem Tk.InvA.say {t : Tk} {jb : Bool} {m : Mv} (h : t.InvA) (hm : MvOk m) (hw : Way t jb m) : (t.say m).InvA := by
 have hoth := way_oth h hm hw
 have hol : t.opn.length ≤ t.word.length ∨ True := .inr trivial
 have hpar := h.par
 have oth : ∀ i : Nat, i < (t.say m).word.length → isOB ((t.say m).mv i) = decide (i % 2 = 0) := by
  intro i hi
  rw [say_len] at hi
  rw [say_mv _ _ _ (by omega) (by omega)]
  split
  ·have : i = t.word.length := by omega
   rw [hoth, this]
  exact h.oth i (by omega)
 have mvs : ∀ i : Nat, i < (t.say m).word.length → MvOk ((t.say m).mv i) := by
  intro i hi
  rw [say_len] at hi
  rw [say_mv _ _ _ (by omega) (by omega)]
  split
  ·exact hm
  exact h.mvs i (by omega)
 cases ha : isAns m with
 | true =>
  have eo := say_opn_ans (t := t) ha
  have hlen : (t.say m).opn.length = t.opn.length - 1 := by rw [eo]; simp
  have hpos : 0 < t.opn.length := by
   cases hw with
   | root _ _ ha' _ _ => rw [ha] at ha'; cases ha'
   | ident _ _ _ ha' _ _ _ => rw [ha] at ha'; cases ha'
   | param _ _ _ ha' _ _ _ _ => rw [ha] at ha'; cases ha'
   | answer q ht _ _ _ _ => exact (h.top ht).2.2.2.2
  have hg : ∀ k, k < (t.say m).opn.length → (t.say m).opn.getD k 0 = t.opn.getD k 0 := by
   intro k hk
   rw [eo]
   exact getD_dropLast _ _ _ (by omega)
  have hmv : ∀ k, k < (t.say m).opn.length → (t.say m).mv (t.opn.getD k 0) = t.mv (t.opn.getD k 0) := fun k hk => say_mv_old (h.lo k (by omega)).1 (h.lo k (by omega)).2
  refine ⟨?_, ?_, ?_, ?_, ?_, ?_, oth, ?_, mvs⟩
  ·rw [say_len, hlen]; omega
  ·intro k hk
   rw [hg k hk, say_len]
   have := h.lo k (by omega)
   omega
  ·intro k hk
   rw [hg k (by omega), hg (k + 1) hk]
   exact h.asc k (by omega)
  ·intro k hk
   rw [hg k hk, hmv k hk]
   exact h.alt k (by omega)
  ·intro k hk
   rw [hg k hk, hmv k hk]
   exact h.ask k (by omega)
  ·intro k hk
   rw [hg k hk]
   exact h.pty k (by omega)
  intro i hi hai h0
  rw [say_len] at hi
  rw [say_mv _ _ _ (by omega) (by omega)] at hai h0
  split at hai
  ·rw [ha] at hai; cases hai
  rename_i hne
  rw [if_neg hne] at h0
  exact h.root i (by omega) hai h0
 | false =>
  have eo := say_opn_ask (t := t) ha
  have hlen : (t.say m).opn.length = t.opn.length + 1 := by rw [eo]; simp
  have hg : ∀ k, (t.say m).opn.getD k 0 = if k < t.opn.length then t.opn.getD k 0 else if k = t.opn.length then (t.word.length : Int) else 0 := by
   intro k
   rw [eo]
   exact getD_snoc _ _ _ _
  have hid : isIdent m = decide (t.opn.length % 2 = 1) := by
   cases hw with
   | root h0 ht _ h1 h2 => rw [ht]; simp [isIdent, h1]
   | ident q ht hq _ hi hf hl =>
    have h3 := (h.top ht).2.2.2.1
    rw [hq] at h3
    have h4 := of_decide_eq_false h3.symm
    rw [hi, decide_eq_true (by omega)]
   | param q ht hq _ hp h0 hf hl =>
    have h3 := (h.top ht).2.2.2.1
    rw [hq] at h3
    have h4 := of_decide_eq_true h3.symm
    rw [par_ident hp, decide_eq_false (by omega)]
   | answer q ht ha' _ _ _ => rw [ha] at ha'; cases ha'
  refine ⟨?_, ?_, ?_, ?_, ?_, ?_, oth, ?_, mvs⟩
  ·rw [say_len, hlen]; omega
  ·intro k hk
   rw [hg k, say_len]
   split
   ·have := h.lo k (by assumption)
    omega
   rw [if_pos (by omega)]
   omega
  ·intro k hk
   rw [hg k, hg (k + 1), if_pos (by omega)]
   split
   ·exact h.asc k (by omega)
   rw [if_pos (by omega)]
   exact (h.lo k (by omega)).2
  ·intro k hk
   rw [hg k]
   split
   ·rename_i hk2
    rw [say_mv_old (h.lo k hk2).1 (h.lo k hk2).2]
    exact h.alt k hk2
   have : k = t.opn.length := by omega
   rw [if_pos this, say_mv_new, hid, this]
  ·intro k hk
   rw [hg k]
   split
   ·rename_i hk2
    rw [say_mv_old (h.lo k hk2).1 (h.lo k hk2).2]
    exact h.ask k hk2
   have : k = t.opn.length := by omega
   rw [if_pos this, say_mv_new, ha]
  ·intro k hk
   rw [hg k]
   split
   ·rename_i hk2
    exact h.pty k hk2
   have : k = t.opn.length := by omega
   rw [if_pos this]
   omega
  intro i hi hai h0
  rw [say_len] at hi
  rw [say_mv _ _ _ (by omega) (by omega)] at hai h0
  split at hai
  ·rename_i he
   rw [if_pos he] at h0
   cases hw with
   | root hz _ _ _ _ => omega
   | ident q ht hq _ hi' hf hl => simp [isIdent, h0] at hi'
   | param q ht hq _ hp h0' hf hl => simp [isPar, h0] at hp
   | answer q ht ha' _ _ _ => rw [ha] at ha'; cases ha'
  rename_i hne
  rw [if_neg hne] at h0
  exact h.root i (by omega) hai h0
end Go.Proofs.YtjgocihflhljeaaGreat.P
namespace Go.Proofs.YtjgocihflhljeaaGreat.P
open Go.RowKit Go.Shelf Go.Proofs.YtjgocihflhljeaaGreatW.PrintWords Go.Proofs.YtjgocihflhljeaaGreatW.PrintLast Go.Proofs.YtjgocihflhljeaaGreatW.PrintMore
attribute [local go_sem] Oper.semAt_some
def Tk.jst (t : Tk) (n : Int) : Int := t.just.getD n.toNat 0
def sightF (t : Tk) : Nat → Int → Option (List Int)
 | 0, _ => none
 | k + 1, n => if 1 ≤ n ∧ n ≤ t.word.length then if (t.mv (n - 1)).f1 = 0 then some [0, n - 1] else (sightF t k (t.jst (n - 1))).map (· ++ [t.jst (n - 1), n - 1]) else none
def seenF (t : Tk) : Nat → Int → Option (List Int)
 | 0, _ => none
 | k + 1, n => if 1 ≤ n ∧ n ≤ t.word.length then if (t.mv (n - 1)).f0 = 0 then some [n - 1]
   else if isEscB (t.mv (n - 1)) = true ∧ n < 2 then none
   else if isEscB (t.mv (n - 1)) && (isEscB (t.mv (n - 2)) && decide (0 < (t.mv (n - 2)).f1)) then (seenF t k (n - 2)).map (· ++ [n - 2, n - 1])
   else (seenF t k (t.jst (n - 1))).map (· ++ [t.jst (n - 1), n - 1]) else none
end Go.Proofs.YtjgocihflhljeaaGreat.P
namespace Go.Proofs.YtjgocihflhljeaaGreat.P
open Go.RowKit Go.Shelf Go.Proofs.YtjgocihflhljeaaGreatW.PrintWords Go.Proofs.YtjgocihflhljeaaGreatW.PrintLast Go.Proofs.YtjgocihflhljeaaGreatW.PrintMore
def Tk.prt (t : Tk) (i : Nat) : Int := t.part.getD i 0
def Tk.jus (t : Tk) (i : Nat) : Int := t.just.getD i 0
def Tk.frd (t : Tk) (i : Nat) : Bool := t.forc.getD i false
structure Tk.InvC (t : Tk) : Prop where
 ans : ∀ i : Nat, i < t.word.length → isAns (t.mv i) = true → ∃ j : Nat, j < i ∧ t.prt i = j ∧ t.jus i = j ∧ isAns (t.mv j) = false ∧ (t.mv j).f0 = (t.mv i).f0 ∧ (t.mv j).f1 = (t.mv i).f1
 idn : ∀ i : Nat, i < t.word.length → isAns (t.mv i) = false → isIdent (t.mv i) = true → t.jus i = 0 ∧ 0 < i
 par : ∀ i : Nat, i < t.word.length → isAns (t.mv i) = false → isPar (t.mv i) = true → ∃ j : Nat, j < i ∧ t.jus i = j ∧ isAns (t.mv j) = false ∧ isIdent (t.mv j) = true ∧ (t.mv j).f0 = (t.mv i).f0
 rot : ∀ i : Nat, i < t.word.length → isAns (t.mv i) = false → (t.mv i).f0 = 0 → t.jus i = -1
 frc : ∀ i : Nat, i < t.word.length → t.frd i = (decide (0 < i) && isEscB (t.mv ((i : Int) - 1)) && decide (0 < (t.mv ((i : Int) - 1)).f1))
 fes : ∀ i : Nat, i < t.word.length → t.frd i = true → isEscB (t.mv i) = true
 zer : 0 < t.word.length → (t.mv 0).f0 = 0
theorem Tk.InvC.empty : Tk.empty.InvC := ⟨fun k h => by simp [Tk.empty] at h, fun k h => by simp [Tk.empty] at h, fun k h => by simp [Tk.empty] at h, fun k h => by simp [Tk.empty] at h, fun k h => by simp [Tk.empty] at h, fun k h => by simp [Tk.empty] at h, fun h => by simp [Tk.empty] at h⟩
theorem say_prt (t : Tk) (m : Mv) (ho : t.Ok) (i : Nat) (hi : i ≤ t.word.length) : (t.say m).prt i = if i = t.word.length then (if isAns m then t.topI else -1) else if isAns m = true ∧ t.topI.toNat = i then t.word.length else t.prt i := by
 have hp := ho.hp
 show ((if isAns m then t.part.set t.topI.toNat t.word.length else t.part) ++ [if isAns m then t.topI else -1]).getD i 0 = _
 have hl : (if isAns m then t.part.set t.topI.toNat t.word.length else t.part).length = t.word.length := by
  split <;> simp [hp]
 rw [getD_snoc, hl]
 by_cases h : i = t.word.length
 ·rw [if_neg (by omega), if_pos h, if_pos h]
 rw [if_pos (by omega), if_neg h]
 cases ha : isAns m with
 | true =>
  rw [if_pos rfl]
  by_cases h2 : t.topI.toNat = i
  ·rw [if_pos ⟨rfl, h2⟩, h2, List.getD_eq_getElem?_getD, List.getElem?_set_self (by omega)]
   rfl
  rw [if_neg (by simpa using h2), List.getD_eq_getElem?_getD, List.getElem?_set_ne h2]
  exact (List.getD_eq_getElem?_getD ..).symm
 | false =>
  rw [if_neg (by decide), if_neg (by simp)]
  rfl
theorem say_jus (t : Tk) (m : Mv) (ho : t.Ok) (i : Nat) (hi : i ≤ t.word.length) : (t.say m).jus i = if i = t.word.length then t.justOf m else t.jus i := by
 have hp := ho.hj
 show (t.just ++ [t.justOf m]).getD i 0 = _
 rw [getD_snoc, hp]
 by_cases h : i = t.word.length
 ·rw [if_neg (by omega), if_pos h, if_pos h]
 rw [if_pos (by omega), if_neg h]
 rfl
theorem say_frd (t : Tk) (m : Mv) (ho : t.Ok) (i : Nat) (hi : i ≤ t.word.length) : (t.say m).frd i = if i = t.word.length then t.force else t.frd i := by
 have hp := ho.hf
 show (t.forc ++ [t.force]).getD i false = _
 rw [getD_snoc, hp]
 by_cases h : i = t.word.length
 ·rw [if_neg (by omega), if_pos h, if_pos h]
 rw [if_pos (by omega), if_neg h]
 rfl
theorem say_mvN (t : Tk) (m : Mv) (i : Nat) (h : i < t.word.length) : (t.say m).mv (i : Int) = t.mv i := say_mv_old (by omega) (by omega)
theorem topI_of {t : Tk} {q : Int} (h : t.top = some q) : t.topI = q := by rw [Tk.topI, h]; rfl
theorem answers_esc {t : Tk} {jb : Bool} {q m : Mv} (h : t.answers jb q m = true) (hf : t.force = true ∨ t.lost = true) : isEscB m = true := by
 unfold Tk.answers at h
 have : (t.force || t.lost) = true := by rcases hf with h | h <;> simp [h]
 rw [this, if_pos rfl] at h
 exact h
theorem Tk.InvC.say {t : Tk} {jb : Bool} {m : Mv} (h : t.InvC) (hA : t.InvA) (ho : t.Ok) (hfo : t.force = (decide (0 < t.word.length) && isEscB (t.mv ((t.word.length : Int) - 1)) && decide (0 < (t.mv ((t.word.length : Int) - 1)).f1))) (hm : MvOk m) (hw : Way t jb m) : (t.say m).InvC := by
 have hl := say_len t m
 have htop : ∀ q, t.top = some q → ∃ j : Nat, (j : Int) = q ∧ j < t.word.length ∧ isAns (t.mv j) = false := by
  intro q hq
  have h1 := hA.top hq
  exact ⟨q.toNat, by omega, by omega, by rw [Int.toNat_of_nonneg h1.1]; exact h1.2.2.1⟩
 refine ⟨?_, ?_, ?_, ?_, ?_, ?_, ?_⟩
 ·intro i hi ha
  rw [hl] at hi
  by_cases hin : i = t.word.length
  ·subst hin
   rw [say_mv_new] at ha ⊢
   cases hw with
   | root _ _ ha' _ _ => rw [ha] at ha'; cases ha'
   | ident _ _ _ ha' _ _ _ => rw [ha] at ha'; cases ha'
   | param _ _ _ ha' _ _ _ _ => rw [ha] at ha'; cases ha'
   | answer q ht _ h0 h1 hn =>
    obtain ⟨j, hj, hjl, hja⟩ := htop q ht
    refine ⟨j, hjl, ?_, ?_, ?_, ?_, ?_⟩
    ·rw [say_prt _ _ ho _ (Nat.le_refl _), if_pos rfl, if_pos ha, topI_of ht, hj]
    ·rw [say_jus _ _ ho _ (Nat.le_refl _), if_pos rfl, Tk.justOf, if_pos ha, topI_of ht, hj]
    ·rw [say_mvN _ _ _ hjl]; exact hja
    ·rw [say_mvN _ _ _ hjl, hj, h0]
    rw [say_mvN _ _ _ hjl, hj, h1]
  have hi' : i < t.word.length := by omega
  rw [say_mvN _ _ _ hi'] at ha ⊢
  obtain ⟨j, hj, h1, h2, h3, h4, h5⟩ := h.ans i hi' ha
  refine ⟨j, hj, ?_, ?_, ?_, ?_, ?_⟩
  ·rw [say_prt _ _ ho _ (by omega), if_neg hin, if_neg, h1]
   rintro ⟨ham, hti⟩
   cases hw with
   | root _ _ ha' _ _ => rw [ham] at ha'; cases ha'
   | ident _ _ _ ha' _ _ _ => rw [ham] at ha'; cases ha'
   | param _ _ _ ha' _ _ _ _ => rw [ham] at ha'; cases ha'
   | answer q ht _ _ _ _ =>
    obtain ⟨k, hk, hkl, hka⟩ := htop q ht
    rw [topI_of ht, ← hk, Int.toNat_natCast] at hti
    rw [hti, ha] at hka
    cases hka
  ·rw [say_jus _ _ ho _ (by omega), if_neg hin, h2]
  ·rw [say_mvN _ _ _ (by omega)]; exact h3
  ·rw [say_mvN _ _ _ (by omega)]; exact h4
  rw [say_mvN _ _ _ (by omega)]; exact h5
 ·intro i hi ha hid
  rw [hl] at hi
  by_cases hin : i = t.word.length
  ·subst hin
   rw [say_mv_new] at ha hid
   rw [say_jus _ _ ho _ (Nat.le_refl _), if_pos rfl, Tk.justOf, if_neg (by rw [ha]; decide), if_pos hid]
   refine ⟨rfl, ?_⟩
   cases hw with
   | root h0 ht _ h1 h2 => simp [isIdent, h1] at hid
   | ident q ht _ _ _ _ _ => obtain ⟨j, _, hjl, _⟩ := htop q ht; omega
   | param q ht _ _ _ _ _ _ => obtain ⟨j, _, hjl, _⟩ := htop q ht; omega
   | answer q ht _ _ _ _ => obtain ⟨j, _, hjl, _⟩ := htop q ht; omega
  have hi' : i < t.word.length := by omega
  rw [say_mvN _ _ _ hi'] at ha hid
  rw [say_jus _ _ ho _ (by omega), if_neg hin]
  exact h.idn i hi' ha hid
 ·intro i hi ha hp
  rw [hl] at hi
  by_cases hin : i = t.word.length
  ·subst hin
   rw [say_mv_new] at ha hp
   have hid := par_ident hp
   cases hw with
   | root h0 ht _ h1 h2 => simp [isPar, h1] at hp
   | ident _ _ _ _ hi' _ _ => rw [hid] at hi'; cases hi'
   | param q ht hq _ _ h0 _ _ =>
    obtain ⟨j, hj, hjl, hja⟩ := htop q ht
    refine ⟨j, hjl, ?_, ?_, ?_, ?_⟩
    ·rw [say_jus _ _ ho _ (Nat.le_refl _), if_pos rfl, Tk.justOf, if_neg (by rw [ha]; decide), if_neg (by rw [hid]; decide), if_pos hp, topI_of ht, hj]
    ·rw [say_mvN _ _ _ hjl]; exact hja
    ·rw [say_mvN _ _ _ hjl, hj]; exact hq
    rw [say_mvN _ _ _ hjl, hj, say_mv_new, h0]
   | answer _ _ ha' _ _ _ => rw [ha] at ha'; cases ha'
  have hi' : i < t.word.length := by omega
  rw [say_mvN _ _ _ hi'] at ha hp ⊢
  obtain ⟨j, hj, h1, h2, h3, h4⟩ := h.par i hi' ha hp
  refine ⟨j, hj, ?_, ?_, ?_, ?_⟩
  ·rw [say_jus _ _ ho _ (by omega), if_neg hin, h1]
  ·rw [say_mvN _ _ _ (by omega)]; exact h2
  ·rw [say_mvN _ _ _ (by omega)]; exact h3
  rw [say_mvN _ _ _ (by omega)]; exact h4
 ·intro i hi ha h0
  rw [hl] at hi
  by_cases hin : i = t.word.length
  ·subst hin
   rw [say_mv_new] at ha h0
   rw [say_jus _ _ ho _ (Nat.le_refl _), if_pos rfl, Tk.justOf, if_neg (by rw [ha]; decide), if_neg (by simp [isIdent, h0]), if_neg (by simp [isPar, h0])]
  have hi' : i < t.word.length := by omega
  rw [say_mvN _ _ _ hi'] at ha h0
  rw [say_jus _ _ ho _ (by omega), if_neg hin]
  exact h.rot i hi' ha h0
 ·intro i hi
  rw [hl] at hi
  rw [say_frd _ _ ho _ (by omega)]
  by_cases hin : i = t.word.length
  ·subst hin
   rw [if_pos rfl, hfo]
   by_cases h0 : 0 < t.word.length
   ·rw [say_mv_old (by omega) (by omega)]
   rw [decide_eq_false h0]
   rfl
  rw [if_neg hin, h.frc i (by omega)]
  by_cases h0 : 0 < i
  ·rw [say_mv_old (by omega) (by omega)]
  rw [decide_eq_false h0]
  rfl
 ·intro i hi hf
  rw [hl] at hi
  rw [say_frd _ _ ho _ (by omega)] at hf
  by_cases hin : i = t.word.length
  ·subst hin
   rw [if_pos rfl] at hf
   rw [say_mv_new]
   cases hw with
   | root h0 _ _ _ _ => rw [hfo, decide_eq_false (by omega)] at hf; cases hf
   | ident _ _ _ _ _ hff _ => rw [hf] at hff; cases hff
   | param _ _ _ _ _ _ hff _ => rw [hf] at hff; cases hff
   | answer q ht _ _ _ hn => exact answers_esc hn (.inl hf)
  rw [if_neg hin] at hf
  rw [say_mvN _ _ _ (by omega)]
  exact h.fes i (by omega) hf
 intro _
 by_cases h0 : 0 < t.word.length
 ·have := say_mvN t m 0 h0
  rw [show ((0 : Nat) : Int) = 0 from rfl] at this
  rw [this]
  exact h.zer h0
 have e : (t.word.length : Int) = 0 := by omega
 rw [← e, say_mv_new]
 cases hw with
 | root _ _ _ h1 _ => rw [h1, e]
 | ident q ht _ _ _ _ _ => obtain ⟨j, _, hjl, _⟩ := htop q ht; omega
 | param q ht _ _ _ _ _ _ => obtain ⟨j, _, hjl, _⟩ := htop q ht; omega
 | answer q ht _ _ _ _ => obtain ⟨j, _, hjl, _⟩ := htop q ht; omega
structure Tk.Inv (ids : List S68) (rc : Bool) (rn : Int) (jb : Bool) (t : Tk) : Prop where
 l : t.Legal ids rc rn jb
 a : t.InvA
 c : t.InvC
section
variable {ids : List S68} {rc : Bool} {rn : Int} {jb : Bool}
theorem may_way {t : Tk} {m : Mv} (ho : t.Ok) (h : t.may ids rc rn jb m = true) : hasR ids rc rn jb m = true ∧ MvOk m ∧ Way t jb m := by
 unfold Tk.may at h
 simp only [Bool.and_eq_true] at h
 exact ⟨h.1.2, hasR_ok h.1.2, way_of ho.hl h.2⟩
theorem Tk.Inv.empty : Tk.empty.Inv ids rc rn jb := ⟨Tk.Legal.empty _ _ _ _, Tk.InvA.empty, Tk.InvC.empty⟩
theorem Tk.Inv.say {t : Tk} {m : Mv} (h : t.Inv ids rc rn jb) (hm : t.may ids rc rn jb m = true) (hw : t.word.length < 1048576) : (t.say m).Inv ids rc rn jb := by
 obtain ⟨h1, h2, h3⟩ := may_way h.l.ok hm
 exact ⟨h.l.say m h2.i (fun _ => h1) hw, h.a.say h2 h3, h.c.say h.a h.l.ok h.l.fo h2 h3⟩
theorem walkL_inv (l : List Mv) : ∀ t : Tk, t.Inv ids rc rn jb → t.word.length + l.length ≤ 1048576 → (walkL ids rc rn jb t l).Inv ids rc rn jb := by
 induction l with
 | nil => intro t h _; rw [walkL]; exact h
 | cons m ms ih =>
  intro t h hl
  rw [List.length_cons] at hl
  rw [walkL]
  split
  ·rename_i hm
   exact ih _ (h.say hm (by omega)) (by rw [say_len]; omega)
  exact h
end
theorem ident_same {a b : Mv} (h0 : a.f0 = b.f0) (h1 : a.f1 = b.f1) : isIdent a = isIdent b := by unfold isIdent; rw [h0, h1]
theorem bef_eq (t : Tk) (n : Nat) : t.bef (n : Int) = if isAns (t.mv n) && t.frd n then (n : Int) - 1 else t.jus n := by
 unfold Tk.bef
 rw [Int.toNat_natCast]
 rfl
theorem jst_eq (t : Tk) (n : Nat) : t.jst (n : Int) = t.jus n := by
 unfold Tk.jst
 rw [Int.toNat_natCast]
 rfl
theorem backL_step (t : Tk) (k : Nat) (n : Int) (h0 : 0 ≤ n) (h1 : n < t.word.length) : backL t (k + 1) n = if t.bef n < 0 then some [n] else (backL t k (t.bef n - 1)).map fun l => n :: t.bef n :: l := by
 rw [backL, if_neg (by omega), if_pos h1]
theorem seenF_step (t : Tk) (k : Nat) (n : Int) (h : 1 ≤ n ∧ n ≤ t.word.length) : seenF t (k + 1) n = if (t.mv (n - 1)).f0 = 0 then some [n - 1]
   else if isEscB (t.mv (n - 1)) = true ∧ n < 2 then none
   else if isEscB (t.mv (n - 1)) && (isEscB (t.mv (n - 2)) && decide (0 < (t.mv (n - 2)).f1)) then (seenF t k (n - 2)).map (· ++ [n - 2, n - 1])
   else (seenF t k (t.jst (n - 1))).map (· ++ [t.jst (n - 1), n - 1]) := by
 rw [seenF, if_pos h]
theorem back_seen {t : Tk} (hA : t.InvA) (hC : t.InvC) : ∀ (k n : Nat), n < k → n < t.word.length → n % 2 = 0 → ∃ L, backL t k (n : Int) = some L ∧ seenF t k ((n : Int) + 1) = some L.reverse ∧ L.length ≤ n + 1 := by
 intro k
 induction k with
 | zero => intro n h; omega
 | succ k ih =>
  intro n hk hn he
  have e1 : ((n : Int) + 1 - 1) = (n : Int) := by omega
  have e2 : ((n : Int) + 1 - 2) = (n : Int) - 1 := by omega
  have ho := hA.oth n hn
  rw [decide_eq_true he] at ho
  have hok := hA.mvs n hn
  have haa := ask_ans hok
  rw [backL_step t k n (by omega) (by omega), seenF_step t k (n + 1) (by omega), e1, e2, bef_eq, jst_eq]
  have odd : ∀ j : Nat, j < t.word.length → isAns (t.mv j) = false → isIdent (t.mv j) = true → j % 2 = 1 := by
   intro j hj ha hi
   have h1 := hA.oth j hj
   unfold isOB at h1
   rw [hi, ask_ans (hA.mvs j hj), ha] at h1
   have := of_decide_eq_false h1.symm
   omega
  have step : ∀ j : Nat, j < n → j % 2 = 1 → ∃ L, backL t k ((j : Int) - 1) = some L ∧ seenF t k (j : Int) = some L.reverse ∧ L.length ≤ j := by
   intro j hj hjo
   obtain ⟨L, h1, h2, h3⟩ := ih (j - 1) (by omega) (by omega) (by omega)
   have e3 : ((j - 1 : Nat) : Int) = (j : Int) - 1 := by omega
   rw [e3] at h1 h2
   rw [show ((j : Int) - 1 + 1) = j by omega] at h2
   exact ⟨L, h1, h2, by omega⟩
  unfold isOB at ho
  by_cases h0 : (t.mv n).f0 = 0
  ·have hi : isIdent (t.mv n) = false := by simp [isIdent, h0]
   rw [hi, haa] at ho
   have ha : isAns (t.mv n) = false := by
    cases hx : isAns (t.mv n) with
    | false => rfl
    | true => rw [hx] at ho; cases ho
   have hn0 := hA.root n hn ha h0
   have hj := hC.rot n hn ha h0
   rw [ha, Bool.false_and, if_neg Bool.false_ne_true, hj, if_pos (by decide), if_pos h0]
   exact ⟨_, rfl, rfl, by simp⟩
  rw [if_neg h0]
  cases ha : isAns (t.mv n) with
  | true =>
   rw [haa, ha] at ho
   have hi : isIdent (t.mv n) = true := by
    cases hx : isIdent (t.mv n) with
    | true => rfl
    | false => rw [hx] at ho; cases ho
   obtain ⟨j, hj, _, h2, h3, h4, h5⟩ := hC.ans n hn ha
   have hjo := odd j (by omega) h3 (by rw [ident_same h4 h5]; exact hi)
   have hf := hC.frc n hn
   have hn0 : 0 < n := by omega
   rw [decide_eq_true hn0, Bool.true_and] at hf
   rw [Bool.true_and]
   cases hx : t.frd n with
   | true =>
    have hes := hC.fes n hn hx
    rw [hx] at hf
    rw [if_pos rfl, if_neg (by omega), if_neg (by omega), if_pos (by rw [hes, ← hf]; rfl)]
    obtain ⟨L, h6, h7, h8⟩ := step (n - 1) (by omega) (by omega)
    have e3 : ((n - 1 : Nat) : Int) = (n : Int) - 1 := by omega
    rw [e3] at h6 h7
    rw [h6, h7]
    exact ⟨_, rfl, by simp, by simp; omega⟩
   | false =>
    rw [hx] at hf
    rw [if_neg Bool.false_ne_true, h2, if_neg (by omega), if_neg (by omega), if_neg (by rw [← hf, Bool.and_false]; decide)]
    obtain ⟨L, h6, h7, h8⟩ := step j hj hjo
    rw [h6, h7]
    exact ⟨_, rfl, by simp, by simp; omega⟩
  | false =>
   rw [haa, ha] at ho
   have hi : isIdent (t.mv n) = false := by
    cases hx : isIdent (t.mv n) with
    | false => rfl
    | true => rw [hx] at ho; cases ho
   have hp : isPar (t.mv n) = true := by
    have h1 := hok.i
    have hf0 : 0 < (t.mv n).f0 := by omega
    unfold isIdent at hi
    rw [decide_eq_true hf0, Bool.true_and] at hi
    have hf1 : (t.mv n).f1 ≠ 0 := by simpa using hi
    unfold isPar
    rw [decide_eq_true hf0, decide_eq_true (by omega)]
    rfl
   obtain ⟨j, hj, h2, h3, h4, _⟩ := hC.par n hn ha hp
   have hjo := odd j (by omega) h3 h4
   have hes : isEscB (t.mv n) = false := by
    unfold isAns at ha
    unfold isEscB
    rw [ha]
    rfl
   rw [Bool.false_and, if_neg Bool.false_ne_true, h2, if_neg (by omega), if_neg (by rw [hes]; simp), if_neg (by rw [hes]; simp)]
   obtain ⟨L, h6, h7, h8⟩ := step j hj hjo
   rw [h6, h7]
   exact ⟨_, rfl, by simp, by simp; omega⟩
end Go.Proofs.YtjgocihflhljeaaGreat.P
namespace Go.Proofs.YtjgocihflhljeaaGreat.P
open Go.RowKit Go.Shelf Go.Proofs.YtjgocihflhljeaaGreatW.PrintWords Go.Proofs.YtjgocihflhljeaaGreatW.PrintLast Go.Proofs.YtjgocihflhljeaaGreatW.PrintMore
attribute [local go_sem] Oper.semAt_some
set_option maxRecDepth 8000 in
theorem rIsOther_any (m : Mv) (w : World) : Calls Tryz.prog 34 #[.agg #[.int .i64 m.f0, .int .i64 m.f1, .int .u8 m.f2, .int .i64 m.f3]] w fun e w' => e = .returned (.bool (isOB m)) ∧ Below w.heap.size w w' := by
 have HB := am (((Below.refl _ w).alloc (Nat.le_refl _) (.cells #[.int .i64 m.f0, .int .i64 m.f1, .int .u8 m.f2, .int .i64 m.f3] 52)).drew)
 have HK := am (blk_drew (heap_alloc_new w (.cells #[.int .i64 m.f0, .int .i64 m.f1, .int .u8 m.f2, .int .i64 m.f3] 52)))
 cases hb : decide (0 < m.f0) with
 | false =>
  have H := am hb
  go_enter Tryz.func34, Tryz.ntmps34
  go_upto_region 1 with fail
  refine start_ (n := 12) (S := fun w' => w'.cell? ⟨w.heap.size, 0, none⟩ = some (.int .i64 m.f0) ∧ w'.cell? ⟨w.heap.size, 1, none⟩ = some (.int .i64 m.f1) ∧ w'.cell? ⟨w.heap.size, 2, none⟩ = some (.int .u8 m.f2) ∧ w'.cell? ⟨w.heap.size, 3, none⟩ = some (.int .i64 m.f3)) (ds := []) (Mq [0,12]) (by kernel_rfl) rfl rfl ⟨(blk_cell HK.out 0).trans rfl, (blk_cell HK.out 1).trans rfl, (blk_cell HK.out 2).trans rfl, (blk_cell HK.out 3).trans rfl⟩ (fun hHeld => ?_)
  generalize (w.alloc (.cells #[.int .i64 m.f0, .int .i64 m.f1, .int .u8 m.f2, .int .i64 m.f3] 52)).drew = wd at HK HB hHeld ⊢
  refine pure_ (i := 0) (N:=some 3) (v:=?_) (a':=?_) (Mq [1,11]) rfl rfl (by kernel_rfl) (fun _ _ _ h => h) (Or.inl ⟨by rfl, ?_⟩) ?_ ?_;rotate_left;(intro w';go_simp;with_reducible rfl);rotate_left;(simp only [Act.put,sn1,sn2,sn3,i64_w];rfl)
  refine take_ (i := 1) (N:=some 4) (v:=?_) (a':=?_) (Mq [2,10]) rfl rfl (by kernel_rfl) (fun _ _ _ h => h) (Or.inl ⟨by rfl, ?_⟩) hHeld ?_ ?_
  rotate_left
  ·rintro w' ⟨s0, s1, s2, s3⟩
   go_simp
   with_reducible rfl
  rotate_left
  ·simp only [Act.put,sn1,sn2,sn3,i64_w]
   rfl
  refine pure_ (i := 2) (N:=some 5) (v:=?_) (a':=?_) (Mq [3,9]) rfl rfl (by kernel_rfl) (fun _ _ _ h => h) (Or.inl ⟨by rfl, ?_⟩) ?_ ?_;rotate_left;(intro w';go_simp;with_reducible rfl);rotate_left;(simp only [Act.put,sn1,sn2,sn3,i64_w];rfl)
  refine pure_ (i := 3) (N:=some 6) (v:=?_) (a':=?_) (Mq [4,8]) rfl rfl (by kernel_rfl) (fun _ _ _ h => h) (Or.inl ⟨by rfl, ?_⟩) ?_ ?_;rotate_left;(intro w';go_simp;with_reducible rfl);rotate_left;(simp only [Act.put,sn1,sn2,sn3,i64_w];rfl)
  refine pure_ (i := 4) (N:=some 7) (v := undef) (a' := ?_) (Mq [5,7]) rfl rfl (by kernel_rfl) (fun _ _ _ h => h) (Or.inr ⟨by rfl, rfl⟩) ?_ ?_
  rotate_left
  ·simp only [Act.put,sn1,sn2,sn3,i64_w]
   rfl
  refine pure_ (i := 5) (N:=some 8) (v := undef) (a' := ?_) (Mq [6,6]) rfl rfl (by kernel_rfl) (fun _ _ _ h => h) (Or.inr ⟨by rfl, rfl⟩) ?_ ?_
  rotate_left
  ·simp only [Act.put,sn1,sn2,sn3,i64_w]
   rfl
  refine pure_ (i := 6) (N:=some 9) (v := undef) (a' := ?_) (Mq [7,5]) rfl rfl (by kernel_rfl) (fun _ _ _ h => h) (Or.inr ⟨by rfl, rfl⟩) ?_ ?_
  rotate_left
  ·simp only [Act.put,sn1,sn2,sn3,i64_w]
   rfl
  refine pure_ (i := 7) (N:=some 10) (v:=?_) (a':=?_) (Mq [8,4]) rfl rfl (by kernel_rfl) (fun _ _ _ h => h) (Or.inl ⟨by rfl, ?_⟩) ?_ ?_;rotate_left;(intro w';go_simp;with_reducible rfl);rotate_left;(simp only [Act.put,sn1,sn2,sn3,i64_w];rfl)
  refine take_ (i := 8) (N:=some 11) (v:=?_) (a':=?_) (Mq [9,3]) rfl rfl (by kernel_rfl) (fun _ _ _ h => h) (Or.inl ⟨by rfl, ?_⟩) hHeld ?_ ?_
  rotate_left
  ·rintro w' ⟨s0, s1, s2, s3⟩
   go_simp
   with_reducible rfl
  rotate_left
  ·simp only [Act.put,sn1,sn2,sn3,i64_w]
   rfl
  refine one_ (i := 9) (N:=some 12) (Mq [10,2]) rfl rfl (by kernel_rfl) (by decide) (fun K hK => ?_)
  refine goes_ Tryz.func37 (by kernel_rfl) rfl #[.agg #[.int .i64 m.f0, .int .i64 m.f1, .int .u8 m.f2, .int .i64 m.f3]] (by rfl) rfl rfl (by simp only [List.map_toArray, List.map_cons, List.map_nil]; rfl) ?_
  with_reducible refine (rAsk_any m wd).mono ?_
  rintro e w1 ⟨rfl, hb1⟩
  refine ⟨_, rfl, ?_⟩
  have HK1 := am ((hb1.block _ (blk_lt HK.out)).trans HK.out)
  refine hK.out _ _ ⟨(blk_cell HK1.out 0).trans rfl, (blk_cell HK1.out 1).trans rfl, (blk_cell HK1.out 2).trans rfl, (blk_cell HK1.out 3).trans rfl⟩ (fun hHeld => ?_)
  clear hK K
  refine norm_ (a' := ?_) ?_ ?_
  rotate_left
  ·show Act.put _ (some 12) _ = _
   simp only [Act.put,sn1,sn2,sn3,i64_w]
   rfl
  refine pure_ (i := 10) (N:=some 13) (v:=?_) (a':=?_) (Mq [11,1]) rfl rfl (by kernel_rfl) (fun _ _ _ h => h) (Or.inl ⟨by rfl, ?_⟩) ?_ ?_;rotate_left;(intro w';go_simp;with_reducible rfl);rotate_left;(simp only [Act.put,sn1,sn2,sn3,i64_w];rfl)
  refine pure_ (i := 11) (N:=some 2) (v:=?_) (a':=?_) (Mq [12]) rfl rfl (by kernel_rfl) (fun _ _ _ h => h) (Or.inl ⟨by rfl, ?_⟩) ?_ ?_;rotate_left;(intro w';go_simp;with_reducible rfl);rotate_left;(simp only [Act.put,sn1,sn2,sn3,i64_w];rfl)
  refine done_ (by kernel_rfl) ?_
  go_wp2_with fail
  go_ret
  exact ⟨by rw [show isOB m = (askB m) by unfold isOB isIdent; rw [H.out]; first | rfl | simp]; rfl, HB.out.trans (hb1.mono HB.out.size)⟩
 | true =>
  have H := am hb
  go_enter Tryz.func34, Tryz.ntmps34
  go_upto_region 1 with fail
  refine start_ (n := 12) (S := fun w' => w'.cell? ⟨w.heap.size, 0, none⟩ = some (.int .i64 m.f0) ∧ w'.cell? ⟨w.heap.size, 1, none⟩ = some (.int .i64 m.f1) ∧ w'.cell? ⟨w.heap.size, 2, none⟩ = some (.int .u8 m.f2) ∧ w'.cell? ⟨w.heap.size, 3, none⟩ = some (.int .i64 m.f3)) (ds := []) (Mq [0,12]) (by kernel_rfl) rfl rfl ⟨(blk_cell HK.out 0).trans rfl, (blk_cell HK.out 1).trans rfl, (blk_cell HK.out 2).trans rfl, (blk_cell HK.out 3).trans rfl⟩ (fun hHeld => ?_)
  generalize (w.alloc (.cells #[.int .i64 m.f0, .int .i64 m.f1, .int .u8 m.f2, .int .i64 m.f3] 52)).drew = wd at HK HB hHeld ⊢
  refine pure_ (i := 0) (N:=some 3) (v:=?_) (a':=?_) (Mq [1,11]) rfl rfl (by kernel_rfl) (fun _ _ _ h => h) (Or.inl ⟨by rfl, ?_⟩) ?_ ?_;rotate_left;(intro w';go_simp;with_reducible rfl);rotate_left;(simp only [Act.put,sn1,sn2,sn3,i64_w];rfl)
  refine take_ (i := 1) (N:=some 4) (v:=?_) (a':=?_) (Mq [2,10]) rfl rfl (by kernel_rfl) (fun _ _ _ h => h) (Or.inl ⟨by rfl, ?_⟩) hHeld ?_ ?_
  rotate_left
  ·rintro w' ⟨s0, s1, s2, s3⟩
   go_simp
   with_reducible rfl
  rotate_left
  ·simp only [Act.put,sn1,sn2,sn3,i64_w]
   rfl
  refine pure_ (i := 2) (N:=some 5) (v:=?_) (a':=?_) (Mq [3,9]) rfl rfl (by kernel_rfl) (fun _ _ _ h => h) (Or.inl ⟨by rfl, ?_⟩) ?_ ?_;rotate_left;(intro w';go_simp;with_reducible rfl);rotate_left;(simp only [Act.put,sn1,sn2,sn3,i64_w];rfl)
  refine pure_ (i := 3) (N:=some 6) (v:=?_) (a':=?_) (Mq [4,8]) rfl rfl (by kernel_rfl) (fun _ _ _ h => h) (Or.inl ⟨by rfl, ?_⟩) ?_ ?_;rotate_left;(intro w';go_simp;with_reducible rfl);rotate_left;(simp only [Act.put,sn1,sn2,sn3,i64_w];rfl)
  refine pure_ (i := 4) (N:=some 7) (v:=?_) (a':=?_) (Mq [5,7]) rfl rfl (by kernel_rfl) (fun _ _ _ h => h) (Or.inl ⟨by rfl, ?_⟩) ?_ ?_;rotate_left;(intro w';go_simp;with_reducible rfl);rotate_left;(simp only [Act.put,sn1,sn2,sn3,i64_w];rfl)
  refine take_ (i := 5) (N:=some 8) (v:=?_) (a':=?_) (Mq [6,6]) rfl rfl (by kernel_rfl) (fun _ _ _ h => h) (Or.inl ⟨by rfl, ?_⟩) hHeld ?_ ?_
  rotate_left
  ·rintro w' ⟨s0, s1, s2, s3⟩
   go_simp
   with_reducible rfl
  rotate_left
  ·simp only [Act.put,sn1,sn2,sn3,i64_w]
   rfl
  refine pure_ (i := 6) (N:=some 9) (v:=?_) (a':=?_) (Mq [7,5]) rfl rfl (by kernel_rfl) (fun _ _ _ h => h) (Or.inl ⟨by rfl, ?_⟩) ?_ ?_;rotate_left;(intro w';go_simp;with_reducible rfl);rotate_left;(simp only [Act.put,sn1,sn2,sn3,i64_w];rfl)
  refine pure_ (i := 7) (N:=some 10) (v:=?_) (a':=?_) (Mq [8,4]) rfl rfl (by kernel_rfl) (fun _ _ _ h => h) (Or.inl ⟨by rfl, ?_⟩) ?_ ?_;rotate_left;(intro w';go_simp;with_reducible rfl);rotate_left;(simp only [Act.put,sn1,sn2,sn3,i64_w];rfl)
  refine take_ (i := 8) (N:=some 11) (v:=?_) (a':=?_) (Mq [9,3]) rfl rfl (by kernel_rfl) (fun _ _ _ h => h) (Or.inl ⟨by rfl, ?_⟩) hHeld ?_ ?_
  rotate_left
  ·rintro w' ⟨s0, s1, s2, s3⟩
   go_simp
   with_reducible rfl
  rotate_left
  ·simp only [Act.put,sn1,sn2,sn3,i64_w]
   rfl
  refine one_ (i := 9) (N:=some 12) (Mq [10,2]) rfl rfl (by kernel_rfl) (by decide) (fun K hK => ?_)
  refine goes_ Tryz.func37 (by kernel_rfl) rfl #[.agg #[.int .i64 m.f0, .int .i64 m.f1, .int .u8 m.f2, .int .i64 m.f3]] (by rfl) rfl rfl (by simp only [List.map_toArray, List.map_cons, List.map_nil]; rfl) ?_
  with_reducible refine (rAsk_any m wd).mono ?_
  rintro e w1 ⟨rfl, hb1⟩
  refine ⟨_, rfl, ?_⟩
  have HK1 := am ((hb1.block _ (blk_lt HK.out)).trans HK.out)
  refine hK.out _ _ ⟨(blk_cell HK1.out 0).trans rfl, (blk_cell HK1.out 1).trans rfl, (blk_cell HK1.out 2).trans rfl, (blk_cell HK1.out 3).trans rfl⟩ (fun hHeld => ?_)
  clear hK K
  refine norm_ (a' := ?_) ?_ ?_
  rotate_left
  ·show Act.put _ (some 12) _ = _
   simp only [Act.put,sn1,sn2,sn3,i64_w]
   rfl
  refine pure_ (i := 10) (N:=some 13) (v:=?_) (a':=?_) (Mq [11,1]) rfl rfl (by kernel_rfl) (fun _ _ _ h => h) (Or.inl ⟨by rfl, ?_⟩) ?_ ?_;rotate_left;(intro w';go_simp;with_reducible rfl);rotate_left;(simp only [Act.put,sn1,sn2,sn3,i64_w];rfl)
  refine pure_ (i := 11) (N:=some 2) (v:=?_) (a':=?_) (Mq [12]) rfl rfl (by kernel_rfl) (fun _ _ _ h => h) (Or.inl ⟨by rfl, ?_⟩) ?_ ?_;rotate_left;(intro w';go_simp;with_reducible rfl);rotate_left;(simp only [Act.put,sn1,sn2,sn3,i64_w];rfl)
  refine done_ (by kernel_rfl) ?_
  go_wp2_with fail
  go_ret
  exact ⟨by rw [show isOB m = ((m.f1 == 0) != askB m) by unfold isOB isIdent; rw [H.out]; first | rfl | simp]; rfl, HB.out.trans (hb1.mono HB.out.size)⟩
theorem spotAt_place {ids : List S68} {rc : Bool} {rn : Int} {j : Bool} {id arg : Int} {p : Spot} (h : spotAt ids rc rn j id arg = some p) : p.id = id ∧ p.arg = arg := by
 unfold spotAt at h
 split at h
 ·rename_i h0; cases h; exact ⟨h0.1.symm, h0.2.symm⟩
 split at h
 ·unfold idAt at h
  simp only at h
  split at h
  ·rename_i h0; cases h; exact ⟨rfl, h0.symm⟩
  split at h
  ·cases h; exact ⟨rfl, rfl⟩
  cases h
 cases h
theorem hasR_move {ids : List S68} {rc : Bool} {rn : Int} {jb : Bool} {m : Mv} (h : hasR ids rc rn jb m = true) : moveE ids rc rn jb m = 0 ∧ isOtherR ids rc rn jb m = isOB m := by
 obtain ⟨hc, p, hp, _⟩ := hasR_spot h
 have hok := hasR_ok h
 have hE : moveE ids rc rn jb m = 0 := by
  unfold hasR at h
  rw [if_pos hc] at h
  rw [moveE, if_pos hc, if_pos h]
 refine ⟨hE, ?_⟩
 rw [isOtherR, if_pos hE, moveP, if_pos hc, find_spots, hp]
 obtain ⟨h1, h2⟩ := spotAt_place hp
 show ((p.id == 0 || decide (0 < p.arg)) == (m.f2 != 3)) = _
 rw [h1, h2]
 obtain ⟨hk, _, hi⟩ := hok
 unfold isOB isIdent askB
 rw [Bool.eq_iff_iff]
 rcases hk with h | h | h <;> rw [h] <;> by_cases h3 : 0 < m.f0 <;> by_cases h4 : m.f1 = 0 <;> simp [h3, h4] <;> omega
theorem walkL_has {ids : List S68} {rc : Bool} {rn : Int} {jb : Bool} (l : List Mv) : ∀ t : Tk, (∀ m ∈ t.word, hasR ids rc rn jb m = true) → ∀ m ∈ (walkL ids rc rn jb t l).word, hasR ids rc rn jb m = true := by
 induction l with
 | nil => intro t h; rw [walkL]; exact h
 | cons m ms ih =>
  intro t h
  rw [walkL]
  split
  ·rename_i hm
   unfold Tk.may at hm
   simp only [Bool.and_eq_true] at hm
   refine ih _ ?_
   intro x hx
   have e : (t.say m).word = t.word ++ [m] := rfl
   rw [e, List.mem_append, List.mem_singleton] at hx
   rcases hx with hx | rfl
   ·exact h x hx
   exact hm.1.2
  exact h
theorem walkL_word (ids : List S68) (rc : Bool) (rn : Int) (jb : Bool) (l : List Mv) : ∀ t : Tk, ∃ n, n ≤ l.length ∧ (walkL ids rc rn jb t l).word = t.word ++ l.take n := by
 induction l with
 | nil => intro t; exact ⟨0, Nat.le_refl _, by rw [walkL]; simp⟩
 | cons m ms ih =>
  intro t
  rw [walkL]
  split
  ·obtain ⟨n, h1, h2⟩ := ih (t.say m)
   refine ⟨n + 1, by simpa using h1, ?_⟩
   rw [h2]
   show (t.word ++ [m]) ++ ms.take n = _
   simp
  exact ⟨0, Nat.zero_le _, by simp⟩
theorem talk_take (ids : List S68) (rc : Bool) (rn : Int) (jb : Bool) (l : List Mv) : (talkL ids rc rn jb l).word = l.take (talkL ids rc rn jb l).word.length := by
 obtain ⟨n, h1, h2⟩ := walkL_word ids rc rn jb l Tk.empty
 have e : Tk.empty.word = [] := rfl
 rw [e, List.nil_append] at h2
 show (walkL ids rc rn jb Tk.empty l).word = l.take (walkL ids rc rn jb Tk.empty l).word.length
 rw [h2, List.length_take]
 congr 1
 omega
theorem talk_all {ids : List S68} {rc : Bool} {rn : Int} {jb : Bool} {l : List Mv} (h : ¬ (talkL ids rc rn jb l).word.length < l.length) : (talkL ids rc rn jb l).word = l := by
 rw [talk_take]
 exact List.take_of_length_le (by omega)
theorem talk_inv (ids : List S68) (rc : Bool) (rn : Int) (jb : Bool) (l : List Mv) (hl : l.length ≤ 1000000) : (talkL ids rc rn jb l).Inv ids rc rn jb :=
 walkL_inv l _ Tk.Inv.empty (by simp [Tk.empty]; omega)
theorem talk_has {ids : List S68} {rc : Bool} {rn : Int} {jb : Bool} {l : List Mv} {i : Nat} (h : i < (talkL ids rc rn jb l).word.length) : hasR ids rc rn jb ((talkL ids rc rn jb l).mv i) = true := by
 refine walkL_has l Tk.empty (fun m hm => by simp [Tk.empty] at hm) _ ?_
 unfold Tk.mv
 rw [Int.toNat_natCast, getD_get _ _ _ h]
 exact List.getElem_mem h
theorem viewE_eq (ids : List S68) (rc : Bool) (rn : Int) (jb mine : Bool) (l : List Mv) : viewE ids rc rn jb mine l = if tellE ids rc rn jb l ≠ 0 then tellE ids rc rn jb l else if l.length = 0 then 9 else if isOB (l.getD (l.length - 1) z52) = mine then 0 else 9 := by
 unfold viewE
 by_cases hE : tellE ids rc rn jb l = 0
 ·rw [if_neg (by simpa using hE), if_neg (by simpa using hE)]
  obtain ⟨h1, h2, h3⟩ := tellE_zero hE
  have hw := talk_all h3
  unfold seenE
  rw [hw]
  by_cases h0 : l.length = 0
  ·rw [if_pos h0, if_pos h0]
  rw [if_neg h0, if_neg h0]
  have hlast : (talkL ids rc rn jb l).last = ((l.length - 1 : Nat) : Int) := by unfold Tk.last; rw [hw]; omega
  have hh := hasR_move (talk_has (ids := ids) (rc := rc) (rn := rn) (jb := jb) (l := l) (i := l.length - 1) (by rw [hw]; omega))
  rw [hlast, hh.1, hh.2]
  have e : (talkL ids rc rn jb l).mv ((l.length - 1 : Nat) : Int) = l.getD (l.length - 1) z52 := by unfold Tk.mv; rw [hw, Int.toNat_natCast]
  rw [e]
  by_cases hm : isOB (l.getD (l.length - 1) z52) = mine
  ·rw [if_pos hm, if_neg (by simpa using hm)]
  rw [if_neg hm, if_pos (.inr hm)]
 rw [if_pos hE, if_pos hE]
def viewL (t : Tk) : List Int := (seenF t (t.word.length + 1) t.word.length).getD []
theorem view_zero {ids : List S68} {rc : Bool} {rn : Int} {jb mine : Bool} {l : List Mv} (h : viewE ids rc rn jb mine l = 0) : tellE ids rc rn jb l = 0 ∧ ∃ n : Nat, (talkL ids rc rn jb l).word.length = n + 1 ∧ n < 400 ∧ (talkL ids rc rn jb l).last = n ∧ n % 2 = if mine then 0 else 1 := by
 rw [viewE_eq] at h
 by_cases hE : tellE ids rc rn jb l = 0
 ·refine ⟨hE, ?_⟩
  rw [if_neg (by simpa using hE)] at h
  obtain ⟨h1, h2, h3⟩ := tellE_zero hE
  have hw := talk_all h3
  split at h
  ·cases h
  rename_i h0
  split at h
  ·rename_i hm
   have hi := (talk_inv ids rc rn jb l (by omega)).a.oth (l.length - 1) (by rw [hw]; omega)
   have e : (talkL ids rc rn jb l).mv ((l.length - 1 : Nat) : Int) = l.getD (l.length - 1) z52 := by unfold Tk.mv; rw [hw, Int.toNat_natCast]
   rw [e, hm] at hi
   refine ⟨l.length - 1, by rw [hw]; omega, by omega, by unfold Tk.last; rw [hw]; omega, ?_⟩
   cases mine with
   | true => exact of_decide_eq_true hi.symm
   | false => have := of_decide_eq_false hi.symm; simp; omega
  cases h
 rw [if_pos hE] at h
 exact absurd h hE
theorem view_ok {ids : List S68} {rc : Bool} {rn : Int} {jb : Bool} {l : List Mv} (h : viewE ids rc rn jb true l = 0) : ∃ L, backL (talkL ids rc rn jb l) ((talkL ids rc rn jb l).word.length + 1) (talkL ids rc rn jb l).last = some L ∧ L.length ≤ 1048577 ∧ seenF (talkL ids rc rn jb l) ((talkL ids rc rn jb l).word.length + 1) (talkL ids rc rn jb l).word.length = some L.reverse := by
 obtain ⟨hE, n, h1, h2, h3, h4⟩ := view_zero h
 obtain ⟨h5, h6, h7⟩ := tellE_zero hE
 have hi := talk_inv ids rc rn jb l (by omega)
 obtain ⟨L, h8, h9, h10⟩ := back_seen hi.a hi.c ((talkL ids rc rn jb l).word.length + 1) n (by omega) (by omega) h4
 refine ⟨L, by rw [h3]; exact h8, by omega, ?_⟩
 have e : (((talkL ids rc rn jb l).word.length : Nat) : Int) = (n : Int) + 1 := by omega
 rw [e]
 exact h9
end Go.Proofs.YtjgocihflhljeaaGreat.P
namespace Go.Proofs.YtjgocihflhljeaaGreat.P
open Go.RowKit Go.Shelf Go.Proofs.YtjgocihflhljeaaGreatW.PrintWords Go.Proofs.YtjgocihflhljeaaGreatW.PrintLast Go.Proofs.YtjgocihflhljeaaGreatW.PrintMore
attribute [local go_sem] Oper.semAt_some
end Go.Proofs.YtjgocihflhljeaaGreat.P
namespace Go.Proofs.YtjgocihflhljeaaGreat.P
open Go.RowKit Go.Shelf Go.Proofs.YtjgocihflhljeaaGreatW.PrintWords Go.Proofs.YtjgocihflhljeaaGreatW.PrintLast Go.Proofs.YtjgocihflhljeaaGreatW.PrintMore
end Go.Proofs.YtjgocihflhljeaaGreat.P
namespace Go.Proofs.YtjgocihflhljeaaGreat.P
open Go.RowKit Go.Shelf Go.Proofs.YtjgocihflhljeaaGreatW.PrintWords Go.Proofs.YtjgocihflhljeaaGreatW.PrintLast Go.Proofs.YtjgocihflhljeaaGreatW.PrintMore
attribute [local go_sem] Oper.semAt_some
end Go.Proofs.YtjgocihflhljeaaGreat.P
namespace Go.Proofs.YtjgocihflhljeaaGreat.P
open Go.RowKit Go.Shelf Go.Proofs.YtjgocihflhljeaaGreatW.PrintWords Go.Proofs.YtjgocihflhljeaaGreatW.PrintLast Go.Proofs.YtjgocihflhljeaaGreatW.PrintMore
section
variable {ids : List S68} {rc : Bool} {rn : Int} {jb : Bool}
theorem walkL_append (r : List Mv) (l : List Mv) : ∀ t : Tk, walkL ids rc rn jb t (l ++ r) = if (walkL ids rc rn jb t l).word.length = t.word.length + l.length then walkL ids rc rn jb (walkL ids rc rn jb t l) r else walkL ids rc rn jb t l := by
 induction l with
 | nil => intro t; rw [walkL, if_pos (by simp)]; rfl
 | cons m ms ih =>
  intro t
  rw [List.cons_append, walkL, walkL]
  split
  ·rw [ih (t.say m), say_len, List.length_cons]
   have e : t.word.length + 1 + ms.length = t.word.length + (ms.length + 1) := by omega
   rw [e]
  rw [if_neg (by rw [List.length_cons]; omega)]
theorem tell_snoc {l : List Mv} {m : Mv} (hE : tellE ids rc rn jb l = 0) (hl : l.length ≤ 80) : tellE ids rc rn jb (l ++ [m]) = (if (talkL ids rc rn jb l).may ids rc rn jb m then 0 else 13) ∧ tellAt ids rc rn jb (l ++ [m]) = if (talkL ids rc rn jb l).may ids rc rn jb m then 0 else (l.length : Int) := by
 obtain ⟨h1, h2, h3⟩ := tellE_zero hE
 have hw := talk_all h3
 have ht : talkL ids rc rn jb (l ++ [m]) = if (talkL ids rc rn jb l).may ids rc rn jb m then (talkL ids rc rn jb l).say m else talkL ids rc rn jb l := by
  show walkL ids rc rn jb Tk.empty (l ++ [m]) = _
  rw [walkL_append, if_pos (by show (talkL ids rc rn jb l).word.length = _; rw [hw]; simp [Tk.empty]), walkL, walkL]
 have hlen : (l ++ [m]).length = l.length + 1 := by simp
 cases hm : (talkL ids rc rn jb l).may ids rc rn jb m with
 | true =>
  rw [hm, if_pos rfl] at ht
  have e : tellE ids rc rn jb (l ++ [m]) = 0 := tellE_ok h1 (by omega) (by rw [ht, say_len, hw, hlen]; omega)
  rw [if_pos rfl, if_pos rfl]
  exact ⟨e, tellAt_ok e⟩
 | false =>
  rw [hm, if_neg Bool.false_ne_true] at ht
  have e : tellE ids rc rn jb (l ++ [m]) = 13 := tellE_odd h1 (by omega) (by rw [ht, hw, hlen]; omega)
  rw [if_neg Bool.false_ne_true, if_neg Bool.false_ne_true]
  exact ⟨e, by rw [tellAt, if_pos e, ht, hw]⟩
end
end Go.Proofs.YtjgocihflhljeaaGreat.P
namespace Go.Proofs.YtjgocihflhljeaaGreat.P
open Go.RowKit Go.Shelf Go.Proofs.YtjgocihflhljeaaGreatW.PrintWords Go.Proofs.YtjgocihflhljeaaGreatW.PrintLast Go.Proofs.YtjgocihflhljeaaGreatW.PrintMore
attribute [local go_sem] Oper.semAt_some
def legalB (ids : List S68) (rc : Bool) (rn : Int) (jb : Bool) (l : List Mv) : Bool := thinA ids && (decide (l.length ≤ 80) && tellE ids rc rn jb l == 0)
theorem legal_of {ids : List S68} {rc : Bool} {rn : Int} {jb : Bool} {l : List Mv} (h : legalB ids rc rn jb l = true) : (ids.length ≤ 12 ∧ ∀ x ∈ ids, x.f0.length ≤ 8) ∧ l.length ≤ 80 ∧ tellE ids rc rn jb l = 0 := by
 unfold legalB at h
 simp only [Bool.and_eq_true, decide_eq_true_eq, beq_iff_eq] at h
 exact ⟨thinA_ids h.1, h.2.1, h.2.2⟩
section
variable {w W W' : World} {I : List (Option Addr × List S68)} {Y : List (Option Addr × List Mv)} {X : List (Option Addr × List Int)} {G : List (Nat × Array Value × TypeId)}
theorem Lw.popg {p : Nat × Array Value × TypeId} (h : Lw w W I Y X (p :: G)) : Lw w W I Y X G := ⟨h.b, h.i, h.y, h.x, fun q hq => h.g q (List.mem_cons_of_mem _ hq)⟩
theorem Lw.thinA (h : Lw w W I Y X G) {A : Option Addr} {c : Nat} {ids : List S68} (rc : Bool) (rn : Int) (jb : Bool) (hi : (A, ids) ∈ I) (hc : ids.length ≤ c) :
  Calls Tryz.prog 53 #[.agg #[.slice A ids.length c, .bool rc, .int .i64 rn, .bool jb]] W fun e w' => e = .returned (.bool (P.thinA ids)) ∧ Lw w w' I Y X G :=
 (ripostelaw04_Thin.calls 20 A c ids rc rn jb _ W (h.i _ hi) hc (thin04_f 20 (by omega) ids rc rn jb)).mono (by rintro e w' ⟨rfl, hb⟩; exact ⟨rfl, h.below hb⟩)
set_option maxHeartbeats 2000000 in
theorem Lw.legal (h : Lw w W I Y X G) {A A1 : Option Addr} {c c1 : Nat} {ids : List S68} {l : List Mv} (rc : Bool) (rn : Int) (jb : Bool) (hi : (A, ids) ∈ I) (hy : (A1, l) ∈ Y) (hc : ids.length ≤ c) :
  Calls Tryz.prog 30 #[.agg #[.slice A ids.length c, .bool rc, .int .i64 rn, .bool jb], .slice A1 l.length c1] W fun e w' => e = .returned (.bool (legalB ids rc rn jb l)) ∧ Lw w w' I Y X G := by
 have H0 := am (h.new #[.slice A ids.length c, .bool rc, .int .i64 rn, .bool jb] 26)
 have HI := am hi
 have HY := am hy
 clear h hi hy
 cases ht : P.thinA ids with
 | false =>
  have HT := am ht
  clear ht
  go_enter Tryz.func30, Tryz.ntmps30
  go_wp2_with (go_at_call 53; refine (H0.out.thinA rc rn jb HI.out hc).mono ?_; rw [HT.out]; rintro e w1 ⟨rfl, h1⟩; have H1 := am h1.popg; clear h1)
  go_ret
  exact ⟨by unfold legalB; rw [HT.out]; rfl, H1.out⟩
 | true =>
  have HT := am ht
  clear ht
  by_cases h80 : l.length ≤ 80
  ·have hz : decide ((80 : Int) < (l.length : Int)) = false := decide_eq_false (by omega)
   have hl : l.length ≤ 1000000 := by omega
   have H80 := am h80
   clear h80
   go_enter Tryz.func30, Tryz.ntmps30
   go_wp2_with (first
    | (go_at_call 53; refine (H0.out.thinA rc rn jb HI.out hc).mono ?_; rw [HT.out]; rintro e w1 ⟨rfl, h1⟩; have H1 := am h1; clear h1; have hg1 : W.heap.size < w1.heap.size := blk_lt (H1.out.g _ mc); have a0 : w1.cell? ⟨W.heap.size, 0, none⟩ = some (.slice A ids.length c) := H1.out.cell mc 0 rfl; have a1 : w1.cell? ⟨W.heap.size, 1, none⟩ = some (.bool rc) := H1.out.cell mc 1 rfl; have a2 : w1.cell? ⟨W.heap.size, 2, none⟩ = some (.int .i64 rn) := H1.out.cell mc 2 rfl; have a3 : w1.cell? ⟨W.heap.size, 3, none⟩ = some (.bool jb) := H1.out.cell mc 3 rfl)
    | (go_at_call 20; refine (H1.out.rcheck rc rn jb HI.out HY.out hl hc).mono ?_; rintro e w2 ⟨rfl, h2⟩; have H2 := am h2.popg; clear h2))
   go_ret
   exact ⟨by unfold legalB; rw [HT.out, decide_eq_true H80.out]; rfl, H2.out⟩
  have hz : decide ((80 : Int) < (l.length : Int)) = true := decide_eq_true (by omega)
  have H80 := am h80
  clear h80
  go_enter Tryz.func30, Tryz.ntmps30
  go_wp2_with (go_at_call 53; refine (H0.out.thinA rc rn jb HI.out hc).mono ?_; rw [HT.out]; rintro e w1 ⟨rfl, h1⟩; have H1 := am h1.popg; clear h1)
  go_ret
  exact ⟨by unfold legalB; rw [HT.out, decide_eq_false H80.out]; rfl, H1.out⟩
end
end Go.Proofs.YtjgocihflhljeaaGreat.P
namespace Go.Proofs.YtjgocihflhljeaaGreat.P
open Go.RowKit Go.Shelf Go.Proofs.YtjgocihflhljeaaGreatW.PrintWords Go.Proofs.YtjgocihflhljeaaGreatW.PrintLast Go.Proofs.YtjgocihflhljeaaGreatW.PrintMore
section
variable {ids : List S68} {rc : Bool} {rn : Int} {jb : Bool}
theorem tell_take {l : List Mv} (hE : tellE ids rc rn jb l = 0) (k : Nat) (hk : k ≤ l.length) : tellE ids rc rn jb (l.take k) = 0 ∧ (talkL ids rc rn jb (l.take k)).word = l.take k := by
 obtain ⟨h1, h2, h3⟩ := tellE_zero hE
 have hw := talk_all h3
 have hlk : (l.take k).length = k := by rw [List.length_take]; omega
 have hle : (talkL ids rc rn jb (l.take k)).word.length ≤ k := by rw [talk_take, List.length_take]; omega
 have hs : talkL ids rc rn jb l = if (talkL ids rc rn jb (l.take k)).word.length = k then walkL ids rc rn jb (talkL ids rc rn jb (l.take k)) (l.drop k) else talkL ids rc rn jb (l.take k) := by
  have h := walkL_append (ids := ids) (rc := rc) (rn := rn) (jb := jb) (l.drop k) (l.take k) Tk.empty
  rw [List.take_append_drop, hlk] at h
  have e0 : Tk.empty.word.length = 0 := rfl
  rw [e0, Nat.zero_add] at h
  exact h
 have hk2 : (talkL ids rc rn jb (l.take k)).word.length = k := by
  by_cases h : (talkL ids rc rn jb (l.take k)).word.length = k
  ·exact h
  rw [if_neg h] at hs
  rw [← hs, hw] at hle h
  omega
 have h5 : ¬ (talkL ids rc rn jb (l.take k)).word.length < (l.take k).length := by omega
 exact ⟨tellE_ok h1 (by omega) h5, talk_all h5⟩
theorem may_at {l : List Mv} (hE : tellE ids rc rn jb l = 0) (hl : l.length ≤ 80) (k : Nat) (hk : k < l.length) : (talkL ids rc rn jb (l.take k)).may ids rc rn jb l[k] = true := by
 have h1 := (tell_take hE k (by omega)).1
 have h2 := (tell_take hE (k + 1) (by omega)).1
 rw [List.take_succ_eq_append_getElem hk] at h2
 have h3 := (tell_snoc (m := l[k]) h1 (by rw [List.length_take]; omega)).1
 rw [h2] at h3
 cases hm : (talkL ids rc rn jb (l.take k)).may ids rc rn jb l[k] with
 | true => rfl
 | false => rw [hm, if_neg Bool.false_ne_true] at h3; cases h3
structure Tk.InvE (ids : List S68) (rc : Bool) (rn : Int) (jb : Bool) (t : Tk) : Prop where
 nest : ∀ k, k + 1 < t.opn.length → k % 2 = 1 → (t.mv (t.opn.getD (k + 1) 0)).f0 = (t.mv (t.opn.getD k 0)).f0
 lost : t.lost = true → jb = true
 esc : t.force = true → ∀ q, t.top = some q → ∃ p, spotAt ids rc rn jb (t.mv q).f0 (t.mv q).f1 = some p ∧ p.esc = true
theorem Tk.InvE.empty : Tk.empty.InvE ids rc rn jb := ⟨fun k h => by simp [Tk.empty] at h, fun h => by simp [Tk.empty] at h, fun h => by simp [Tk.empty] at h⟩
theorem spot_param {id arg : Int} {p : Spot} (h : spotAt ids rc rn jb id arg = some p) (ha : 0 < arg) : ∃ p', spotAt ids rc rn jb id 0 = some p' ∧ p'.esc = true := by
 unfold spotAt at h ⊢
 split at h
 ·omega
 split at h
 ·rename_i h1 h2
  rw [if_neg (by omega), if_pos h2]
  unfold idAt at h ⊢
  simp only at h ⊢
  split at h
  ·omega
  split at h
  ·rename_i h3
   rw [if_pos trivial]
   refine ⟨_, rfl, ?_⟩
   have : 0 < (ids.getD (id - 1).toNat z68).f0.length := by omega
   simp only [decide_eq_true this, Bool.or_true]
  cases h
 cases h
theorem Tk.InvE.say {t : Tk} {m : Mv} (h : t.InvE ids rc rn jb) (hA : t.InvA) (hh : hasR ids rc rn jb m = true) (hw : Way t jb m) : (t.say m).InvE ids rc rn jb := by
 have hm := hasR_ok hh
 have hol : ∀ k, k < t.opn.length → (t.say m).mv (t.opn.getD k 0) = t.mv (t.opn.getD k 0) := fun k hk => say_mv_old (hA.lo k hk).1 (hA.lo k hk).2
 cases ha : isAns m with
 | true =>
  have eo := say_opn_ans (t := t) ha
  have hlen : (t.say m).opn.length = t.opn.length - 1 := by rw [eo]; simp
  have hg : ∀ k, k + 1 < t.opn.length → (t.say m).opn.getD k 0 = t.opn.getD k 0 := fun k hk => by rw [eo]; exact getD_dropLast _ _ _ hk
  obtain ⟨q, ht, h0, h1, hn⟩ : ∃ q, t.top = some q ∧ m.f0 = (t.mv q).f0 ∧ m.f1 = (t.mv q).f1 ∧ t.answers jb (t.mv q) m = true := by
   cases hw with
   | root _ _ ha' _ _ => rw [ha] at ha'; cases ha'
   | ident _ _ _ ha' _ _ _ => rw [ha] at ha'; cases ha'
   | param _ _ _ ha' _ _ _ _ => rw [ha] at ha'; cases ha'
   | answer q ht _ h0 h1 hn => exact ⟨q, ht, h0, h1, hn⟩
  obtain ⟨hp, hq⟩ := top_get ht
  refine ⟨?_, ?_, ?_⟩
  ·intro k hk ho
   rw [hlen] at hk
   rw [hg k (by omega), hg (k + 1) (by omega), hol _ (by omega), hol _ (by omega)]
   exact h.nest k (by omega) ho
  ·intro hl
   have hl' : (t.lost || (isEscB m && isIdent m && !t.force)) = true := hl
   rw [Bool.or_eq_true] at hl'
   rcases hl' with hl' | hl'
   ·exact h.lost hl'
   simp only [Bool.and_eq_true, Bool.not_eq_true'] at hl'
   obtain ⟨⟨he, hi⟩, hf⟩ := hl'
   cases hlo : t.lost with
   | true => exact h.lost hlo
   | false =>
    unfold Tk.answers at hn
    rw [hf, hlo, if_neg (by decide), if_pos he] at hn
    have hi2 : isIdent (t.mv q) = true := by rw [← ident_same h0 h1]; exact hi
    have hp2 : isPar (t.mv q) = false := by
     cases hx : isPar (t.mv q) with
     | false => rfl
     | true => rw [par_ident hx] at hi2; cases hi2
    rw [hp2, hi2] at hn
    simpa using hn
  intro hf q' hq'
  have hf' : (isEscB m && isPar m) = true := hf
  rw [Bool.and_eq_true] at hf'
  have hpm := hf'.2
  have hpq : isPar (t.mv q) = true := by
   unfold isPar at hpm ⊢
   rw [← h0, ← h1]
   exact hpm
  obtain ⟨hp', hq2⟩ := top_get hq'
  rw [hlen] at hp' hq2
  rw [hg _ (by omega)] at hq2
  have hk1 : t.opn.length - 1 - 1 + 1 = t.opn.length - 1 := by omega
  have halt := hA.alt (t.opn.length - 1) (by omega)
  rw [hq, par_ident hpq] at halt
  have hpar := of_decide_eq_false halt.symm
  have hnest := h.nest (t.opn.length - 1 - 1) (by omega) (by omega)
  rw [hk1, hq, hq2] at hnest
  have hali := hA.alt (t.opn.length - 1 - 1) (by omega)
  rw [hq2, decide_eq_true (by omega)] at hali
  obtain ⟨_, p, hs, _⟩ := hasR_spot hh
  have hf1 : 0 < m.f1 := by
   unfold isPar at hpm
   simp only [Bool.and_eq_true, decide_eq_true_eq] at hpm
   exact hpm.2
  obtain ⟨p', hp1, hp2⟩ := spot_param hs hf1
  have hlo2 := hA.lo (t.opn.length - 1 - 1) (by omega)
  rw [hq2] at hlo2
  have e1 : (t.say m).mv q' = t.mv q' := say_mv_old hlo2.1 hlo2.2
  have e2 : (t.mv q').f1 = 0 := by
   unfold isIdent at hali
   simp only [Bool.and_eq_true, beq_iff_eq] at hali
   exact hali.2
  rw [e1, e2, ← hnest, ← h0]
  exact ⟨p', hp1, hp2⟩
 | false =>
  have eo := say_opn_ask (t := t) ha
  have hlen : (t.say m).opn.length = t.opn.length + 1 := by rw [eo]; simp
  have hg : ∀ k, (t.say m).opn.getD k 0 = if k < t.opn.length then t.opn.getD k 0 else if k = t.opn.length then (t.word.length : Int) else 0 := by
   intro k
   rw [eo]
   exact getD_snoc _ _ _ _
  have hes : isEscB m = false := by
   unfold isAns at ha
   unfold isEscB
   rw [ha]
   rfl
  refine ⟨?_, ?_, ?_⟩
  ·intro k hk ho
   rw [hlen] at hk
   have hkl : k < t.opn.length := by omega
   have e1 : (t.say m).mv ((t.say m).opn.getD k 0) = t.mv (t.opn.getD k 0) := by rw [hg k, if_pos hkl, hol _ hkl]
   rw [e1, hg (k + 1)]
   by_cases hk2 : k + 1 < t.opn.length
   ·rw [if_pos hk2, hol _ hk2]
    exact h.nest k hk2 ho
   rw [if_neg hk2, if_pos (by omega), say_mv_new]
   cases hw with
   | root _ ht _ _ _ => rw [ht] at hkl; simp at hkl
   | ident q ht hq _ _ _ _ =>
    have h3 := (hA.top ht).2.2.2.1
    rw [hq] at h3
    have := of_decide_eq_false h3.symm
    omega
   | param q ht hq _ _ h0 _ _ =>
    obtain ⟨hp, hq2⟩ := top_get ht
    have e : t.opn.length - 1 = k := by omega
    rw [e] at hq2
    rw [hq2]
    exact h0
   | answer _ _ ha' _ _ _ => rw [ha] at ha'; cases ha'
  ·intro hl
   have hl' : (t.lost || (isEscB m && isIdent m && !t.force)) = true := hl
   rw [hes, Bool.false_and, Bool.false_and, Bool.or_false] at hl'
   exact h.lost hl'
  intro hf
  have hf' : (isEscB m && isPar m) = true := hf
  rw [hes] at hf'
  cases hf'
theorem walkL_invE (l : List Mv) : ∀ t : Tk, t.Inv ids rc rn jb → t.InvE ids rc rn jb → t.word.length + l.length ≤ 1048576 → (walkL ids rc rn jb t l).InvE ids rc rn jb := by
 induction l with
 | nil => intro t h h' _; rw [walkL]; exact h'
 | cons m ms ih =>
  intro t h h' hl
  rw [List.length_cons] at hl
  rw [walkL]
  split
  ·rename_i hm
   obtain ⟨h1, h2, h3⟩ := may_way h.l.ok hm
   exact ih _ (h.say hm (by omega)) (h'.say h.a h1 h3) (by rw [say_len]; omega)
  exact h'
theorem talk_invE (l : List Mv) (hl : l.length ≤ 1000000) : (talkL ids rc rn jb l).InvE ids rc rn jb :=
 walkL_invE l _ Tk.Inv.empty Tk.InvE.empty (by simp [Tk.empty]; omega)
end
end Go.Proofs.YtjgocihflhljeaaGreat.P
namespace Go.Proofs.YtjgocihflhljeaaGreat.P
open Go.RowKit Go.Shelf Go.Proofs.YtjgocihflhljeaaGreatW.PrintWords Go.Proofs.YtjgocihflhljeaaGreatW.PrintLast Go.Proofs.YtjgocihflhljeaaGreatW.PrintMore
attribute [local go_sem] Oper.semAt_some
theorem rIsOther_eq (m : Mv) (b : Bool) (h : isOB m = b) (w : World) : Calls Tryz.prog 34 #[.agg #[.int .i64 m.f0, .int .i64 m.f1, .int .u8 m.f2, .int .i64 m.f3]] w fun e w' => e = .returned (.bool b) ∧ Below w.heap.size w w' := h ▸ rIsOther_any m w
end Go.Proofs.YtjgocihflhljeaaGreat.P
namespace Go.Proofs.YtjgocihflhljeaaGreat.P
open Go.RowKit Go.Shelf Go.Proofs.YtjgocihflhljeaaGreatW.PrintWords Go.Proofs.YtjgocihflhljeaaGreatW.PrintLast Go.Proofs.YtjgocihflhljeaaGreatW.PrintMore
structure Tk.InvL (t : Tk) : Prop where
 z0 : 0 < t.opn.length → (t.mv (t.opn.getD 0 0)).f0 = 0
 fo : t.force = true → t.opn ≠ []
 ls : t.lost = true → 0 < t.word.length ∧ isEscB (t.mv ((t.word.length : Int) - 1)) = true
theorem Tk.InvL.empty : Tk.empty.InvL := ⟨fun h => by simp [Tk.empty] at h, fun h => by simp [Tk.empty] at h, fun h => by simp [Tk.empty] at h⟩
theorem Tk.InvL.say {t : Tk} {jb : Bool} {m : Mv} (h : t.InvL) (hA : t.InvA) (hw : Way t jb m) : (t.say m).InvL := by
 have hls : (t.say m).lost = true → 0 < (t.say m).word.length ∧ isEscB ((t.say m).mv (((t.say m).word.length : Int) - 1)) = true := by
  intro hl
  have e : (((t.say m).word.length : Nat) : Int) - 1 = (t.word.length : Int) := by rw [say_len]; omega
  rw [e, say_mv_new, say_len]
  refine ⟨by omega, ?_⟩
  have hl' : (t.lost || (isEscB m && isIdent m && !t.force)) = true := hl
  rw [Bool.or_eq_true] at hl'
  rcases hl' with hl' | hl'
  ·cases hw with
   | root h0 _ _ _ _ => have := (h.ls hl').1; omega
   | ident _ _ _ _ _ _ hlo => rw [hl'] at hlo; cases hlo
   | param _ _ _ _ _ _ _ hlo => rw [hl'] at hlo; cases hlo
   | answer q ht _ _ _ hn => exact answers_esc hn (.inr hl')
  simp only [Bool.and_eq_true] at hl'
  exact hl'.1.1
 cases ha : isAns m with
 | true =>
  have eo := say_opn_ans (t := t) ha
  have hlen : (t.say m).opn.length = t.opn.length - 1 := by rw [eo]; simp
  refine ⟨?_, ?_, hls⟩
  ·intro hp
   rw [hlen] at hp
   have e : (t.say m).opn.getD 0 0 = t.opn.getD 0 0 := by rw [eo]; exact getD_dropLast _ _ _ (by omega)
   rw [e, say_mv_old (hA.lo 0 (by omega)).1 (hA.lo 0 (by omega)).2]
   exact h.z0 (by omega)
  intro hf hn
  have hf' : (isEscB m && isPar m) = true := hf
  rw [Bool.and_eq_true] at hf'
  rw [hn] at hlen
  simp at hlen
  cases hw with
  | root _ _ ha' _ _ => rw [ha] at ha'; cases ha'
  | ident _ _ _ ha' _ _ _ => rw [ha] at ha'; cases ha'
  | param _ _ _ ha' _ _ _ _ => rw [ha] at ha'; cases ha'
  | answer q ht _ h0 h1 hn =>
   obtain ⟨hp, hq⟩ := top_get ht
   have e : t.opn.length - 1 = 0 := by omega
   rw [e] at hq
   have hz := h.z0 hp
   rw [hq, ← h0] at hz
   have := hf'.2
   simp [isPar, hz] at this
 | false =>
  have eo := say_opn_ask (t := t) ha
  have hes : isEscB m = false := by
   unfold isAns at ha
   unfold isEscB
   rw [ha]
   rfl
  refine ⟨?_, ?_, hls⟩
  ·intro _
   have hg : (t.say m).opn.getD 0 0 = if 0 < t.opn.length then t.opn.getD 0 0 else if 0 = t.opn.length then (t.word.length : Int) else 0 := by
    rw [eo]
    exact getD_snoc _ _ _ _
   rw [hg]
   by_cases hp : 0 < t.opn.length
   ·rw [if_pos hp, say_mv_old (hA.lo 0 hp).1 (hA.lo 0 hp).2]
    exact h.z0 hp
   rw [if_neg hp, if_pos (by omega), say_mv_new]
   cases hw with
   | root _ _ _ h1 _ => exact h1
   | ident q ht _ _ _ _ _ => exact absurd (top_get ht).1 hp
   | param q ht _ _ _ _ _ _ => exact absurd (top_get ht).1 hp
   | answer q ht _ _ _ _ => exact absurd (top_get ht).1 hp
  intro hf
  have hf' : (isEscB m && isPar m) = true := hf
  rw [hes] at hf'
  cases hf'
section
variable {ids : List S68} {rc : Bool} {rn : Int} {jb : Bool}
theorem walkL_invL (l : List Mv) : ∀ t : Tk, t.Inv ids rc rn jb → t.InvL → t.word.length + l.length ≤ 1048576 → (walkL ids rc rn jb t l).InvL := by
 induction l with
 | nil => intro t h h' _; rw [walkL]; exact h'
 | cons m ms ih =>
  intro t h h' hl
  rw [List.length_cons] at hl
  rw [walkL]
  split
  ·rename_i hm
   obtain ⟨h1, h2, h3⟩ := may_way h.l.ok hm
   exact ih _ (h.say hm (by omega)) (h'.say h.a h3) (by rw [say_len]; omega)
  exact h'
theorem talk_invL (l : List Mv) (hl : l.length ≤ 1000000) : (talkL ids rc rn jb l).InvL :=
 walkL_invL l _ Tk.Inv.empty Tk.InvL.empty (by simp [Tk.empty]; omega)
end
def neg1 (x : Int) : Bool := decide (x < 0)
structure Tk.InvB (t : Tk) : Prop where
 asc : t.opn.Pairwise (· < ·)
 iff : ∀ i : Nat, i < t.word.length → (t.prt i = -1 ↔ (i : Int) ∈ t.opn)
 par : ∀ i : Nat, i < t.word.length → t.prt i ≠ -1 → ∃ k : Nat, t.prt i = k ∧ k < t.word.length ∧ k ≠ i ∧ t.prt k = i ∧ (t.mv i).f0 = (t.mv k).f0 ∧ (t.mv i).f1 = (t.mv k).f1 ∧ isAns (t.mv i) = decide (k < i)
 btw : ∀ i k : Nat, i < k → k < t.word.length → t.prt i = k → ∀ n : Nat, i < n → n < k → (i : Int) < t.prt n ∧ t.prt n < k
 cnt : t.part.countP neg1 = t.opn.length
theorem Tk.InvB.empty : Tk.empty.InvB := ⟨List.Pairwise.nil, fun k h => by simp [Tk.empty] at h, fun k h => by simp [Tk.empty] at h, fun i k h1 h => by simp [Tk.empty] at h, rfl⟩
theorem mem_opn {t : Tk} (hA : t.InvA) {x : Int} (h : x ∈ t.opn) : 0 ≤ x ∧ x < t.word.length ∧ isAns (t.mv x) = false := by
 obtain ⟨k, hk, he⟩ := List.mem_iff_getElem.1 h
 have e : t.opn.getD k 0 = x := by rw [List.getD_eq_getElem?_getD, List.getElem?_eq_getElem hk, he]; rfl
 have h1 := hA.lo k hk
 have h2 := hA.ask k hk
 rw [e] at h1 h2
 exact ⟨h1.1, h1.2, h2⟩
theorem opn_split {t : Tk} {q : Int} (h : t.top = some q) : t.opn = t.opn.dropLast ++ [q] := by
 unfold Tk.top at h
 obtain ⟨hn, hq⟩ : ∃ hn : t.opn ≠ [], t.opn.getLast hn = q := by
  have hn : t.opn ≠ [] := by intro hn; rw [hn] at h; cases h
  refine ⟨hn, ?_⟩
  rw [List.getLast?_eq_some_getLast hn] at h
  exact Option.some.inj h
 rw [← hq]
 exact (List.dropLast_concat_getLast hn).symm
theorem Tk.InvB.ask {t : Tk} {m : Mv} (h : t.InvB) (hA : t.InvA) (ho : t.Ok) (ha : isAns m = false) : (t.say m).InvB := by
 have hl := say_len t m
 have eo := say_opn_ask (t := t) ha
 have hp : ∀ i : Nat, i ≤ t.word.length → (t.say m).prt i = if i = t.word.length then -1 else t.prt i := by
  intro i hi
  rw [say_prt _ _ ho _ hi, ha]
  by_cases h1 : i = t.word.length
  ·rw [if_pos h1, if_pos h1, if_neg (by decide)]
  rw [if_neg h1, if_neg h1, if_neg (by simp)]
 have hlt : ∀ i k : Nat, i < t.word.length → t.prt i = k → k < t.word.length := by
  intro i k hi hk
  obtain ⟨k', h1, h2, _⟩ := h.par i hi (by omega)
  omega
 refine ⟨?_, ?_, ?_, ?_, ?_⟩
 ·rw [eo, List.pairwise_append]
  refine ⟨h.asc, List.pairwise_singleton _ _, fun a ha' b hb => ?_⟩
  rw [List.mem_singleton] at hb
  rw [hb]
  exact (mem_opn hA ha').2.1
 ·intro i hi
  rw [hl] at hi
  rw [hp i (by omega), eo, List.mem_append, List.mem_singleton]
  by_cases h1 : i = t.word.length
  ·rw [if_pos h1]
   exact ⟨fun _ => .inr (by omega), fun _ => rfl⟩
  rw [if_neg h1, h.iff i (by omega)]
  exact ⟨fun h2 => .inl h2, fun h2 => h2.resolve_right (by omega)⟩
 ·intro i hi hn
  rw [hl] at hi
  rw [hp i (by omega)] at hn ⊢
  by_cases h1 : i = t.word.length
  ·rw [if_pos h1] at hn; exact absurd rfl hn
  rw [if_neg h1] at hn ⊢
  obtain ⟨k, h2, h3, h4, h5, h6, h7, h8⟩ := h.par i (by omega) hn
  refine ⟨k, h2, by omega, h4, ?_, ?_, ?_, ?_⟩
  ·rw [hp k (by omega), if_neg (by omega), h5]
  ·rw [say_mvN _ _ _ (by omega), say_mvN _ _ _ (by omega), h6]
  ·rw [say_mvN _ _ _ (by omega), say_mvN _ _ _ (by omega), h7]
  rw [say_mvN _ _ _ (by omega), h8]
 ·intro i k hik hk he n hn1 hn2
  rw [hl] at hk
  rw [hp i (by omega), if_neg (by omega)] at he
  have := hlt i k (by omega) he
  rw [hp n (by omega), if_neg (by omega)]
  exact h.btw i k hik (by omega) he n hn1 hn2
 show ((if isAns m then t.part.set t.topI.toNat t.word.length else t.part) ++ [if isAns m then t.topI else -1]).countP neg1 = _
 rw [ha, if_neg (by decide), if_neg (by decide), List.countP_append, h.cnt, eo, List.length_append]
 rfl
theorem Tk.InvB.ans {t : Tk} {m : Mv} {q : Int} (h : t.InvB) (hA : t.InvA) (ho : t.Ok) (ha : isAns m = true) (ht : t.top = some q) (h0 : m.f0 = (t.mv q).f0) (h1 : m.f1 = (t.mv q).f1) : (t.say m).InvB := by
 have hl := say_len t m
 have eo := say_opn_ans (t := t) ha
 obtain ⟨q0, q1, q2, _, q4⟩ := hA.top ht
 obtain ⟨j, rfl⟩ : ∃ j : Nat, q = j := ⟨q.toNat, by omega⟩
 have hj : j < t.word.length := by omega
 have hs := opn_split ht
 have hp : ∀ i : Nat, i ≤ t.word.length → (t.say m).prt i = if i = t.word.length then (j : Int) else if i = j then (t.word.length : Int) else t.prt i := by
  intro i hi
  rw [say_prt _ _ ho _ hi, if_pos ha, topI_of ht, Int.toNat_natCast]
  by_cases h1 : i = t.word.length
  ·rw [if_pos h1, if_pos h1]
  rw [if_neg h1, if_neg h1]
  by_cases h2 : i = j
  ·rw [if_pos ⟨ha, h2.symm⟩, if_pos h2]
  rw [if_neg (fun h3 => h2 h3.2.symm), if_neg h2]
 have hpj : t.prt j = -1 := by
  rw [h.iff j hj, hs]
  exact List.mem_append.2 (.inr (List.mem_singleton.2 rfl))
 have hasc := h.asc
 rw [hs, List.pairwise_append] at hasc
 have hdl : ∀ x ∈ t.opn.dropLast, x < (j : Int) := fun x hx => hasc.2.2 x hx j (List.mem_singleton.2 rfl)
 have hmem : ∀ x : Int, x ≠ j → (x ∈ t.opn ↔ x ∈ t.opn.dropLast) := by
  intro x hx
  constructor
  ·intro h1
   rw [hs, List.mem_append, List.mem_singleton] at h1
   exact h1.resolve_right hx
  intro h1
  rw [hs]
  exact List.mem_append.2 (.inl h1)
 have hlt : ∀ i k : Nat, i < t.word.length → t.prt i = k → k < t.word.length ∧ t.prt k = i := by
  intro i k hi hk
  obtain ⟨k', h1, h2, h3, h4, _⟩ := h.par i hi (by omega)
  have : k' = k := by omega
  subst this
  exact ⟨h2, h4⟩
 refine ⟨?_, ?_, ?_, ?_, ?_⟩
 ·rw [eo]
  exact hasc.1
 ·intro i hi
  rw [hl] at hi
  rw [hp i (by omega), eo]
  by_cases h2 : i = t.word.length
  ·rw [if_pos h2]
   exact ⟨fun h3 => by omega, fun h3 => by have := hdl _ h3; omega⟩
  rw [if_neg h2]
  by_cases h3 : i = j
  ·rw [if_pos h3]
   exact ⟨fun h4 => by omega, fun h4 => by have := hdl _ h4; omega⟩
  rw [if_neg h3, h.iff i (by omega)]
  exact hmem _ (by omega)
 ·intro i hi hn
  rw [hl] at hi
  rw [hp i (by omega)] at hn ⊢
  by_cases h2 : i = t.word.length
  ·subst h2
   rw [if_pos rfl]
   refine ⟨j, rfl, by omega, by omega, ?_, ?_, ?_, ?_⟩
   ·rw [hp j (by omega), if_neg (by omega), if_pos rfl]
   ·rw [say_mv_new, say_mvN _ _ _ hj, h0]
   ·rw [say_mv_new, say_mvN _ _ _ hj, h1]
   rw [say_mv_new, ha, decide_eq_true hj]
  rw [if_neg h2] at hn ⊢
  by_cases h3 : i = j
  ·subst h3
   rw [if_pos rfl]
   refine ⟨t.word.length, rfl, by omega, by omega, ?_, ?_, ?_, ?_⟩
   ·rw [hp _ (Nat.le_refl _), if_pos rfl]
   ·rw [say_mv_new, say_mvN _ _ _ hj, h0]
   ·rw [say_mv_new, say_mvN _ _ _ hj, h1]
   rw [say_mvN _ _ _ hj, q2, decide_eq_false (by omega)]
  rw [if_neg h3] at hn ⊢
  obtain ⟨k, k2, k3, k4, k5, k6, k7, k8⟩ := h.par i (by omega) hn
  have hkj : k ≠ j := by rintro rfl; omega
  refine ⟨k, k2, by omega, k4, ?_, ?_, ?_, ?_⟩
  ·rw [hp k (by omega), if_neg (by omega), if_neg hkj, k5]
  ·rw [say_mvN _ _ _ (by omega), say_mvN _ _ _ (by omega), k6]
  ·rw [say_mvN _ _ _ (by omega), say_mvN _ _ _ (by omega), k7]
  rw [say_mvN _ _ _ (by omega), k8]
 ·intro i k hik hk he n hn1 hn2
  rw [hl] at hk
  rw [hp i (by omega), if_neg (by omega)] at he
  rw [hp n (by omega), if_neg (by omega)]
  by_cases h3 : i = j
  ·subst h3
   rw [if_pos rfl] at he
   have hn : n < t.word.length := by omega
   rw [if_neg (by omega)]
   have hnp : t.prt n ≠ -1 := by
    rw [Ne, h.iff n hn, hmem _ (by omega)]
    intro h4
    have := hdl _ h4
    omega
   obtain ⟨k', k2, k3, k4, k5, _⟩ := h.par n hn hnp
   refine ⟨?_, by omega⟩
   rcases Nat.lt_trichotomy k' i with h5 | h5 | h5
   ·have := h.btw k' n (by omega) hn k5 i h5 hn1
    omega
   ·subst h5
    omega
   omega
  rw [if_neg h3] at he
  have hkl := (hlt i k (by omega) he).1
  have hnj : n ≠ j := by
   rintro rfl
   have := h.btw i k hik (by omega) he n hn1 hn2
   omega
  rw [if_neg hnj]
  exact h.btw i k hik (by omega) he n hn1 hn2
 show ((if isAns m then t.part.set t.topI.toNat t.word.length else t.part) ++ [if isAns m then t.topI else -1]).countP neg1 = _
 have hpl := ho.hp
 rw [if_pos ha, if_pos ha, topI_of ht, Int.toNat_natCast, List.countP_append, List.countP_set (by omega), h.cnt, eo, List.length_dropLast]
 have e : t.part[j]'(by omega) = -1 := by
  rw [← hpj]
  unfold Tk.prt
  rw [List.getD_eq_getElem?_getD, List.getElem?_eq_getElem (by omega)]
  rfl
 rw [e]
 have e1 : neg1 (-1) = true := rfl
 have e2 : neg1 (t.word.length : Int) = false := decide_eq_false (by omega)
 have e3 : List.countP neg1 [(j : Int)] = 0 := by
  rw [List.countP_singleton]
  have : neg1 (j : Int) = false := decide_eq_false (by omega)
  rw [this]
  rfl
 rw [e1, e2, e3]
 simp
theorem Tk.InvB.say {t : Tk} {jb : Bool} {m : Mv} (h : t.InvB) (hA : t.InvA) (ho : t.Ok) (hw : Way t jb m) : (t.say m).InvB := by
 cases hw with
 | root _ _ ha _ _ => exact h.ask hA ho ha
 | ident _ _ _ ha _ _ _ => exact h.ask hA ho ha
 | param _ _ _ ha _ _ _ _ => exact h.ask hA ho ha
 | answer q ht ha h0 h1 _ => exact h.ans hA ho ha ht h0 h1
section
variable {ids : List S68} {rc : Bool} {rn : Int} {jb : Bool}
theorem walkL_invB (l : List Mv) : ∀ t : Tk, t.Inv ids rc rn jb → t.InvB → t.word.length + l.length ≤ 1048576 → (walkL ids rc rn jb t l).InvB := by
 induction l with
 | nil => intro t h h' _; rw [walkL]; exact h'
 | cons m ms ih =>
  intro t h h' hl
  rw [List.length_cons] at hl
  rw [walkL]
  split
  ·rename_i hm
   obtain ⟨h1, h2, h3⟩ := may_way h.l.ok hm
   exact ih _ (h.say hm (by omega)) (h'.say h.a h.l.ok h3) (by rw [say_len]; omega)
  exact h'
theorem talk_invB (l : List Mv) (hl : l.length ≤ 1000000) : (talkL ids rc rn jb l).InvB :=
 walkL_invB l _ Tk.Inv.empty Tk.InvB.empty (by simp [Tk.empty]; omega)
end
end Go.Proofs.YtjgocihflhljeaaGreat.P
