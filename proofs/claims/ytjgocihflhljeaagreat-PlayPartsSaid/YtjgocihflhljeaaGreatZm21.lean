/- What the claim's law needs, many texts in one (Uh Vd Ui Uj Uk Db Dc Dd Dp Ma Mb Mc Ve Ul Vf Um Md P11 Vg Un Vh Uo Di Vi Dj Dk Vj Vk Dl Vl Vm Dn Dh Vn Vo Dr Me). No conditions of its own. -/
import Derived.Test.YtjgocihflhljeaaGreatZm18
import Derived.Test.YtjgocihflhljeaaGreatZm20
import Derived.Test.YtjgocihflhljeaaGreatZm12
import Derived.Test.YtjgocihflhljeaaGreatZm9
import Derived.Test.YtjgocihflhljeaaGreatZm14
import Derived.Test.YtjgocihflhljeaaGreatZm10
import Derived.Test.YtjgocihflhljeaaGreatZm17
import Derived.Maps.OwnOps
import Derived.Maps.OwnSet
import Derived.Maps.Views
import Derived.Laws.CopyRow
import Derived.Test.YtjgocihflhljeaaGreatZm2
import Derived.BigGuard
set_option linter.unusedVariables false
set_option linter.unusedSimpArgs false
namespace Go.Proofs.YtjgocihflhljeaaGreat.P
open Go.RowKit Go.Shelf Go.Proofs.YtjgocihflhljeaaGreatW.PrintWords Go.Proofs.YtjgocihflhljeaaGreatW.PrintLast Go.Proofs.YtjgocihflhljeaaGreatW.PrintMore
attribute [local go_sem] Oper.semAt_some
structure Takes (t : Tk) (m : Mv) : Prop where
 i : 0 ≤ m.f0 ∧ 0 ≤ m.f1 ∧ (m.f0 = 0 → m.f1 = 0)
 k : askB m = !isAns m
 o : isAns m = true → t.opn ≠ []
 p : isAns m = false → 0 < m.f1 → t.opn ≠ []
theorem rTakeZ_any {base : Nat} {w : World} {g : Nat} {A : Option Addr} {c : Nat} {ids : List S68} {rc : Bool} {rn : Int} {jb : Bool} {t : Tk} {vw vo vp vj : Value} (h : Wlk base w g A c ids rc rn jb t vw vo vp vj) (hL : t.Legal ids rc rn jb) (m : Mv) (hm : Takes t m) (hw : t.word.length < 1048576) :
  Calls Tryz.prog 85 #[.pointer (some ⟨g, 0, none⟩), .agg #[.int .i64 m.f0, .int .i64 m.f1, .int .u8 m.f2, .int .i64 m.f3]] w fun e w' => e = .returned (.tuple #[]) ∧ SK base 86 w w' ∧ (∀ bz cs, Boxy w g bz → w.heap[bz]? = some (.cells cs 52 (0, 0)) → w'.heap[bz]? = some (.cells cs 52 (0, 0))) ∧ ∃ vw vo vp vj, Wlk base w' g A c ids rc rn jb (t.say m) vw vo vp vj := by
 have hk := hm.k
 cases ha : isAns m with
 | true =>
  rw [ha] at hk
  exact take_ans h m hw hk ha (hm.o ha) hL.fo.symm hL.dp
 | false =>
  rw [ha] at hk
  refine take_ask h m hw hk ha (hm.p ha) ?_
  have hi := hm.i
  unfold Tk.justOf isIdent isPar
  rw [ha]
  by_cases h1 : 0 < m.f1
  ·have h0 : 0 < m.f0 := by have := hi.2.2; omega
   have h2 : (m.f1 == 0) = false := by simp; omega
   simp [h1, h0, h2]
  have h2 : m.f1 = 0 := by omega
  by_cases h0 : 0 < m.f0
  ·simp [h1, h0, h2]
  simp [h1, h0, h2]
theorem rTake_any {base : Nat} {w : World} {g : Nat} {A : Option Addr} {c : Nat} {ids : List S68} {rc : Bool} {rn : Int} {jb : Bool} {t : Tk} {vw vo vp vj : Value} (h : Wlk base w g A c ids rc rn jb t vw vo vp vj) (hL : t.Legal ids rc rn jb) (m : Mv) (hm : Takes t m) (hw : t.word.length < 1048576) :
  Calls Tryz.prog 85 #[.pointer (some ⟨g, 0, none⟩), .agg #[.int .i64 m.f0, .int .i64 m.f1, .int .u8 m.f2, .int .i64 m.f3]] w fun e w' => e = .returned (.tuple #[]) ∧ SK base 86 w w' ∧ ∃ vw vo vp vj, Wlk base w' g A c ids rc rn jb (t.say m) vw vo vp vj := by
 refine (rTakeZ_any h hL m hm hw).mono ?_
 rintro e w' ⟨h1, h2, _, h3⟩
 exact ⟨h1, h2, h3⟩
theorem may_takes {ids : List S68} {rc : Bool} {rn : Int} {jb : Bool} {t : Tk} {m : Mv} (hm : hasR ids rc rn jb m = true) (hc : t.can jb m = true) : Takes t m := by
 have hk := hasR_ok hm
 refine ⟨hk.i, ?_, Tk.can_ans hc, ?_⟩
 ·have h1 := hk.k
  unfold askB isAns
  rcases h1 with h | h | h <;> rw [h] <;> rfl
 intro ha h1 hn
 unfold Tk.can Tk.top at hc
 rw [hn] at hc
 simp only [List.getLast?_nil] at hc
 unfold atB at hc
 simp only [Bool.and_eq_true, beq_iff_eq] at hc
 omega
set_option maxHeartbeats 2000000 in
theorem rRun_any (A : Option Addr) (c : Nat) (ids : List S68) (rc : Bool) (rn : Int) (jb : Bool) (A1 : Option Addr) (c1 : Nat) (l : List Mv) (w : World) (hr : Kd.C k68 w A ids.length ids) (hlc : ids.length ≤ c) (hr1 : Kd.C k52 w A1 l.length l) (hl : l.length ≤ 1000000) (hok : checkE ids rn = 0) :
  Calls Tryz.prog 97 #[.agg #[.slice A ids.length c, .bool rc, .int .i64 rn, .bool jb], .slice A1 l.length c1] w fun e w' => e = .returned (.tuple #[.pointer (some ⟨w.heap.size + 1, 0, none⟩), .int .i64 (talkL ids rc rn jb l).word.length]) ∧ Below w.heap.size w w' ∧ ∃ vw vo vp vj, Wlk w.heap.size w' (w.heap.size + 1) A c ids rc rn jb (talkL ids rc rn jb l) vw vo vp vj := by
 have HRI := am hr
 have HR1 := am hr1
 clear hr hr1
 go_enter Tryz.func97, Tryz.ntmps97
 go_wp2
 have hT0 : Wlk w.heap.size ((w.alloc (.cells #[.slice A ids.length c, .bool rc, .int .i64 rn, .bool jb] 26)).alloc (.cells #[.slice A ids.length c, .bool rc, .int .i64 rn, .bool jb, .slice none 0 0, .slice none 0 0, .slice none 0 0, .slice none 0 0, .bool false, .int .i64 0] 86)) (w.heap.size + 1) A c ids rc rn jb Tk.empty (.slice none 0 0) (.slice none 0 0) (.slice none 0 0) (.slice none 0 0) :=
  ⟨(two w _ _).2, ⟨Kd.R_nil _ _ _ _ _, Kd.R_nil _ _ _ _ _, Kd.R_nil _ _ _ _ _, Kd.R_nil _ _ _ _ _, Kd.R_nil _ _ _ _ _, Ap.none _, Ap.none _, Ap.none _⟩, by omega, Tk.Ok.empty⟩
 go_loopg [7] l.length (fun gg s7 wr => ∃ (kk : Nat) (t : Tk), kk ≤ l.length ∧ l.length - kk ≤ gg ∧ s7 = .int .i64 kk ∧ t.word.length = kk ∧ Aside0 (walkL ids rc rn jb Tk.empty l = walkL ids rc rn jb t (l.drop kk)) ∧ Aside0 (Below w.heap.size w wr) ∧ w.heap.size ≤ wr.heap.size ∧ Aside0 (t.Legal ids rc rn jb) ∧ Aside0 (∃ vw vo vp vj, Wlk w.heap.size wr (w.heap.size + 1) A c ids rc rn jb t vw vo vp vj))
 case atStart => exact ⟨0, Tk.empty, Nat.zero_le _, by omega, rfl, rfl, ⟨rfl⟩, ⟨((Below.refl _ w).alloc (Nat.le_refl _) _).alloc (by simp) _⟩, by simp; omega, ⟨Tk.Legal.empty ids rc rn jb⟩, ⟨_, _, _, _, hT0⟩⟩
 case round =>
  obtain ⟨kk, t, hkk, hg, rfl, hwl, HE, BW, hsw, HL, HT⟩ := hrel
  clear hT0
  by_cases hlt : kk < l.length
  ·have hltz : (kk : Int) < (l.length : Int) := by omega
   obtain ⟨ad, e0, a0, a1, a2, a3⟩ := at_T52 HR1.out (kk : Int) (by omega) hltz
   cases e0
   rw [Int.toNat_natCast] at a0 a1 a2 a3
   have cb : decide ((kk : Int) < (l.length : Int)) = true := decide_eq_true hltz
   replace a0 := (BW.out.cell (World.block_lt_of_cell? w _ a0)).trans a0
   replace a1 := (BW.out.cell (World.block_lt_of_cell? w _ a1)).trans a1
   replace a2 := (BW.out.cell (World.block_lt_of_cell? w _ a2)).trans a2
   replace a3 := (BW.out.cell (World.block_lt_of_cell? w _ a3)).trans a3
   have HQ : Aside0 (l.drop kk = rd_T52 l (kk : Int) :: l.drop (kk + 1)) := ⟨by rw [List.drop_eq_getElem_cons hlt, rd_T52, Int.toNat_natCast, ← getD_get l z52 kk hlt]⟩
   generalize rd_T52 l (kk : Int) = m at *
   obtain ⟨vw, vo, vp, vj, hT⟩ := HT.out
   have HCAN := am (rCan_any hT m (Kd.C_below HRI.out BW.out) hlc hok)
   have HT := am hT
   clear hT
   cases hm : (hasR ids rc rn jb m && canR t jb m) with
   | false =>
    rw [hm] at HCAN
    have HF := am (show t.may ids rc rn jb m = false by
     unfold Tk.may
     cases hh : hasR ids rc rn jb m with
     | false => simp
     | true => rw [hh, Bool.true_and, canR_eq HL.out hh] at hm; rw [hm]; simp)
    clear hm
    go_wp2_with (go_at_call 87; refine HCAN.out.mono ?_; rintro e w1 ⟨rfl, hb1⟩)
    go_ret2
    have e : walkL ids rc rn jb Tk.empty l = t := by rw [HE.out, HQ.out, walkL, if_neg (by rw [HF.out]; decide)]
    refine ⟨by rw [show (talkL ids rc rn jb l) = t from e, hwl]; rfl, BW.out.trans (hb1.mono hsw), vw, vo, vp, vj, ?_⟩
    rw [show (talkL ids rc rn jb l) = t from e]
    exact HT.out.below hb1
   | true =>
    rw [hm] at HCAN
    have hh : hasR ids rc rn jb m = true := by
     cases hh : hasR ids rc rn jb m with
     | false => rw [hh] at hm; cases hm
     | true => rfl
    have hcn : t.can jb m = true := by rw [hh, Bool.true_and, canR_eq HL.out hh] at hm; exact hm
    have HF := am (show t.may ids rc rn jb m = true by unfold Tk.may; rw [hok, hh, hcn]; rfl)
    have HTK := am (may_takes hh hcn)
    have HLS := am (HL.out.say m (may_takes hh hcn).i (fun _ => hh) (by omega))
    clear hm hh hcn
    go_wp2_with (first
     | (go_at_call 87; refine HCAN.out.mono ?_; rintro e w1 ⟨rfl, hb1⟩; have HT1 := am (HT.out.below hb1); have HB1 := am (BW.out.trans (hb1.mono hsw)); have hs1 := hb1.size; have c0 := pw_cell_below hb1 a0; have c1 := pw_cell_below hb1 a1; have c2 := pw_cell_below hb1 a2; have c3 := pw_cell_below hb1 a3)
     | (go_at_call 85; refine (rTake_any HT1.out HL.out m HTK.out (by omega)).mono ?_; rintro e w2 ⟨rfl, hk2, hT2⟩))
    go_roundg (l.length - (kk + 1))
    case measure => omega
    case rel => exact ⟨kk + 1, t.say m, by omega, by omega, by go_num, by simp [Tk.say]; omega, ⟨by rw [HE.out, HQ.out, walkL, if_pos HF.out]⟩, ⟨hk2.below HB1.out (by omega)⟩, by have := hk2.1.2.2.2; omega, HLS, ⟨hT2⟩⟩
  have cb : decide ((kk : Int) < (l.length : Int)) = false := decide_eq_false (by omega)
  have e : walkL ids rc rn jb Tk.empty l = t := by rw [HE.out, List.drop_eq_nil_of_le (by omega), walkL]
  have EE := am e
  have HKL := am (show (t.word.length : Int) = (l.length : Int) by omega)
  clear e
  go_wp2
  go_ret2
  refine ⟨by rw [show (talkL ids rc rn jb l) = t from EE.out, HKL.out]; rfl, BW.out, ?_⟩
  rw [show (talkL ids rc rn jb l) = t from EE.out]
  exact HT.out
end Go.Proofs.YtjgocihflhljeaaGreat.P
namespace Go.Proofs.YtjgocihflhljeaaGreat.P
open Go.RowKit Go.Shelf Go.Proofs.YtjgocihflhljeaaGreatW.PrintWords Go.Proofs.YtjgocihflhljeaaGreatW.PrintLast Go.Proofs.YtjgocihflhljeaaGreatW.PrintMore
theorem isBase_f (b : Bool) (n : Int) : riposteref04_IsBase.f b n = some (isBaseB n) := by
 rw [riposteref04_IsBase.f, inF_eq, Option.bind_some]
 rfl
theorem isType_l0 (ps : List S24) (b : Bool) (n : Int) (hp : ps.length ≤ 5) : ∀ (d i k : Nat), ps.length - i = d → i ≤ ps.length → d < k → riposteref04_IsType.l0 k (i : Int) ps b n = some ((ps.drop i).all (fun x => isBaseB x.f1) && (isBaseB n && (decide (ps.length = 0) || !b))) := by
 intro d
 induction d with
 | zero =>
  intro i k hd hi hk
  obtain ⟨k, rfl⟩ : ∃ k', k = k' + 1 := ⟨k - 1, by omega⟩
  rw [riposteref04_IsType.l0, if_neg (by omega), isBase_f, Option.bind_some, List.drop_eq_nil_of_le (by omega)]
  simp only [List.all_nil, Bool.true_and]
  cases isBaseB n with
  | false => simp
  | true =>
   by_cases h : ps.length = 0
   ·simp [h]
   have : ¬ ((ps.length : Int) = 0) := by omega
   simp only [if_true, if_neg this, decide_eq_false h, Bool.false_or, Bool.true_and]
 | succ d ih =>
  intro i k hd hi hk
  obtain ⟨k, rfl⟩ : ∃ k', k = k' + 1 := ⟨k - 1, by omega⟩
  have hlt : i < ps.length := by omega
  have hr : rd_T24 ps (i : Int) = ps[i] := by
   unfold rd_T24
   rw [Int.toNat_natCast]
   exact getD_get ps z24 i hlt
  have hw : wrap64 ((i : Int) + 1) = ((i + 1 : Nat) : Int) := by
   rw [wrap_in (by omega) (by omega)]
   simp
  rw [riposteref04_IsType.l0, if_pos (by omega), if_pos (by omega), hr, isBase_f, Option.bind_some, hw, List.drop_eq_getElem_cons hlt, List.all_cons]
  cases hb : isBaseB ps[i].f1 with
  | false => simp
  | true => rw [if_pos rfl, Bool.true_and, ih (i + 1) k (by omega) (by omega) (by omega)]
theorem isType_f (k : Nat) (hk : 6 ≤ k) (x : S68) (hp : x.f0.length ≤ 5) : riposteref04_IsType.f k x.f0 x.f1.f0 x.f1.f1 = some (isTypeB x) := by
 have := isType_l0 x.f0 x.f1.f0 x.f1.f1 hp x.f0.length 0 k rfl (Nat.zero_le _) (by omega)
 rw [riposteref04_IsType.f]
 rw [show ((0 : Nat) : Int) = 0 from rfl] at this
 rw [this, List.drop_zero]
 congr 1
 unfold isTypeB
 have e : (!x.f0.any fun b => !isBaseB b.f1) = x.f0.all (fun b => isBaseB b.f1) := by
  rw [Bool.eq_iff_iff]
  simp
 rw [e, ← Bool.and_assoc, Bool.and_comm (x.f0.all _)]
theorem check_l1 (ids : List S68) (rc : Bool) (rn : Int) (j : Bool) (hl : ids.length ≤ 8) (hp : ∀ x ∈ ids, x.f0.length ≤ 5) : ∀ (d i k : Nat), ids.length - i = d → i ≤ ids.length → d + 6 < k → riposteref04_Check.l1 k (i : Int) ids rc rn j = some (if isBaseB rn = false ∨ ((ids.drop i).any fun x => !isTypeB x) = true then 4 else 0) := by
 intro d
 induction d with
 | zero =>
  intro i k hd hi hk
  obtain ⟨k, rfl⟩ : ∃ k', k = k' + 1 := ⟨k - 1, by omega⟩
  rw [riposteref04_Check.l1, if_neg (by omega), isBase_f, Option.bind_some, List.drop_eq_nil_of_le (by omega)]
  cases isBaseB rn <;> simp
 | succ d ih =>
  intro i k hd hi hk
  obtain ⟨k, rfl⟩ : ∃ k', k = k' + 1 := ⟨k - 1, by omega⟩
  have hlt : i < ids.length := by omega
  have hr : rd_T68 ids (i : Int) = ids[i] := by
   unfold rd_T68
   rw [Int.toNat_natCast]
   exact getD_get ids z68 i hlt
  have hw : wrap64 ((i : Int) + 1) = ((i + 1 : Nat) : Int) := by
   rw [wrap_in (by omega) (by omega)]
   simp
  rw [riposteref04_Check.l1, if_pos (by omega), if_pos (by omega), hr, isType_f k (by omega) ids[i] (hp _ (List.getElem_mem _)), Option.bind_some, hw, List.drop_eq_getElem_cons hlt, List.any_cons]
  cases hb : isTypeB ids[i] with
  | false => simp
  | true => rw [if_pos rfl, ih (i + 1) k (by omega) (by omega) (by omega)]; simp
theorem check_l0 (ids : List S68) (rc : Bool) (rn : Int) (j : Bool) (hl : ids.length ≤ 8) : ∀ (d i k : Nat), ids.length - i = d → i ≤ ids.length → d + 20 < k → (∀ m, m < i → ∀ h : m < ids.length, longB ids[m] = false) → riposteref04_Check.l0 k (i : Int) ids rc rn j = some (checkE ids rn) := by
 intro d
 induction d with
 | zero =>
  intro i k hd hi hk hn
  obtain ⟨k, rfl⟩ : ∃ k', k = k' + 1 := ⟨k - 1, by omega⟩
  have ha : ids.any longB = false := by
   rw [List.any_eq_false]
   intro x hx
   obtain ⟨m, hm, rfl⟩ := List.getElem_of_mem hx
   simp [hn m (by omega) hm]
  have hp : ∀ x ∈ ids, x.f0.length ≤ 5 := by
   intro x hx
   have := List.any_eq_false.1 ha x hx
   unfold longB at this
   simpa using this
  have h1 := check_l1 ids rc rn j hl hp ids.length 0 k rfl (Nat.zero_le _) (by omega)
  rw [show ((0 : Nat) : Int) = 0 from rfl, List.drop_zero] at h1
  rw [riposteref04_Check.l0, if_neg (by omega), h1]
  unfold checkE
  rw [if_neg (show ¬ (8 < ids.length ∨ ids.any longB = true) by rw [ha]; simp; omega)]
 | succ d ih =>
  intro i k hd hi hk hn
  obtain ⟨k, rfl⟩ : ∃ k', k = k' + 1 := ⟨k - 1, by omega⟩
  have hlt : i < ids.length := by omega
  have hr : rd_T68 ids (i : Int) = ids[i] := by
   unfold rd_T68
   rw [Int.toNat_natCast]
   exact getD_get ids z68 i hlt
  have hw : wrap64 ((i : Int) + 1) = ((i + 1 : Nat) : Int) := by
   rw [wrap_in (by omega) (by omega)]
   simp
  rw [riposteref04_Check.l0, if_pos (by omega), if_pos (by omega), hr, hw]
  by_cases h5 : ((ids[i].f0.length : Nat) : Int) > 5
  ·rw [if_pos h5]
   unfold checkE
   rw [if_pos (.inr (List.any_eq_true.2 ⟨ids[i], List.getElem_mem _, by unfold longB; simp; omega⟩))]
  rw [if_neg h5]
  refine ih (i + 1) k (by omega) (by omega) (by omega) (fun m hm h => ?_)
  by_cases e : m = i
  ·subst e
   unfold longB
   simp
   omega
  exact hn m (by omega) h
theorem check_f (k : Nat) (hk : 60 ≤ k) (ids : List S68) (rc : Bool) (rn : Int) (j : Bool) : riposteref04_Check.f k ids rc rn j = some (checkE ids rn) := by
 rw [riposteref04_Check.f]
 by_cases h : (ids.length : Int) > 8
 ·rw [if_pos h]
  unfold checkE
  rw [if_pos (.inl (by omega))]
 rw [if_neg h]
 have := check_l0 ids rc rn j (by omega) ids.length 0 k rfl (Nat.zero_le _) (by omega) (fun m hm => absurd hm (Nat.not_lt_zero _))
 rw [show ((0 : Nat) : Int) = 0 from rfl] at this
 exact this
end Go.Proofs.YtjgocihflhljeaaGreat.P
namespace Go.Proofs.YtjgocihflhljeaaGreat.P
open Go.RowKit Go.Shelf Go.Proofs.YtjgocihflhljeaaGreatW.PrintWords Go.Proofs.YtjgocihflhljeaaGreatW.PrintLast Go.Proofs.YtjgocihflhljeaaGreatW.PrintMore
attribute [local go_sem] Oper.semAt_some
theorem rArena_any (A : Option Addr) (c : Nat) (ids : List S68) (rc : Bool) (rn : Int) (jb : Bool) (w : World) (hr : Kd.C k68 w A ids.length ids) (hlc : ids.length ≤ c) :
  Calls Tryz.prog 96 #[.agg #[.slice A ids.length c, .bool rc, .int .i64 rn, .bool jb]] w fun e w' => e = .returned (.int .i64 (checkE ids rn)) ∧ Below w.heap.size w w' :=
 riposteref04_Check.calls 60 A c ids rc rn jb _ w hr hlc (check_f 60 (Nat.le_refl _) ids rc rn jb)
def BeginPost (A : Option Addr) (c : Nat) (ids : List S68) (rc : Bool) (rn : Int) (jb : Bool) (l : List Mv) (w : World) (e : Ending) (w' : World) : Prop :=
 Below w.heap.size w w' ∧ ((tellE ids rc rn jb l ≠ 0 ∧ e = .returned (.tuple #[.pointer none, .int .i64 (tellAt ids rc rn jb l), .int .i64 (tellE ids rc rn jb l)])) ∨
  (tellE ids rc rn jb l = 0 ∧ ∃ g, e = .returned (.tuple #[.pointer (some ⟨g, 0, none⟩), .int .i64 0, .int .i64 0]) ∧ ∃ vw vo vp vj, Wlk w.heap.size w' g A c ids rc rn jb (talkL ids rc rn jb l) vw vo vp vj))
set_option maxHeartbeats 2000000 in
theorem rBegin_any (A : Option Addr) (c : Nat) (ids : List S68) (rc : Bool) (rn : Int) (jb : Bool) (A1 : Option Addr) (c1 : Nat) (l : List Mv) (w : World) (hr : Kd.C k68 w A ids.length ids) (hlc : ids.length ≤ c) (hr1 : Kd.C k52 w A1 l.length l) (hl : l.length ≤ 1000000) : Calls Tryz.prog 60 #[.agg #[.slice A ids.length c, .bool rc, .int .i64 rn, .bool jb], .slice A1 l.length c1] w (BeginPost A c ids rc rn jb l w) := by
 have HB := am ((Below.refl _ w).alloc (Nat.le_refl _) (.cells #[.slice A ids.length c, .bool rc, .int .i64 rn, .bool jb] 26))
 have HC := am (fun (V : World) (hb : Below w.heap.size w V) => rArena_any A c ids rc rn jb V (Kd.C_below hr hb) hlc)
 have HKA := am (heap_alloc_new w (.cells #[.slice A ids.length c, .bool rc, .int .i64 rn, .bool jb] 26))
 by_cases h1 : checkE ids rn ≠ 0
 ·have HE := am (tellE_err (rc := rc) (jb := jb) (l := l) h1)
  have HA := am (show tellAt ids rc rn jb l = 0 by rw [tellAt, HE.out, if_neg (by have := checkE_or ids rn; omega)])
  have hb : (checkE ids rn != 0) = true := by simpa using h1
  clear hr hr1
  go_enter Tryz.func60, Tryz.ntmps60
  go_wp2_with (go_at_call 96; refine (HC.out _ HB.out).mono ?_; rintro e w1 ⟨rfl, hb1⟩; have HB1 := am (HB.out.trans (hb1.mono (by simp))); have hs1 : w.heap.size + 1 ≤ w1.heap.size := (by have := hb1.size; simpa using this); have HK1 := am ((hb1.block _ (by simp)).trans HKA.out); have k0 : w1.cell? ⟨w.heap.size, 0, none⟩ = some (.slice A ids.length c) := (blk_cell HK1.out 0).trans rfl; have k1 : w1.cell? ⟨w.heap.size, 1, none⟩ = some (.bool rc) := (blk_cell HK1.out 1).trans rfl; have k2 : w1.cell? ⟨w.heap.size, 2, none⟩ = some (.int .i64 rn) := (blk_cell HK1.out 2).trans rfl; have k3 : w1.cell? ⟨w.heap.size, 3, none⟩ = some (.bool jb) := (blk_cell HK1.out 3).trans rfl)
  go_ret3
  exact ⟨HB1.out, Or.inl ⟨by rw [HE.out]; exact h1, by rw [HE.out, HA.out]; rfl⟩⟩
 have h1' : checkE ids rn = 0 := by omega
 by_cases h2 : 400 < l.length
 ·have HE := am (tellE_long (rc := rc) (jb := jb) (l := l) h1' h2)
  have HA := am (show tellAt ids rc rn jb l = 0 by rw [tellAt, HE.out, if_neg (by omega)])
  have hz : (400 : Int) < (l.length : Int) := by omega
  clear hr hr1
  go_enter Tryz.func60, Tryz.ntmps60
  go_wp2_with (go_at_call 96; refine (HC.out _ HB.out).mono ?_; rw [h1']; rintro e w1 ⟨rfl, hb1⟩; have HB1 := am (HB.out.trans (hb1.mono (by simp))); have hs1 : w.heap.size + 1 ≤ w1.heap.size := (by have := hb1.size; simpa using this); have HK1 := am ((hb1.block _ (by simp)).trans HKA.out); have k0 : w1.cell? ⟨w.heap.size, 0, none⟩ = some (.slice A ids.length c) := (blk_cell HK1.out 0).trans rfl; have k1 : w1.cell? ⟨w.heap.size, 1, none⟩ = some (.bool rc) := (blk_cell HK1.out 1).trans rfl; have k2 : w1.cell? ⟨w.heap.size, 2, none⟩ = some (.int .i64 rn) := (blk_cell HK1.out 2).trans rfl; have k3 : w1.cell? ⟨w.heap.size, 3, none⟩ = some (.bool jb) := (blk_cell HK1.out 3).trans rfl)
  go_ret3
  exact ⟨HB1.out, Or.inl ⟨by rw [HE.out]; decide, by rw [HE.out, HA.out]; rfl⟩⟩
 have h2' : l.length ≤ 400 := by omega
 have hz2 : decide ((400 : Int) < (l.length : Int)) = false := decide_eq_false (by omega)
 have HR := am (fun (V : World) (hb : Below w.heap.size w V) => rRun_any A c ids rc rn jb A1 c1 l V (Kd.C_below hr hb) hlc (Kd.C_below hr1 hb) hl h1')
 clear hr hr1
 by_cases h3 : (talkL ids rc rn jb l).word.length < l.length
 ·have HE := am (tellE_odd h1' h2' h3)
  have HA := am (show tellAt ids rc rn jb l = (talkL ids rc rn jb l).word.length by rw [tellAt, HE.out, if_pos rfl])
  have hzb : decide (((talkL ids rc rn jb l).word.length : Int) < (l.length : Int)) = true := decide_eq_true (by omega)
  go_enter Tryz.func60, Tryz.ntmps60
  go_wp2_with (first
   | (go_at_call 96; refine (HC.out _ HB.out).mono ?_; rw [h1']; rintro e w1 ⟨rfl, hb1⟩; have HB1 := am (HB.out.trans (hb1.mono (by simp))); have hs1 : w.heap.size + 1 ≤ w1.heap.size := (by have := hb1.size; simpa using this); have HK1 := am ((hb1.block _ (by simp)).trans HKA.out); have k0 : w1.cell? ⟨w.heap.size, 0, none⟩ = some (.slice A ids.length c) := (blk_cell HK1.out 0).trans rfl; have k1 : w1.cell? ⟨w.heap.size, 1, none⟩ = some (.bool rc) := (blk_cell HK1.out 1).trans rfl; have k2 : w1.cell? ⟨w.heap.size, 2, none⟩ = some (.int .i64 rn) := (blk_cell HK1.out 2).trans rfl; have k3 : w1.cell? ⟨w.heap.size, 3, none⟩ = some (.bool jb) := (blk_cell HK1.out 3).trans rfl)
   | (go_at_call 97; refine (HR.out _ HB1.out).mono ?_; rintro e w2 ⟨rfl, hb2, vw, vo, vp, vj, hT⟩))
  go_ret3
  exact ⟨HB1.out.trans (hb2.mono (by omega)), Or.inl ⟨by rw [HE.out]; decide, by rw [HE.out, HA.out]; rfl⟩⟩
 have HE := am (tellE_ok h1' h2' h3)
 have hzb : decide (((talkL ids rc rn jb l).word.length : Int) < (l.length : Int)) = false := decide_eq_false (by omega)
 go_enter Tryz.func60, Tryz.ntmps60
 go_wp2_with (first
  | (go_at_call 96; refine (HC.out _ HB.out).mono ?_; rw [h1']; rintro e w1 ⟨rfl, hb1⟩; have HB1 := am (HB.out.trans (hb1.mono (by simp))); have hs1 : w.heap.size + 1 ≤ w1.heap.size := (by have := hb1.size; simpa using this); have HK1 := am ((hb1.block _ (by simp)).trans HKA.out); have k0 : w1.cell? ⟨w.heap.size, 0, none⟩ = some (.slice A ids.length c) := (blk_cell HK1.out 0).trans rfl; have k1 : w1.cell? ⟨w.heap.size, 1, none⟩ = some (.bool rc) := (blk_cell HK1.out 1).trans rfl; have k2 : w1.cell? ⟨w.heap.size, 2, none⟩ = some (.int .i64 rn) := (blk_cell HK1.out 2).trans rfl; have k3 : w1.cell? ⟨w.heap.size, 3, none⟩ = some (.bool jb) := (blk_cell HK1.out 3).trans rfl)
  | (go_at_call 97; refine (HR.out _ HB1.out).mono ?_; rintro e w2 ⟨rfl, hb2, vw, vo, vp, vj, hT⟩))
 go_ret3
 exact ⟨HB1.out.trans (hb2.mono (by omega)), Or.inr ⟨HE.out, _, rfl, _, _, _, _, hT.lower (by omega)⟩⟩
theorem tellAt_ok {ids : List S68} {rc : Bool} {rn : Int} {jb : Bool} {l : List Mv} (h : tellE ids rc rn jb l = 0) : tellAt ids rc rn jb l = 0 := by rw [tellAt, if_neg (by omega)]
section
variable {A : Option Addr} {c : Nat} {ids : List S68} {rc : Bool} {rn : Int} {jb : Bool} {l : List Mv} {w : World} {e : Ending} {w' : World}
theorem BeginPost.both (h : BeginPost A c ids rc rn jb l w e w') : ∃ p, e = .returned (.tuple #[.pointer p, .int .i64 (tellAt ids rc rn jb l), .int .i64 (tellE ids rc rn jb l)]) ∧ Below w.heap.size w w' := by
 obtain ⟨hb, ⟨h0, rfl⟩ | ⟨h0, g, rfl, _⟩⟩ := h
 ·exact ⟨_, rfl, hb⟩
 exact ⟨some ⟨g, 0, none⟩, by rw [tellAt_ok h0, h0], hb⟩
theorem BeginPost.ok (h : BeginPost A c ids rc rn jb l w e w') (h0 : tellE ids rc rn jb l = 0) : Below w.heap.size w w' ∧ ∃ g, e = .returned (.tuple #[.pointer (some ⟨g, 0, none⟩), .int .i64 0, .int .i64 0]) ∧ ∃ vw vo vp vj, Wlk w.heap.size w' g A c ids rc rn jb (talkL ids rc rn jb l) vw vo vp vj := by
 obtain ⟨hb, ⟨h1, _⟩ | ⟨_, h⟩⟩ := h
 ·exact absurd h0 h1
 exact ⟨hb, h⟩
end
end Go.Proofs.YtjgocihflhljeaaGreat.P
namespace Go.Proofs.YtjgocihflhljeaaGreat.P
open Go.RowKit Go.Shelf Go.Proofs.YtjgocihflhljeaaGreatW.PrintWords Go.Proofs.YtjgocihflhljeaaGreatW.PrintLast Go.Proofs.YtjgocihflhljeaaGreatW.PrintMore
attribute [local go_sem] Oper.semAt_some
structure Lw (w W : World) (I : List (Option Addr × List S68)) (Y : List (Option Addr × List Mv)) (X : List (Option Addr × List Int)) (G : List (Nat × Array Value × TypeId)) : Prop where
 b : Below w.heap.size w W
 i : ∀ p ∈ I, Kd.C k68 W p.1 p.2.length p.2
 y : ∀ p ∈ Y, Kd.C k52 W p.1 p.2.length p.2
 x : ∀ p ∈ X, Kd.C (Kd.int .i64) W p.1 p.2.length p.2
 g : ∀ p ∈ G, W.heap[p.1]? = some (.cells p.2.1 p.2.2 (0, 0))
section
variable {w W W' : World} {I : List (Option Addr × List S68)} {Y : List (Option Addr × List Mv)} {X : List (Option Addr × List Int)} {G : List (Nat × Array Value × TypeId)}
theorem Lw.below (h : Lw w W I Y X G) (hb : Below W.heap.size W W') : Lw w W' I Y X G :=
 ⟨h.b.trans (hb.mono h.b.size), fun p hp => Kd.C_below (h.i p hp) hb, fun p hp => Kd.C_below (h.y p hp) hb, fun p hp => Kd.C_below (h.x p hp) hb, fun p hp => (hb.block _ (blk_lt (h.g p hp))).trans (h.g p hp)⟩
theorem Lw.addi (h : Lw w W I Y X G) {B : Option Addr} {xs : List S68} (hx : Kd.C k68 W B xs.length xs) : Lw w W ((B, xs) :: I) Y X G :=
 ⟨h.b, fun p hp => by rcases List.mem_cons.1 hp with rfl | hp <;> first | exact hx | exact h.i p hp, h.y, h.x, h.g⟩
theorem Lw.addy (h : Lw w W I Y X G) {B : Option Addr} {xs : List Mv} (hx : Kd.C k52 W B xs.length xs) : Lw w W I ((B, xs) :: Y) X G :=
 ⟨h.b, h.i, fun p hp => by rcases List.mem_cons.1 hp with rfl | hp <;> first | exact hx | exact h.y p hp, h.x, h.g⟩
theorem Lw.addx (h : Lw w W I Y X G) {B : Option Addr} {xs : List Int} (hx : Kd.C (Kd.int .i64) W B xs.length xs) : Lw w W I Y ((B, xs) :: X) G :=
 ⟨h.b, h.i, h.y, fun p hp => by rcases List.mem_cons.1 hp with rfl | hp <;> first | exact hx | exact h.x p hp, h.g⟩
theorem Lw.addg (h : Lw w W I Y X G) {b : Nat} {cs : Array Value} {t : TypeId} (hx : W.heap[b]? = some (.cells cs t (0, 0))) : Lw w W I Y X ((b, cs, t) :: G) :=
 ⟨h.b, h.i, h.y, h.x, fun p hp => by rcases List.mem_cons.1 hp with rfl | hp <;> first | exact hx | exact h.g p hp⟩
theorem Lw.new (h : Lw w W I Y X G) (cs : Array Value) (t : TypeId) : Lw w (W.alloc (.cells cs t)) I Y X ((W.heap.size, cs, t) :: G) :=
 (h.below ((Below.refl _ W).alloc (Nat.le_refl _) _)).addg (heap_alloc_new W _)
theorem Lw.cell (h : Lw w W I Y X G) {b : Nat} {cs : Array Value} {t : TypeId} (hg : (b, cs, t) ∈ G) (i : Nat) {v : Value} (hv : cs[i]? = some v) : W.cell? ⟨b, i, none⟩ = some v := (blk_cell (h.g _ hg) i).trans hv
theorem Lw.awake (h : Lw w W I Y X G) : Calls Tryz.prog 15 #[] W fun e w' => e = .returned (.bool true) ∧ Lw w w' I Y X G :=
 (awake_any W).mono (by rintro e w' ⟨rfl, hb⟩; exact ⟨rfl, h.below hb⟩)
theorem Lw.thin (h : Lw w W I Y X G) {A A1 : Option Addr} {c c1 : Nat} {ids : List S68} {l : List Mv} (rc : Bool) (rn : Int) (jb : Bool) (hi : (A, ids) ∈ I) (hy : (A1, l) ∈ Y) (hc : ids.length ≤ c) (hc1 : l.length ≤ c1) :
  Calls Tryz.prog 14 #[.agg #[.slice A ids.length c, .bool rc, .int .i64 rn, .bool jb], .slice A1 l.length c1] W fun e w' => e = .returned (.bool (thinB ids l)) ∧ Lw w w' I Y X G :=
 (ripostelaw05_Thin.calls 20 A c ids rc rn jb A1 c1 l _ W (h.i _ hi) hc (h.y _ hy) hc1 (thin05_f ids rc rn jb l)).mono (by rintro e w' ⟨rfl, hb⟩; exact ⟨rfl, h.below hb⟩)
theorem Lw.copyA (h : Lw w W I Y X G) {A : Option Addr} {c : Nat} {ids : List S68} (rc : Bool) (rn : Int) (jb : Bool) (hi : (A, ids) ∈ I) (hc : ids.length ≤ c) (ht : ids.length ≤ 12 ∧ ∀ x ∈ ids, x.f0.length ≤ 8) :
  Calls Tryz.prog 16 #[.agg #[.slice A ids.length c, .bool rc, .int .i64 rn, .bool jb]] W fun e w' => ∃ B k, e = .returned (.agg #[.slice B ids.length k, .bool rc, .int .i64 rn, .bool jb]) ∧ ids.length ≤ k ∧ Lw w w' ((B, ids) :: I) Y X G :=
 (riposteref04_Copy.calls 20 A c ids rc rn jb _ _ _ _ W (h.i _ hi) hc (copy_f ids rc rn jb ht.1 ht.2)).mono (by
  rintro e w' ⟨v, rfl, hR, hb⟩
  obtain ⟨B, k, rfl, hk, hC⟩ := Kd.S_reads hR
  exact ⟨B, k, rfl, hk, (h.below hb).addi hC⟩)
theorem Lw.copyW (h : Lw w W I Y X G) {A1 : Option Addr} {c1 : Nat} {l : List Mv} (hy : (A1, l) ∈ Y) (hc1 : l.length ≤ c1) (hl : l.length ≤ 1000000) :
  Calls Tryz.prog 17 #[.slice A1 l.length c1] W fun e w' => ∃ B k, e = .returned (.slice B l.length k) ∧ l.length ≤ k ∧ Lw w w' I ((B, l) :: Y) X G :=
 (riposteref05_Copy.calls A1 c1 l l W (h.y _ hy) hc1 (copyW_f l hl)).mono (by
  rintro e w' ⟨v, rfl, hR, hb⟩
  obtain ⟨B, k, rfl, hk, hC⟩ := Kd.R_reads hR
  exact ⟨B, k, rfl, hk, (h.below hb).addy hC⟩)
theorem Lw.sameI (h : Lw w W I Y X G) {A B : Option Addr} {c k : Nat} {xs : List Int} (h1 : (A, xs) ∈ X) (h2 : (B, xs) ∈ X) (hc : xs.length ≤ c) (hk : xs.length ≤ k) (hl : xs.length ≤ 1000000) :
  Calls Tryz.prog 29 #[.slice A xs.length c, .slice B xs.length k] W fun e w' => e = .returned (.bool true) ∧ Lw w w' I Y X G :=
 (riposteref05_SameInts.calls (xs.length + 1) A c xs B k xs true W (h.x _ h1) hc (h.x _ h2) hk (sameInts_f _ xs hl (by omega))).mono (by
  rintro e w' ⟨rfl, hd⟩
  obtain ⟨n, rfl⟩ := hd.out
  exact ⟨rfl, h.below (pw_below_drewN (Below.refl _ _) n)⟩)
theorem Lw.sameW (h : Lw w W I Y X G) {A B : Option Addr} {c k : Nat} {xs : List Mv} (h1 : (A, xs) ∈ Y) (h2 : (B, xs) ∈ Y) (hc : xs.length ≤ c) (hk : xs.length ≤ k) (hl : xs.length ≤ 1000000) :
  Calls Tryz.prog 24 #[.slice A xs.length c, .slice B xs.length k] W fun e w' => e = .returned (.bool true) ∧ Lw w w' I Y X G :=
 (riposteref04_SameWord.calls (xs.length + 1) A c xs B k xs true W (h.y _ h1) hc (h.y _ h2) hk (sameWord_f _ xs hl (by omega))).mono (by
  rintro e w' ⟨rfl, hd⟩
  obtain ⟨n, rfl⟩ := hd.out
  exact ⟨rfl, h.below (pw_below_drewN (Below.refl _ _) n)⟩)
end
theorem Lw.start {w : World} {A A1 : Option Addr} {ids : List S68} {l : List Mv} (hr : Kd.C k68 w A ids.length ids) (hr1 : Kd.C k52 w A1 l.length l) : Lw w w [(A, ids)] [(A1, l)] [] [] := by
 refine ⟨Below.refl _ _, ?_, ?_, ?_, ?_⟩ <;> intro p hp
 ·rw [List.mem_singleton] at hp
  subst hp
  exact hr
 ·rw [List.mem_singleton] at hp
  subst hp
  exact hr1
 ·cases hp
 cases hp
theorem okL_len {α : Type} (k : Int) (xs : List α) : (okL k xs).length ≤ xs.length := by
 unfold okL
 split
 ·exact Nat.le_refl _
 exact Nat.zero_le _
end Go.Proofs.YtjgocihflhljeaaGreat.P
namespace Go.Proofs.YtjgocihflhljeaaGreat.P
open Go.RowKit Go.Shelf Go.Proofs.YtjgocihflhljeaaGreatW.PrintWords Go.Proofs.YtjgocihflhljeaaGreatW.PrintLast Go.Proofs.YtjgocihflhljeaaGreatW.PrintMore
section
variable {w W W' : World} {I : List (Option Addr × List S68)} {Y : List (Option Addr × List Mv)} {X : List (Option Addr × List Int)} {G : List (Nat × Array Value × TypeId)}
theorem Lw.popi {p : Option Addr × List S68} (h : Lw w W (p :: I) Y X G) : Lw w W I Y X G := ⟨h.b, fun q hq => h.i q (List.mem_cons_of_mem _ hq), h.y, h.x, h.g⟩
variable (h : Lw w W I Y X G) {A A1 : Option Addr} {c c1 : Nat} {ids : List S68} {l : List Mv} (rc : Bool) (rn : Int) (jb : Bool) (hi : (A, ids) ∈ I) (hy : (A1, l) ∈ Y) (hl : l.length ≤ 1000000)
include h hi hy hl
end
end Go.Proofs.YtjgocihflhljeaaGreat.P
namespace Go.Proofs.YtjgocihflhljeaaGreat.P
open Go.RowKit Go.Shelf Go.Proofs.YtjgocihflhljeaaGreatW.PrintWords Go.Proofs.YtjgocihflhljeaaGreatW.PrintLast Go.Proofs.YtjgocihflhljeaaGreatW.PrintMore
attribute [local go_sem] Oper.semAt_some
end Go.Proofs.YtjgocihflhljeaaGreat.P
namespace Go.Proofs.YtjgocihflhljeaaGreat.P
open Go.RowKit Go.Shelf Go.Maps Go.Proofs.YtjgocihflhljeaaGreatW.PrintWords Go.Proofs.YtjgocihflhljeaaGreatW.PrintLast Go.Proofs.YtjgocihflhljeaaGreatW.PrintMore
attribute [local go_sem] Oper.semAt_some
def kI (x : Int) : Lit := .int .i64 x
def Ds (xs : List Int) : DataW Unit := xs.foldl (fun D x => D.put (kI x) (.lit (.bool true))) (.map [])
theorem Ds_snoc (xs : List Int) (x : Int) : Ds (xs ++ [x]) = (Ds xs).put (kI x) (.lit (.bool true)) := by unfold Ds; rw [List.foldl_append]; rfl
theorem put_isMap {D : DataW Unit} (h : IsMap D) (k : Lit) (d : DataW Unit) : IsMap (D.put k d) := by
 obtain ⟨es, rfl⟩ := h
 exact ⟨_, DataW.put_eq es k d⟩
theorem foldl_at (z : Int) : ∀ (xs : List Int) (D : DataW Unit), IsMap D → (xs.foldl (fun D x => D.put (kI x) (.lit (.bool true))) D).atKey (kI z) (.lit (.bool false)) = if z ∈ xs then .lit (.bool true) else D.atKey (kI z) (.lit (.bool false)) := by
 intro xs
 induction xs with
 | nil => intro D _; simp
 | cons x xs ih =>
  intro D hD
  rw [List.foldl_cons, ih _ (put_isMap hD _ _)]
  by_cases h : z ∈ xs
  ·rw [if_pos h, if_pos (List.mem_cons_of_mem _ h)]
  rw [if_neg h]
  by_cases e : z = x
  ·subst e
   rw [if_pos mc]
   exact atKey_put_same hD (show WideAt.IsKeyLit (kI z) from trivial) _ _
  rw [if_neg (by rw [List.mem_cons]; exact fun h2 => h2.elim e h)]
  exact atKey_put_other (fun h2 => e (by cases h2; rfl)) _ _
theorem Ds_at (xs : List Int) (z : Int) : (Ds xs).atKey (kI z) (.lit (.bool false)) = .lit (.bool (decide (z ∈ xs))) := by
 unfold Ds
 rw [foldl_at z xs _ ⟨[], rfl⟩]
 by_cases h : z ∈ xs
 ·rw [if_pos h, decide_eq_true h]
 rw [if_neg h, decide_eq_false h]; rfl
theorem plainElem_bool_inv {H : Type} {P : Program} {e : TypeId} (he : P.underlying e = some .bool) {v : Value} {z : DataW H × List MemPlace} (h : plainElem P e v = some z) : ∃ a, v = .bool a ∧ z = (.lit (.bool a), []) := by
 unfold plainElem at h
 rw [he] at h
 cases v <;> simp at h
 subst h
 exact ⟨_, rfl, rfl⟩
def litB : DataW Unit → Bool
 | .lit (.bool b) => b
 | _ => false
theorem lawI : Keyed Tryz.prog 3 := int_keyed Tryz.underlying3
abbrev SetAt (w : World) (b n : Nat) (xs : List Int) : Prop := w.ownsMap Tryz.prog 3 (plainElem (H := Unit) Tryz.prog 4) b n (Ds xs)
theorem look_set {w : World} {b n : Nat} {xs : List Int} (h : SetAt w b n xs) (z : Int) (hz : (Lit.int .i64 z).wf = true) : (Instr.lookup 111 (.map (some b)) (.int .i64 z) false).run Tryz.prog w = .ok (.bool (decide (z ∈ xs))) w := by
 have h0 : (zeroValue 4).run Tryz.prog w = .ok (.bool false) w := by kernel_rfl
 obtain ⟨v, ps, hrun, hv⟩ := World.ownsMap.lookup h lawI Tryz.underlying111 h0 (plainElem_bool Tryz.underlying4 false) (keyOf_int_mk Tryz.underlying3 hz)
 have e := Ds_at xs z
 obtain ⟨a, rfl, ha⟩ := plainElem_bool_inv Tryz.underlying4 hv
 have h1 : (Ds xs).atKey (kI z) (.lit (.bool false)) = .lit (.bool a) := congrArg Prod.fst ha
 rw [e] at h1
 have h2 : decide (z ∈ xs) = a := congrArg litB h1
 rw [hrun, h2]
set_option maxHeartbeats 2000000 in
theorem part2_any (m : Mv) (pb bm n : Nat) (xs : List Int) (w : World) (hbox : w.cell? ⟨pb, 0, none⟩ = some (.map (some bm))) (h : SetAt w bm n xs) (hz : (Lit.int .i64 m.f0).wf = true) :
  Calls Tryz.prog 90 (#[.agg #[.int .i64 m.f0, .int .i64 m.f1, .int .u8 m.f2, .int .i64 m.f3]] ++ #[.pointer (some ⟨pb, 0, none⟩)]) w fun e w' => e = .returned (.bool (!decide (m.f0 ∈ xs))) ∧ Below w.heap.size w w' := by
 have hL := look_set (h.alloc (.cells #[.int .i64 m.f0, .int .i64 m.f1, .int .u8 m.f2, .int .i64 m.f3] 52)) m.f0 hz
 have HB := am ((Below.refl _ w).alloc (Nat.le_refl _) (.cells #[.int .i64 m.f0, .int .i64 m.f1, .int .u8 m.f2, .int .i64 m.f3] 52))
 have hpl : pb < w.heap.size := World.block_lt_of_cell? w _ hbox
 simp only [List.append_toArray, List.cons_append, List.nil_append]
 clear h hz
 generalize decide (m.f0 ∈ xs) = b at *
 go_enter Tryz.func90, Tryz.ntmps90
 go_wp2
 go_ret
 exact ⟨rfl, HB.out⟩
theorem enters_part2 : ∀ args w, (callFunc 90 args).run Tryz.prog w = .ok (.enter 90 args) w := enters_of Tryz.func90 (by kernel_rfl) rfl
end Go.Proofs.YtjgocihflhljeaaGreat.P
namespace Go.Proofs.YtjgocihflhljeaaGreat.P
open Go.RowKit Go.Shelf Go.Proofs.YtjgocihflhljeaaGreatW.PrintWords Go.Proofs.YtjgocihflhljeaaGreatW.PrintLast Go.Proofs.YtjgocihflhljeaaGreatW.PrintMore
attribute [local go_sem] Oper.semAt_some
def enc4 (m : Mv) : List Value := [.int .i64 m.f0, .int .i64 m.f1, .int .u8 m.f2, .int .i64 m.f3]
def flatM (xs : List Mv) : List Value := xs.flatMap enc4
theorem flatM_cons (x : Mv) (xs : List Mv) : flatM (x :: xs) = enc4 x ++ flatM xs := by unfold flatM; rw [List.flatMap_cons]
theorem flatM_len : ∀ xs : List Mv, (flatM xs).length = xs.length * 4
 | [] => rfl
 | x :: xs => by rw [flatM_cons, List.length_append, flatM_len xs, List.length_cons]; show 4 + _ = _; omega
theorem flatM_take : ∀ (xs : List Mv) (i : Nat), i ≤ xs.length → (flatM xs).take (i * 4) = flatM (xs.take i)
 | xs, 0, _ => by rw [Nat.zero_mul, List.take_zero, List.take_zero]; rfl
 | [], i + 1, h => by simp at h
 | x :: xs, i + 1, h => by
  rw [flatM_cons, List.take_succ_cons, flatM_cons, ← flatM_take xs i (by simpa using h)]
  have e : (i + 1) * 4 = (enc4 x).length + i * 4 := by show _ = 4 + _; omega
  rw [e, List.take_length_add_append]
theorem flatM_drop : ∀ (xs : List Mv) (i : Nat), i ≤ xs.length → (flatM xs).drop (i * 4) = flatM (xs.drop i)
 | xs, 0, _ => by rw [Nat.zero_mul, List.drop_zero, List.drop_zero]
 | [], i + 1, h => by simp at h
 | x :: xs, i + 1, h => by
  rw [flatM_cons, List.drop_succ_cons, ← flatM_drop xs i (by simpa using h)]
  have e : (i + 1) * 4 = (enc4 x).length + i * 4 := by show _ = 4 + _; omega
  rw [e, List.drop_length_add_append]
theorem flatM_get (xs : List Mv) (i k : Nat) (hi : i < xs.length) (hk : k < 4) : (flatM xs)[i * 4 + k]? = (enc4 xs[i])[k]? := by
 have h1 := flatM_drop xs i (by omega)
 rw [List.drop_eq_getElem_cons hi, flatM_cons] at h1
 rw [← List.getElem?_drop, h1, List.getElem?_append_left (by show k < 4; exact hk)]
theorem flatM_append (xs ys : List Mv) : flatM (xs ++ ys) = flatM xs ++ flatM ys := by unfold flatM; rw [List.flatMap_append]
structure MRow (w : World) (g : Nat) (xs : List Mv) : Prop where
 h : ∃ (cur : Array Value) (rest : List Value), w.heap[g]? = some (.cells cur 52 (0, 0)) ∧ cur.toList = flatM xs ++ rest
 m : xs.length ≤ 1000000
section
variable {w w1 : World} {g b : Nat} {xs : List Mv}
theorem MRow.lt (h : MRow w g xs) : g < w.heap.size := by obtain ⟨cur, rest, h1, _⟩ := h.h; exact blk_lt h1
theorem MRow.at_ (h : MRow w g xs) (i k : Nat) (hi : i < xs.length) (hk : k < 4) : w.cell? ⟨g, i * 4 + k, none⟩ = (enc4 xs[i])[k]? := by
 obtain ⟨cur, rest, h1, h2⟩ := h.h
 rw [blk_cell h1, ← Array.getElem?_toList, h2, List.getElem?_append_left (by rw [flatM_len]; omega), flatM_get xs i k hi hk]
theorem MRow.cells (h : MRow w g xs) (i : Nat) (hi : i < xs.length) : w.cell? ⟨g, i * 4, none⟩ = some (.int .i64 xs[i].f0) ∧ w.cell? ⟨g, i * 4 + 1, none⟩ = some (.int .i64 xs[i].f1) ∧ w.cell? ⟨g, i * 4 + 2, none⟩ = some (.int .u8 xs[i].f2) ∧ w.cell? ⟨g, i * 4 + 3, none⟩ = some (.int .i64 xs[i].f3) :=
 ⟨h.at_ i 0 hi (by decide), h.at_ i 1 hi (by decide), h.at_ i 2 hi (by decide), h.at_ i 3 hi (by decide)⟩
theorem MRow.frozen (h : MRow w g xs) (k : Nat) : w.frozen? ⟨g, k, none⟩ = false := by
 obtain ⟨cur, rest, h1, _⟩ := h.h
 exact blk_frozen h1 k
theorem MRow.st {ex : Nat → Prop} (h : MRow w g xs) (hs : St b ex w w1) (hx : ¬ ex g) : MRow w1 g xs := by
 obtain ⟨cur, rest, h1, h2⟩ := h.h
 exact ⟨⟨cur, rest, hs.blk h1 hx, h2⟩, h.m⟩
theorem MRow.below (h : MRow w g xs) (hb : Below w.heap.size w w1) : MRow w1 g xs := h.st (ex := fun _ => False) (St.of_below (b := 0) hb) (fun h => h)
theorem MRow.reads (h : MRow w g xs) : Kd.C k52 w (some ⟨g, 0, none⟩) xs.length xs := by
 refine ⟨rfl, by have := h.m; omega, fun _ => ⟨_, rfl, fun j p hj => ?_⟩⟩
 obtain ⟨hjl, rfl⟩ := List.getElem?_eq_some_iff.1 hj
 refine ⟨enc4 xs[j], rfl, k52_mk w xs[j], fun i u hu => ?_⟩
 have hi : i < 4 := by
  obtain ⟨h1, _⟩ := List.getElem?_eq_some_iff.1 hu
  exact h1
 have h1 := h.at_ j i hjl hi
 rw [hu] at h1
 have e : (⟨g, 0, none⟩ : Addr).add (j * 4 + i) = ⟨g, j * 4 + i, none⟩ := by unfold Addr.add; split <;> simp_all
 exact (congrArg w.cell? e).trans h1
theorem MRow.set (h : MRow w g xs) (i : Nat) (hi : i < xs.length) (x : Mv) : MRow ((((w.setCell ⟨g, i * 4, none⟩ (.int .i64 x.f0)).setCell ⟨g, i * 4 + 1, none⟩ (.int .i64 x.f1)).setCell ⟨g, i * 4 + 2, none⟩ (.int .u8 x.f2)).setCell ⟨g, i * 4 + 3, none⟩ (.int .i64 x.f3)) g (xs.set i x) := by
 obtain ⟨cur, rest, h1, h2⟩ := h.h
 have hsz : cur.size = xs.length * 4 + rest.length := by rw [← Array.length_toList, h2, List.length_append, flatM_len]
 obtain ⟨cur', h3, _, h4⟩ := setCells_row (enc4 x) (i * 4) w cur h1 (by show _ + 4 ≤ _; omega)
 refine ⟨⟨cur', rest, h3, ?_⟩, by rw [List.length_set]; exact h.m⟩
 have e4 : (enc4 x).length = 4 := rfl
 rw [h4, h2, e4, List.take_append_of_le_length (by rw [flatM_len]; omega), List.drop_append_of_le_length (by rw [flatM_len]; omega), flatM_take xs i (by omega), show i * 4 + 4 = (i + 1) * 4 by omega, flatM_drop xs (i + 1) (by omega), List.set_eq_take_append_cons_drop, if_pos hi, flatM_append, flatM_cons]
 simp
theorem MRow.of_RM {base : Nat} {v : Value} (h : RM w base v xs) (hp : 0 < xs.length) (hm : xs.length ≤ 1000000) : ∃ g cap, v = .slice (some ⟨g, 0, none⟩) xs.length cap ∧ xs.length ≤ cap ∧ base ≤ g ∧ MRow w g xs := by
 obtain ⟨g, cap, rfl, hb, hl, cells, hc⟩ := Kd.R_form h hp
 obtain ⟨_, hcap, hC⟩ := Kd.R_reads' h
 refine ⟨g, cap, rfl, hcap, hb, ⟨⟨cells, cells.toList.drop (xs.length * 4), hc, ?_⟩, hm⟩⟩
 have key : ∀ k, k < xs.length * 4 → cells[k]? = (flatM xs)[k]? := by
  intro k hk
  obtain ⟨ad, e, hcell⟩ := hC.2.2 hp
  cases e
  have hj : k / 4 < xs.length := by omega
  obtain ⟨c, hs, hK, hu⟩ := hcell (k / 4) _ (List.getElem?_eq_getElem hj)
  have hce := k52_open hK
  have hk4 : k % 4 < 4 := Nat.mod_lt _ (by decide)
  have h1 := flatM_get xs (k / 4) (k % 4) hj hk4
  have ek : k / 4 * 4 + k % 4 = k := by omega
  rw [ek] at h1
  have hc4 : (enc4 xs[k / 4])[k % 4]? = some ((enc4 xs[k / 4])[k % 4]'(by show _ < 4; exact hk4)) := List.getElem?_eq_getElem _
  have h2 := hu (k % 4) _ (by rw [hce]; exact hc4)
  have e : (⟨g, 0, none⟩ : Addr).add (k / 4 * 4 + k % 4) = ⟨g, k, none⟩ := by rw [ek]; unfold Addr.add; split <;> simp_all
  have h3 := (congrArg w.cell? e).symm.trans h2
  rw [blk_cell hc] at h3
  rw [h3, h1, hc4]
 apply List.ext_getElem?
 intro k
 rw [Array.getElem?_toList]
 by_cases hk : k < xs.length * 4
 ·rw [List.getElem?_append_left (by rw [flatM_len]; exact hk), key k hk]
 rw [List.getElem?_append_right (by rw [flatM_len]; omega), List.getElem?_drop, flatM_len, Array.getElem?_toList]
 congr 1
 omega
theorem MRow.clear (h : MRow w g xs) (i cap : Nat) (hi : i < xs.length) : ∃ w1, (∀ ty, (Builtin.clear_ #[28] ty #[.slice (some ⟨g, i * 4, none⟩) (xs.length - i) cap]).run Tryz.prog w = .ok (.tuple #[]) w1) ∧ MRow w1 g (xs.take i) ∧ St b (fun k => k = g) w w1 := by
 obtain ⟨cur, rest, h1, h2⟩ := h.h
 obtain ⟨n, hn⟩ : ∃ n, xs.length - i = n + 1 := ⟨xs.length - i - 1, by omega⟩
 have hsz : cur.size = xs.length * 4 + rest.length := by rw [← Array.length_toList, h2, List.length_append, flatM_len]
 have hz : (zeroValue 52).run Tryz.prog w = .ok (.agg #[.int .i64 0, .int .i64 0, .int .u8 0, .int .i64 0]) w := by kernel_rfl
 obtain ⟨vs, hvs⟩ : ∃ vs, (Builtin.zeroCells #[.int .i64 0, .int .i64 0, .int .u8 0, .int .i64 0] (n + 1)).toList = vs := ⟨_, rfl⟩
 have hl : vs.length = (n + 1) * 4 := by rw [← hvs]; simp [Builtin.zeroCells]
 have ho : ∀ v ∈ vs, v.oneCell' = true := by
  intro v hv
  rw [← hvs] at hv
  simp only [Builtin.zeroCells, Array.toList_map, List.mem_map] at hv
  obtain ⟨k, _, rfl⟩ := hv
  have hk : k % 4 < 4 := Nat.mod_lt _ (by decide)
  show (#[Value.int .i64 0, .int .i64 0, .int .u8 0, .int .i64 0][k % 4]!).oneCell' = true
  have h4 : k % 4 = 0 ∨ k % 4 = 1 ∨ k % 4 = 2 ∨ k % 4 = 3 := by omega
  rcases h4 with h4 | h4 | h4 | h4 <;> rw [h4] <;> rfl
 have hst := run_storeCells_at (P := Tryz.prog) g (i * 4) 52 vs 0 cur w h1 (by omega) ho
 obtain ⟨L, hL⟩ : ∃ L, cur.toList.take (i * 4 + 0) ++ vs ++ cur.toList.drop (i * 4 + 0 + vs.length) = L := ⟨_, rfl⟩
 rw [hL] at hst
 have hLe : L = flatM (xs.take i) ++ (vs ++ cur.toList.drop (i * 4 + 0 + vs.length)) := by
  rw [← hL, h2, Nat.add_zero, List.take_append_of_le_length (by rw [flatM_len]; omega), flatM_take xs i (by omega), List.append_assoc]
 refine ⟨w.setRow g L.toArray, ?_, ⟨⟨L.toArray, _, setRow_heap w g cur _ _ _ h1, hLe⟩, ?_⟩, ?_⟩
 ·intro ty
  rw [hn]
  have hc : (Value.agg #[.int .i64 0, .int .i64 0, .int .u8 0, .int .i64 0]).cells = #[.int .i64 0, .int .i64 0, .int .u8 0, .int .i64 0] := rfl
  simp [Builtin.clear_, run_underlying Tryz.underlying28, hz, hc, hvs, hst]
 ·have := h.m
  rw [List.length_take]
  omega
 exact ⟨⟨rfl, rfl, rfl, by simp⟩, fun k o hk hx _ => (setRow_other w g k _ hx).trans hk⟩
end
end Go.Proofs.YtjgocihflhljeaaGreat.P
namespace Go.Proofs.YtjgocihflhljeaaGreat.P
open Go.RowKit Go.Shelf Go.Proofs.YtjgocihflhljeaaGreatW.PrintWords Go.Proofs.YtjgocihflhljeaaGreatW.PrintLast Go.Proofs.YtjgocihflhljeaaGreatW.PrintMore
attribute [local go_sem] Oper.semAt_some
set_option maxHeartbeats 2000000 in
theorem IndexFuncM_any (A : Option Addr) (c : Nat) (xs : List S52) (g : Nat) (lb : Array Value) (eg : ∀ args w, (callFunc g args).run Tryz.prog w = .ok (.enter g args) w) (p : S52 → Bool) (w : World)
  (hr : Kd.C k52 w A xs.length xs) (hbig : xs.length ≤ 9223372036854775807)
  (hp : ∀ (W : World) (x : S52), x ∈ xs → Below w.heap.size w W → Calls Tryz.prog g (#[.agg #[.int .i64 x.f0, .int .i64 x.f1, .int .u8 x.f2, .int .i64 x.f3]] ++ lb) W fun e w' => e = .returned (.bool (p x)) ∧ Below w.heap.size w w') :
  Calls Tryz.prog 112 #[.slice A xs.length c, .func (.func g) #[] lb] w fun e w' => e = .returned (.int .i64 (fidx p xs)) ∧ Below w.heap.size w w' := by
 have HR := am hr
 have HP := am hp
 clear hr hp
 go_enter Tryz.func112, Tryz.ntmps112
 go_wp2
 go_loopg [5, 8] xs.length (fun gg _ s8 wr => ∃ kk : Nat, kk ≤ xs.length ∧ xs.length - kk ≤ gg ∧ s8 = .int .i64 kk ∧ Aside0 (Below w.heap.size w wr) ∧ Aside0 (∀ j, j < kk → p (xs.getD j z52) = false))
 case atStart => exact ⟨0, Nat.zero_le _, by omega, rfl, ⟨Below.refl _ w⟩, ⟨fun j hj => absurd hj (Nat.not_lt_zero _)⟩⟩
 case round =>
  obtain ⟨kk, hkk, hg, rfl, BW, NN⟩ := hrel
  by_cases hlt : kk < xs.length
  ·have hltz : (kk : Int) < (xs.length : Int) := by omega
   obtain ⟨ad, e0, hx0, hx1, hx2, hx3⟩ := at_T52 HR.out (kk : Int) (by omega) hltz
   cases e0
   rw [Int.toNat_natCast] at hx0 hx1 hx2 hx3
   have cb : decide ((kk : Int) < (xs.length : Int)) = true := decide_eq_true hltz
   replace hx0 := (BW.out.cell (World.block_lt_of_cell? w _ hx0)).trans hx0
   replace hx1 := (BW.out.cell (World.block_lt_of_cell? w _ hx1)).trans hx1
   replace hx2 := (BW.out.cell (World.block_lt_of_cell? w _ hx2)).trans hx2
   replace hx3 := (BW.out.cell (World.block_lt_of_cell? w _ hx3)).trans hx3
   have hcall := HP.out wr (rd_T52 xs kk) (by have := getD_get xs z52 kk hlt; simp only [rd_T52, Int.toNat_natCast]; rw [this]; exact List.getElem_mem hlt) BW.out
   have HQ : Aside0 (xs.getD kk z52 = rd_T52 xs (kk : Int)) := ⟨by simp [rd_T52]⟩
   generalize rd_T52 xs (kk : Int) = y at *
   cases hq : p y with
   | true =>
    rw [hq] at hcall
    go_wp2_with (go_at_fn g; refine hcall.mono ?_; rintro e w' ⟨rfl, hb'⟩)
    go_ret
    refine ⟨?_, hb'⟩
    rw [fidx_hit p xs z52 kk hlt (by rw [HQ.out]; exact hq) NN.out]; rfl
   | false =>
    rw [hq] at hcall
    go_wp2_with (go_at_fn g; refine hcall.mono ?_; rintro e w' ⟨rfl, hb'⟩)
    go_roundg (xs.length - (kk + 1))
    case measure => omega
    case rel =>
     refine ⟨kk + 1, by omega, by omega, by go_num, ⟨hb'⟩, ⟨fun j hj => ?_⟩⟩
     by_cases e : j = kk
     ·subst e
      rw [HQ.out]; exact hq
     exact NN.out j (by omega)
  have cb : decide ((kk : Int) < (xs.length : Int)) = false := decide_eq_false (by omega)
  have cb2 : decide (kk < xs.length) = false := decide_eq_false hlt
  go_wp2
  go_ret
  refine ⟨?_, BW.out⟩
  rw [fidx_miss p xs z52 (fun j hj => NN.out j (by omega))]; rfl
set_option maxHeartbeats 2000000 in
theorem DeleteFuncM_nil (A : Option Addr) (c : Nat) (g : Nat) (lb : Array Value) (eg : ∀ args w, (callFunc g args).run Tryz.prog w = .ok (.enter g args) w) (w : World) :
  Calls Tryz.prog 89 #[.slice A 0 c, .func (.func g) #[] lb] w fun e w' => e = .returned (.slice A 0 c) ∧ Below w.heap.size w w' := by
 have HI := am (IndexFuncM_any A c [] g lb eg (fun _ => true) w ⟨rfl, by simp, fun h => absurd h (Nat.lt_irrefl 0)⟩ (by simp) (fun W x hx => absurd hx List.not_mem_nil))
 go_enter Tryz.func89, Tryz.ntmps89
 go_wp2_with (go_at_call 112; refine HI.out.mono ?_; rintro e w1 ⟨rfl, hb1⟩)
 go_ret
 exact ⟨rfl, hb1⟩
theorem St.cell {b g j : Nat} {W : World} (v : Value) : St b (fun k => k = g) W (W.setCell ⟨g, j, none⟩ v) := St.setCell (wr := fun k => k = g) v rfl
theorem filter_snoc (p : Mv → Bool) (xs : List Mv) (j : Nat) (hj : j < xs.length) : (xs.take (j + 1)).filter p = (xs.take j).filter p ++ if p xs[j] then [xs[j]] else [] := by
 rw [List.take_succ_eq_append_getElem hj, List.filter_append]
 cases h : p xs[j] <;> simp [h]
set_option maxRecDepth 8000 in
set_option maxHeartbeats 4000000 in
theorem DeleteFuncM_any (g cap : Nat) (xs : List Mv) (pf : Nat) (lb : Array Value) (eg : ∀ args w, (callFunc pf args).run Tryz.prog w = .ok (.enter pf args) w) (p : Mv → Bool) (w : World) (hM : MRow w g xs) (hcap : xs.length ≤ cap)
  (hp : ∀ (W : World) (x : Mv), x ∈ xs → St w.heap.size (fun k => k = g) w W → Calls Tryz.prog pf (#[.agg #[.int .i64 x.f0, .int .i64 x.f1, .int .u8 x.f2, .int .i64 x.f3]] ++ lb) W fun e w' => e = .returned (.bool (p x)) ∧ Below W.heap.size W w') :
  Calls Tryz.prog 89 #[.slice (some ⟨g, 0, none⟩) xs.length cap, .func (.func pf) #[] lb] w fun e w' => ∃ n, e = .returned (.slice (some ⟨g, 0, none⟩) n cap) ∧ n = (xs.filter fun x => !p x).length ∧ n ≤ cap ∧ MRow w' g (xs.filter fun x => !p x) ∧ St w.heap.size (fun k => k = g) w w' := by
 have hm := hM.m
 have HM := am hM
 have HP := am hp
 have HI := am (IndexFuncM_any (some ⟨g, 0, none⟩) cap xs pf lb eg p w hM.reads (by omega) (fun W x hx hb => (hp W x hx (St.of_below hb)).mono (by rintro e w' ⟨rfl, h⟩; exact ⟨rfl, hb.trans (h.mono hb.size)⟩)))
 clear hM hp
 by_cases ha : xs.any p = true
 ·have hi0 : xs.findIdx p < xs.length := List.findIdx_lt_length_of_exists (List.any_eq_true.1 ha)
  obtain ⟨i0, hi⟩ : ∃ i, xs.findIdx p = i := ⟨_, rfl⟩
  rw [hi] at hi0
  have hp0 : p xs[i0] = true := by have := List.findIdx_getElem (p := p) (xs := xs) (w := by rw [hi]; exact hi0); simp only [hi] at this; exact this
  have hpn : ∀ j (hj : j < i0), p (xs[j]'(by omega)) = false := fun j hj => by have := List.not_of_lt_findIdx (p := p) (xs := xs) (i := j) (by rw [hi]; exact hj); simpa using this
  have hf : fidx p xs = (i0 : Int) := by unfold fidx; rw [ha, hi]; rfl
  have hf0 : (xs.take (i0 + 1)).filter (fun x => !p x) = xs.take i0 := by
   rw [filter_snoc _ xs i0 hi0, hp0]
   simp only [Bool.not_true, Bool.false_eq_true, if_false, List.append_nil]
   refine List.filter_eq_self.2 fun x hx => ?_
   obtain ⟨j, hj, rfl⟩ := List.mem_iff_getElem.1 hx
   rw [List.length_take] at hj
   rw [List.getElem_take, hpn j (by omega)]
   rfl
  have HF0 := am hf0
  rw [hf] at HI
  clear ha hi hp0 hpn hf hf0
  go_enter Tryz.func89, Tryz.ntmps89
  go_wp2_with (go_at_call 112; refine HI.out.mono ?_; rintro e w1 ⟨rfl, hb1⟩; have HB1 := am hb1; clear hb1)
  go_loopg [5, 6] xs.length (fun gg s5 s6 wr => ∃ (ii jj : Nat) (ys : List Mv), ii < jj ∧ jj ≤ xs.length ∧ xs.length - jj ≤ gg ∧ s5 = .int .i64 ii ∧ s6 = .int .i64 jj ∧ Aside0 (ys.length = xs.length) ∧ Aside0 (MRow wr g ys) ∧ Aside0 (ys.take ii = (xs.take jj).filter fun x => !p x) ∧ Aside0 (ys.drop jj = xs.drop jj) ∧ Aside0 (St w.heap.size (fun k => k = g) w wr))
  case atStart => exact ⟨i0, i0 + 1, xs, by omega, by omega, by omega, rfl, by go_num, ⟨rfl⟩, ⟨HM.out.below HB1.out⟩, ⟨HF0.out.symm⟩, ⟨rfl⟩, ⟨St.of_below HB1.out⟩⟩
  case round =>
   obtain ⟨ii, jj, ys, hij, hjj, hg, rfl, rfl, HY, HR, HTK, HDR, HS⟩ := hrel
   by_cases hlt : jj < xs.length
   ·have cb : decide ((jj : Int) < (xs.length : Int)) = true := decide_eq_true (by omega)
    have cbn : decide (jj < xs.length) = true := decide_eq_true hlt
    have hyl : jj < ys.length := by rw [HY.out]; exact hlt
    have hxe : ys[jj] = xs[jj] := by
     have h1 := HDR.out
     rw [List.drop_eq_getElem_cons hyl, List.drop_eq_getElem_cons hlt] at h1
     exact (List.cons.inj h1).1
    have hdr : ys.drop (jj + 1) = xs.drop (jj + 1) := by
     have h1 := HDR.out
     rw [List.drop_eq_getElem_cons hyl, List.drop_eq_getElem_cons hlt] at h1
     exact (List.cons.inj h1).2
    have HDR2 := am hdr
    have hfs := filter_snoc (fun x => !p x) xs jj hlt
    have hmem : xs[jj] ∈ xs := List.getElem_mem hlt
    obtain ⟨m0, m1, m2, m3⟩ := HR.out.cells jj hyl
    rw [hxe] at m0 m1 m2 m3
    obtain ⟨x, hx⟩ : ∃ x, xs[jj] = x := ⟨_, rfl⟩
    rw [hx] at hfs hmem m0 m1 m2 m3
    have HMEM := am hmem
    have hgw := HR.out.lt
    have HCL := am (HP.out (wr.alloc (.cells #[.int .i64 x.f0, .int .i64 x.f1, .int .u8 x.f2, .int .i64 x.f3] 52)) x hmem (HS.out.trans (St.of_below ((Below.refl _ wr).alloc (Nat.le_refl _) _))))
    have HS1 := am (HS.out.trans (St.of_below (b := w.heap.size) (ex := fun k => k = g) ((Below.refl _ wr).alloc (Nat.le_refl _) (.cells #[.int .i64 x.f0, .int .i64 x.f1, .int .u8 x.f2, .int .i64 x.f3] 52))))
    have HR1 := am (HR.out.below ((Below.refl _ wr).alloc (Nat.le_refl _) (.cells #[.int .i64 x.f0, .int .i64 x.f1, .int .u8 x.f2, .int .i64 x.f3] 52)))
    have hbk := heap_alloc_new wr (.cells #[.int .i64 x.f0, .int .i64 x.f1, .int .u8 x.f2, .int .i64 x.f3] 52)
    have HBK := am hbk
    clear hmem hxe hdr hx hbk
    cases hq : p x with
    | true =>
     rw [hq] at hfs
     have HFS := am hfs
     rw [hq] at HCL
     clear hfs hq
     go_wp2_with (go_at_fn pf; refine HCL.out.mono ?_; rintro e w2 ⟨rfl, hb2⟩; have HB2 := am hb2; clear hb2)
     go_roundg (xs.length - (jj + 1))
     case measure => omega
     case rel => exact ⟨ii, jj + 1, ys, by omega, by omega, by omega, rfl, by go_num, HY, ⟨HR1.out.below HB2.out⟩, ⟨by rw [HFS.out, HTK.out]; simp⟩, HDR2, ⟨HS1.out.trans (St.of_below HB2.out)⟩⟩
    | false =>
     rw [hq] at hfs
     have HFS := am hfs
     rw [hq] at HCL
     clear hfs hq
     have hil : ii < ys.length := by omega
     have hil2 : ii < xs.length := by omega
     have cin : decide (ii < xs.length) = true := decide_eq_true hil2
     have ciz : decide ((ii : Int) < (xs.length : Int)) = true := decide_eq_true (by omega)
     go_wp2_with (go_at_fn pf; refine HCL.out.mono ?_; rintro e w2 ⟨rfl, hb2⟩; have HB2 := am hb2; clear hb2; have HR2 := am (HR1.out.below HB2.out); have hbk2 := (HB2.out.block _ (by simp)).trans HBK.out; have b0 : w2.cell? ⟨wr.heap.size, 0, none⟩ = some (.int .i64 x.f0) := (blk_cell hbk2 0).trans rfl; have b1 : w2.cell? ⟨wr.heap.size, 1, none⟩ = some (.int .i64 x.f1) := (blk_cell hbk2 1).trans rfl; have b2 : w2.cell? ⟨wr.heap.size, 2, none⟩ = some (.int .u8 x.f2) := (blk_cell hbk2 2).trans rfl; have b3 : w2.cell? ⟨wr.heap.size, 3, none⟩ = some (.int .i64 x.f3) := (blk_cell hbk2 3).trans rfl; obtain ⟨n0, n1, n2, n3⟩ := HR2.out.cells ii hil; have f0 := HR2.out.frozen (ii * 4); have f1 := HR2.out.frozen (ii * 4 + 1); have f2 := HR2.out.frozen (ii * 4 + 2); have f3 := HR2.out.frozen (ii * 4 + 3); clear hbk2)
     go_roundg (xs.length - (jj + 1))
     case measure => omega
     case rel =>
      refine ⟨ii + 1, jj + 1, ys.set ii x, by omega, by omega, by omega, by go_num, by go_num, ⟨by rw [List.length_set]; exact HY.out⟩, ⟨HR2.out.set ii hil x⟩, ⟨?_⟩, ⟨?_⟩, ⟨?_⟩⟩
      ·rw [List.take_succ_eq_append_getElem (by rw [List.length_set]; exact hil), List.getElem_set_self, List.take_set_of_le (Nat.le_refl _), HTK.out, HFS.out]
       rfl
      ·rw [List.drop_set_of_lt (by omega), HDR2.out]
      exact (HS1.out.trans (St.of_below HB2.out)).trans ((((St.cell _).trans (St.cell _)).trans (St.cell _)).trans (St.cell _))
   have cb : decide ((jj : Int) < (xs.length : Int)) = false := decide_eq_false (by omega)
   have cbn : decide (jj < xs.length) = false := decide_eq_false hlt
   have hjl : jj = xs.length := by omega
   obtain ⟨w5, hcl, hM5, hS5⟩ := HR.out.clear (b := w.heap.size) ii (cap - ii) (by rw [HY.out]; omega)
   rw [HY.out] at hcl
   have htk := HTK.out
   rw [hjl, List.take_length] at htk
   rw [htk] at hM5
   have hln : ii = (xs.filter fun x => !p x).length := by rw [← htk, List.length_take, HY.out]; omega
   have HLN := am hln
   have HM5 := am hM5
   have HS5 := am (HS.out.trans hS5)
   have c1 : (ii : Int) ≤ (xs.length : Int) := by omega
   have c2 : (ii : Int) ≤ (cap : Int) := by omega
   have c3 : ii ≤ cap := by omega
   have c4 : ii ≤ xs.length := by omega
   clear hln htk hM5 hS5 hjl HTK HDR HY HR
   go_wp2
   go_ret
   exact ⟨ii, rfl, HLN.out, c3, HM5.out, HS5.out⟩
 have hf : fidx p xs = -1 := by unfold fidx; rw [Bool.eq_false_iff.2 ha]; rfl
 have hall : (xs.filter fun x => !p x) = xs := by
  refine List.filter_eq_self.2 fun x hx => ?_
  cases hq : p x with
  | true => exact absurd (List.any_eq_true.2 ⟨x, hx, hq⟩) ha
  | false => rfl
 rw [hf] at HI
 rw [hall]
 clear ha hf hall
 go_enter Tryz.func89, Tryz.ntmps89
 go_wp2_with (go_at_call 112; refine HI.out.mono ?_; rintro e w1 ⟨rfl, hb1⟩; have HB1 := am hb1; clear hb1)
 go_ret
 exact ⟨xs.length, rfl, rfl, hcap, HM.out.below HB1.out, St.of_below HB1.out⟩
end Go.Proofs.YtjgocihflhljeaaGreat.P
namespace Go.Proofs.YtjgocihflhljeaaGreat.P
open Go.RowKit Go.Shelf Go.Proofs.YtjgocihflhljeaaGreatW.PrintWords Go.Proofs.YtjgocihflhljeaaGreatW.PrintLast Go.Proofs.YtjgocihflhljeaaGreatW.PrintMore
end Go.Proofs.YtjgocihflhljeaaGreat.P
namespace Go.Proofs.YtjgocihflhljeaaGreat.P
open Go.RowKit Go.Shelf Go.Proofs.YtjgocihflhljeaaGreatW.PrintWords Go.Proofs.YtjgocihflhljeaaGreatW.PrintLast Go.Proofs.YtjgocihflhljeaaGreatW.PrintMore
attribute [local go_sem] Oper.semAt_some
end Go.Proofs.YtjgocihflhljeaaGreat.P
namespace Go.Proofs.YtjgocihflhljeaaGreat.P
open Go.RowKit Go.Shelf Go.Proofs.YtjgocihflhljeaaGreatW.PrintWords Go.Proofs.YtjgocihflhljeaaGreatW.PrintLast Go.Proofs.YtjgocihflhljeaaGreatW.PrintMore
end Go.Proofs.YtjgocihflhljeaaGreat.P
namespace Go.Proofs.YtjgocihflhljeaaGreat.P
open Go.RowKit Go.Shelf Go.Proofs.YtjgocihflhljeaaGreatW.PrintWords Go.Proofs.YtjgocihflhljeaaGreatW.PrintLast Go.Proofs.YtjgocihflhljeaaGreatW.PrintMore
attribute [local go_sem] Oper.semAt_some
theorem walkL_has {ids : List S68} {rc : Bool} {rn : Int} {jb : Bool} (l : List Mv) : ∀ t : Tk, (∀ m ∈ t.word, hasR ids rc rn jb m = true) → ∀ m ∈ (walkL ids rc rn jb t l).word, hasR ids rc rn jb m = true := by
 induction l with
 | nil => intro t h; rw [walkL]; exact h
 | cons m ms ih =>
  intro t h
  rw [walkL]
  split
  ·rename_i hm
   unfold Tk.may at hm
   simp only [Bool.and_eq_true] at hm
   refine ih _ ?_
   intro x hx
   have e : (t.say m).word = t.word ++ [m] := rfl
   rw [e, List.mem_append, List.mem_singleton] at hx
   rcases hx with hx | rfl
   ·exact h x hx
   exact hm.1.2
  exact h
theorem walkL_word (ids : List S68) (rc : Bool) (rn : Int) (jb : Bool) (l : List Mv) : ∀ t : Tk, ∃ n, n ≤ l.length ∧ (walkL ids rc rn jb t l).word = t.word ++ l.take n := by
 induction l with
 | nil => intro t; exact ⟨0, Nat.le_refl _, by rw [walkL]; simp⟩
 | cons m ms ih =>
  intro t
  rw [walkL]
  split
  ·obtain ⟨n, h1, h2⟩ := ih (t.say m)
   refine ⟨n + 1, by simpa using h1, ?_⟩
   rw [h2]
   show (t.word ++ [m]) ++ ms.take n = _
   simp
  exact ⟨0, Nat.zero_le _, by simp⟩
theorem talk_take (ids : List S68) (rc : Bool) (rn : Int) (jb : Bool) (l : List Mv) : (talkL ids rc rn jb l).word = l.take (talkL ids rc rn jb l).word.length := by
 obtain ⟨n, h1, h2⟩ := walkL_word ids rc rn jb l Tk.empty
 have e : Tk.empty.word = [] := rfl
 rw [e, List.nil_append] at h2
 show (walkL ids rc rn jb Tk.empty l).word = l.take (walkL ids rc rn jb Tk.empty l).word.length
 rw [h2, List.length_take]
 congr 1
 omega
theorem talk_all {ids : List S68} {rc : Bool} {rn : Int} {jb : Bool} {l : List Mv} (h : ¬ (talkL ids rc rn jb l).word.length < l.length) : (talkL ids rc rn jb l).word = l := by
 rw [talk_take]
 exact List.take_of_length_le (by omega)
end Go.Proofs.YtjgocihflhljeaaGreat.P
namespace Go.Proofs.YtjgocihflhljeaaGreat.P
open Go.RowKit Go.Shelf Go.Maps Go.Proofs.YtjgocihflhljeaaGreatW.PrintWords Go.Proofs.YtjgocihflhljeaaGreatW.PrintLast Go.Proofs.YtjgocihflhljeaaGreatW.PrintMore
attribute [local go_sem] Oper.semAt_some
def partL (ks : List Int) (l : List Mv) : List Mv := l.filter fun m => decide (m.f0 ∈ ks)
theorem SetAt.st {V W : World} {b n : Nat} {ks : List Int} {ex : Nat → Prop} (h : SetAt V b n ks) (hs : St V.heap.size ex V W) (hx : ¬ ex b) : SetAt W b n ks := by
 obtain ⟨es, clock, hb, F, hn, hD⟩ := h
 exact ⟨es, clock, hs.2 b _ hb hx (.inl (Array.getElem?_eq_some_iff.1 hb).1), F, hn, hD⟩
theorem SetAt.ne {V : World} {b n g : Nat} {ks : List Int} {cells : Array Value} {t : TypeId} {f : Nat × Nat} (h : SetAt V b n ks) (hg : V.heap[g]? = some (.cells cells t f)) : b ≠ g := by
 obtain ⟨es, clock, hb, _⟩ := h
 rintro rfl
 rw [hb] at hg
 cases hg
def PartR (base : Nat) (V : World) (F : List Mv) (r : Value) (V' : World) : Prop := (∃ B k, r = .slice B F.length k ∧ F.length ≤ k ∧ Kd.C k52 V' B F.length F) ∧ Below base V V'
set_option maxHeartbeats 2000000 in
theorem part1_any {base : Nat} {V : World} {g : Nat} {A : Option Addr} {c : Nat} {ids : List S68} {rc : Bool} {rn : Int} {jb : Bool} {t : Tk} {vw vp vj vf vo : Value} (h : Talk base V g A c ids rc rn jb t vw vp vj vf vo) (pb bm n : Nat) (ks : List Int)
  (hbox : V.heap[pb]? = some (.cells #[.map (some bm)] 111 (0, 0))) (hset : SetAt V bm n ks) (hm : t.word.length ≤ 1000000) (hbase : base ≤ V.heap.size) (hwf : ∀ m ∈ t.word, (Lit.int .i64 m.f0).wf = true) :
  Calls Tryz.prog 88 (#[.pointer (some ⟨g, 0, none⟩)] ++ #[.pointer (some ⟨pb, 0, none⟩)]) V fun e V' => ∃ r, e = .returned (.tuple #[r, .int .i64 0]) ∧ PartR base V (partL ks t.word) r V' := by
 have hgV := h.lt
 have h4 : V.cell? ⟨g, 4, none⟩ = some vw := (blk_cell h.b 4).trans rfl
 have hrw := h.r.w
 clear h
 simp only [List.append_toArray, List.cons_append, List.nil_append]
 by_cases hn : t.word = []
 ·obtain ⟨Aw, cw, rfl⟩ := Kd.R_slice hrw
  rw [hn] at h4 ⊢
  have HD := am (DeleteFuncM_nil Aw cw 90 #[.pointer (some ⟨pb, 0, none⟩)] enters_part2 V)
  rw [hn] at hrw
  have HC := am (Kd.R_reads' hrw)
  clear hrw hset hwf hbox hm
  simp only [List.length_nil] at h4
  go_enter Tryz.func88, Tryz.ntmps88
  go_wp2_with (go_at_call 89; refine HD.out.mono ?_; rintro e w1 ⟨rfl, hb1⟩)
  go_ret2
  exact ⟨_, rfl, ⟨_, _, rfl, Nat.zero_le _, Kd.C_below HC.out.2.2 hb1⟩, hb1.mono hbase⟩
 have hp := List.length_pos_iff.2 hn
 obtain ⟨g2, cap, rfl, hcap, hb2, hM⟩ := MRow.of_RM hrw hp hm
 have hne1 : bm ≠ g2 := by obtain ⟨cur, rest, h1, _⟩ := hM.h; exact hset.ne h1
 have hne2 : pb ≠ g2 := by
  obtain ⟨cur, rest, h1, _⟩ := hM.h
  rintro rfl
  rw [hbox] at h1
  injection h1 with h1
  injection h1 with _ h1
  exact absurd h1 (by decide)
 have HD := am (DeleteFuncM_any g2 cap t.word 90 #[.pointer (some ⟨pb, 0, none⟩)] enters_part2 (fun m => !decide (m.f0 ∈ ks)) V hM hcap (fun W x hx hS => part2_any x pb bm n ks W ((blk_cell (hS.blk hbox hne2) 0).trans rfl) (hset.st hS hne1) (hwf x hx)))
 have he : (t.word.filter fun x => !(fun m : Mv => !decide (m.f0 ∈ ks)) x) = partL ks t.word := by unfold partL; congr 1; funext x; simp
 rw [he] at HD
 have HB2 := am hb2
 clear hset hbox hwf hM hrw hne1 hne2 he hn hp
 go_enter Tryz.func88, Tryz.ntmps88
 go_wp2_with (go_at_call 89; refine HD.out.mono ?_; rintro e w1 ⟨k, rfl, hk, hkc, hM1, hS1⟩)
 go_ret2
 subst hk
 refine ⟨_, rfl, ⟨_, _, rfl, hkc, hM1.reads⟩, ?_⟩
 exact hS1.below (Below.refl _ V |>.mono hbase) hbase (fun k hk => by subst hk; exact HB2.out) hbase
theorem enters_part1 : ∀ args w, (callFunc 88 args).run Tryz.prog w = .ok (.enter 88 args) w := enters_of Tryz.func88 (by kernel_rfl) rfl
theorem wf_small {n : Int} (h : -1000000 ≤ n ∧ n ≤ 1000000) : (Lit.int .i64 n).wf = true := WalkArith.wf_i64 (by omega)
theorem part_wf {ids : List S68} {rc : Bool} {rn : Int} {jb : Bool} {l : List Mv} (hid : ids.length ≤ 1000000) : ∀ m ∈ (talkL ids rc rn jb l).word, (Lit.int .i64 m.f0).wf = true := by
 intro m hm
 have hh := walkL_has (ids := ids) (rc := rc) (rn := rn) (jb := jb) l Tk.empty (fun m hm => by simp [Tk.empty] at hm) m hm
 obtain ⟨_, p, hs, _⟩ := hasR_spot hh
 refine wf_small ?_
 unfold spotAt at hs
 split at hs
 ·rename_i h
  rw [h.1]
  omega
 split at hs
 ·rename_i h
  omega
 cases hs
set_option maxRecDepth 8000 in
set_option maxHeartbeats 4000000 in
theorem pPart_any (A : Option Addr) (c : Nat) (ids : List S68) (rc : Bool) (rn : Int) (jb : Bool) (A1 : Option Addr) (c1 : Nat) (l : List Mv) (A2 : Option Addr) (c2 : Nat) (xs : List Int) (w : World) (hr : Kd.C k68 w A ids.length ids) (hr1 : Kd.C k52 w A1 l.length l) (hr2 : Kd.C (Kd.int .i64) w A2 xs.length xs) (hl : l.length ≤ 1000000) (hxl : xs.length ≤ 1000000) (hid : ids.length ≤ 1000000) (hwf : ∀ x ∈ xs, (Lit.int .i64 x).wf = true) :
  Calls Tryz.prog 51 #[.agg #[.slice A ids.length c, .bool rc, .int .i64 rn, .bool jb], .slice A1 l.length c1, .slice A2 xs.length c2] w fun e w' => ∃ B k, e = .returned (.tuple #[.slice B (okL (tellE ids rc rn jb l) (partL xs (talkL ids rc rn jb l).word)).length k, .int .i64 (tellE ids rc rn jb l)]) ∧ (okL (tellE ids rc rn jb l) (partL xs (talkL ids rc rn jb l).word)).length ≤ k ∧ Kd.C k52 w' B (okL (tellE ids rc rn jb l) (partL xs (talkL ids rc rn jb l).word)).length (okL (tellE ids rc rn jb l) (partL xs (talkL ids rc rn jb l).word)) ∧ Below w.heap.size w w' := by
 have hwl : (talkL ids rc rn jb l).word.length ≤ 1000000 := by rw [talk_take, List.length_take]; omega
 have hpw := part_wf (ids := ids) (rc := rc) (rn := rn) (jb := jb) (l := l) hid
 have HR2 := am hr2
 have HWF := am hwf
 have HO := am (fun (V : World) (pb bm n : Nat) (hb : Below w.heap.size w V) (hbox : V.heap[pb]? = some (.cells #[.map (some bm)] 111 (0, 0))) (hset : SetAt V bm n xs) (hsz : w.heap.size ≤ V.heap.size) => toldW_any A c ids rc rn jb A1 c1 l 88 #[.pointer (some ⟨pb, 0, none⟩)] enters_part1 0 (PartR V.heap.size V (partL xs (talkL ids rc rn jb l).word)) V (Kd.C_below hr hb) (Kd.C_below hr1 hb) hl
  (fun _ V2 g vw vp vj vf vo hb2 hle hT => (part1_any hT pb bm n xs ((hb2.block _ (blk_lt hbox)).trans hbox) (hset.st (ex := fun _ => False) (St.of_below hb2) (fun h => h)) hwl hle hpw).mono (by
   rintro e V3 ⟨r, rfl, hR, hb3⟩
   exact ⟨r, rfl, hR, hb2.trans hb3⟩)))
 have hmm := @run_makeMap Tryz.prog
 clear hr hr1 hr2 hpw hwl hwf
 go_enter Tryz.func51, Tryz.ntmps51
 go_wp2
 go_loopg [10, 14] xs.length (fun gg s10 s14 wr => ∃ (kk : Nat), kk ≤ xs.length ∧ xs.length - kk ≤ gg ∧ s14 = .int .i64 kk ∧ Aside0 (SetAt wr (w.heap.size + 1) kk (xs.take kk)) ∧ Aside0 (wr.heap[w.heap.size + 1 + 1]? = some (.cells #[.map (some (w.heap.size + 1))] 111 (0, 0))) ∧ Aside0 (wr.heap[w.heap.size]? = some (.cells #[.slice A ids.length c, .bool rc, .int .i64 rn, .bool jb] 26 (0, 0))) ∧ Aside0 (Below w.heap.size w wr))
 case atStart =>
  have hA := heap_alloc_new w (.cells #[.slice A ids.length c, .bool rc, .int .i64 rn, .bool jb] 26)
  have hs1 : (w.alloc (.cells #[.slice A ids.length c, .bool rc, .int .i64 rn, .bool jb] 26)).heap.size = w.heap.size + 1 := by simp
  have hM := World.ownsMap_made (H := Unit) (w.alloc (.cells #[.slice A ids.length c, .bool rc, .int .i64 rn, .bool jb] 26)) Tryz.prog 3 (plainElem Tryz.prog 4)
  rw [hs1] at hM
  have hs2 : ((w.alloc (.cells #[.slice A ids.length c, .bool rc, .int .i64 rn, .bool jb] 26)).alloc (.map #[] 0)).heap.size = w.heap.size + 1 + 1 := by simp
  have hX := heap_alloc_new ((w.alloc (.cells #[.slice A ids.length c, .bool rc, .int .i64 rn, .bool jb] 26)).alloc (.map #[] 0)) (.cells #[.map (some (w.heap.size + 1))] 111)
  rw [hs2] at hX
  have hB1 := (Below.refl _ w).alloc (Nat.le_refl _) (.cells #[.slice A ids.length c, .bool rc, .int .i64 rn, .bool jb] 26)
  have hB2 := hB1.alloc (by simp) (.map #[] 0)
  have hB3 := hB2.alloc (by simp; omega) (.cells #[.map (some (w.heap.size + 1))] 111)
  have hA2 := (((Below.refl _ (w.alloc (.cells #[.slice A ids.length c, .bool rc, .int .i64 rn, .bool jb] 26))).alloc (Nat.le_refl _) (.map #[] 0)).alloc (by simp) (.cells #[.map (some (w.heap.size + 1))] 111)).block w.heap.size (by simp)
  exact ⟨0, Nat.zero_le _, by omega, rfl, ⟨hM.alloc _⟩, ⟨hX⟩, ⟨hA2.trans hA⟩, ⟨hB3⟩⟩
 case round =>
  obtain ⟨kk, hkk, hg, rfl, HS, HX, HA, BW⟩ := hrel
  have hsz := blk_lt HX.out
  have x0 : wr.cell? ⟨w.heap.size + 1 + 1, 0, none⟩ = some (.map (some (w.heap.size + 1))) := (blk_cell HX.out 0).trans rfl
  by_cases hlt : kk < xs.length
  ·have cb : decide ((kk : Int) < (xs.length : Int)) = true := decide_eq_true (by omega)
   have cbn : decide (kk < xs.length) = true := decide_eq_true hlt
   obtain ⟨ad, e0, v0⟩ := Kd.at_int (Kd.C_below HR2.out BW.out) (kk : Int) (by omega) (show (kk : Int) < (xs.length : Int) by omega)
   cases e0
   rw [Int.toNat_natCast] at v0
   have hre : rd xs (kk : Int) = xs[kk] := by unfold rd; rw [Int.toNat_natCast]; exact getD_get xs _ kk hlt
   have hkey : keyOf Tryz.prog 3 (.int .i64 (rd xs (kk : Int))) = some (kI (rd xs (kk : Int))) := keyOf_int_mk Tryz.underlying3 (by rw [hre]; exact HWF.out _ (List.getElem_mem hlt))
   have HT := am (show xs.take (kk + 1) = xs.take kk ++ [rd xs (kk : Int)] by rw [hre]; exact List.take_succ_eq_append_getElem hlt)
   generalize rd xs (kk : Int) = v at *
   clear hre
   go_wp2_with (at_mapUpdate; refine wpList_mapUpdate_own _ rfl _ _ _ 111 rfl 3 4 lawI Tryz.underlying111 (plainElem Tryz.prog 4) (w.heap.size + 1) kk (Ds (xs.take kk)) rfl HS.out (by unfold maxLen; omega) (.int .i64 v) (.bool true) (kI v) rfl rfl hkey (.lit (.bool true)) [] (plainElem_bool Tryz.underlying4 true) ?_; intro w1 hown1 hgrow1; have HO1 := am hown1; have HG1 := am hgrow1; clear hown1 hgrow1)
   go_roundg (xs.length - (kk + 1))
   case measure => omega
   case rel =>
    refine ⟨kk + 1, by omega, by omega, by go_num, ⟨?_⟩, ⟨(HG1.out.block _ hsz (by simp)).trans HX.out⟩, ⟨(HG1.out.block _ (by omega) (by simp)).trans HA.out⟩, ⟨below_grown BW.out HG1.out (fun k hk => by cases hk; omega) BW.out.size⟩⟩
    rw [HT.out]
    unfold SetAt
    rw [Ds_snoc]
    exact HO1.out
  have cb : decide ((kk : Int) < (xs.length : Int)) = false := decide_eq_false (by omega)
  have cbn : decide (kk < xs.length) = false := decide_eq_false hlt
  have hke : kk = xs.length := by omega
  subst hke
  have a0 : wr.cell? ⟨w.heap.size, 0, none⟩ = some (.slice A ids.length c) := (blk_cell HA.out 0).trans rfl
  have a1 : wr.cell? ⟨w.heap.size, 1, none⟩ = some (.bool rc) := (blk_cell HA.out 1).trans rfl
  have a2 : wr.cell? ⟨w.heap.size, 2, none⟩ = some (.int .i64 rn) := (blk_cell HA.out 2).trans rfl
  have a3 : wr.cell? ⟨w.heap.size, 3, none⟩ = some (.bool jb) := (blk_cell HA.out 3).trans rfl
  have hsa := blk_lt HA.out
  have HSX := am (show SetAt wr (w.heap.size + 1) xs.length xs by have := HS.out; rw [List.take_length] at this; exact this)
  clear HS
  go_wp2_with (go_at_call 76; refine (HO.out wr _ _ _ BW.out HX.out HSX.out BW.out.size).mono ?_; rintro e w1 (⟨hE, rfl, hb1⟩ | ⟨hE, r, rfl, hR, hb1⟩))
  ·go_ret2
   exact ⟨none, 0, by rw [okL_no _ hE]; rfl, by rw [okL_no _ hE]; exact Nat.le_refl _, by rw [okL_no _ hE]; exact Kd.C_nil _ _, BW.out.trans (hb1.mono BW.out.size)⟩
  obtain ⟨B, k, hv, hk, hC⟩ := hR
  go_ret2
  exact ⟨B, k, by rw [hE, okL_ok _ rfl, ← hv]; rfl, by rw [okL_ok _ hE]; exact hk, by rw [okL_ok _ hE]; exact hC, BW.out.trans (hb1.mono BW.out.size)⟩
end Go.Proofs.YtjgocihflhljeaaGreat.P
namespace Go.Proofs.YtjgocihflhljeaaGreat.P
open Go.RowKit Go.Proofs.YtjgocihflhljeaaGreatW.PrintWords Go.Proofs.YtjgocihflhljeaaGreatW.PrintLast Go.Proofs.YtjgocihflhljeaaGreatW.PrintMore
attribute [local go_sem] max2_int max_two
def riposteref05_Among.l0 : Nat → List Int → Int → Int → Option (Bool)
 | 0, _, _, _ => none
 | k + 1, x0, x1, x5 => if x5 < (x0.length : Int) then (if 0 ≤ x5 then (if (rd x0 x5) = x1 then (some true) else (riposteref05_Among.l0 k x0 x1 (wrap64 (x5 + 1)))) else (none)) else (some false)
def riposteref05_Among.f (k : Nat) (l0 : List Int) (a1 : Int) : Option (Bool) := riposteref05_Among.l0 k l0 a1 0
set_option maxHeartbeats 8000000 in
set_option maxRecDepth 100000 in
theorem riposteref05_Among.calls (k : Nat) (A0 : Option Addr) (c0 : Nat) (l0 : List Int) (a1 : Int) (r : Bool) (w : World) (hr0 : Kd.C (Kd.int .i64) w A0 l0.length l0) (hc0 : l0.length ≤ c0) (h : riposteref05_Among.f k l0 a1 = some r) :
  Calls Tryz.prog 41 #[.slice A0 l0.length c0, .int .i64 a1] w fun e w' => e = .returned (.bool r) ∧ Drawn0 w w' := by
 have HR0 := am hr0
 have HC0 := am hc0
 clear hr0 hc0
 have H : (riposteref05_Among.l0 k l0 a1 0) = some r := h
 clear h
 have H' := am H
 clear H
 go_enter Tryz.func41, Tryz.ntmps41
 go_wp2
 go_loopg [5] k (fun kq v5 w' => ∃ (x5_1 : Int), v5 = .int .i64 x5_1 ∧ Aside0 (riposteref05_Among.l0 kq l0 a1 x5_1 = some r) ∧ Aside0 (kq ≤ k) ∧ Drawn0 w w')
 case atStart => exact ⟨(0), (by first | rfl), H', ⟨Nat.le_refl _⟩, by repeat (first | exact Drawn0.refl _)⟩
 case round =>
  clear H'
  try clear p2
  obtain ⟨x5_1, rfl, HA, HK1, ⟨m1, rfl⟩⟩ := hrel
  cases gk with
  | zero => exact absurd HA.out (by simp [riposteref05_Among.l0])
  | succ k1 =>
   have H := HA.out
   clear HA
   simp only [riposteref05_Among.l0] at H
   by_cases c3 : x5_1 < (l0.length : Int)
   ·rw [if_pos c3] at H
    have c3b0 : decide (x5_1 < (l0.length : Int)) = true := decide_eq_true c3
    clear c3
    by_cases c4 : 0 ≤ x5_1
    ·rw [if_pos c4] at H
     have c4b0 : decide (0 ≤ x5_1) = true := decide_eq_true c4
     clear c4
     by_cases c5 : (rd l0 x5_1) = a1
     ·rw [if_pos c5] at H
      have c5b0 : ((rd l0 x5_1) == a1) = true := beq_iff_eq.mpr c5
      have c5b1 : ((rd l0 x5_1) != a1) = false := bne_eq_false_iff_eq.mpr c5
      clear c5
      obtain rfl := Option.some.inj H
      have p400 : 0 ≤ (x5_1 : Int) := of_decide_eq_true (by first | (with_reducible assumption))
      have q400 : x5_1 < (l0.length : Int) := of_decide_eq_true (by first | (with_reducible assumption))
      obtain ⟨ad400, e400, hx400_0⟩ := Kd.at_int HR0.out x5_1 p400 q400
      cases e400
      replace p400 := eq_true p400
      replace q400 := eq_true q400
      go_wp2
      go_ret
      exact ⟨by first | rfl, by repeat (first | exact Drawn0.refl _ | apply Drawn0.step)⟩
     rw [if_neg c5] at H
     have c5b0 : ((rd l0 x5_1) == a1) = false := beq_eq_false_iff_ne.mpr c5
     have c5b1 : ((rd l0 x5_1) != a1) = true := bne_iff_ne.mpr c5
     have H' := am H
     clear H
     have p400 : 0 ≤ (x5_1 : Int) := of_decide_eq_true (by first | (with_reducible assumption))
     have q400 : x5_1 < (l0.length : Int) := of_decide_eq_true (by first | (with_reducible assumption))
     obtain ⟨ad400, e400, hx400_0⟩ := Kd.at_int HR0.out x5_1 p400 q400
     cases e400
     replace p400 := eq_true p400
     replace q400 := eq_true q400
     go_wp2
     go_roundg k1
     case measure => have := HK1.out; omega
     case rel => exact ⟨(wrap64 (x5_1 + 1)), (by first | rfl), H', ⟨by have := HK1.out; omega⟩, by repeat (first | exact Drawn0.refl _ | apply Drawn0.step)⟩
    rw [if_neg c4] at H
    exact absurd H (by simp)
   rw [if_neg c3] at H
   have c3b0 : decide (x5_1 < (l0.length : Int)) = false := decide_eq_false c3
   clear c3
   obtain rfl := Option.some.inj H
   go_wp2
   go_ret
   exact ⟨by first | rfl, by repeat (first | exact Drawn0.refl _ | apply Drawn0.step)⟩
end Go.Proofs.YtjgocihflhljeaaGreat.P
namespace Go.Proofs.YtjgocihflhljeaaGreat.P
open Go.RowKit Go.Shelf Go.Proofs.YtjgocihflhljeaaGreatW.PrintWords Go.Proofs.YtjgocihflhljeaaGreatW.PrintLast Go.Proofs.YtjgocihflhljeaaGreatW.PrintMore
end Go.Proofs.YtjgocihflhljeaaGreat.P
namespace Go.Proofs.YtjgocihflhljeaaGreat.P
open Go.RowKit Go.Shelf Go.Proofs.YtjgocihflhljeaaGreatW.PrintWords Go.Proofs.YtjgocihflhljeaaGreatW.PrintLast Go.Proofs.YtjgocihflhljeaaGreatW.PrintMore
attribute [local go_sem] Oper.semAt_some
end Go.Proofs.YtjgocihflhljeaaGreat.P
namespace Go.Proofs.YtjgocihflhljeaaGreat.P
open Go.RowKit Go.Shelf Go.Proofs.YtjgocihflhljeaaGreatW.PrintWords Go.Proofs.YtjgocihflhljeaaGreatW.PrintLast Go.Proofs.YtjgocihflhljeaaGreatW.PrintMore
end Go.Proofs.YtjgocihflhljeaaGreat.P
namespace Go.Proofs.YtjgocihflhljeaaGreat.P
open Go.RowKit Go.Shelf Go.Proofs.YtjgocihflhljeaaGreatW.PrintWords Go.Proofs.YtjgocihflhljeaaGreatW.PrintLast Go.Proofs.YtjgocihflhljeaaGreatW.PrintMore
attribute [local go_sem] Oper.semAt_some
end Go.Proofs.YtjgocihflhljeaaGreat.P
namespace Go.Proofs.YtjgocihflhljeaaGreat.P
open Go.RowKit Go.Shelf Go.Proofs.YtjgocihflhljeaaGreatW.PrintWords Go.Proofs.YtjgocihflhljeaaGreatW.PrintLast Go.Proofs.YtjgocihflhljeaaGreatW.PrintMore
end Go.Proofs.YtjgocihflhljeaaGreat.P
namespace Go.Proofs.YtjgocihflhljeaaGreat.P
open Go.RowKit Go.Shelf Go.Proofs.YtjgocihflhljeaaGreatW.PrintWords Go.Proofs.YtjgocihflhljeaaGreatW.PrintLast Go.Proofs.YtjgocihflhljeaaGreatW.PrintMore
attribute [local go_sem] Oper.semAt_some
end Go.Proofs.YtjgocihflhljeaaGreat.P
namespace Go.Proofs.YtjgocihflhljeaaGreat.P
open Go.RowKit Go.Shelf Go.Proofs.YtjgocihflhljeaaGreatW.PrintWords Go.Proofs.YtjgocihflhljeaaGreatW.PrintLast Go.Proofs.YtjgocihflhljeaaGreatW.PrintMore
end Go.Proofs.YtjgocihflhljeaaGreat.P
namespace Go.Proofs.YtjgocihflhljeaaGreat.P
open Go.RowKit Go.Shelf Go.Proofs.YtjgocihflhljeaaGreatW.PrintWords Go.Proofs.YtjgocihflhljeaaGreatW.PrintLast Go.Proofs.YtjgocihflhljeaaGreatW.PrintMore
attribute [local go_sem] Oper.semAt_some
end Go.Proofs.YtjgocihflhljeaaGreat.P
namespace Go.Proofs.YtjgocihflhljeaaGreat.P
open Go.RowKit Go.Shelf Go.Proofs.YtjgocihflhljeaaGreatW.PrintWords Go.Proofs.YtjgocihflhljeaaGreatW.PrintLast Go.Proofs.YtjgocihflhljeaaGreatW.PrintMore
end Go.Proofs.YtjgocihflhljeaaGreat.P
namespace Go.Proofs.YtjgocihflhljeaaGreat.P
open Go.RowKit Go.Shelf Go.Proofs.YtjgocihflhljeaaGreatW.PrintWords Go.Proofs.YtjgocihflhljeaaGreatW.PrintLast Go.Proofs.YtjgocihflhljeaaGreatW.PrintMore
attribute [local go_sem] Oper.semAt_some
end Go.Proofs.YtjgocihflhljeaaGreat.P
namespace Go.Proofs.YtjgocihflhljeaaGreat.P
open Go.RowKit Go.Shelf Go.Proofs.YtjgocihflhljeaaGreatW.PrintWords Go.Proofs.YtjgocihflhljeaaGreatW.PrintLast Go.Proofs.YtjgocihflhljeaaGreatW.PrintMore
end Go.Proofs.YtjgocihflhljeaaGreat.P
namespace Go.Proofs.YtjgocihflhljeaaGreat.P
open Go.RowKit Go.Shelf Go.Proofs.YtjgocihflhljeaaGreatW.PrintWords Go.Proofs.YtjgocihflhljeaaGreatW.PrintLast Go.Proofs.YtjgocihflhljeaaGreatW.PrintMore
end Go.Proofs.YtjgocihflhljeaaGreat.P
namespace Go.Proofs.YtjgocihflhljeaaGreat.P
open Go.RowKit Go.Shelf Go.Proofs.YtjgocihflhljeaaGreatW.PrintWords Go.Proofs.YtjgocihflhljeaaGreatW.PrintLast Go.Proofs.YtjgocihflhljeaaGreatW.PrintMore
attribute [local go_sem] Oper.semAt_some
theorem among_l0 (l : List Int) (n : Int) (hl : l.length ≤ 1000000) : ∀ (d i k : Nat), l.length - i = d → i ≤ l.length → d < k → riposteref05_Among.l0 k l n (i : Int) = some (decide (n ∈ l.drop i)) := by
 intro d
 induction d with
 | zero =>
  intro i k hd hi hk
  obtain ⟨k, rfl⟩ : ∃ k', k = k' + 1 := ⟨k - 1, by omega⟩
  rw [riposteref05_Among.l0, if_neg (by omega), List.drop_of_length_le (by omega)]
  rfl
 | succ d ih =>
  intro i k hd hi hk
  obtain ⟨k, rfl⟩ : ∃ k', k = k' + 1 := ⟨k - 1, by omega⟩
  have hil : i < l.length := by omega
  have e : rd l (i : Int) = l[i] := by unfold rd; rw [Int.toNat_natCast]; exact getD_get l _ i hil
  rw [riposteref05_Among.l0, if_pos (by omega), if_pos (by omega), e, List.drop_eq_getElem_cons hil, wrap_up hil hl, ih (i + 1) k (by omega) (by omega) (by omega)]
  by_cases h : l[i] = n
  ·rw [if_pos h, decide_eq_true (by rw [h]; exact mc)]
  rw [if_neg h]
  congr 1
  rw [decide_eq_decide, List.mem_cons]
  exact ⟨fun h1 => .inr h1, fun h1 => h1.resolve_left (fun h2 => h h2.symm)⟩
theorem among_f (l : List Int) (n : Int) (hl : l.length ≤ 1000000) : riposteref05_Among.f (l.length + 1) l n = some (decide (n ∈ l)) := among_l0 l n hl _ 0 _ rfl (Nat.zero_le _) (by omega)
theorem among_any (Bv : Option Addr) (kv : Nat) (V : List Int) (z : Int) (w : World) (hr : Kd.C (Kd.int .i64) w Bv V.length V) (hk : V.length ≤ kv) (hl : V.length ≤ 1000000) : Calls Tryz.prog 41 #[.slice Bv V.length kv, .int .i64 z] w fun e w' => e = .returned (.bool (decide (z ∈ V))) ∧ Below w.heap.size w w' :=
 (riposteref05_Among.calls (V.length + 1) Bv kv V z _ w hr hk (among_f V z hl)).mono (by
  rintro e w' ⟨rfl, hd⟩
  obtain ⟨n, rfl⟩ := hd.out
  exact ⟨rfl, pw_below_drewN (Below.refl _ _) n⟩)
theorem part_snoc (ks : List Int) (l : List Mv) (j : Nat) (hj : j < l.length) : partL ks (l.take (j + 1)) = partL ks (l.take j) ++ if decide (l[j].f0 ∈ ks) then [l[j]] else [] := filter_snoc _ l j hj
set_option maxRecDepth 8000 in
set_option maxHeartbeats 4000000 in
theorem rPart_any (A : Option Addr) (c : Nat) (ids : List S68) (rc : Bool) (rn : Int) (jb : Bool) (A1 : Option Addr) (c1 : Nat) (l : List Mv) (A2 : Option Addr) (c2 : Nat) (xs : List Int) (w : World) (hr : Kd.C k68 w A ids.length ids) (hlc : ids.length ≤ c) (hr1 : Kd.C k52 w A1 l.length l) (hl : l.length ≤ 1000000) (hr2 : Kd.C (Kd.int .i64) w A2 xs.length xs) (hxc : xs.length ≤ c2) (hxl : xs.length ≤ 1000000) :
  Calls Tryz.prog 52 #[.agg #[.slice A ids.length c, .bool rc, .int .i64 rn, .bool jb], .slice A1 l.length c1, .slice A2 xs.length c2] w (Ret2 (tellE ids rc rn jb l) fun v w' => RM w' w.heap.size v (okL (tellE ids rc rn jb l) (partL xs l)) ∧ Below w.heap.size w w') := by
 have HB := am ((Below.refl _ w).alloc (Nat.le_refl _) (.cells #[.slice A ids.length c, .bool rc, .int .i64 rn, .bool jb] 26))
 have HO := am (fun (V : World) (hb : Below w.heap.size w V) => rBegin_any A c ids rc rn jb A1 c1 l V (Kd.C_below hr hb) hlc (Kd.C_below hr1 hb) hl)
 have HR1 := am hr1
 have HX := am hr2
 clear hr hr1 hr2
 by_cases hE : tellE ids rc rn jb l = 0
 ·have HE := am hE
  have hl4 : l.length ≤ 400 := (tellE_zero hE).2.1
  clear hE
  go_enter Tryz.func52, Tryz.ntmps52
  go_wp2_with (go_at_call 60; refine (HO.out _ HB.out).mono ?_; rintro e w1 hp; obtain ⟨hb1, g, rfl, vw, vo, vp, vj, hT⟩ := hp.ok HE.out; have HB1 := am (HB.out.trans (hb1.mono (by simp))); have hs1 : w.heap.size ≤ w1.heap.size := HB1.out.size; clear hp hb1 hT)
  go_loopg [11, 12] l.length (fun gg s11 s12 wr => ∃ (kk : Nat) (ys : List Mv), kk ≤ l.length ∧ l.length - kk ≤ gg ∧ s12 = .int .i64 kk ∧ Aside0 (ys = partL xs (l.take kk)) ∧ ys.length ≤ kk ∧ (∃ A3 c3, s11 = .slice A3 ys.length c3) ∧ Aside0 (RM wr w1.heap.size s11 ys) ∧ Aside0 (Below w1.heap.size w1 wr))
  case atStart => exact ⟨0, [], Nat.zero_le _, by omega, rfl, ⟨rfl⟩, Nat.le_refl _, ⟨_, _, rfl⟩, ⟨Kd.R_nil _ _ _ _ _⟩, ⟨Below.refl _ _⟩⟩
  case round =>
   obtain ⟨kk, ys, hkk, hg, rfl, HY, hyl, ⟨A3, c3, rfl⟩, HR2, BW⟩ := hrel
   have hsr := BW.out.size
   have HBW := am (HB1.out.trans (BW.out.mono hs1))
   by_cases hlt : kk < l.length
   ·have hltz : (kk : Int) < (l.length : Int) := by omega
    have cb : decide ((kk : Int) < (l.length : Int)) = true := decide_eq_true hltz
    have cbn : decide (kk < l.length) = true := decide_eq_true hlt
    obtain ⟨ad, e0, a0, a1, a2, a3⟩ := at_T52 (Kd.C_below HR1.out HBW.out) (kk : Int) (by omega) hltz
    cases e0
    rw [Int.toNat_natCast] at a0 a1 a2 a3
    have hre : rd_T52 l (kk : Int) = l[kk] := by rw [rd_T52, Int.toNat_natCast]; exact getD_get l z52 kk hlt
    have hps := part_snoc xs l kk hlt
    rw [← hre] at hps
    clear hre
    generalize rd_T52 l (kk : Int) = m at *
    have HC := among_any A2 c2 xs m.f0 wr (Kd.C_below HX.out HBW.out) hxc hxl
    cases hq : decide (m.f0 ∈ xs) with
    | false =>
     rw [hq] at hps HC
     have HPS := am hps
     have HCC := am HC
     clear hps hq HC
     go_wp2_with (go_at_call 41; refine HCC.out.mono ?_; rintro e w2 ⟨rfl, hb2⟩; have HB2 := am (BW.out.trans (hb2.mono hsr)); have HR3 := am (R_st HR2.out (St.of_below (b := 0) hb2)); clear hb2)
     go_roundg (l.length - (kk + 1))
     case measure => omega
     case rel => exact ⟨kk + 1, ys, by omega, by omega, by go_num, ⟨by rw [HPS.out, ← HY.out]; simp⟩, by omega, ⟨_, _, rfl⟩, HR3, HB2⟩
    | true =>
     rw [hq] at hps HC
     have HPS := am hps
     have HCC := am HC
     clear hps hq HC
     go_wp2_with (first
      | (go_at_call 41; refine HCC.out.mono ?_; rintro e w2 ⟨rfl, hb2⟩; have HB2 := am (BW.out.trans (hb2.mono hsr)); have HR3 := am (R_st HR2.out (St.of_below (b := 0) hb2)); have b0 := pw_cell_below hb2 a0; have b1 := pw_cell_below hb2 a1; have b2 := pw_cell_below hb2 a2; have b3 := pw_cell_below hb2 a3; have hs2 := hb2.size)
      | ((with_reducible refine gate_builtin (b := .append) (xs := #[.tmp 36, .tmp 41]) rfl ?_); at_builtin; (refine Kd.R_append k52 (w0 := w1) w1.heap.size rfl (.tmp 36) (.tmp 41) 28 52 (.agg #[(.int .i64 0), (.int .i64 0), (.int .u8 0), (.int .i64 0)]) 32 rfl Tryz.underlying28 info52 rfl (by decide) (by omega) (.slice A3 ys.length c3) ys m [.int .i64 m.f0, .int .i64 m.f1, .int .u8 m.f2, .int .i64 m.f3] (fun _ => True) (fun _ => False) rfl ?aX (k52_mkM _ _ _ m) (fun _ hk => hk.elim) (fun _ _ => trivial) HR3.out HB2.out (by omega) (by omega) ?_; (case aX => rfl)); intro v1 w3 hR hB hG hat; have HR4 := am hR; have HB4 := am hB; obtain ⟨Af, cf, rfl⟩ := Kd.R_slice hR; have hln : (ys ++ [m]).length = ys.length + 1 := (by simp); rw [hln] at HR4; clear hR hB hG hat))
     go_roundg (l.length - (kk + 1))
     case measure => omega
     case rel => exact ⟨kk + 1, ys ++ [m], by omega, by omega, by go_num, ⟨by rw [HPS.out, ← HY.out]; simp⟩, by simp; omega, ⟨Af, cf, by rw [hln]⟩, HR4, HB4⟩
   have cb : decide ((kk : Int) < (l.length : Int)) = false := decide_eq_false (by omega)
   have cbn : decide (kk < l.length) = false := decide_eq_false hlt
   have hyy : ys = partL xs l := by rw [HY.out, List.take_of_length_le (by omega)]
   have HYY := am hyy
   clear hyy
   go_wp2
   go_ret2
   exact Ret2.mk _ (by rw [HE.out]; rfl) ⟨by rw [okL_ok _ HE.out, ← HYY.out]; exact Kd.R_lower HR2.out hs1, HBW.out⟩
 have HE := am hE
 have hb : (tellE ids rc rn jb l != 0) = true := by simpa using hE
 clear hE
 go_enter Tryz.func52, Tryz.ntmps52
 go_wp2_with (go_at_call 60; refine (HO.out _ HB.out).mono ?_; rintro e w1 hp; obtain ⟨p, rfl, hb1⟩ := hp.both)
 go_ret2
 exact Ret2.mk _ rfl ⟨by rw [okL_no _ HE.out]; exact Kd.R_nil _ _ _ _ _, HB.out.trans (hb1.mono (by simp))⟩
end Go.Proofs.YtjgocihflhljeaaGreat.P
