/- What the claim's law needs, many texts in one (Uh Vd Ui Uj Uk Db Dc Dd Dp Ra). No conditions of its own. -/
import Derived.Test.YtjgocihflhljeaaGreatZd18
import Derived.Test.YtjgocihflhljeaaGreatZd20
import Derived.Test.YtjgocihflhljeaaGreatZd12
import Derived.Test.YtjgocihflhljeaaGreatZd9
import Derived.Test.YtjgocihflhljeaaGreatZd14
import Derived.Test.YtjgocihflhljeaaGreatZd10
import Derived.Test.YtjgocihflhljeaaGreatZd17
import Derived.Test.YtjgocihflhljeaaGreatZd2
import Derived.Deep.Slices
import Derived.Lib.SmallJoins
import Derived.OpenShut
import Derived.ChangeOld
import Derived.WideShapes
import Derived.ProofKit
set_option linter.unusedVariables false
set_option linter.unusedSimpArgs false
namespace Go.Proofs.YtjgocihflhljeaaGreat.P
open Go.RowKit Go.Shelf Go.Proofs.YtjgocihflhljeaaGreatW.PrintWords Go.Proofs.YtjgocihflhljeaaGreatW.PrintLast Go.Proofs.YtjgocihflhljeaaGreatW.PrintMore
attribute [local go_sem] Oper.semAt_some
structure Takes (t : Tk) (m : Mv) : Prop where
 i : 0 ≤ m.f0 ∧ 0 ≤ m.f1 ∧ (m.f0 = 0 → m.f1 = 0)
 k : askB m = !isAns m
 o : isAns m = true → t.opn ≠ []
 p : isAns m = false → 0 < m.f1 → t.opn ≠ []
theorem rTake_any {base : Nat} {w : World} {g : Nat} {A : Option Addr} {c : Nat} {ids : List S68} {rc : Bool} {rn : Int} {jb : Bool} {t : Tk} {vw vo vp vj : Value} (h : Wlk base w g A c ids rc rn jb t vw vo vp vj) (hL : t.Legal ids rc rn jb) (m : Mv) (hm : Takes t m) (hw : t.word.length < 1048576) :
  Calls Tryz.prog 85 #[.pointer (some ⟨g, 0, none⟩), .agg #[.int .i64 m.f0, .int .i64 m.f1, .int .u8 m.f2, .int .i64 m.f3]] w fun e w' => e = .returned (.tuple #[]) ∧ SK base 86 w w' ∧ ∃ vw vo vp vj, Wlk base w' g A c ids rc rn jb (t.say m) vw vo vp vj := by
 have hk := hm.k
 cases ha : isAns m with
 | true =>
  rw [ha] at hk
  exact take_ans h m hw hk ha (hm.o ha) hL.fo.symm hL.dp
 | false =>
  rw [ha] at hk
  refine take_ask h m hw hk ha (hm.p ha) ?_
  have hi := hm.i
  unfold Tk.justOf isIdent isPar
  rw [ha]
  by_cases h1 : 0 < m.f1
  ·have h0 : 0 < m.f0 := by have := hi.2.2; omega
   have h2 : (m.f1 == 0) = false := by simp; omega
   simp [h1, h0, h2]
  have h2 : m.f1 = 0 := by omega
  by_cases h0 : 0 < m.f0
  ·simp [h1, h0, h2]
  simp [h1, h0, h2]
theorem may_takes {ids : List S68} {rc : Bool} {rn : Int} {jb : Bool} {t : Tk} {m : Mv} (hm : hasR ids rc rn jb m = true) (hc : t.can jb m = true) : Takes t m := by
 have hk := hasR_ok hm
 refine ⟨hk.i, ?_, Tk.can_ans hc, ?_⟩
 ·have h1 := hk.k
  unfold askB isAns
  rcases h1 with h | h | h <;> rw [h] <;> rfl
 intro ha h1 hn
 unfold Tk.can Tk.top at hc
 rw [hn] at hc
 simp only [List.getLast?_nil] at hc
 unfold atB at hc
 simp only [Bool.and_eq_true, beq_iff_eq] at hc
 omega
set_option maxHeartbeats 2000000 in
theorem rRun_any (A : Option Addr) (c : Nat) (ids : List S68) (rc : Bool) (rn : Int) (jb : Bool) (A1 : Option Addr) (c1 : Nat) (l : List Mv) (w : World) (hr : Kd.C k68 w A ids.length ids) (hlc : ids.length ≤ c) (hr1 : Kd.C k52 w A1 l.length l) (hl : l.length ≤ 1000000) (hok : checkE ids rn = 0) :
  Calls Tryz.prog 97 #[.agg #[.slice A ids.length c, .bool rc, .int .i64 rn, .bool jb], .slice A1 l.length c1] w fun e w' => e = .returned (.tuple #[.pointer (some ⟨w.heap.size + 1, 0, none⟩), .int .i64 (talkL ids rc rn jb l).word.length]) ∧ Below w.heap.size w w' ∧ ∃ vw vo vp vj, Wlk w.heap.size w' (w.heap.size + 1) A c ids rc rn jb (talkL ids rc rn jb l) vw vo vp vj := by
 have HRI := Aside0.mk hr
 have HR1 := Aside0.mk hr1
 clear hr hr1
 go_enter Tryz.func97, Tryz.ntmps97
 go_wp2
 have hT0 : Wlk w.heap.size ((w.alloc (.cells #[.slice A ids.length c, .bool rc, .int .i64 rn, .bool jb] 26)).alloc (.cells #[.slice A ids.length c, .bool rc, .int .i64 rn, .bool jb, .slice none 0 0, .slice none 0 0, .slice none 0 0, .slice none 0 0, .bool false, .int .i64 0] 86)) (w.heap.size + 1) A c ids rc rn jb Tk.empty (.slice none 0 0) (.slice none 0 0) (.slice none 0 0) (.slice none 0 0) :=
  ⟨(two w _ _).2, ⟨Kd.R_nil _ _ _ _ _, Kd.R_nil _ _ _ _ _, Kd.R_nil _ _ _ _ _, Kd.R_nil _ _ _ _ _, Kd.R_nil _ _ _ _ _, Ap.none _, Ap.none _, Ap.none _⟩, by omega, Tk.Ok.empty⟩
 go_loopg [7] l.length (fun gg s7 wr => ∃ (kk : Nat) (t : Tk), kk ≤ l.length ∧ l.length - kk ≤ gg ∧ s7 = .int .i64 kk ∧ t.word.length = kk ∧ Aside0 (walkL ids rc rn jb Tk.empty l = walkL ids rc rn jb t (l.drop kk)) ∧ Aside0 (Below w.heap.size w wr) ∧ w.heap.size ≤ wr.heap.size ∧ Aside0 (t.Legal ids rc rn jb) ∧ Aside0 (∃ vw vo vp vj, Wlk w.heap.size wr (w.heap.size + 1) A c ids rc rn jb t vw vo vp vj))
 case atStart => exact ⟨0, Tk.empty, Nat.zero_le _, by omega, rfl, rfl, ⟨rfl⟩, ⟨((Below.refl _ w).alloc (Nat.le_refl _) _).alloc (by simp) _⟩, by simp; omega, ⟨Tk.Legal.empty ids rc rn jb⟩, ⟨_, _, _, _, hT0⟩⟩
 case round =>
  obtain ⟨kk, t, hkk, hg, rfl, hwl, HE, BW, hsw, HL, HT⟩ := hrel
  clear hT0
  by_cases hlt : kk < l.length
  ·have hltz : (kk : Int) < (l.length : Int) := by omega
   obtain ⟨ad, e0, a0, a1, a2, a3⟩ := at_T52 HR1.out (kk : Int) (by omega) hltz
   cases e0
   rw [Int.toNat_natCast] at a0 a1 a2 a3
   have cb : decide ((kk : Int) < (l.length : Int)) = true := decide_eq_true hltz
   replace a0 := (BW.out.cell (World.block_lt_of_cell? w _ a0)).trans a0
   replace a1 := (BW.out.cell (World.block_lt_of_cell? w _ a1)).trans a1
   replace a2 := (BW.out.cell (World.block_lt_of_cell? w _ a2)).trans a2
   replace a3 := (BW.out.cell (World.block_lt_of_cell? w _ a3)).trans a3
   have HQ : Aside0 (l.drop kk = rd_T52 l (kk : Int) :: l.drop (kk + 1)) := ⟨by rw [List.drop_eq_getElem_cons hlt, rd_T52, Int.toNat_natCast, ← getD_get l z52 kk hlt]⟩
   generalize rd_T52 l (kk : Int) = m at *
   obtain ⟨vw, vo, vp, vj, hT⟩ := HT.out
   have HCAN := Aside0.mk (rCan_any hT m (Kd.C_below HRI.out BW.out) hlc hok)
   have HT := Aside0.mk hT
   clear hT
   cases hm : (hasR ids rc rn jb m && canR t jb m) with
   | false =>
    rw [hm] at HCAN
    have HF := Aside0.mk (show t.may ids rc rn jb m = false by
     unfold Tk.may
     cases hh : hasR ids rc rn jb m with
     | false => simp
     | true => rw [hh, Bool.true_and, canR_eq HL.out hh] at hm; rw [hm]; simp)
    clear hm
    go_wp2_with (go_at_call 87; refine HCAN.out.mono ?_; rintro e w1 ⟨rfl, hb1⟩)
    go_ret2
    have e : walkL ids rc rn jb Tk.empty l = t := by rw [HE.out, HQ.out, walkL, if_neg (by rw [HF.out]; decide)]
    refine ⟨by rw [show (talkL ids rc rn jb l) = t from e, hwl]; rfl, BW.out.trans (hb1.mono hsw), vw, vo, vp, vj, ?_⟩
    rw [show (talkL ids rc rn jb l) = t from e]
    exact HT.out.below hb1
   | true =>
    rw [hm] at HCAN
    have hh : hasR ids rc rn jb m = true := by
     cases hh : hasR ids rc rn jb m with
     | false => rw [hh] at hm; cases hm
     | true => rfl
    have hcn : t.can jb m = true := by rw [hh, Bool.true_and, canR_eq HL.out hh] at hm; exact hm
    have HF := Aside0.mk (show t.may ids rc rn jb m = true by unfold Tk.may; rw [hok, hh, hcn]; rfl)
    have HTK := Aside0.mk (may_takes hh hcn)
    have HLS := Aside0.mk (HL.out.say m (may_takes hh hcn).i (fun _ => hh) (by omega))
    clear hm hh hcn
    go_wp2_with (first
     | (go_at_call 87; refine HCAN.out.mono ?_; rintro e w1 ⟨rfl, hb1⟩; have HT1 := Aside0.mk (HT.out.below hb1); have HB1 := Aside0.mk (BW.out.trans (hb1.mono hsw)); have hs1 := hb1.size; have c0 := pw_cell_below hb1 a0; have c1 := pw_cell_below hb1 a1; have c2 := pw_cell_below hb1 a2; have c3 := pw_cell_below hb1 a3)
     | (go_at_call 85; refine (rTake_any HT1.out HL.out m HTK.out (by omega)).mono ?_; rintro e w2 ⟨rfl, hk2, hT2⟩))
    go_roundg (l.length - (kk + 1))
    case measure => omega
    case rel => exact ⟨kk + 1, t.say m, by omega, by omega, by go_num, by simp [Tk.say]; omega, ⟨by rw [HE.out, HQ.out, walkL, if_pos HF.out]⟩, ⟨hk2.below HB1.out (by omega)⟩, by have := hk2.1.2.2.2; omega, HLS, ⟨hT2⟩⟩
  have cb : decide ((kk : Int) < (l.length : Int)) = false := decide_eq_false (by omega)
  have e : walkL ids rc rn jb Tk.empty l = t := by rw [HE.out, List.drop_eq_nil_of_le (by omega), walkL]
  have EE := Aside0.mk e
  have HKL := Aside0.mk (show (t.word.length : Int) = (l.length : Int) by omega)
  clear e
  go_wp2
  go_ret2
  refine ⟨by rw [show (talkL ids rc rn jb l) = t from EE.out, HKL.out]; rfl, BW.out, ?_⟩
  rw [show (talkL ids rc rn jb l) = t from EE.out]
  exact HT.out
end Go.Proofs.YtjgocihflhljeaaGreat.P
namespace Go.Proofs.YtjgocihflhljeaaGreat.P
open Go.RowKit Go.Shelf Go.Proofs.YtjgocihflhljeaaGreatW.PrintWords Go.Proofs.YtjgocihflhljeaaGreatW.PrintLast Go.Proofs.YtjgocihflhljeaaGreatW.PrintMore
theorem isBase_f (b : Bool) (n : Int) : riposteref04_IsBase.f b n = some (isBaseB n) := by
 rw [riposteref04_IsBase.f, inF_eq, Option.bind_some]
 rfl
theorem isType_l0 (ps : List S24) (b : Bool) (n : Int) (hp : ps.length ≤ 5) : ∀ (d i k : Nat), ps.length - i = d → i ≤ ps.length → d < k → riposteref04_IsType.l0 k (i : Int) ps b n = some ((ps.drop i).all (fun x => isBaseB x.f1) && (isBaseB n && (decide (ps.length = 0) || !b))) := by
 intro d
 induction d with
 | zero =>
  intro i k hd hi hk
  obtain ⟨k, rfl⟩ : ∃ k', k = k' + 1 := ⟨k - 1, by omega⟩
  rw [riposteref04_IsType.l0, if_neg (by omega), isBase_f, Option.bind_some, List.drop_eq_nil_of_le (by omega)]
  simp only [List.all_nil, Bool.true_and]
  cases isBaseB n with
  | false => simp
  | true =>
   by_cases h : ps.length = 0
   ·simp [h]
   have : ¬ ((ps.length : Int) = 0) := by omega
   simp only [if_true, if_neg this, decide_eq_false h, Bool.false_or, Bool.true_and]
 | succ d ih =>
  intro i k hd hi hk
  obtain ⟨k, rfl⟩ : ∃ k', k = k' + 1 := ⟨k - 1, by omega⟩
  have hlt : i < ps.length := by omega
  have hr : rd_T24 ps (i : Int) = ps[i] := by
   unfold rd_T24
   rw [Int.toNat_natCast]
   exact getD_get ps z24 i hlt
  have hw : wrap64 ((i : Int) + 1) = ((i + 1 : Nat) : Int) := by
   rw [wrap_in (by omega) (by omega)]
   simp
  rw [riposteref04_IsType.l0, if_pos (by omega), if_pos (by omega), hr, isBase_f, Option.bind_some, hw, List.drop_eq_getElem_cons hlt, List.all_cons]
  cases hb : isBaseB ps[i].f1 with
  | false => simp
  | true => rw [if_pos rfl, Bool.true_and, ih (i + 1) k (by omega) (by omega) (by omega)]
theorem isType_f (k : Nat) (hk : 6 ≤ k) (x : S68) (hp : x.f0.length ≤ 5) : riposteref04_IsType.f k x.f0 x.f1.f0 x.f1.f1 = some (isTypeB x) := by
 have := isType_l0 x.f0 x.f1.f0 x.f1.f1 hp x.f0.length 0 k rfl (Nat.zero_le _) (by omega)
 rw [riposteref04_IsType.f]
 rw [show ((0 : Nat) : Int) = 0 from rfl] at this
 rw [this, List.drop_zero]
 congr 1
 unfold isTypeB
 have e : (!x.f0.any fun b => !isBaseB b.f1) = x.f0.all (fun b => isBaseB b.f1) := by
  rw [Bool.eq_iff_iff]
  simp
 rw [e, ← Bool.and_assoc, Bool.and_comm (x.f0.all _)]
theorem check_l1 (ids : List S68) (rc : Bool) (rn : Int) (j : Bool) (hl : ids.length ≤ 8) (hp : ∀ x ∈ ids, x.f0.length ≤ 5) : ∀ (d i k : Nat), ids.length - i = d → i ≤ ids.length → d + 6 < k → riposteref04_Check.l1 k (i : Int) ids rc rn j = some (if isBaseB rn = false ∨ ((ids.drop i).any fun x => !isTypeB x) = true then 4 else 0) := by
 intro d
 induction d with
 | zero =>
  intro i k hd hi hk
  obtain ⟨k, rfl⟩ : ∃ k', k = k' + 1 := ⟨k - 1, by omega⟩
  rw [riposteref04_Check.l1, if_neg (by omega), isBase_f, Option.bind_some, List.drop_eq_nil_of_le (by omega)]
  cases isBaseB rn <;> simp
 | succ d ih =>
  intro i k hd hi hk
  obtain ⟨k, rfl⟩ : ∃ k', k = k' + 1 := ⟨k - 1, by omega⟩
  have hlt : i < ids.length := by omega
  have hr : rd_T68 ids (i : Int) = ids[i] := by
   unfold rd_T68
   rw [Int.toNat_natCast]
   exact getD_get ids z68 i hlt
  have hw : wrap64 ((i : Int) + 1) = ((i + 1 : Nat) : Int) := by
   rw [wrap_in (by omega) (by omega)]
   simp
  rw [riposteref04_Check.l1, if_pos (by omega), if_pos (by omega), hr, isType_f k (by omega) ids[i] (hp _ (List.getElem_mem _)), Option.bind_some, hw, List.drop_eq_getElem_cons hlt, List.any_cons]
  cases hb : isTypeB ids[i] with
  | false => simp
  | true => rw [if_pos rfl, ih (i + 1) k (by omega) (by omega) (by omega)]; simp
theorem check_l0 (ids : List S68) (rc : Bool) (rn : Int) (j : Bool) (hl : ids.length ≤ 8) : ∀ (d i k : Nat), ids.length - i = d → i ≤ ids.length → d + 20 < k → (∀ m, m < i → ∀ h : m < ids.length, longB ids[m] = false) → riposteref04_Check.l0 k (i : Int) ids rc rn j = some (checkE ids rn) := by
 intro d
 induction d with
 | zero =>
  intro i k hd hi hk hn
  obtain ⟨k, rfl⟩ : ∃ k', k = k' + 1 := ⟨k - 1, by omega⟩
  have ha : ids.any longB = false := by
   rw [List.any_eq_false]
   intro x hx
   obtain ⟨m, hm, rfl⟩ := List.getElem_of_mem hx
   simp [hn m (by omega) hm]
  have hp : ∀ x ∈ ids, x.f0.length ≤ 5 := by
   intro x hx
   have := List.any_eq_false.1 ha x hx
   unfold longB at this
   simpa using this
  have h1 := check_l1 ids rc rn j hl hp ids.length 0 k rfl (Nat.zero_le _) (by omega)
  rw [show ((0 : Nat) : Int) = 0 from rfl, List.drop_zero] at h1
  rw [riposteref04_Check.l0, if_neg (by omega), h1]
  unfold checkE
  rw [if_neg (show ¬ (8 < ids.length ∨ ids.any longB = true) by rw [ha]; simp; omega)]
 | succ d ih =>
  intro i k hd hi hk hn
  obtain ⟨k, rfl⟩ : ∃ k', k = k' + 1 := ⟨k - 1, by omega⟩
  have hlt : i < ids.length := by omega
  have hr : rd_T68 ids (i : Int) = ids[i] := by
   unfold rd_T68
   rw [Int.toNat_natCast]
   exact getD_get ids z68 i hlt
  have hw : wrap64 ((i : Int) + 1) = ((i + 1 : Nat) : Int) := by
   rw [wrap_in (by omega) (by omega)]
   simp
  rw [riposteref04_Check.l0, if_pos (by omega), if_pos (by omega), hr, hw]
  by_cases h5 : ((ids[i].f0.length : Nat) : Int) > 5
  ·rw [if_pos h5]
   unfold checkE
   rw [if_pos (.inr (List.any_eq_true.2 ⟨ids[i], List.getElem_mem _, by unfold longB; simp; omega⟩))]
  rw [if_neg h5]
  refine ih (i + 1) k (by omega) (by omega) (by omega) (fun m hm h => ?_)
  by_cases e : m = i
  ·subst e
   unfold longB
   simp
   omega
  exact hn m (by omega) h
theorem check_f (k : Nat) (hk : 60 ≤ k) (ids : List S68) (rc : Bool) (rn : Int) (j : Bool) : riposteref04_Check.f k ids rc rn j = some (checkE ids rn) := by
 rw [riposteref04_Check.f]
 by_cases h : (ids.length : Int) > 8
 ·rw [if_pos h]
  unfold checkE
  rw [if_pos (.inl (by omega))]
 rw [if_neg h]
 have := check_l0 ids rc rn j (by omega) ids.length 0 k rfl (Nat.zero_le _) (by omega) (fun m hm => absurd hm (Nat.not_lt_zero _))
 rw [show ((0 : Nat) : Int) = 0 from rfl] at this
 exact this
end Go.Proofs.YtjgocihflhljeaaGreat.P
namespace Go.Proofs.YtjgocihflhljeaaGreat.P
open Go.RowKit Go.Shelf Go.Proofs.YtjgocihflhljeaaGreatW.PrintWords Go.Proofs.YtjgocihflhljeaaGreatW.PrintLast Go.Proofs.YtjgocihflhljeaaGreatW.PrintMore
attribute [local go_sem] Oper.semAt_some
theorem rArena_any (A : Option Addr) (c : Nat) (ids : List S68) (rc : Bool) (rn : Int) (jb : Bool) (w : World) (hr : Kd.C k68 w A ids.length ids) (hlc : ids.length ≤ c) :
  Calls Tryz.prog 96 #[.agg #[.slice A ids.length c, .bool rc, .int .i64 rn, .bool jb]] w fun e w' => e = .returned (.int .i64 (checkE ids rn)) ∧ Below w.heap.size w w' :=
 riposteref04_Check.calls 60 A c ids rc rn jb _ w hr hlc (check_f 60 (Nat.le_refl _) ids rc rn jb)
def BeginPost (A : Option Addr) (c : Nat) (ids : List S68) (rc : Bool) (rn : Int) (jb : Bool) (l : List Mv) (w : World) (e : Ending) (w' : World) : Prop :=
 Below w.heap.size w w' ∧ ((tellE ids rc rn jb l ≠ 0 ∧ e = .returned (.tuple #[.pointer none, .int .i64 (tellAt ids rc rn jb l), .int .i64 (tellE ids rc rn jb l)])) ∨
  (tellE ids rc rn jb l = 0 ∧ ∃ g, e = .returned (.tuple #[.pointer (some ⟨g, 0, none⟩), .int .i64 0, .int .i64 0]) ∧ ∃ vw vo vp vj, Wlk w.heap.size w' g A c ids rc rn jb (talkL ids rc rn jb l) vw vo vp vj))
set_option maxHeartbeats 2000000 in
theorem rBegin_any (A : Option Addr) (c : Nat) (ids : List S68) (rc : Bool) (rn : Int) (jb : Bool) (A1 : Option Addr) (c1 : Nat) (l : List Mv) (w : World) (hr : Kd.C k68 w A ids.length ids) (hlc : ids.length ≤ c) (hr1 : Kd.C k52 w A1 l.length l) (hl : l.length ≤ 1000000) : Calls Tryz.prog 60 #[.agg #[.slice A ids.length c, .bool rc, .int .i64 rn, .bool jb], .slice A1 l.length c1] w (BeginPost A c ids rc rn jb l w) := by
 have HB := Aside0.mk ((Below.refl _ w).alloc (Nat.le_refl _) (.cells #[.slice A ids.length c, .bool rc, .int .i64 rn, .bool jb] 26))
 have HC := Aside0.mk (fun (V : World) (hb : Below w.heap.size w V) => rArena_any A c ids rc rn jb V (Kd.C_below hr hb) hlc)
 have HKA := Aside0.mk (heap_alloc_new w (.cells #[.slice A ids.length c, .bool rc, .int .i64 rn, .bool jb] 26))
 by_cases h1 : checkE ids rn ≠ 0
 ·have HE := Aside0.mk (tellE_err (rc := rc) (jb := jb) (l := l) h1)
  have HA := Aside0.mk (show tellAt ids rc rn jb l = 0 by rw [tellAt, HE.out, if_neg (by have := checkE_or ids rn; omega)])
  have hb : (checkE ids rn != 0) = true := by simpa using h1
  clear hr hr1
  go_enter Tryz.func60, Tryz.ntmps60
  go_wp2_with (go_at_call 96; refine (HC.out _ HB.out).mono ?_; rintro e w1 ⟨rfl, hb1⟩; have HB1 := Aside0.mk (HB.out.trans (hb1.mono (by simp))); have hs1 : w.heap.size + 1 ≤ w1.heap.size := (by have := hb1.size; simpa using this); have HK1 := Aside0.mk ((hb1.block _ (by simp)).trans HKA.out); have k0 : w1.cell? ⟨w.heap.size, 0, none⟩ = some (.slice A ids.length c) := (blk_cell HK1.out 0).trans rfl; have k1 : w1.cell? ⟨w.heap.size, 1, none⟩ = some (.bool rc) := (blk_cell HK1.out 1).trans rfl; have k2 : w1.cell? ⟨w.heap.size, 2, none⟩ = some (.int .i64 rn) := (blk_cell HK1.out 2).trans rfl; have k3 : w1.cell? ⟨w.heap.size, 3, none⟩ = some (.bool jb) := (blk_cell HK1.out 3).trans rfl)
  go_ret3
  exact ⟨HB1.out, Or.inl ⟨by rw [HE.out]; exact h1, by rw [HE.out, HA.out]; rfl⟩⟩
 have h1' : checkE ids rn = 0 := by omega
 by_cases h2 : 400 < l.length
 ·have HE := Aside0.mk (tellE_long (rc := rc) (jb := jb) (l := l) h1' h2)
  have HA := Aside0.mk (show tellAt ids rc rn jb l = 0 by rw [tellAt, HE.out, if_neg (by omega)])
  have hz : (400 : Int) < (l.length : Int) := by omega
  clear hr hr1
  go_enter Tryz.func60, Tryz.ntmps60
  go_wp2_with (go_at_call 96; refine (HC.out _ HB.out).mono ?_; rw [h1']; rintro e w1 ⟨rfl, hb1⟩; have HB1 := Aside0.mk (HB.out.trans (hb1.mono (by simp))); have hs1 : w.heap.size + 1 ≤ w1.heap.size := (by have := hb1.size; simpa using this); have HK1 := Aside0.mk ((hb1.block _ (by simp)).trans HKA.out); have k0 : w1.cell? ⟨w.heap.size, 0, none⟩ = some (.slice A ids.length c) := (blk_cell HK1.out 0).trans rfl; have k1 : w1.cell? ⟨w.heap.size, 1, none⟩ = some (.bool rc) := (blk_cell HK1.out 1).trans rfl; have k2 : w1.cell? ⟨w.heap.size, 2, none⟩ = some (.int .i64 rn) := (blk_cell HK1.out 2).trans rfl; have k3 : w1.cell? ⟨w.heap.size, 3, none⟩ = some (.bool jb) := (blk_cell HK1.out 3).trans rfl)
  go_ret3
  exact ⟨HB1.out, Or.inl ⟨by rw [HE.out]; decide, by rw [HE.out, HA.out]; rfl⟩⟩
 have h2' : l.length ≤ 400 := by omega
 have hz2 : decide ((400 : Int) < (l.length : Int)) = false := decide_eq_false (by omega)
 have HR := Aside0.mk (fun (V : World) (hb : Below w.heap.size w V) => rRun_any A c ids rc rn jb A1 c1 l V (Kd.C_below hr hb) hlc (Kd.C_below hr1 hb) hl h1')
 clear hr hr1
 by_cases h3 : (talkL ids rc rn jb l).word.length < l.length
 ·have HE := Aside0.mk (tellE_odd h1' h2' h3)
  have HA := Aside0.mk (show tellAt ids rc rn jb l = (talkL ids rc rn jb l).word.length by rw [tellAt, HE.out, if_pos rfl])
  have hzb : decide (((talkL ids rc rn jb l).word.length : Int) < (l.length : Int)) = true := decide_eq_true (by omega)
  go_enter Tryz.func60, Tryz.ntmps60
  go_wp2_with (first
   | (go_at_call 96; refine (HC.out _ HB.out).mono ?_; rw [h1']; rintro e w1 ⟨rfl, hb1⟩; have HB1 := Aside0.mk (HB.out.trans (hb1.mono (by simp))); have hs1 : w.heap.size + 1 ≤ w1.heap.size := (by have := hb1.size; simpa using this); have HK1 := Aside0.mk ((hb1.block _ (by simp)).trans HKA.out); have k0 : w1.cell? ⟨w.heap.size, 0, none⟩ = some (.slice A ids.length c) := (blk_cell HK1.out 0).trans rfl; have k1 : w1.cell? ⟨w.heap.size, 1, none⟩ = some (.bool rc) := (blk_cell HK1.out 1).trans rfl; have k2 : w1.cell? ⟨w.heap.size, 2, none⟩ = some (.int .i64 rn) := (blk_cell HK1.out 2).trans rfl; have k3 : w1.cell? ⟨w.heap.size, 3, none⟩ = some (.bool jb) := (blk_cell HK1.out 3).trans rfl)
   | (go_at_call 97; refine (HR.out _ HB1.out).mono ?_; rintro e w2 ⟨rfl, hb2, vw, vo, vp, vj, hT⟩))
  go_ret3
  exact ⟨HB1.out.trans (hb2.mono (by omega)), Or.inl ⟨by rw [HE.out]; decide, by rw [HE.out, HA.out]; rfl⟩⟩
 have HE := Aside0.mk (tellE_ok h1' h2' h3)
 have hzb : decide (((talkL ids rc rn jb l).word.length : Int) < (l.length : Int)) = false := decide_eq_false (by omega)
 go_enter Tryz.func60, Tryz.ntmps60
 go_wp2_with (first
  | (go_at_call 96; refine (HC.out _ HB.out).mono ?_; rw [h1']; rintro e w1 ⟨rfl, hb1⟩; have HB1 := Aside0.mk (HB.out.trans (hb1.mono (by simp))); have hs1 : w.heap.size + 1 ≤ w1.heap.size := (by have := hb1.size; simpa using this); have HK1 := Aside0.mk ((hb1.block _ (by simp)).trans HKA.out); have k0 : w1.cell? ⟨w.heap.size, 0, none⟩ = some (.slice A ids.length c) := (blk_cell HK1.out 0).trans rfl; have k1 : w1.cell? ⟨w.heap.size, 1, none⟩ = some (.bool rc) := (blk_cell HK1.out 1).trans rfl; have k2 : w1.cell? ⟨w.heap.size, 2, none⟩ = some (.int .i64 rn) := (blk_cell HK1.out 2).trans rfl; have k3 : w1.cell? ⟨w.heap.size, 3, none⟩ = some (.bool jb) := (blk_cell HK1.out 3).trans rfl)
  | (go_at_call 97; refine (HR.out _ HB1.out).mono ?_; rintro e w2 ⟨rfl, hb2, vw, vo, vp, vj, hT⟩))
 go_ret3
 exact ⟨HB1.out.trans (hb2.mono (by omega)), Or.inr ⟨HE.out, _, rfl, _, _, _, _, hT.lower (by omega)⟩⟩
end Go.Proofs.YtjgocihflhljeaaGreat.P
namespace Go.Proofs.YtjgocihflhljeaaGreat.P
open Go.RowKit Go.Shelf Go.Proofs.YtjgocihflhljeaaGreatW.PrintWords Go.Proofs.YtjgocihflhljeaaGreatW.PrintLast Go.Proofs.YtjgocihflhljeaaGreatW.PrintMore
attribute [local go_sem] Oper.semAt_some
theorem walk_legal {ids : List S68} {rc : Bool} {rn : Int} {jb : Bool} (l : List Mv) : ∀ t : Tk, t.Legal ids rc rn jb → t.word.length + l.length ≤ 1048576 → (walkL ids rc rn jb t l).Legal ids rc rn jb := by
 induction l with
 | nil => intro t h _; rw [walkL]; exact h
 | cons m ms ih =>
  intro t h hl
  rw [List.length_cons] at hl
  rw [walkL]
  split
  ·rename_i hm
   unfold Tk.may at hm
   simp only [Bool.and_eq_true] at hm
   obtain ⟨⟨_, hh⟩, hc⟩ := hm
   refine ih _ (h.say m (may_takes hh hc).i (fun _ => hh) (by omega)) ?_
   simp [Tk.say]
   omega
  exact h
theorem talk_legal (ids : List S68) (rc : Bool) (rn : Int) (jb : Bool) (l : List Mv) (hl : l.length ≤ 1000000) : (talkL ids rc rn jb l).Legal ids rc rn jb :=
 walk_legal l _ (Tk.Legal.empty ids rc rn jb) (by simp [Tk.empty]; omega)
theorem tellAt_ok {ids : List S68} {rc : Bool} {rn : Int} {jb : Bool} {l : List Mv} (h : tellE ids rc rn jb l = 0) : tellAt ids rc rn jb l = 0 := by rw [tellAt, if_neg (by omega)]
section
variable {A : Option Addr} {c : Nat} {ids : List S68} {rc : Bool} {rn : Int} {jb : Bool} {l : List Mv} {w : World} {e : Ending} {w' : World}
theorem BeginPost.both (h : BeginPost A c ids rc rn jb l w e w') : ∃ p, e = .returned (.tuple #[.pointer p, .int .i64 (tellAt ids rc rn jb l), .int .i64 (tellE ids rc rn jb l)]) ∧ Below w.heap.size w w' := by
 obtain ⟨hb, ⟨h0, rfl⟩ | ⟨h0, g, rfl, _⟩⟩ := h
 ·exact ⟨_, rfl, hb⟩
 exact ⟨some ⟨g, 0, none⟩, by rw [tellAt_ok h0, h0], hb⟩
theorem BeginPost.ok (h : BeginPost A c ids rc rn jb l w e w') (h0 : tellE ids rc rn jb l = 0) : Below w.heap.size w w' ∧ ∃ g, e = .returned (.tuple #[.pointer (some ⟨g, 0, none⟩), .int .i64 0, .int .i64 0]) ∧ ∃ vw vo vp vj, Wlk w.heap.size w' g A c ids rc rn jb (talkL ids rc rn jb l) vw vo vp vj := by
 obtain ⟨hb, ⟨h1, _⟩ | ⟨_, h⟩⟩ := h
 ·exact absurd h0 h1
 exact ⟨hb, h⟩
end
theorem rPartners_any (A : Option Addr) (c : Nat) (ids : List S68) (rc : Bool) (rn : Int) (jb : Bool) (A1 : Option Addr) (c1 : Nat) (l : List Mv) (w : World) (hr : Kd.C k68 w A ids.length ids) (hlc : ids.length ≤ c) (hr1 : Kd.C k52 w A1 l.length l) (hl : l.length ≤ 1000000) : Calls Tryz.prog 44 #[.agg #[.slice A ids.length c, .bool rc, .int .i64 rn, .bool jb], .slice A1 l.length c1] w (Ret2 (tellE ids rc rn jb l) fun v w' => RI w' w.heap.size v (okL (tellE ids rc rn jb l) (talkL ids rc rn jb l).part) ∧ Below w.heap.size w w') := by
 have HB := Aside0.mk ((Below.refl _ w).alloc (Nat.le_refl _) (.cells #[.slice A ids.length c, .bool rc, .int .i64 rn, .bool jb] 26))
 have HO := Aside0.mk (fun (V : World) (hb : Below w.heap.size w V) => rBegin_any A c ids rc rn jb A1 c1 l V (Kd.C_below hr hb) hlc (Kd.C_below hr1 hb) hl)
 clear hr hr1
 by_cases hE : tellE ids rc rn jb l = 0
 ·have HE := Aside0.mk hE
  clear hE
  go_enter Tryz.func44, Tryz.ntmps44
  go_wp2_with (go_at_call 60; refine (HO.out _ HB.out).mono ?_; rintro e w1 hp; obtain ⟨hb1, g, rfl, vw, vo, vp, vj, hT⟩ := hp.ok HE.out; have HT := Aside0.mk hT; have HB1 := Aside0.mk (HB.out.trans (hb1.mono (by simp))); have hgw : g < w1.heap.size := hT.lt; obtain ⟨Ap, cp, rfl⟩ := Kd.R_slice hT.r.p; have k6 : w1.cell? ⟨g, 6, none⟩ = some (.slice Ap (talkL ids rc rn jb l).part.length cp) := (blk_cell hT.b 6).trans rfl)
  go_ret2
  exact Ret2.mk _ (by rw [HE.out]; rfl) ⟨by rw [okL_ok _ HE.out]; exact Kd.R_lower HT.out.r.p (by simp), HB1.out⟩
 have HE := Aside0.mk hE
 have hb : (tellE ids rc rn jb l != 0) = true := by simpa using hE
 clear hE
 go_enter Tryz.func44, Tryz.ntmps44
 go_wp2_with (go_at_call 60; refine (HO.out _ HB.out).mono ?_; rintro e w1 hp; obtain ⟨p, rfl, hb1⟩ := hp.both)
 go_ret2
 exact Ret2.mk _ rfl ⟨by rw [okL_no _ HE.out]; exact Kd.R_nil _ _ _ _ _, HB.out.trans (hb1.mono (by simp))⟩
theorem rJustifiers_any (A : Option Addr) (c : Nat) (ids : List S68) (rc : Bool) (rn : Int) (jb : Bool) (A1 : Option Addr) (c1 : Nat) (l : List Mv) (w : World) (hr : Kd.C k68 w A ids.length ids) (hlc : ids.length ≤ c) (hr1 : Kd.C k52 w A1 l.length l) (hl : l.length ≤ 1000000) : Calls Tryz.prog 45 #[.agg #[.slice A ids.length c, .bool rc, .int .i64 rn, .bool jb], .slice A1 l.length c1] w (Ret2 (tellE ids rc rn jb l) fun v w' => RI w' w.heap.size v (okL (tellE ids rc rn jb l) (talkL ids rc rn jb l).just) ∧ Below w.heap.size w w') := by
 have HB := Aside0.mk ((Below.refl _ w).alloc (Nat.le_refl _) (.cells #[.slice A ids.length c, .bool rc, .int .i64 rn, .bool jb] 26))
 have HO := Aside0.mk (fun (V : World) (hb : Below w.heap.size w V) => rBegin_any A c ids rc rn jb A1 c1 l V (Kd.C_below hr hb) hlc (Kd.C_below hr1 hb) hl)
 clear hr hr1
 by_cases hE : tellE ids rc rn jb l = 0
 ·have HE := Aside0.mk hE
  clear hE
  go_enter Tryz.func45, Tryz.ntmps45
  go_wp2_with (go_at_call 60; refine (HO.out _ HB.out).mono ?_; rintro e w1 hp; obtain ⟨hb1, g, rfl, vw, vo, vp, vj, hT⟩ := hp.ok HE.out; have HT := Aside0.mk hT; have HB1 := Aside0.mk (HB.out.trans (hb1.mono (by simp))); have hgw : g < w1.heap.size := hT.lt; obtain ⟨Ap, cp, rfl⟩ := Kd.R_slice hT.r.j; have k6 : w1.cell? ⟨g, 7, none⟩ = some (.slice Ap (talkL ids rc rn jb l).just.length cp) := (blk_cell hT.b 7).trans rfl)
  go_ret2
  exact Ret2.mk _ (by rw [HE.out]; rfl) ⟨by rw [okL_ok _ HE.out]; exact Kd.R_lower HT.out.r.j (by simp), HB1.out⟩
 have HE := Aside0.mk hE
 have hb : (tellE ids rc rn jb l != 0) = true := by simpa using hE
 clear hE
 go_enter Tryz.func45, Tryz.ntmps45
 go_wp2_with (go_at_call 60; refine (HO.out _ HB.out).mono ?_; rintro e w1 hp; obtain ⟨p, rfl, hb1⟩ := hp.both)
 go_ret2
 exact Ret2.mk _ rfl ⟨by rw [okL_no _ HE.out]; exact Kd.R_nil _ _ _ _ _, HB.out.trans (hb1.mono (by simp))⟩
theorem rDepth_any (A : Option Addr) (c : Nat) (ids : List S68) (rc : Bool) (rn : Int) (jb : Bool) (A1 : Option Addr) (c1 : Nat) (l : List Mv) (w : World) (hr : Kd.C k68 w A ids.length ids) (hlc : ids.length ≤ c) (hr1 : Kd.C k52 w A1 l.length l) (hl : l.length ≤ 1000000) : Calls Tryz.prog 46 #[.agg #[.slice A ids.length c, .bool rc, .int .i64 rn, .bool jb], .slice A1 l.length c1] w (Ret2 (tellE ids rc rn jb l) fun v w' => v = .int .i64 (okN (tellE ids rc rn jb l) (talkL ids rc rn jb l).deep) ∧ Below w.heap.size w w') := by
 have HB := Aside0.mk ((Below.refl _ w).alloc (Nat.le_refl _) (.cells #[.slice A ids.length c, .bool rc, .int .i64 rn, .bool jb] 26))
 have HO := Aside0.mk (fun (V : World) (hb : Below w.heap.size w V) => rBegin_any A c ids rc rn jb A1 c1 l V (Kd.C_below hr hb) hlc (Kd.C_below hr1 hb) hl)
 clear hr hr1
 by_cases hE : tellE ids rc rn jb l = 0
 ·have HE := Aside0.mk hE
  clear hE
  go_enter Tryz.func46, Tryz.ntmps46
  go_wp2_with (go_at_call 60; refine (HO.out _ HB.out).mono ?_; rintro e w1 hp; obtain ⟨hb1, g, rfl, vw, vo, vp, vj, hT⟩ := hp.ok HE.out; have HT := Aside0.mk hT; have HB1 := Aside0.mk (HB.out.trans (hb1.mono (by simp))); have hgw : g < w1.heap.size := hT.lt; have k6 : w1.cell? ⟨g, 9, none⟩ = some (.int .i64 (talkL ids rc rn jb l).deep) := (blk_cell hT.b 9).trans rfl)
  go_ret2
  exact Ret2.mk _ (by rw [HE.out]; rfl) ⟨by rw [okN_ok _ HE.out]; rfl, HB1.out⟩
 have HE := Aside0.mk hE
 have hb : (tellE ids rc rn jb l != 0) = true := by simpa using hE
 clear hE
 go_enter Tryz.func46, Tryz.ntmps46
 go_wp2_with (go_at_call 60; refine (HO.out _ HB.out).mono ?_; rintro e w1 hp; obtain ⟨p, rfl, hb1⟩ := hp.both)
 go_ret2
 exact Ret2.mk _ rfl ⟨by rw [okN_no _ HE.out]; rfl, HB.out.trans (hb1.mono (by simp))⟩
end Go.Proofs.YtjgocihflhljeaaGreat.P
namespace Go.Proofs.YtjgocihflhljeaaGreat.P
open Go.RowKit Go.Shelf Go.Proofs.YtjgocihflhljeaaGreatW.PrintWords Go.Proofs.YtjgocihflhljeaaGreatW.PrintLast Go.Proofs.YtjgocihflhljeaaGreatW.PrintMore
attribute [local go_sem] Oper.semAt_some
end Go.Proofs.YtjgocihflhljeaaGreat.P
namespace Go.Proofs.YtjgocihflhljeaaGreat.P
open Go.RowKit Go.Shelf Go.Proofs.YtjgocihflhljeaaGreatW.PrintWords Go.Proofs.YtjgocihflhljeaaGreatW.PrintLast Go.Proofs.YtjgocihflhljeaaGreatW.PrintMore
attribute [local go_sem] Oper.semAt_some
structure Lw (w W : World) (I : List (Option Addr × List S68)) (Y : List (Option Addr × List Mv)) (X : List (Option Addr × List Int)) (G : List (Nat × Array Value × TypeId)) : Prop where
 b : Below w.heap.size w W
 i : ∀ p ∈ I, Kd.C k68 W p.1 p.2.length p.2
 y : ∀ p ∈ Y, Kd.C k52 W p.1 p.2.length p.2
 x : ∀ p ∈ X, Kd.C (Kd.int .i64) W p.1 p.2.length p.2
 g : ∀ p ∈ G, W.heap[p.1]? = some (.cells p.2.1 p.2.2 (0, 0))
section
variable {w W W' : World} {I : List (Option Addr × List S68)} {Y : List (Option Addr × List Mv)} {X : List (Option Addr × List Int)} {G : List (Nat × Array Value × TypeId)}
theorem Lw.below (h : Lw w W I Y X G) (hb : Below W.heap.size W W') : Lw w W' I Y X G :=
 ⟨h.b.trans (hb.mono h.b.size), fun p hp => Kd.C_below (h.i p hp) hb, fun p hp => Kd.C_below (h.y p hp) hb, fun p hp => Kd.C_below (h.x p hp) hb, fun p hp => (hb.block _ (blk_lt (h.g p hp))).trans (h.g p hp)⟩
theorem Lw.addi (h : Lw w W I Y X G) {B : Option Addr} {xs : List S68} (hx : Kd.C k68 W B xs.length xs) : Lw w W ((B, xs) :: I) Y X G :=
 ⟨h.b, fun p hp => by rcases List.mem_cons.1 hp with rfl | hp <;> first | exact hx | exact h.i p hp, h.y, h.x, h.g⟩
theorem Lw.addy (h : Lw w W I Y X G) {B : Option Addr} {xs : List Mv} (hx : Kd.C k52 W B xs.length xs) : Lw w W I ((B, xs) :: Y) X G :=
 ⟨h.b, h.i, fun p hp => by rcases List.mem_cons.1 hp with rfl | hp <;> first | exact hx | exact h.y p hp, h.x, h.g⟩
theorem Lw.addx (h : Lw w W I Y X G) {B : Option Addr} {xs : List Int} (hx : Kd.C (Kd.int .i64) W B xs.length xs) : Lw w W I Y ((B, xs) :: X) G :=
 ⟨h.b, h.i, h.y, fun p hp => by rcases List.mem_cons.1 hp with rfl | hp <;> first | exact hx | exact h.x p hp, h.g⟩
theorem Lw.addg (h : Lw w W I Y X G) {b : Nat} {cs : Array Value} {t : TypeId} (hx : W.heap[b]? = some (.cells cs t (0, 0))) : Lw w W I Y X ((b, cs, t) :: G) :=
 ⟨h.b, h.i, h.y, h.x, fun p hp => by rcases List.mem_cons.1 hp with rfl | hp <;> first | exact hx | exact h.g p hp⟩
theorem Lw.new (h : Lw w W I Y X G) (cs : Array Value) (t : TypeId) : Lw w (W.alloc (.cells cs t)) I Y X ((W.heap.size, cs, t) :: G) :=
 (h.below ((Below.refl _ W).alloc (Nat.le_refl _) _)).addg (heap_alloc_new W _)
theorem Lw.cell (h : Lw w W I Y X G) {b : Nat} {cs : Array Value} {t : TypeId} (hg : (b, cs, t) ∈ G) (i : Nat) {v : Value} (hv : cs[i]? = some v) : W.cell? ⟨b, i, none⟩ = some v := (blk_cell (h.g _ hg) i).trans hv
theorem Lw.awake (h : Lw w W I Y X G) : Calls Tryz.prog 15 #[] W fun e w' => e = .returned (.bool true) ∧ Lw w w' I Y X G :=
 (awake_any W).mono (by rintro e w' ⟨rfl, hb⟩; exact ⟨rfl, h.below hb⟩)
theorem Lw.thin (h : Lw w W I Y X G) {A A1 : Option Addr} {c c1 : Nat} {ids : List S68} {l : List Mv} (rc : Bool) (rn : Int) (jb : Bool) (hi : (A, ids) ∈ I) (hy : (A1, l) ∈ Y) (hc : ids.length ≤ c) (hc1 : l.length ≤ c1) :
  Calls Tryz.prog 14 #[.agg #[.slice A ids.length c, .bool rc, .int .i64 rn, .bool jb], .slice A1 l.length c1] W fun e w' => e = .returned (.bool (thinB ids l)) ∧ Lw w w' I Y X G :=
 (ripostelaw05_Thin.calls 20 A c ids rc rn jb A1 c1 l _ W (h.i _ hi) hc (h.y _ hy) hc1 (thin05_f ids rc rn jb l)).mono (by rintro e w' ⟨rfl, hb⟩; exact ⟨rfl, h.below hb⟩)
theorem Lw.copyA (h : Lw w W I Y X G) {A : Option Addr} {c : Nat} {ids : List S68} (rc : Bool) (rn : Int) (jb : Bool) (hi : (A, ids) ∈ I) (hc : ids.length ≤ c) (ht : ids.length ≤ 12 ∧ ∀ x ∈ ids, x.f0.length ≤ 8) :
  Calls Tryz.prog 16 #[.agg #[.slice A ids.length c, .bool rc, .int .i64 rn, .bool jb]] W fun e w' => ∃ B k, e = .returned (.agg #[.slice B ids.length k, .bool rc, .int .i64 rn, .bool jb]) ∧ ids.length ≤ k ∧ Lw w w' ((B, ids) :: I) Y X G :=
 (riposteref04_Copy.calls 20 A c ids rc rn jb _ _ _ _ W (h.i _ hi) hc (copy_f ids rc rn jb ht.1 ht.2)).mono (by
  rintro e w' ⟨v, rfl, hR, hb⟩
  obtain ⟨B, k, rfl, hk, hC⟩ := Kd.S_reads hR
  exact ⟨B, k, rfl, hk, (h.below hb).addi hC⟩)
theorem Lw.copyW (h : Lw w W I Y X G) {A1 : Option Addr} {c1 : Nat} {l : List Mv} (hy : (A1, l) ∈ Y) (hc1 : l.length ≤ c1) (hl : l.length ≤ 1000000) :
  Calls Tryz.prog 17 #[.slice A1 l.length c1] W fun e w' => ∃ B k, e = .returned (.slice B l.length k) ∧ l.length ≤ k ∧ Lw w w' I ((B, l) :: Y) X G :=
 (riposteref05_Copy.calls A1 c1 l l W (h.y _ hy) hc1 (copyW_f l hl)).mono (by
  rintro e w' ⟨v, rfl, hR, hb⟩
  obtain ⟨B, k, rfl, hk, hC⟩ := Kd.R_reads hR
  exact ⟨B, k, rfl, hk, (h.below hb).addy hC⟩)
theorem Lw.sameI (h : Lw w W I Y X G) {A B : Option Addr} {c k : Nat} {xs : List Int} (h1 : (A, xs) ∈ X) (h2 : (B, xs) ∈ X) (hc : xs.length ≤ c) (hk : xs.length ≤ k) (hl : xs.length ≤ 1000000) :
  Calls Tryz.prog 29 #[.slice A xs.length c, .slice B xs.length k] W fun e w' => e = .returned (.bool true) ∧ Lw w w' I Y X G :=
 (riposteref05_SameInts.calls (xs.length + 1) A c xs B k xs true W (h.x _ h1) hc (h.x _ h2) hk (sameInts_f _ xs hl (by omega))).mono (by
  rintro e w' ⟨rfl, hd⟩
  obtain ⟨n, rfl⟩ := hd.out
  exact ⟨rfl, h.below (pw_below_drewN (Below.refl _ _) n)⟩)
end
end Go.Proofs.YtjgocihflhljeaaGreat.P
namespace Go.Proofs.YtjgocihflhljeaaGreat.P
open Go.RowKit Go.Shelf Go.Proofs.YtjgocihflhljeaaGreatW.PrintWords Go.Proofs.YtjgocihflhljeaaGreatW.PrintLast Go.Proofs.YtjgocihflhljeaaGreatW.PrintMore
attribute [local go_sem] Oper.semAt_some
theorem Lw.start {w : World} {A A1 : Option Addr} {ids : List S68} {l : List Mv} (hr : Kd.C k68 w A ids.length ids) (hr1 : Kd.C k52 w A1 l.length l) : Lw w w [(A, ids)] [(A1, l)] [] [] := by
 refine ⟨Below.refl _ _, ?_, ?_, ?_, ?_⟩ <;> intro p hp
 ·rw [List.mem_singleton] at hp
  subst hp
  exact hr
 ·rw [List.mem_singleton] at hp
  subst hp
  exact hr1
 ·cases hp
 cases hp
theorem okL_len {α : Type} (k : Int) (xs : List α) : (okL k xs).length ≤ xs.length := by
 unfold okL
 split
 ·exact Nat.le_refl _
 exact Nat.zero_le _
theorem talk_word (ids : List S68) (rc : Bool) (rn : Int) (jb : Bool) (l : List Mv) : (talkL ids rc rn jb l).word.length ≤ l.length := by
 have := walkL_len ids rc rn jb l Tk.empty
 have e0 : Tk.empty.word.length = 0 := rfl
 show (walkL ids rc rn jb Tk.empty l).word.length ≤ l.length
 omega
end Go.Proofs.YtjgocihflhljeaaGreat.P
namespace Go.Proofs.YtjgocihflhljeaaGreat.P
open Go.RowKit Go.Shelf Go.Proofs.YtjgocihflhljeaaGreatW.PrintWords Go.Proofs.YtjgocihflhljeaaGreatW.PrintLast Go.Proofs.YtjgocihflhljeaaGreatW.PrintMore
section
variable {w W W' : World} {I : List (Option Addr × List S68)} {Y : List (Option Addr × List Mv)} {X : List (Option Addr × List Int)} {G : List (Nat × Array Value × TypeId)}
theorem Lw.popi {p : Option Addr × List S68} (h : Lw w W (p :: I) Y X G) : Lw w W I Y X G := ⟨h.b, fun q hq => h.i q (List.mem_cons_of_mem _ hq), h.y, h.x, h.g⟩
theorem Lw.popy {p : Option Addr × List Mv} (h : Lw w W I (p :: Y) X G) : Lw w W I Y X G := ⟨h.b, h.i, fun q hq => h.y q (List.mem_cons_of_mem _ hq), h.x, h.g⟩
variable (h : Lw w W I Y X G) {A A1 : Option Addr} {c c1 : Nat} {ids : List S68} {l : List Mv} (rc : Bool) (rn : Int) (jb : Bool) (hi : (A, ids) ∈ I) (hy : (A1, l) ∈ Y) (hl : l.length ≤ 1000000)
include h hi hy hl
theorem Lw.partners : Calls Tryz.prog 42 #[.agg #[.slice A ids.length c, .bool rc, .int .i64 rn, .bool jb], .slice A1 l.length c1] W fun e w' => ∃ B k, e = .returned (.tuple #[.slice B (okL (tellE ids rc rn jb l) (talkL ids rc rn jb l).part).length k, .int .i64 (tellE ids rc rn jb l)]) ∧ (okL (tellE ids rc rn jb l) (talkL ids rc rn jb l).part).length ≤ k ∧ Lw w w' I Y ((B, okL (tellE ids rc rn jb l) (talkL ids rc rn jb l).part) :: X) G :=
 (pPartners_any A c ids rc rn jb A1 c1 l W (h.i _ hi) (h.y _ hy) hl).mono (by
  rintro e w' ⟨r, rfl, hR, hb⟩
  obtain ⟨B, k, rfl, hk, hC⟩ := Kd.R_reads hR
  exact ⟨B, k, rfl, hk, (h.below hb).addx hC⟩)
theorem Lw.justifiers : Calls Tryz.prog 40 #[.agg #[.slice A ids.length c, .bool rc, .int .i64 rn, .bool jb], .slice A1 l.length c1] W fun e w' => ∃ B k, e = .returned (.tuple #[.slice B (okL (tellE ids rc rn jb l) (talkL ids rc rn jb l).just).length k, .int .i64 (tellE ids rc rn jb l)]) ∧ (okL (tellE ids rc rn jb l) (talkL ids rc rn jb l).just).length ≤ k ∧ Lw w w' I Y ((B, okL (tellE ids rc rn jb l) (talkL ids rc rn jb l).just) :: X) G :=
 (pJustifiers_any A c ids rc rn jb A1 c1 l W (h.i _ hi) (h.y _ hy) hl).mono (by
  rintro e w' ⟨r, rfl, hR, hb⟩
  obtain ⟨B, k, rfl, hk, hC⟩ := Kd.R_reads hR
  exact ⟨B, k, rfl, hk, (h.below hb).addx hC⟩)
theorem Lw.rpartners (hc : ids.length ≤ c) : Calls Tryz.prog 44 #[.agg #[.slice A ids.length c, .bool rc, .int .i64 rn, .bool jb], .slice A1 l.length c1] W fun e w' => ∃ B k, e = .returned (.tuple #[.slice B (okL (tellE ids rc rn jb l) (talkL ids rc rn jb l).part).length k, .int .i64 (tellE ids rc rn jb l)]) ∧ (okL (tellE ids rc rn jb l) (talkL ids rc rn jb l).part).length ≤ k ∧ Lw w w' I Y ((B, okL (tellE ids rc rn jb l) (talkL ids rc rn jb l).part) :: X) G :=
 (rPartners_any A c ids rc rn jb A1 c1 l W (h.i _ hi) hc (h.y _ hy) hl).mono (by
  rintro e w' ⟨r, rfl, hR, hb⟩
  obtain ⟨B, k, rfl, hk, hC⟩ := Kd.R_reads hR
  exact ⟨B, k, rfl, hk, (h.below hb).addx hC⟩)
theorem Lw.rjustifiers (hc : ids.length ≤ c) : Calls Tryz.prog 45 #[.agg #[.slice A ids.length c, .bool rc, .int .i64 rn, .bool jb], .slice A1 l.length c1] W fun e w' => ∃ B k, e = .returned (.tuple #[.slice B (okL (tellE ids rc rn jb l) (talkL ids rc rn jb l).just).length k, .int .i64 (tellE ids rc rn jb l)]) ∧ (okL (tellE ids rc rn jb l) (talkL ids rc rn jb l).just).length ≤ k ∧ Lw w w' I Y ((B, okL (tellE ids rc rn jb l) (talkL ids rc rn jb l).just) :: X) G :=
 (rJustifiers_any A c ids rc rn jb A1 c1 l W (h.i _ hi) hc (h.y _ hy) hl).mono (by
  rintro e w' ⟨r, rfl, hR, hb⟩
  obtain ⟨B, k, rfl, hk, hC⟩ := Kd.R_reads hR
  exact ⟨B, k, rfl, hk, (h.below hb).addx hC⟩)
theorem Lw.depth : Calls Tryz.prog 43 #[.agg #[.slice A ids.length c, .bool rc, .int .i64 rn, .bool jb], .slice A1 l.length c1] W fun e w' => e = .returned (.tuple #[.int .i64 (okN (tellE ids rc rn jb l) (talkL ids rc rn jb l).deep), .int .i64 (tellE ids rc rn jb l)]) ∧ Lw w w' I Y X G :=
 (pDepth_any A c ids rc rn jb A1 c1 l W (h.i _ hi) (h.y _ hy) hl).mono (by
  rintro e w' ⟨r, rfl, rfl, hb⟩
  exact ⟨rfl, h.below hb⟩)
theorem Lw.rdepth (hc : ids.length ≤ c) : Calls Tryz.prog 46 #[.agg #[.slice A ids.length c, .bool rc, .int .i64 rn, .bool jb], .slice A1 l.length c1] W fun e w' => e = .returned (.tuple #[.int .i64 (okN (tellE ids rc rn jb l) (talkL ids rc rn jb l).deep), .int .i64 (tellE ids rc rn jb l)]) ∧ Lw w w' I Y X G :=
 (rDepth_any A c ids rc rn jb A1 c1 l W (h.i _ hi) hc (h.y _ hy) hl).mono (by
  rintro e w' ⟨r, rfl, rfl, hb⟩
  exact ⟨rfl, h.below hb⟩)
end
theorem talk_part (ids : List S68) (rc : Bool) (rn : Int) (jb : Bool) (l : List Mv) (hl : l.length ≤ 405) : (okL (tellE ids rc rn jb l) (talkL ids rc rn jb l).part).length ≤ 1000000 ∧ (okL (tellE ids rc rn jb l) (talkL ids rc rn jb l).just).length ≤ 1000000 := by
 have h0 := okL_len (tellE ids rc rn jb l) (talkL ids rc rn jb l).part
 have h1 := okL_len (tellE ids rc rn jb l) (talkL ids rc rn jb l).just
 have h2 := (talk_legal ids rc rn jb l (by omega)).ok.hp
 have h4 := (talk_legal ids rc rn jb l (by omega)).ok.hj
 have h3 := talk_word ids rc rn jb l
 omega
end Go.Proofs.YtjgocihflhljeaaGreat.P
namespace Go.Proofs.YtjgocihflhljeaaGreat.P
open Go.RowKit Go.Shelf Go.Proofs.YtjgocihflhljeaaGreatW.PrintWords Go.Proofs.YtjgocihflhljeaaGreatW.PrintLast Go.Proofs.YtjgocihflhljeaaGreatW.PrintMore
attribute [local go_sem] Oper.semAt_some
set_option maxRecDepth 8000 in
set_option maxHeartbeats 4000000 in
theorem playPairs_any (A : Option Addr) (c : Nat) (ids : List S68) (rc : Bool) (rn : Int) (jb : Bool) (A1 : Option Addr) (c1 : Nat) (l : List Mv) (w : World) (hr : Kd.C k68 w A ids.length ids) (hlc : ids.length ≤ c) (hr1 : Kd.C k52 w A1 l.length l) (hlc1 : l.length ≤ c1) :
  Calls Tryz.prog 11 #[.agg #[.slice A ids.length c, .bool rc, .int .i64 rn, .bool jb], .slice A1 l.length c1] w fun e w' => e = .returned (.bool true) ∧ Below w.heap.size w w' := by
 have h0 := Lw.start hr hr1
 have H0 := Aside0.mk (h0.new #[.slice A ids.length c, .bool rc, .int .i64 rn, .bool jb] 26)
 clear h0 hr hr1
 cases ht : thinB ids l with
 | false =>
  have HT := Aside0.mk ht
  clear ht
  go_enter Tryz.func11, Tryz.ntmps11
  go_wp2_with (first
   | (go_at_call 14; refine (H0.out.thin rc rn jb (List.Mem.head _) (List.Mem.head _) hlc hlc1).mono ?_; rw [HT.out]; rintro e w1 ⟨rfl, h1⟩; have H1 := Aside0.mk h1; clear h1)
   | (go_at_call 15; refine H1.out.awake.mono ?_; rintro e w2 ⟨rfl, h2⟩))
  go_ret
  exact ⟨rfl, h2.b⟩
 | true =>
  have HT := Aside0.mk ht
  have hth := thinB_ids ht
  have ht8 := Aside0.mk (And.intro hth.1 hth.2.1)
  have hl := hth.2.2
  have hl6 : l.length ≤ 1000000 := by omega
  have HLP := Aside0.mk (talk_part ids rc rn jb l hl)
  clear ht hth
  go_enter Tryz.func11, Tryz.ntmps11
  go_upto_region 3 with (go_at_call 14; refine (H0.out.thin rc rn jb (List.Mem.head _) (List.Mem.head _) hlc hlc1).mono ?_; rw [HT.out]; rintro e w1 ⟨rfl, h1⟩; have H1 := Aside0.mk h1; clear h1; have hg1 : w.heap.size < w1.heap.size := blk_lt (H1.out.g _ (List.Mem.head _)); have a0 : w1.cell? ⟨w.heap.size, 0, none⟩ = some (.slice A ids.length c) := H1.out.cell List.mem_cons_self 0 rfl; have a1 : w1.cell? ⟨w.heap.size, 1, none⟩ = some (.bool rc) := H1.out.cell List.mem_cons_self 1 rfl; have a2 : w1.cell? ⟨w.heap.size, 2, none⟩ = some (.int .i64 rn) := H1.out.cell List.mem_cons_self 2 rfl; have a3 : w1.cell? ⟨w.heap.size, 3, none⟩ = some (.bool jb) := H1.out.cell List.mem_cons_self 3 rfl)
  have hg00 := hg1
  go_upto_region 4 with (first
   | (go_at_call 16; refine (H1.out.copyA rc rn jb List.mem_cons_self hlc ht8.out).mono ?_; rintro e wpa ⟨Ep, kbp, rfl, hkbp, hpa⟩; have Hpa := Aside0.mk hpa; clear hpa)
   | (go_at_call 17; refine (Hpa.out.copyW List.mem_cons_self hlc1 hl6).mono ?_; rintro e wpb ⟨Cp, kcp, rfl, hkcp, hpb⟩; have Hpb := Aside0.mk hpb; clear hpb)
   | (go_at_call 42; refine (Hpb.out.partners rc rn jb List.mem_cons_self List.mem_cons_self hl6).mono ?_; rintro e wp ⟨Bp, kp, rfl, hkp, hp⟩; have Hp := Aside0.mk hp.popi.popy; clear hp Hpa Hpb))
  clear a0 a1 a2 a3 hg1 H0
  have hgp : w.heap.size < wp.heap.size := blk_lt (Hp.out.g _ List.mem_cons_self)
  have a0 : wp.cell? ⟨w.heap.size, 0, none⟩ = some (.slice A ids.length c) := Hp.out.cell List.mem_cons_self 0 rfl; have a1 : wp.cell? ⟨w.heap.size, 1, none⟩ = some (.bool rc) := Hp.out.cell List.mem_cons_self 1 rfl; have a2 : wp.cell? ⟨w.heap.size, 2, none⟩ = some (.int .i64 rn) := Hp.out.cell List.mem_cons_self 2 rfl; have a3 : wp.cell? ⟨w.heap.size, 3, none⟩ = some (.bool jb) := Hp.out.cell List.mem_cons_self 3 rfl
  go_upto_region 5 with (first
   | (go_at_call 16; refine (Hp.out.copyA rc rn jb List.mem_cons_self hlc ht8.out).mono ?_; rintro e wja ⟨Ej, kbj, rfl, hkbj, hja⟩; have Hja := Aside0.mk hja; clear hja)
   | (go_at_call 17; refine (Hja.out.copyW List.mem_cons_self hlc1 hl6).mono ?_; rintro e wjb ⟨Cj, kcj, rfl, hkcj, hjb⟩; have Hjb := Aside0.mk hjb; clear hjb)
   | (go_at_call 40; refine (Hjb.out.justifiers rc rn jb List.mem_cons_self List.mem_cons_self hl6).mono ?_; rintro e wj ⟨Bj, kj, rfl, hkj, hj⟩; have Hj := Aside0.mk hj.popi.popy; clear hj Hja Hjb))
  clear a0 a1 a2 a3 hgp H1
  have hgj : w.heap.size < wj.heap.size := blk_lt (Hj.out.g _ List.mem_cons_self)
  have a0 : wj.cell? ⟨w.heap.size, 0, none⟩ = some (.slice A ids.length c) := Hj.out.cell List.mem_cons_self 0 rfl; have a1 : wj.cell? ⟨w.heap.size, 1, none⟩ = some (.bool rc) := Hj.out.cell List.mem_cons_self 1 rfl; have a2 : wj.cell? ⟨w.heap.size, 2, none⟩ = some (.int .i64 rn) := Hj.out.cell List.mem_cons_self 2 rfl; have a3 : wj.cell? ⟨w.heap.size, 3, none⟩ = some (.bool jb) := Hj.out.cell List.mem_cons_self 3 rfl
  go_upto_region 6 with (first
   | (go_at_call 16; refine (Hj.out.copyA rc rn jb List.mem_cons_self hlc ht8.out).mono ?_; rintro e wda ⟨Ed, kbd, rfl, hkbd, hda⟩; have Hda := Aside0.mk hda; clear hda)
   | (go_at_call 17; refine (Hda.out.copyW List.mem_cons_self hlc1 hl6).mono ?_; rintro e wdb ⟨Cd, kcd, rfl, hkcd, hdb⟩; have Hdb := Aside0.mk hdb; clear hdb)
   | (go_at_call 43; refine (Hdb.out.depth rc rn jb List.mem_cons_self List.mem_cons_self hl6).mono ?_; rintro e wd ⟨rfl, hd⟩; have Hd := Aside0.mk hd.popi.popy; clear hd Hda Hdb))
  clear a0 a1 a2 a3 hgj Hp
  have hgd : w.heap.size < wd.heap.size := blk_lt (Hd.out.g _ List.mem_cons_self)
  have a0 : wd.cell? ⟨w.heap.size, 0, none⟩ = some (.slice A ids.length c) := Hd.out.cell List.mem_cons_self 0 rfl; have a1 : wd.cell? ⟨w.heap.size, 1, none⟩ = some (.bool rc) := Hd.out.cell List.mem_cons_self 1 rfl; have a2 : wd.cell? ⟨w.heap.size, 2, none⟩ = some (.int .i64 rn) := Hd.out.cell List.mem_cons_self 2 rfl; have a3 : wd.cell? ⟨w.heap.size, 3, none⟩ = some (.bool jb) := Hd.out.cell List.mem_cons_self 3 rfl
  go_upto_region 7 with (go_at_call 44; refine (Hd.out.rpartners rc rn jb List.mem_cons_self List.mem_cons_self hl6 hlc).mono ?_; rintro e wq ⟨Bq, kq, rfl, hkq, hq⟩; have Hq := Aside0.mk hq; clear hq)
  clear a0 a1 a2 a3 hgd Hj
  have hgq : w.heap.size < wq.heap.size := blk_lt (Hq.out.g _ List.mem_cons_self)
  have a0 : wq.cell? ⟨w.heap.size, 0, none⟩ = some (.slice A ids.length c) := Hq.out.cell List.mem_cons_self 0 rfl; have a1 : wq.cell? ⟨w.heap.size, 1, none⟩ = some (.bool rc) := Hq.out.cell List.mem_cons_self 1 rfl; have a2 : wq.cell? ⟨w.heap.size, 2, none⟩ = some (.int .i64 rn) := Hq.out.cell List.mem_cons_self 2 rfl; have a3 : wq.cell? ⟨w.heap.size, 3, none⟩ = some (.bool jb) := Hq.out.cell List.mem_cons_self 3 rfl
  go_upto_region 8 with (go_at_call 45; refine (Hq.out.rjustifiers rc rn jb List.mem_cons_self List.mem_cons_self hl6 hlc).mono ?_; rintro e wr ⟨Br, kr, rfl, hkr, hr⟩; have Hr := Aside0.mk hr; clear hr)
  clear a0 a1 a2 a3 hgq Hd
  have hgr : w.heap.size < wr.heap.size := blk_lt (Hr.out.g _ List.mem_cons_self)
  have a0 : wr.cell? ⟨w.heap.size, 0, none⟩ = some (.slice A ids.length c) := Hr.out.cell List.mem_cons_self 0 rfl; have a1 : wr.cell? ⟨w.heap.size, 1, none⟩ = some (.bool rc) := Hr.out.cell List.mem_cons_self 1 rfl; have a2 : wr.cell? ⟨w.heap.size, 2, none⟩ = some (.int .i64 rn) := Hr.out.cell List.mem_cons_self 2 rfl; have a3 : wr.cell? ⟨w.heap.size, 3, none⟩ = some (.bool jb) := Hr.out.cell List.mem_cons_self 3 rfl
  go_upto_region 9 with (go_at_call 46; refine (Hr.out.rdepth rc rn jb List.mem_cons_self List.mem_cons_self hl6 hlc).mono ?_; rintro e ws ⟨rfl, hs⟩; have Hs := Aside0.mk hs; clear hs)
  clear a0 a1 a2 a3 hgr Hq
  have hgs : w.heap.size < ws.heap.size := blk_lt (Hs.out.g _ List.mem_cons_self)
  have a0 : ws.cell? ⟨w.heap.size, 0, none⟩ = some (.slice A ids.length c) := Hs.out.cell List.mem_cons_self 0 rfl; have a1 : ws.cell? ⟨w.heap.size, 1, none⟩ = some (.bool rc) := Hs.out.cell List.mem_cons_self 1 rfl; have a2 : ws.cell? ⟨w.heap.size, 2, none⟩ = some (.int .i64 rn) := Hs.out.cell List.mem_cons_self 2 rfl; have a3 : ws.cell? ⟨w.heap.size, 3, none⟩ = some (.bool jb) := Hs.out.cell List.mem_cons_self 3 rfl
  clear a0 a1 a2 a3
  go_wp2_with fail
  have hs := Hs.out.sameI (List.mem_cons_of_mem _ (List.mem_cons_of_mem _ (List.mem_cons_of_mem _ List.mem_cons_self))) (List.mem_cons_of_mem _ List.mem_cons_self) hkp hkq HLP.out.1
  with_reducible refine hs.mono ?_
  clear hs
  rintro e w8 ⟨rfl, h8⟩
  have H8 := Aside0.mk h8
  clear h8
  go_wp2_with fail
  have hs := H8.out.sameI (List.mem_cons_of_mem _ (List.mem_cons_of_mem _ List.mem_cons_self)) List.mem_cons_self hkj hkr HLP.out.2
  with_reducible refine hs.mono ?_
  clear hs
  rintro e w9 ⟨rfl, h9⟩
  have H9 := Aside0.mk h9
  clear h9
  go_wp2_with fail
  with_reducible refine H9.out.awake.mono ?_
  rintro e w11 ⟨rfl, h11⟩
  go_wp2_with fail
  go_ret
  exact ⟨rfl, h11.b⟩
end Go.Proofs.YtjgocihflhljeaaGreat.P
namespace Go.Proofs.YtjgocihflhljeaaGreat.P
open Go Go.RowKit Go.ChangeShapes Go.WideShapes Go.Proofs.YtjgocihflhljeaaGreatW.PrintWords Go.Proofs.YtjgocihflhljeaaGreatW.PrintLast Go.Proofs.YtjgocihflhljeaaGreatW.PrintMore
set_option maxRecDepth 100000
section
variable {H : Type} {enc : TypeId × Value → H} {W : World} {base : Nat} {sp : Nat → Bool} {held : Bool} {fuel : Nat} {cs : List Value} {x : DataW H × List MemPlace}
theorem opens_slice {α : Type} (d : Kd α) {t e : TypeId} (ht : Tryz.prog.underlying t = some (.slice e)) (hsz : Tryz.prog.cellsOf e = d.sz)
  (he : ∀ (n : Nat) (c : List Value) (y : DataW H × List MemPlace), DataW.trod enc Tryz.prog W base sp held n e c = some y → ∃ a, d.K W a c)
  (h : DataW.trod enc Tryz.prog W base sp held fuel t cs = some x) : ∃ A c xs, cs = [.slice A xs.length c] ∧ xs.length ≤ c ∧ d.C W A xs.length xs := by
 rcases Go.Deep.open_slice ht h with ⟨rfl, _⟩ | ⟨a, len, cap, m, n, D, Pl, rfl, hb, hl, hm, hmm, _, hx⟩
 ·exact ⟨none, 0, [], rfl, Nat.le_refl _, rfl, by simp, fun h => absurd h (by simp)⟩
 have hlm : len ≤ m := by rw [hmm]; split <;> omega
 have hex : ∀ i, i < len → ∃ p : α × List Value, W.cells? base (a.add (i * Tryz.prog.cellsOf e)) (Tryz.prog.cellsOf e) = some p.2 ∧ d.K W p.1 p.2 := fun i hi => by
  obtain ⟨c, h1, h2⟩ := hx i (by omega)
  obtain ⟨p, hp⟩ := he _ _ _ h2
  exact ⟨(p, c), h1, hp⟩
 rcases Nat.eq_zero_or_pos len with rfl | hpos
 ·exact ⟨some a, cap, [], rfl, Nat.zero_le _, rfl, by simp, fun h => absurd h (by simp)⟩
 have : Inhabited (α × List Value) := ⟨Classical.choose (hex 0 hpos)⟩
 obtain ⟨V, hV⟩ := Go.Deep.choose_lt hex
 have hlen : ((List.range len).map fun i => (V i).1).length = len := by simp
 refine ⟨some a, cap, (List.range len).map fun i => (V i).1, by rw [hlen], by rw [hlen]; exact hl, rfl, by rw [hlen]; simp only [maxLen] at hm; omega, fun _ => ⟨a, rfl, ?_⟩⟩
 intro j p hj
 obtain ⟨hjl, rfl⟩ := List.getElem?_eq_some_iff.1 hj
 rw [hlen] at hjl
 obtain ⟨h1, h2⟩ := hV j hjl
 rw [hsz] at h1
 obtain ⟨_, h3, h4⟩ := World.cells?_some h1
 refine ⟨(V j).2, h3, by simpa using h2, fun i u hu => ?_⟩
 have hi : i < d.sz := by rw [← h3]; exact (List.getElem?_eq_some_iff.1 hu).1
 have h5 := h4 i hi
 rw [Go.Deep.add_add] at h5
 rw [h5, hu]
theorem cells3 : Tryz.prog.cellsOf 3 = 1 := by kernel_rfl
theorem cells4 : Tryz.prog.cellsOf 4 = 1 := by kernel_rfl
theorem cells5 : Tryz.prog.cellsOf 5 = 1 := by kernel_rfl
theorem cells22 : Tryz.prog.cellsOf 22 = 1 := by kernel_rfl
theorem cells66 : Tryz.prog.cellsOf 66 = 1 := by kernel_rfl
theorem cellsB : Tryz.prog.cellsOf 24 = 2 := by kernel_rfl
theorem cellsT : Tryz.prog.cellsOf 68 = 3 := by kernel_rfl
theorem cellsM : Tryz.prog.cellsOf 52 = 4 := by kernel_rfl
theorem cellsA : Tryz.prog.cellsOf 26 = 4 := by kernel_rfl
theorem opens24 (h : DataW.trod enc Tryz.prog W base sp held fuel 24 cs = some x) : ∃ a : S24, cs = [.bool a.f0, .int .i64 a.f1] := by
 obtain ⟨y0, y1, n, _, hl, h0, h1⟩ := trod_struct2 Tryz.underlying24 h
 rw [cellsB] at hl
 match cs, hl with
 | [a, b], _ =>
  simp only [cells3, cells4, cells5, cells22, cells66, cellsB, List.drop_zero, List.drop_succ_cons, List.take_succ_cons, List.take_zero] at h0 h1
  have ha : DataW.trod enc Tryz.prog W base sp held n 4 [a] = some y0 := h0
  have hb : DataW.trod enc Tryz.prog W base sp held n 3 [b] = some y1 := h1
  obtain ⟨b0, e0, _⟩ := DataW.trod_bool Tryz.underlying4 ha
  obtain ⟨b1, e1, _⟩ := DataW.trod_int Tryz.underlying3 hb
  cases e0
  cases e1
  exact ⟨⟨b0, b1⟩, rfl⟩
theorem opens68 (h : DataW.trod enc Tryz.prog W base sp held fuel 68 cs = some x) : ∃ a : S68, k68.K W a cs := by
 obtain ⟨y0, y1, n, _, hl, h0, h1⟩ := trod_struct2 Tryz.underlying68 h
 rw [cellsT] at hl
 match cs, hl with
 | [a, b, c], _ =>
  simp only [cells3, cells4, cells5, cells22, cells66, cellsB, List.drop_zero, List.drop_succ_cons, List.take_succ_cons, List.take_zero] at h0 h1
  have ha : DataW.trod enc Tryz.prog W base sp held n 66 [a] = some y0 := h0
  have hb : DataW.trod enc Tryz.prog W base sp held n 24 [b, c] = some y1 := h1
  obtain ⟨A, cp, xs, e0, hle, hC⟩ := opens_slice k24 Tryz.underlying66 (cellsB) (fun n c y hy => by obtain ⟨p, rfl⟩ := opens24 hy; exact ⟨p, k24_mk W p⟩) ha
  obtain ⟨p, e1⟩ := opens24 hb
  cases e0
  cases e1
  exact ⟨⟨xs, p⟩, k68_mk W ⟨xs, p⟩ hle hC⟩
theorem opens52 (h : DataW.trod enc Tryz.prog W base sp held fuel 52 cs = some x) : ∃ a : S52, k52.K W a cs := by
 obtain ⟨y0, y1, y2, y3, n, _, hl, h0, h1, h2, h3⟩ := Go.Joins.trod_struct4 Tryz.underlying52 h
 rw [cellsM] at hl
 match cs, hl with
 | [a, b, c, d], _ =>
  simp only [cells3, cells4, cells5, cells22, cells66, cellsB, List.drop_zero, List.drop_succ_cons, List.take_succ_cons, List.take_zero] at h0 h1 h2 h3
  have ha : DataW.trod enc Tryz.prog W base sp held n 3 [a] = some y0 := h0
  have hb : DataW.trod enc Tryz.prog W base sp held n 3 [b] = some y1 := h1
  have hd : DataW.trod enc Tryz.prog W base sp held n 5 [c] = some y2 := h2
  have he : DataW.trod enc Tryz.prog W base sp held n 3 [d] = some y3 := h3
  obtain ⟨b0, e0, _⟩ := DataW.trod_int Tryz.underlying3 ha
  obtain ⟨b1, e1, _⟩ := DataW.trod_int Tryz.underlying3 hb
  obtain ⟨b2, e2, _⟩ := DataW.trod_int Tryz.underlying5 hd
  obtain ⟨b3, e3, _⟩ := DataW.trod_int Tryz.underlying3 he
  cases e0
  cases e1
  cases e2
  cases e3
  exact ⟨⟨b0, b1, b2, b3⟩, k52_mk W _⟩
theorem opens_arena {r : Reach} {b0 : Nat} {v : Value} {d : DataW H} {p : List MemPlace} (hv : Value.okWide Tryz.prog W r b0 26 v) (h : DataW.Trod enc Tryz.prog W base sp held 26 v d p) :
  ∃ A c ids rc rn jb, v = .agg #[.slice A ids.length c, .bool rc, .int .i64 rn, .bool jb] ∧ ids.length ≤ c ∧ k68.C W A ids.length ids := by
 obtain ⟨cs, rfl, hsz⟩ := okWide_struct Tryz.underlying26 hv
 obtain ⟨fuel, hf⟩ := h
 obtain ⟨y0, y1, y2, n, _, hl, h0, h1, h2⟩ := Go.Deep.trod_struct3 Tryz.underlying26 hf
 rw [cellsA] at hl
 have e : (Value.agg cs).cells.toList = cs.toList := rfl
 rw [e] at hl h0 h1 h2
 obtain ⟨l⟩ := cs
 match l, hl with
 | [a, b, c, g], _ =>
  simp only [cells3, cells4, cells5, cells22, cells66, cellsB, List.drop_zero, List.drop_succ_cons, List.take_succ_cons, List.take_zero] at h0 h1 h2
  have ha : DataW.trod enc Tryz.prog W base sp held n 22 [a] = some y0 := h0
  have hb : DataW.trod enc Tryz.prog W base sp held n 24 [b, c] = some y1 := h1
  have hg : DataW.trod enc Tryz.prog W base sp held n 4 [g] = some y2 := h2
  obtain ⟨A, cp, xs, e0, hle, hC⟩ := opens_slice k68 Tryz.underlying22 cellsT (fun n c y hy => opens68 hy) ha
  obtain ⟨p, e1⟩ := opens24 hb
  obtain ⟨b0, e2, _⟩ := DataW.trod_bool Tryz.underlying4 hg
  cases e0
  cases e1
  cases e2
  exact ⟨A, cp, xs, p.f0, p.f1, b0, rfl, hle, hC⟩
theorem opens_word {r : Reach} {b0 : Nat} {v : Value} {d : DataW H} {p : List MemPlace} (hv : Value.okWide Tryz.prog W r b0 28 v) (h : DataW.Trod enc Tryz.prog W base sp held 28 v d p) :
  ∃ A c l, v = .slice A l.length c ∧ l.length ≤ c ∧ k52.C W A l.length l := by
 obtain ⟨a, n, c, rfl⟩ := okWide_slice Tryz.underlying28 hv
 obtain ⟨fuel, hf⟩ := h
 obtain ⟨A, cp, xs, e0, hle, hC⟩ := opens_slice k52 Tryz.underlying28 cellsM (fun n c y hy => opens52 hy) hf
 have e : (Value.slice a n c).cells.toList = [.slice a n c] := rfl
 rw [e] at e0
 cases e0
 exact ⟨_, _, xs, rfl, hle, hC⟩
end
end Go.Proofs.YtjgocihflhljeaaGreat.P
