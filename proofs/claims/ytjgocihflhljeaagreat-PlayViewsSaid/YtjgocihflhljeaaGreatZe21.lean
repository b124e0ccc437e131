/- What the claim's law needs, many texts in one (Uh Vd Ui Uj Uk Db Dc Dd Ve Ul Vf Um Dh Dq Ra). No conditions of its own. -/
import Derived.Test.YtjgocihflhljeaaGreatZe18
import Derived.Test.YtjgocihflhljeaaGreatZe20
import Derived.Test.YtjgocihflhljeaaGreatZe12
import Derived.Test.YtjgocihflhljeaaGreatZe9
import Derived.Test.YtjgocihflhljeaaGreatZe14
import Derived.Test.YtjgocihflhljeaaGreatZe10
import Derived.Test.YtjgocihflhljeaaGreatZe17
import Derived.Test.YtjgocihflhljeaaGreatZe2
import Derived.Deep.Slices
import Derived.Lib.SmallJoins
import Derived.OpenShut
import Derived.ChangeOld
import Derived.WideShapes
import Derived.ProofKit
set_option linter.unusedVariables false
set_option linter.unusedSimpArgs false
namespace Go.Proofs.YtjgocihflhljeaaGreat.P
open Go.RowKit Go.Shelf Go.Proofs.YtjgocihflhljeaaGreatW.PrintWords Go.Proofs.YtjgocihflhljeaaGreatW.PrintLast Go.Proofs.YtjgocihflhljeaaGreatW.PrintMore
attribute [local go_sem] Oper.semAt_some
structure Takes (t : Tk) (m : Mv) : Prop where
 i : 0 ≤ m.f0 ∧ 0 ≤ m.f1 ∧ (m.f0 = 0 → m.f1 = 0)
 k : askB m = !isAns m
 o : isAns m = true → t.opn ≠ []
 p : isAns m = false → 0 < m.f1 → t.opn ≠ []
theorem rTakeZ_any {base : Nat} {w : World} {g : Nat} {A : Option Addr} {c : Nat} {ids : List S68} {rc : Bool} {rn : Int} {jb : Bool} {t : Tk} {vw vo vp vj : Value} (h : Wlk base w g A c ids rc rn jb t vw vo vp vj) (hL : t.Legal ids rc rn jb) (m : Mv) (hm : Takes t m) (hw : t.word.length < 1048576) :
  Calls Tryz.prog 85 #[.pointer (some ⟨g, 0, none⟩), .agg #[.int .i64 m.f0, .int .i64 m.f1, .int .u8 m.f2, .int .i64 m.f3]] w fun e w' => e = .returned (.tuple #[]) ∧ SK base 86 w w' ∧ (∀ bz cs, Boxy w g bz → w.heap[bz]? = some (.cells cs 52 (0, 0)) → w'.heap[bz]? = some (.cells cs 52 (0, 0))) ∧ ∃ vw vo vp vj, Wlk base w' g A c ids rc rn jb (t.say m) vw vo vp vj := by
 have hk := hm.k
 cases ha : isAns m with
 | true =>
  rw [ha] at hk
  exact take_ans h m hw hk ha (hm.o ha) hL.fo.symm hL.dp
 | false =>
  rw [ha] at hk
  refine take_ask h m hw hk ha (hm.p ha) ?_
  have hi := hm.i
  unfold Tk.justOf isIdent isPar
  rw [ha]
  by_cases h1 : 0 < m.f1
  ·have h0 : 0 < m.f0 := by have := hi.2.2; omega
   have h2 : (m.f1 == 0) = false := by simp; omega
   simp [h1, h0, h2]
  have h2 : m.f1 = 0 := by omega
  by_cases h0 : 0 < m.f0
  ·simp [h1, h0, h2]
  simp [h1, h0, h2]
theorem rTake_any {base : Nat} {w : World} {g : Nat} {A : Option Addr} {c : Nat} {ids : List S68} {rc : Bool} {rn : Int} {jb : Bool} {t : Tk} {vw vo vp vj : Value} (h : Wlk base w g A c ids rc rn jb t vw vo vp vj) (hL : t.Legal ids rc rn jb) (m : Mv) (hm : Takes t m) (hw : t.word.length < 1048576) :
  Calls Tryz.prog 85 #[.pointer (some ⟨g, 0, none⟩), .agg #[.int .i64 m.f0, .int .i64 m.f1, .int .u8 m.f2, .int .i64 m.f3]] w fun e w' => e = .returned (.tuple #[]) ∧ SK base 86 w w' ∧ ∃ vw vo vp vj, Wlk base w' g A c ids rc rn jb (t.say m) vw vo vp vj := by
 refine (rTakeZ_any h hL m hm hw).mono ?_
 rintro e w' ⟨h1, h2, _, h3⟩
 exact ⟨h1, h2, h3⟩
theorem may_takes {ids : List S68} {rc : Bool} {rn : Int} {jb : Bool} {t : Tk} {m : Mv} (hm : hasR ids rc rn jb m = true) (hc : t.can jb m = true) : Takes t m := by
 have hk := hasR_ok hm
 refine ⟨hk.i, ?_, Tk.can_ans hc, ?_⟩
 ·have h1 := hk.k
  unfold askB isAns
  rcases h1 with h | h | h <;> rw [h] <;> rfl
 intro ha h1 hn
 unfold Tk.can Tk.top at hc
 rw [hn] at hc
 simp only [List.getLast?_nil] at hc
 unfold atB at hc
 simp only [Bool.and_eq_true, beq_iff_eq] at hc
 omega
set_option maxHeartbeats 2000000 in
theorem rRun_any (A : Option Addr) (c : Nat) (ids : List S68) (rc : Bool) (rn : Int) (jb : Bool) (A1 : Option Addr) (c1 : Nat) (l : List Mv) (w : World) (hr : Kd.C k68 w A ids.length ids) (hlc : ids.length ≤ c) (hr1 : Kd.C k52 w A1 l.length l) (hl : l.length ≤ 1000000) (hok : checkE ids rn = 0) :
  Calls Tryz.prog 97 #[.agg #[.slice A ids.length c, .bool rc, .int .i64 rn, .bool jb], .slice A1 l.length c1] w fun e w' => e = .returned (.tuple #[.pointer (some ⟨w.heap.size + 1, 0, none⟩), .int .i64 (talkL ids rc rn jb l).word.length]) ∧ Below w.heap.size w w' ∧ ∃ vw vo vp vj, Wlk w.heap.size w' (w.heap.size + 1) A c ids rc rn jb (talkL ids rc rn jb l) vw vo vp vj := by
 have HRI := Aside0.mk hr
 have HR1 := Aside0.mk hr1
 clear hr hr1
 go_enter Tryz.func97, Tryz.ntmps97
 go_wp2
 have hT0 : Wlk w.heap.size ((w.alloc (.cells #[.slice A ids.length c, .bool rc, .int .i64 rn, .bool jb] 26)).alloc (.cells #[.slice A ids.length c, .bool rc, .int .i64 rn, .bool jb, .slice none 0 0, .slice none 0 0, .slice none 0 0, .slice none 0 0, .bool false, .int .i64 0] 86)) (w.heap.size + 1) A c ids rc rn jb Tk.empty (.slice none 0 0) (.slice none 0 0) (.slice none 0 0) (.slice none 0 0) :=
  ⟨(two w _ _).2, ⟨Kd.R_nil _ _ _ _ _, Kd.R_nil _ _ _ _ _, Kd.R_nil _ _ _ _ _, Kd.R_nil _ _ _ _ _, Kd.R_nil _ _ _ _ _, Ap.none _, Ap.none _, Ap.none _⟩, by omega, Tk.Ok.empty⟩
 go_loopg [7] l.length (fun gg s7 wr => ∃ (kk : Nat) (t : Tk), kk ≤ l.length ∧ l.length - kk ≤ gg ∧ s7 = .int .i64 kk ∧ t.word.length = kk ∧ Aside0 (walkL ids rc rn jb Tk.empty l = walkL ids rc rn jb t (l.drop kk)) ∧ Aside0 (Below w.heap.size w wr) ∧ w.heap.size ≤ wr.heap.size ∧ Aside0 (t.Legal ids rc rn jb) ∧ Aside0 (∃ vw vo vp vj, Wlk w.heap.size wr (w.heap.size + 1) A c ids rc rn jb t vw vo vp vj))
 case atStart => exact ⟨0, Tk.empty, Nat.zero_le _, by omega, rfl, rfl, ⟨rfl⟩, ⟨((Below.refl _ w).alloc (Nat.le_refl _) _).alloc (by simp) _⟩, by simp; omega, ⟨Tk.Legal.empty ids rc rn jb⟩, ⟨_, _, _, _, hT0⟩⟩
 case round =>
  obtain ⟨kk, t, hkk, hg, rfl, hwl, HE, BW, hsw, HL, HT⟩ := hrel
  clear hT0
  by_cases hlt : kk < l.length
  ·have hltz : (kk : Int) < (l.length : Int) := by omega
   obtain ⟨ad, e0, a0, a1, a2, a3⟩ := at_T52 HR1.out (kk : Int) (by omega) hltz
   cases e0
   rw [Int.toNat_natCast] at a0 a1 a2 a3
   have cb : decide ((kk : Int) < (l.length : Int)) = true := decide_eq_true hltz
   replace a0 := (BW.out.cell (World.block_lt_of_cell? w _ a0)).trans a0
   replace a1 := (BW.out.cell (World.block_lt_of_cell? w _ a1)).trans a1
   replace a2 := (BW.out.cell (World.block_lt_of_cell? w _ a2)).trans a2
   replace a3 := (BW.out.cell (World.block_lt_of_cell? w _ a3)).trans a3
   have HQ : Aside0 (l.drop kk = rd_T52 l (kk : Int) :: l.drop (kk + 1)) := ⟨by rw [List.drop_eq_getElem_cons hlt, rd_T52, Int.toNat_natCast, ← getD_get l z52 kk hlt]⟩
   generalize rd_T52 l (kk : Int) = m at *
   obtain ⟨vw, vo, vp, vj, hT⟩ := HT.out
   have HCAN := Aside0.mk (rCan_any hT m (Kd.C_below HRI.out BW.out) hlc hok)
   have HT := Aside0.mk hT
   clear hT
   cases hm : (hasR ids rc rn jb m && canR t jb m) with
   | false =>
    rw [hm] at HCAN
    have HF := Aside0.mk (show t.may ids rc rn jb m = false by
     unfold Tk.may
     cases hh : hasR ids rc rn jb m with
     | false => simp
     | true => rw [hh, Bool.true_and, canR_eq HL.out hh] at hm; rw [hm]; simp)
    clear hm
    go_wp2_with (go_at_call 87; refine HCAN.out.mono ?_; rintro e w1 ⟨rfl, hb1⟩)
    go_ret2
    have e : walkL ids rc rn jb Tk.empty l = t := by rw [HE.out, HQ.out, walkL, if_neg (by rw [HF.out]; decide)]
    refine ⟨by rw [show (talkL ids rc rn jb l) = t from e, hwl]; rfl, BW.out.trans (hb1.mono hsw), vw, vo, vp, vj, ?_⟩
    rw [show (talkL ids rc rn jb l) = t from e]
    exact HT.out.below hb1
   | true =>
    rw [hm] at HCAN
    have hh : hasR ids rc rn jb m = true := by
     cases hh : hasR ids rc rn jb m with
     | false => rw [hh] at hm; cases hm
     | true => rfl
    have hcn : t.can jb m = true := by rw [hh, Bool.true_and, canR_eq HL.out hh] at hm; exact hm
    have HF := Aside0.mk (show t.may ids rc rn jb m = true by unfold Tk.may; rw [hok, hh, hcn]; rfl)
    have HTK := Aside0.mk (may_takes hh hcn)
    have HLS := Aside0.mk (HL.out.say m (may_takes hh hcn).i (fun _ => hh) (by omega))
    clear hm hh hcn
    go_wp2_with (first
     | (go_at_call 87; refine HCAN.out.mono ?_; rintro e w1 ⟨rfl, hb1⟩; have HT1 := Aside0.mk (HT.out.below hb1); have HB1 := Aside0.mk (BW.out.trans (hb1.mono hsw)); have hs1 := hb1.size; have c0 := pw_cell_below hb1 a0; have c1 := pw_cell_below hb1 a1; have c2 := pw_cell_below hb1 a2; have c3 := pw_cell_below hb1 a3)
     | (go_at_call 85; refine (rTake_any HT1.out HL.out m HTK.out (by omega)).mono ?_; rintro e w2 ⟨rfl, hk2, hT2⟩))
    go_roundg (l.length - (kk + 1))
    case measure => omega
    case rel => exact ⟨kk + 1, t.say m, by omega, by omega, by go_num, by simp [Tk.say]; omega, ⟨by rw [HE.out, HQ.out, walkL, if_pos HF.out]⟩, ⟨hk2.below HB1.out (by omega)⟩, by have := hk2.1.2.2.2; omega, HLS, ⟨hT2⟩⟩
  have cb : decide ((kk : Int) < (l.length : Int)) = false := decide_eq_false (by omega)
  have e : walkL ids rc rn jb Tk.empty l = t := by rw [HE.out, List.drop_eq_nil_of_le (by omega), walkL]
  have EE := Aside0.mk e
  have HKL := Aside0.mk (show (t.word.length : Int) = (l.length : Int) by omega)
  clear e
  go_wp2
  go_ret2
  refine ⟨by rw [show (talkL ids rc rn jb l) = t from EE.out, HKL.out]; rfl, BW.out, ?_⟩
  rw [show (talkL ids rc rn jb l) = t from EE.out]
  exact HT.out
end Go.Proofs.YtjgocihflhljeaaGreat.P
namespace Go.Proofs.YtjgocihflhljeaaGreat.P
open Go.RowKit Go.Shelf Go.Proofs.YtjgocihflhljeaaGreatW.PrintWords Go.Proofs.YtjgocihflhljeaaGreatW.PrintLast Go.Proofs.YtjgocihflhljeaaGreatW.PrintMore
theorem isBase_f (b : Bool) (n : Int) : riposteref04_IsBase.f b n = some (isBaseB n) := by
 rw [riposteref04_IsBase.f, inF_eq, Option.bind_some]
 rfl
theorem isType_l0 (ps : List S24) (b : Bool) (n : Int) (hp : ps.length ≤ 5) : ∀ (d i k : Nat), ps.length - i = d → i ≤ ps.length → d < k → riposteref04_IsType.l0 k (i : Int) ps b n = some ((ps.drop i).all (fun x => isBaseB x.f1) && (isBaseB n && (decide (ps.length = 0) || !b))) := by
 intro d
 induction d with
 | zero =>
  intro i k hd hi hk
  obtain ⟨k, rfl⟩ : ∃ k', k = k' + 1 := ⟨k - 1, by omega⟩
  rw [riposteref04_IsType.l0, if_neg (by omega), isBase_f, Option.bind_some, List.drop_eq_nil_of_le (by omega)]
  simp only [List.all_nil, Bool.true_and]
  cases isBaseB n with
  | false => simp
  | true =>
   by_cases h : ps.length = 0
   ·simp [h]
   have : ¬ ((ps.length : Int) = 0) := by omega
   simp only [if_true, if_neg this, decide_eq_false h, Bool.false_or, Bool.true_and]
 | succ d ih =>
  intro i k hd hi hk
  obtain ⟨k, rfl⟩ : ∃ k', k = k' + 1 := ⟨k - 1, by omega⟩
  have hlt : i < ps.length := by omega
  have hr : rd_T24 ps (i : Int) = ps[i] := by
   unfold rd_T24
   rw [Int.toNat_natCast]
   exact getD_get ps z24 i hlt
  have hw : wrap64 ((i : Int) + 1) = ((i + 1 : Nat) : Int) := by
   rw [wrap_in (by omega) (by omega)]
   simp
  rw [riposteref04_IsType.l0, if_pos (by omega), if_pos (by omega), hr, isBase_f, Option.bind_some, hw, List.drop_eq_getElem_cons hlt, List.all_cons]
  cases hb : isBaseB ps[i].f1 with
  | false => simp
  | true => rw [if_pos rfl, Bool.true_and, ih (i + 1) k (by omega) (by omega) (by omega)]
theorem isType_f (k : Nat) (hk : 6 ≤ k) (x : S68) (hp : x.f0.length ≤ 5) : riposteref04_IsType.f k x.f0 x.f1.f0 x.f1.f1 = some (isTypeB x) := by
 have := isType_l0 x.f0 x.f1.f0 x.f1.f1 hp x.f0.length 0 k rfl (Nat.zero_le _) (by omega)
 rw [riposteref04_IsType.f]
 rw [show ((0 : Nat) : Int) = 0 from rfl] at this
 rw [this, List.drop_zero]
 congr 1
 unfold isTypeB
 have e : (!x.f0.any fun b => !isBaseB b.f1) = x.f0.all (fun b => isBaseB b.f1) := by
  rw [Bool.eq_iff_iff]
  simp
 rw [e, ← Bool.and_assoc, Bool.and_comm (x.f0.all _)]
theorem check_l1 (ids : List S68) (rc : Bool) (rn : Int) (j : Bool) (hl : ids.length ≤ 8) (hp : ∀ x ∈ ids, x.f0.length ≤ 5) : ∀ (d i k : Nat), ids.length - i = d → i ≤ ids.length → d + 6 < k → riposteref04_Check.l1 k (i : Int) ids rc rn j = some (if isBaseB rn = false ∨ ((ids.drop i).any fun x => !isTypeB x) = true then 4 else 0) := by
 intro d
 induction d with
 | zero =>
  intro i k hd hi hk
  obtain ⟨k, rfl⟩ : ∃ k', k = k' + 1 := ⟨k - 1, by omega⟩
  rw [riposteref04_Check.l1, if_neg (by omega), isBase_f, Option.bind_some, List.drop_eq_nil_of_le (by omega)]
  cases isBaseB rn <;> simp
 | succ d ih =>
  intro i k hd hi hk
  obtain ⟨k, rfl⟩ : ∃ k', k = k' + 1 := ⟨k - 1, by omega⟩
  have hlt : i < ids.length := by omega
  have hr : rd_T68 ids (i : Int) = ids[i] := by
   unfold rd_T68
   rw [Int.toNat_natCast]
   exact getD_get ids z68 i hlt
  have hw : wrap64 ((i : Int) + 1) = ((i + 1 : Nat) : Int) := by
   rw [wrap_in (by omega) (by omega)]
   simp
  rw [riposteref04_Check.l1, if_pos (by omega), if_pos (by omega), hr, isType_f k (by omega) ids[i] (hp _ (List.getElem_mem _)), Option.bind_some, hw, List.drop_eq_getElem_cons hlt, List.any_cons]
  cases hb : isTypeB ids[i] with
  | false => simp
  | true => rw [if_pos rfl, ih (i + 1) k (by omega) (by omega) (by omega)]; simp
theorem check_l0 (ids : List S68) (rc : Bool) (rn : Int) (j : Bool) (hl : ids.length ≤ 8) : ∀ (d i k : Nat), ids.length - i = d → i ≤ ids.length → d + 20 < k → (∀ m, m < i → ∀ h : m < ids.length, longB ids[m] = false) → riposteref04_Check.l0 k (i : Int) ids rc rn j = some (checkE ids rn) := by
 intro d
 induction d with
 | zero =>
  intro i k hd hi hk hn
  obtain ⟨k, rfl⟩ : ∃ k', k = k' + 1 := ⟨k - 1, by omega⟩
  have ha : ids.any longB = false := by
   rw [List.any_eq_false]
   intro x hx
   obtain ⟨m, hm, rfl⟩ := List.getElem_of_mem hx
   simp [hn m (by omega) hm]
  have hp : ∀ x ∈ ids, x.f0.length ≤ 5 := by
   intro x hx
   have := List.any_eq_false.1 ha x hx
   unfold longB at this
   simpa using this
  have h1 := check_l1 ids rc rn j hl hp ids.length 0 k rfl (Nat.zero_le _) (by omega)
  rw [show ((0 : Nat) : Int) = 0 from rfl, List.drop_zero] at h1
  rw [riposteref04_Check.l0, if_neg (by omega), h1]
  unfold checkE
  rw [if_neg (show ¬ (8 < ids.length ∨ ids.any longB = true) by rw [ha]; simp; omega)]
 | succ d ih =>
  intro i k hd hi hk hn
  obtain ⟨k, rfl⟩ : ∃ k', k = k' + 1 := ⟨k - 1, by omega⟩
  have hlt : i < ids.length := by omega
  have hr : rd_T68 ids (i : Int) = ids[i] := by
   unfold rd_T68
   rw [Int.toNat_natCast]
   exact getD_get ids z68 i hlt
  have hw : wrap64 ((i : Int) + 1) = ((i + 1 : Nat) : Int) := by
   rw [wrap_in (by omega) (by omega)]
   simp
  rw [riposteref04_Check.l0, if_pos (by omega), if_pos (by omega), hr, hw]
  by_cases h5 : ((ids[i].f0.length : Nat) : Int) > 5
  ·rw [if_pos h5]
   unfold checkE
   rw [if_pos (.inr (List.any_eq_true.2 ⟨ids[i], List.getElem_mem _, by unfold longB; simp; omega⟩))]
  rw [if_neg h5]
  refine ih (i + 1) k (by omega) (by omega) (by omega) (fun m hm h => ?_)
  by_cases e : m = i
  ·subst e
   unfold longB
   simp
   omega
  exact hn m (by omega) h
theorem check_f (k : Nat) (hk : 60 ≤ k) (ids : List S68) (rc : Bool) (rn : Int) (j : Bool) : riposteref04_Check.f k ids rc rn j = some (checkE ids rn) := by
 rw [riposteref04_Check.f]
 by_cases h : (ids.length : Int) > 8
 ·rw [if_pos h]
  unfold checkE
  rw [if_pos (.inl (by omega))]
 rw [if_neg h]
 have := check_l0 ids rc rn j (by omega) ids.length 0 k rfl (Nat.zero_le _) (by omega) (fun m hm => absurd hm (Nat.not_lt_zero _))
 rw [show ((0 : Nat) : Int) = 0 from rfl] at this
 exact this
end Go.Proofs.YtjgocihflhljeaaGreat.P
namespace Go.Proofs.YtjgocihflhljeaaGreat.P
open Go.RowKit Go.Shelf Go.Proofs.YtjgocihflhljeaaGreatW.PrintWords Go.Proofs.YtjgocihflhljeaaGreatW.PrintLast Go.Proofs.YtjgocihflhljeaaGreatW.PrintMore
attribute [local go_sem] Oper.semAt_some
theorem rArena_any (A : Option Addr) (c : Nat) (ids : List S68) (rc : Bool) (rn : Int) (jb : Bool) (w : World) (hr : Kd.C k68 w A ids.length ids) (hlc : ids.length ≤ c) :
  Calls Tryz.prog 96 #[.agg #[.slice A ids.length c, .bool rc, .int .i64 rn, .bool jb]] w fun e w' => e = .returned (.int .i64 (checkE ids rn)) ∧ Below w.heap.size w w' :=
 riposteref04_Check.calls 60 A c ids rc rn jb _ w hr hlc (check_f 60 (Nat.le_refl _) ids rc rn jb)
def BeginPost (A : Option Addr) (c : Nat) (ids : List S68) (rc : Bool) (rn : Int) (jb : Bool) (l : List Mv) (w : World) (e : Ending) (w' : World) : Prop :=
 Below w.heap.size w w' ∧ ((tellE ids rc rn jb l ≠ 0 ∧ e = .returned (.tuple #[.pointer none, .int .i64 (tellAt ids rc rn jb l), .int .i64 (tellE ids rc rn jb l)])) ∨
  (tellE ids rc rn jb l = 0 ∧ ∃ g, e = .returned (.tuple #[.pointer (some ⟨g, 0, none⟩), .int .i64 0, .int .i64 0]) ∧ ∃ vw vo vp vj, Wlk w.heap.size w' g A c ids rc rn jb (talkL ids rc rn jb l) vw vo vp vj))
set_option maxHeartbeats 2000000 in
theorem rBegin_any (A : Option Addr) (c : Nat) (ids : List S68) (rc : Bool) (rn : Int) (jb : Bool) (A1 : Option Addr) (c1 : Nat) (l : List Mv) (w : World) (hr : Kd.C k68 w A ids.length ids) (hlc : ids.length ≤ c) (hr1 : Kd.C k52 w A1 l.length l) (hl : l.length ≤ 1000000) : Calls Tryz.prog 60 #[.agg #[.slice A ids.length c, .bool rc, .int .i64 rn, .bool jb], .slice A1 l.length c1] w (BeginPost A c ids rc rn jb l w) := by
 have HB := Aside0.mk ((Below.refl _ w).alloc (Nat.le_refl _) (.cells #[.slice A ids.length c, .bool rc, .int .i64 rn, .bool jb] 26))
 have HC := Aside0.mk (fun (V : World) (hb : Below w.heap.size w V) => rArena_any A c ids rc rn jb V (Kd.C_below hr hb) hlc)
 have HKA := Aside0.mk (heap_alloc_new w (.cells #[.slice A ids.length c, .bool rc, .int .i64 rn, .bool jb] 26))
 by_cases h1 : checkE ids rn ≠ 0
 ·have HE := Aside0.mk (tellE_err (rc := rc) (jb := jb) (l := l) h1)
  have HA := Aside0.mk (show tellAt ids rc rn jb l = 0 by rw [tellAt, HE.out, if_neg (by have := checkE_or ids rn; omega)])
  have hb : (checkE ids rn != 0) = true := by simpa using h1
  clear hr hr1
  go_enter Tryz.func60, Tryz.ntmps60
  go_wp2_with (go_at_call 96; refine (HC.out _ HB.out).mono ?_; rintro e w1 ⟨rfl, hb1⟩; have HB1 := Aside0.mk (HB.out.trans (hb1.mono (by simp))); have hs1 : w.heap.size + 1 ≤ w1.heap.size := (by have := hb1.size; simpa using this); have HK1 := Aside0.mk ((hb1.block _ (by simp)).trans HKA.out); have k0 : w1.cell? ⟨w.heap.size, 0, none⟩ = some (.slice A ids.length c) := (blk_cell HK1.out 0).trans rfl; have k1 : w1.cell? ⟨w.heap.size, 1, none⟩ = some (.bool rc) := (blk_cell HK1.out 1).trans rfl; have k2 : w1.cell? ⟨w.heap.size, 2, none⟩ = some (.int .i64 rn) := (blk_cell HK1.out 2).trans rfl; have k3 : w1.cell? ⟨w.heap.size, 3, none⟩ = some (.bool jb) := (blk_cell HK1.out 3).trans rfl)
  go_ret3
  exact ⟨HB1.out, Or.inl ⟨by rw [HE.out]; exact h1, by rw [HE.out, HA.out]; rfl⟩⟩
 have h1' : checkE ids rn = 0 := by omega
 by_cases h2 : 400 < l.length
 ·have HE := Aside0.mk (tellE_long (rc := rc) (jb := jb) (l := l) h1' h2)
  have HA := Aside0.mk (show tellAt ids rc rn jb l = 0 by rw [tellAt, HE.out, if_neg (by omega)])
  have hz : (400 : Int) < (l.length : Int) := by omega
  clear hr hr1
  go_enter Tryz.func60, Tryz.ntmps60
  go_wp2_with (go_at_call 96; refine (HC.out _ HB.out).mono ?_; rw [h1']; rintro e w1 ⟨rfl, hb1⟩; have HB1 := Aside0.mk (HB.out.trans (hb1.mono (by simp))); have hs1 : w.heap.size + 1 ≤ w1.heap.size := (by have := hb1.size; simpa using this); have HK1 := Aside0.mk ((hb1.block _ (by simp)).trans HKA.out); have k0 : w1.cell? ⟨w.heap.size, 0, none⟩ = some (.slice A ids.length c) := (blk_cell HK1.out 0).trans rfl; have k1 : w1.cell? ⟨w.heap.size, 1, none⟩ = some (.bool rc) := (blk_cell HK1.out 1).trans rfl; have k2 : w1.cell? ⟨w.heap.size, 2, none⟩ = some (.int .i64 rn) := (blk_cell HK1.out 2).trans rfl; have k3 : w1.cell? ⟨w.heap.size, 3, none⟩ = some (.bool jb) := (blk_cell HK1.out 3).trans rfl)
  go_ret3
  exact ⟨HB1.out, Or.inl ⟨by rw [HE.out]; decide, by rw [HE.out, HA.out]; rfl⟩⟩
 have h2' : l.length ≤ 400 := by omega
 have hz2 : decide ((400 : Int) < (l.length : Int)) = false := decide_eq_false (by omega)
 have HR := Aside0.mk (fun (V : World) (hb : Below w.heap.size w V) => rRun_any A c ids rc rn jb A1 c1 l V (Kd.C_below hr hb) hlc (Kd.C_below hr1 hb) hl h1')
 clear hr hr1
 by_cases h3 : (talkL ids rc rn jb l).word.length < l.length
 ·have HE := Aside0.mk (tellE_odd h1' h2' h3)
  have HA := Aside0.mk (show tellAt ids rc rn jb l = (talkL ids rc rn jb l).word.length by rw [tellAt, HE.out, if_pos rfl])
  have hzb : decide (((talkL ids rc rn jb l).word.length : Int) < (l.length : Int)) = true := decide_eq_true (by omega)
  go_enter Tryz.func60, Tryz.ntmps60
  go_wp2_with (first
   | (go_at_call 96; refine (HC.out _ HB.out).mono ?_; rw [h1']; rintro e w1 ⟨rfl, hb1⟩; have HB1 := Aside0.mk (HB.out.trans (hb1.mono (by simp))); have hs1 : w.heap.size + 1 ≤ w1.heap.size := (by have := hb1.size; simpa using this); have HK1 := Aside0.mk ((hb1.block _ (by simp)).trans HKA.out); have k0 : w1.cell? ⟨w.heap.size, 0, none⟩ = some (.slice A ids.length c) := (blk_cell HK1.out 0).trans rfl; have k1 : w1.cell? ⟨w.heap.size, 1, none⟩ = some (.bool rc) := (blk_cell HK1.out 1).trans rfl; have k2 : w1.cell? ⟨w.heap.size, 2, none⟩ = some (.int .i64 rn) := (blk_cell HK1.out 2).trans rfl; have k3 : w1.cell? ⟨w.heap.size, 3, none⟩ = some (.bool jb) := (blk_cell HK1.out 3).trans rfl)
   | (go_at_call 97; refine (HR.out _ HB1.out).mono ?_; rintro e w2 ⟨rfl, hb2, vw, vo, vp, vj, hT⟩))
  go_ret3
  exact ⟨HB1.out.trans (hb2.mono (by omega)), Or.inl ⟨by rw [HE.out]; decide, by rw [HE.out, HA.out]; rfl⟩⟩
 have HE := Aside0.mk (tellE_ok h1' h2' h3)
 have hzb : decide (((talkL ids rc rn jb l).word.length : Int) < (l.length : Int)) = false := decide_eq_false (by omega)
 go_enter Tryz.func60, Tryz.ntmps60
 go_wp2_with (first
  | (go_at_call 96; refine (HC.out _ HB.out).mono ?_; rw [h1']; rintro e w1 ⟨rfl, hb1⟩; have HB1 := Aside0.mk (HB.out.trans (hb1.mono (by simp))); have hs1 : w.heap.size + 1 ≤ w1.heap.size := (by have := hb1.size; simpa using this); have HK1 := Aside0.mk ((hb1.block _ (by simp)).trans HKA.out); have k0 : w1.cell? ⟨w.heap.size, 0, none⟩ = some (.slice A ids.length c) := (blk_cell HK1.out 0).trans rfl; have k1 : w1.cell? ⟨w.heap.size, 1, none⟩ = some (.bool rc) := (blk_cell HK1.out 1).trans rfl; have k2 : w1.cell? ⟨w.heap.size, 2, none⟩ = some (.int .i64 rn) := (blk_cell HK1.out 2).trans rfl; have k3 : w1.cell? ⟨w.heap.size, 3, none⟩ = some (.bool jb) := (blk_cell HK1.out 3).trans rfl)
  | (go_at_call 97; refine (HR.out _ HB1.out).mono ?_; rintro e w2 ⟨rfl, hb2, vw, vo, vp, vj, hT⟩))
 go_ret3
 exact ⟨HB1.out.trans (hb2.mono (by omega)), Or.inr ⟨HE.out, _, rfl, _, _, _, _, hT.lower (by omega)⟩⟩
end Go.Proofs.YtjgocihflhljeaaGreat.P
namespace Go.Proofs.YtjgocihflhljeaaGreat.P
open Go.RowKit Go.Shelf Go.Proofs.YtjgocihflhljeaaGreatW.PrintWords Go.Proofs.YtjgocihflhljeaaGreatW.PrintLast Go.Proofs.YtjgocihflhljeaaGreatW.PrintMore
attribute [local go_sem] Oper.semAt_some
theorem tellAt_ok {ids : List S68} {rc : Bool} {rn : Int} {jb : Bool} {l : List Mv} (h : tellE ids rc rn jb l = 0) : tellAt ids rc rn jb l = 0 := by rw [tellAt, if_neg (by omega)]
section
variable {A : Option Addr} {c : Nat} {ids : List S68} {rc : Bool} {rn : Int} {jb : Bool} {l : List Mv} {w : World} {e : Ending} {w' : World}
theorem BeginPost.both (h : BeginPost A c ids rc rn jb l w e w') : ∃ p, e = .returned (.tuple #[.pointer p, .int .i64 (tellAt ids rc rn jb l), .int .i64 (tellE ids rc rn jb l)]) ∧ Below w.heap.size w w' := by
 obtain ⟨hb, ⟨h0, rfl⟩ | ⟨h0, g, rfl, _⟩⟩ := h
 ·exact ⟨_, rfl, hb⟩
 exact ⟨some ⟨g, 0, none⟩, by rw [tellAt_ok h0, h0], hb⟩
theorem BeginPost.ok (h : BeginPost A c ids rc rn jb l w e w') (h0 : tellE ids rc rn jb l = 0) : Below w.heap.size w w' ∧ ∃ g, e = .returned (.tuple #[.pointer (some ⟨g, 0, none⟩), .int .i64 0, .int .i64 0]) ∧ ∃ vw vo vp vj, Wlk w.heap.size w' g A c ids rc rn jb (talkL ids rc rn jb l) vw vo vp vj := by
 obtain ⟨hb, ⟨h1, _⟩ | ⟨_, h⟩⟩ := h
 ·exact absurd h0 h1
 exact ⟨hb, h⟩
end
end Go.Proofs.YtjgocihflhljeaaGreat.P
namespace Go.Proofs.YtjgocihflhljeaaGreat.P
open Go.RowKit Go.Shelf Go.Proofs.YtjgocihflhljeaaGreatW.PrintWords Go.Proofs.YtjgocihflhljeaaGreatW.PrintLast Go.Proofs.YtjgocihflhljeaaGreatW.PrintMore
attribute [local go_sem] Oper.semAt_some
end Go.Proofs.YtjgocihflhljeaaGreat.P
namespace Go.Proofs.YtjgocihflhljeaaGreat.P
open Go.RowKit Go.Shelf Go.Proofs.YtjgocihflhljeaaGreatW.PrintWords Go.Proofs.YtjgocihflhljeaaGreatW.PrintLast Go.Proofs.YtjgocihflhljeaaGreatW.PrintMore
attribute [local go_sem] Oper.semAt_some
structure Lw (w W : World) (I : List (Option Addr × List S68)) (Y : List (Option Addr × List Mv)) (X : List (Option Addr × List Int)) (G : List (Nat × Array Value × TypeId)) : Prop where
 b : Below w.heap.size w W
 i : ∀ p ∈ I, Kd.C k68 W p.1 p.2.length p.2
 y : ∀ p ∈ Y, Kd.C k52 W p.1 p.2.length p.2
 x : ∀ p ∈ X, Kd.C (Kd.int .i64) W p.1 p.2.length p.2
 g : ∀ p ∈ G, W.heap[p.1]? = some (.cells p.2.1 p.2.2 (0, 0))
section
variable {w W W' : World} {I : List (Option Addr × List S68)} {Y : List (Option Addr × List Mv)} {X : List (Option Addr × List Int)} {G : List (Nat × Array Value × TypeId)}
theorem Lw.below (h : Lw w W I Y X G) (hb : Below W.heap.size W W') : Lw w W' I Y X G :=
 ⟨h.b.trans (hb.mono h.b.size), fun p hp => Kd.C_below (h.i p hp) hb, fun p hp => Kd.C_below (h.y p hp) hb, fun p hp => Kd.C_below (h.x p hp) hb, fun p hp => (hb.block _ (blk_lt (h.g p hp))).trans (h.g p hp)⟩
theorem Lw.addi (h : Lw w W I Y X G) {B : Option Addr} {xs : List S68} (hx : Kd.C k68 W B xs.length xs) : Lw w W ((B, xs) :: I) Y X G :=
 ⟨h.b, fun p hp => by rcases List.mem_cons.1 hp with rfl | hp <;> first | exact hx | exact h.i p hp, h.y, h.x, h.g⟩
theorem Lw.addy (h : Lw w W I Y X G) {B : Option Addr} {xs : List Mv} (hx : Kd.C k52 W B xs.length xs) : Lw w W I ((B, xs) :: Y) X G :=
 ⟨h.b, h.i, fun p hp => by rcases List.mem_cons.1 hp with rfl | hp <;> first | exact hx | exact h.y p hp, h.x, h.g⟩
theorem Lw.addx (h : Lw w W I Y X G) {B : Option Addr} {xs : List Int} (hx : Kd.C (Kd.int .i64) W B xs.length xs) : Lw w W I Y ((B, xs) :: X) G :=
 ⟨h.b, h.i, h.y, fun p hp => by rcases List.mem_cons.1 hp with rfl | hp <;> first | exact hx | exact h.x p hp, h.g⟩
theorem Lw.addg (h : Lw w W I Y X G) {b : Nat} {cs : Array Value} {t : TypeId} (hx : W.heap[b]? = some (.cells cs t (0, 0))) : Lw w W I Y X ((b, cs, t) :: G) :=
 ⟨h.b, h.i, h.y, h.x, fun p hp => by rcases List.mem_cons.1 hp with rfl | hp <;> first | exact hx | exact h.g p hp⟩
theorem Lw.new (h : Lw w W I Y X G) (cs : Array Value) (t : TypeId) : Lw w (W.alloc (.cells cs t)) I Y X ((W.heap.size, cs, t) :: G) :=
 (h.below ((Below.refl _ W).alloc (Nat.le_refl _) _)).addg (heap_alloc_new W _)
theorem Lw.cell (h : Lw w W I Y X G) {b : Nat} {cs : Array Value} {t : TypeId} (hg : (b, cs, t) ∈ G) (i : Nat) {v : Value} (hv : cs[i]? = some v) : W.cell? ⟨b, i, none⟩ = some v := (blk_cell (h.g _ hg) i).trans hv
theorem Lw.awake (h : Lw w W I Y X G) : Calls Tryz.prog 15 #[] W fun e w' => e = .returned (.bool true) ∧ Lw w w' I Y X G :=
 (awake_any W).mono (by rintro e w' ⟨rfl, hb⟩; exact ⟨rfl, h.below hb⟩)
theorem Lw.thin (h : Lw w W I Y X G) {A A1 : Option Addr} {c c1 : Nat} {ids : List S68} {l : List Mv} (rc : Bool) (rn : Int) (jb : Bool) (hi : (A, ids) ∈ I) (hy : (A1, l) ∈ Y) (hc : ids.length ≤ c) (hc1 : l.length ≤ c1) :
  Calls Tryz.prog 14 #[.agg #[.slice A ids.length c, .bool rc, .int .i64 rn, .bool jb], .slice A1 l.length c1] W fun e w' => e = .returned (.bool (thinB ids l)) ∧ Lw w w' I Y X G :=
 (ripostelaw05_Thin.calls 20 A c ids rc rn jb A1 c1 l _ W (h.i _ hi) hc (h.y _ hy) hc1 (thin05_f ids rc rn jb l)).mono (by rintro e w' ⟨rfl, hb⟩; exact ⟨rfl, h.below hb⟩)
theorem Lw.copyA (h : Lw w W I Y X G) {A : Option Addr} {c : Nat} {ids : List S68} (rc : Bool) (rn : Int) (jb : Bool) (hi : (A, ids) ∈ I) (hc : ids.length ≤ c) (ht : ids.length ≤ 12 ∧ ∀ x ∈ ids, x.f0.length ≤ 8) :
  Calls Tryz.prog 16 #[.agg #[.slice A ids.length c, .bool rc, .int .i64 rn, .bool jb]] W fun e w' => ∃ B k, e = .returned (.agg #[.slice B ids.length k, .bool rc, .int .i64 rn, .bool jb]) ∧ ids.length ≤ k ∧ Lw w w' ((B, ids) :: I) Y X G :=
 (riposteref04_Copy.calls 20 A c ids rc rn jb _ _ _ _ W (h.i _ hi) hc (copy_f ids rc rn jb ht.1 ht.2)).mono (by
  rintro e w' ⟨v, rfl, hR, hb⟩
  obtain ⟨B, k, rfl, hk, hC⟩ := Kd.S_reads hR
  exact ⟨B, k, rfl, hk, (h.below hb).addi hC⟩)
theorem Lw.copyW (h : Lw w W I Y X G) {A1 : Option Addr} {c1 : Nat} {l : List Mv} (hy : (A1, l) ∈ Y) (hc1 : l.length ≤ c1) (hl : l.length ≤ 1000000) :
  Calls Tryz.prog 17 #[.slice A1 l.length c1] W fun e w' => ∃ B k, e = .returned (.slice B l.length k) ∧ l.length ≤ k ∧ Lw w w' I ((B, l) :: Y) X G :=
 (riposteref05_Copy.calls A1 c1 l l W (h.y _ hy) hc1 (copyW_f l hl)).mono (by
  rintro e w' ⟨v, rfl, hR, hb⟩
  obtain ⟨B, k, rfl, hk, hC⟩ := Kd.R_reads hR
  exact ⟨B, k, rfl, hk, (h.below hb).addy hC⟩)
theorem Lw.sameI (h : Lw w W I Y X G) {A B : Option Addr} {c k : Nat} {xs : List Int} (h1 : (A, xs) ∈ X) (h2 : (B, xs) ∈ X) (hc : xs.length ≤ c) (hk : xs.length ≤ k) (hl : xs.length ≤ 1000000) :
  Calls Tryz.prog 29 #[.slice A xs.length c, .slice B xs.length k] W fun e w' => e = .returned (.bool true) ∧ Lw w w' I Y X G :=
 (riposteref05_SameInts.calls (xs.length + 1) A c xs B k xs true W (h.x _ h1) hc (h.x _ h2) hk (sameInts_f _ xs hl (by omega))).mono (by
  rintro e w' ⟨rfl, hd⟩
  obtain ⟨n, rfl⟩ := hd.out
  exact ⟨rfl, h.below (pw_below_drewN (Below.refl _ _) n)⟩)
end
end Go.Proofs.YtjgocihflhljeaaGreat.P
namespace Go.Proofs.YtjgocihflhljeaaGreat.P
open Go.RowKit Go.Shelf Go.Proofs.YtjgocihflhljeaaGreatW.PrintWords Go.Proofs.YtjgocihflhljeaaGreatW.PrintLast Go.Proofs.YtjgocihflhljeaaGreatW.PrintMore
attribute [local go_sem] Oper.semAt_some
theorem Lw.start {w : World} {A A1 : Option Addr} {ids : List S68} {l : List Mv} (hr : Kd.C k68 w A ids.length ids) (hr1 : Kd.C k52 w A1 l.length l) : Lw w w [(A, ids)] [(A1, l)] [] [] := by
 refine ⟨Below.refl _ _, ?_, ?_, ?_, ?_⟩ <;> intro p hp
 ·rw [List.mem_singleton] at hp
  subst hp
  exact hr
 ·rw [List.mem_singleton] at hp
  subst hp
  exact hr1
 ·cases hp
 cases hp
theorem okL_len {α : Type} (k : Int) (xs : List α) : (okL k xs).length ≤ xs.length := by
 unfold okL
 split
 ·exact Nat.le_refl _
 exact Nat.zero_le _
theorem talk_word (ids : List S68) (rc : Bool) (rn : Int) (jb : Bool) (l : List Mv) : (talkL ids rc rn jb l).word.length ≤ l.length := by
 have := walkL_len ids rc rn jb l Tk.empty
 have e0 : Tk.empty.word.length = 0 := rfl
 show (walkL ids rc rn jb Tk.empty l).word.length ≤ l.length
 omega
end Go.Proofs.YtjgocihflhljeaaGreat.P
namespace Go.Proofs.YtjgocihflhljeaaGreat.P
open Go.RowKit Go.Shelf Go.Proofs.YtjgocihflhljeaaGreatW.PrintWords Go.Proofs.YtjgocihflhljeaaGreatW.PrintLast Go.Proofs.YtjgocihflhljeaaGreatW.PrintMore
section
variable {w W W' : World} {I : List (Option Addr × List S68)} {Y : List (Option Addr × List Mv)} {X : List (Option Addr × List Int)} {G : List (Nat × Array Value × TypeId)}
theorem Lw.popi {p : Option Addr × List S68} (h : Lw w W (p :: I) Y X G) : Lw w W I Y X G := ⟨h.b, fun q hq => h.i q (List.mem_cons_of_mem _ hq), h.y, h.x, h.g⟩
theorem Lw.popy {p : Option Addr × List Mv} (h : Lw w W I (p :: Y) X G) : Lw w W I Y X G := ⟨h.b, h.i, fun q hq => h.y q (List.mem_cons_of_mem _ hq), h.x, h.g⟩
variable (h : Lw w W I Y X G) {A A1 : Option Addr} {c c1 : Nat} {ids : List S68} {l : List Mv} (rc : Bool) (rn : Int) (jb : Bool) (hi : (A, ids) ∈ I) (hy : (A1, l) ∈ Y) (hl : l.length ≤ 1000000)
include h hi hy hl
end
end Go.Proofs.YtjgocihflhljeaaGreat.P
namespace Go.Proofs.YtjgocihflhljeaaGreat.P
open Go.RowKit Go.Shelf Go.Proofs.YtjgocihflhljeaaGreatW.PrintWords Go.Proofs.YtjgocihflhljeaaGreatW.PrintLast Go.Proofs.YtjgocihflhljeaaGreatW.PrintMore
def isOB (m : Mv) : Bool := isIdent m != askB m
theorem ask_ans {m : Mv} (h : MvOk m) : askB m = !isAns m := by
 unfold askB isAns
 rcases h.k with h | h | h <;> rw [h] <;> rfl
theorem par_ident {m : Mv} (h : isPar m = true) : isIdent m = false := by
 unfold isPar at h
 unfold isIdent
 simp only [Bool.and_eq_true, decide_eq_true_eq] at h
 have : (m.f1 == 0) = false := by simp; omega
 rw [this, Bool.and_false]
inductive Way (t : Tk) (jb : Bool) (m : Mv) : Prop where
 | root (h0 : t.word.length = 0) (ht : t.opn = []) (ha : isAns m = false) (h1 : m.f0 = 0) (h2 : m.f1 = 0) : Way t jb m
 | ident (q : Int) (ht : t.top = some q) (hq : isIdent (t.mv q) = false) (ha : isAns m = false) (hi : isIdent m = true) (hf : t.force = false) (hl : t.lost = false) : Way t jb m
 | param (q : Int) (ht : t.top = some q) (hq : isIdent (t.mv q) = true) (ha : isAns m = false) (hp : isPar m = true) (h0 : m.f0 = (t.mv q).f0) (hf : t.force = false) (hl : t.lost = false) : Way t jb m
 | answer (q : Int) (ht : t.top = some q) (ha : isAns m = true) (h0 : m.f0 = (t.mv q).f0) (h1 : m.f1 = (t.mv q).f1) (hn : t.answers jb (t.mv q) m = true) : Way t jb m
theorem way_of {t : Tk} {jb : Bool} {m : Mv} (ho : t.opn.length ≤ t.word.length) (h : t.can jb m = true) : Way t jb m := by
 unfold Tk.can at h
 cases ht : t.top with
 | none =>
  rw [ht] at h
  unfold atB at h
  simp only [Bool.and_eq_true, beq_iff_eq] at h
  obtain ⟨⟨h0, h1, h2⟩, h3⟩ := h
  exact .root (by omega) (List.getLast?_eq_none_iff.1 ht) (by simpa using h3) h1 h2
 | some q =>
  rw [ht] at h
  simp only at h
  have hn : t.opn ≠ [] := by
   intro hn
   rw [Tk.top, hn] at ht
   cases ht
  have hp := List.length_pos_iff.2 hn
  cases ha : isAns m with
  | true =>
   rw [ha, if_pos rfl] at h
   unfold atB at h
   simp only [Bool.and_eq_true, beq_iff_eq] at h
   obtain ⟨⟨h1, h2⟩, h3⟩ := h
   exact .answer q ht ha h1 h2 h3
  | false =>
   rw [ha, if_neg (by decide)] at h
   cases hf : (t.force || t.lost) with
   | true => rw [hf, if_pos rfl] at h; cases h
   | false =>
    rw [hf, if_neg (by decide)] at h
    rw [Bool.or_eq_false_iff] at hf
    have hov : t.over = false := by
     unfold Tk.over
     have : ((t.opn.length : Int) == 0) = false := by simp; omega
     rw [this, Bool.and_false]
    have htu : t.turn = if isIdent (t.mv q) then 1 else 2 := by
     unfold Tk.turn
     rw [hov, if_neg (by decide), ht]
    cases hq : isIdent (t.mv q) with
    | false =>
     rw [htu, hq, if_pos (by rfl)] at h
     exact .ident q ht hq ha h hf.1 hf.2
    | true =>
     rw [htu, hq, if_neg (by decide)] at h
     simp only [Bool.and_eq_true, beq_iff_eq] at h
     exact .param q ht hq ha h.1 h.2 hf.1 hf.2
theorem top_get {t : Tk} {q : Int} (h : t.top = some q) : 0 < t.opn.length ∧ t.opn.getD (t.opn.length - 1) 0 = q := by
 unfold Tk.top at h
 rw [List.getLast?_eq_getElem?] at h
 have hl : t.opn.length - 1 < t.opn.length := by
  rcases Nat.lt_or_ge (t.opn.length - 1) t.opn.length with hh | hh
  ·exact hh
  rw [List.getElem?_eq_none hh] at h; cases h
 rw [List.getD_eq_getElem?_getD, h]
 exact ⟨by omega, rfl⟩
theorem getD_snoc {α : Type} (l : List α) (x z : α) (k : Nat) : (l ++ [x]).getD k z = if k < l.length then l.getD k z else if k = l.length then x else z := by
 rw [List.getD_eq_getElem?_getD, List.getD_eq_getElem?_getD]
 split
 ·rw [List.getElem?_append_left (by assumption)]
 rw [List.getElem?_append_right (by omega)]
 split
 ·subst k; simp
 have : 1 ≤ k - l.length := by omega
 rw [List.getElem?_eq_none (by simpa using this)]
 rfl
theorem getD_dropLast {α : Type} (l : List α) (z : α) (k : Nat) (h : k + 1 < l.length) : l.dropLast.getD k z = l.getD k z := by
 rw [List.getD_eq_getElem?_getD, List.getD_eq_getElem?_getD, List.getElem?_dropLast, if_pos (by omega)]
theorem say_len (t : Tk) (m : Mv) : (t.say m).word.length = t.word.length + 1 := by simp [Tk.say]
theorem say_mv (t : Tk) (m : Mv) (n : Int) (h0 : 0 ≤ n) (h1 : n ≤ t.word.length) : (t.say m).mv n = if n = t.word.length then m else t.mv n := by
 split
 ·rename_i h; rw [h, say_mv_new]
 exact say_mv_old h0 (by omega)
theorem say_opn_ans {t : Tk} {m : Mv} (h : isAns m = true) : (t.say m).opn = t.opn.dropLast := by
 show t.opn' m = _
 rw [Tk.opn', if_pos h]
theorem say_opn_ask {t : Tk} {m : Mv} (h : isAns m = false) : (t.say m).opn = t.opn ++ [(t.word.length : Int)] := by
 show t.opn' m = _
 rw [Tk.opn', if_neg (by rw [h]; decide)]
structure Tk.InvA (t : Tk) : Prop where
 par : (t.word.length + t.opn.length) % 2 = 0
 lo : ∀ k, k < t.opn.length → 0 ≤ t.opn.getD k 0 ∧ t.opn.getD k 0 < t.word.length
 asc : ∀ k, k + 1 < t.opn.length → t.opn.getD k 0 < t.opn.getD (k + 1) 0
 alt : ∀ k, k < t.opn.length → isIdent (t.mv (t.opn.getD k 0)) = decide (k % 2 = 1)
 ask : ∀ k, k < t.opn.length → isAns (t.mv (t.opn.getD k 0)) = false
 pty : ∀ k, k < t.opn.length → (t.opn.getD k 0) % 2 = (k : Int) % 2
 oth : ∀ i : Nat, i < t.word.length → isOB (t.mv i) = decide (i % 2 = 0)
 root : ∀ i : Nat, i < t.word.length → isAns (t.mv i) = false → (t.mv i).f0 = 0 → i = 0
 mvs : ∀ i : Nat, i < t.word.length → MvOk (t.mv i)
theorem Tk.InvA.empty : Tk.empty.InvA := ⟨rfl, fun k h => by simp [Tk.empty] at h, fun k h => by simp [Tk.empty] at h, fun k h => by simp [Tk.empty] at h, fun k h => by simp [Tk.empty] at h, fun k h => by simp [Tk.empty] at h, fun k h => by simp [Tk.empty] at h, fun k h => by simp [Tk.empty] at h, fun k h => by simp [Tk.empty] at h⟩
theorem Tk.InvA.top {t : Tk} (h : t.InvA) {q : Int} (ht : t.top = some q) : 0 ≤ q ∧ q < t.word.length ∧ isAns (t.mv q) = false ∧ isIdent (t.mv q) = decide (t.opn.length % 2 = 0) ∧ 0 < t.opn.length := by
 obtain ⟨h0, hq⟩ := top_get ht
 have h1 := h.lo (t.opn.length - 1) (by omega)
 have h2 := h.ask (t.opn.length - 1) (by omega)
 have h3 := h.alt (t.opn.length - 1) (by omega)
 rw [hq] at h1 h2 h3
 refine ⟨h1.1, h1.2, h2, ?_, h0⟩
 rw [h3, decide_eq_decide]
 omega
theorem way_oth {t : Tk} {jb : Bool} {m : Mv} (h : t.InvA) (hm : MvOk m) (hw : Way t jb m) : isOB m = decide (t.word.length % 2 = 0) := by
 have hpar := h.par
 unfold isOB
 rw [ask_ans hm]
 cases hw with
 | root h0 ht ha h1 h2 =>
  have : isIdent m = false := by simp [isIdent, h1]
  rw [this, ha, h0]
  rfl
 | ident q ht hq ha hi hf hl =>
  have h3 := (h.top ht).2.2.2.1
  rw [hq] at h3
  have h4 := of_decide_eq_false h3.symm
  rw [hi, ha, decide_eq_false (by omega)]
  rfl
 | param q ht hq ha hp h0 hf hl =>
  have h3 := (h.top ht).2.2.2.1
  rw [hq] at h3
  have h4 := of_decide_eq_true h3.symm
  rw [par_ident hp, ha, decide_eq_true (by omega)]
  rfl
 | answer q ht ha h0 h1 hn =>
  have h3 := (h.top ht).2.2.2.1
  have e : isIdent m = isIdent (t.mv q) := by unfold isIdent; rw [h0, h1]
  rw [e, h3, ha]
  by_cases hp : t.opn.length % 2 = 0
  ·rw [decide_eq_true hp, decide_eq_true (by omega)]; rfl
  rw [decide_eq_false hp, decide_eq_false (by omega)]; rfl
theorem Tk.InvA.say {t : Tk} {jb : Bool} {m : Mv} (h : t.InvA) (hm : MvOk m) (hw : Way t jb m) : (t.say m).InvA := by
 have hoth := way_oth h hm hw
 have hol : t.opn.length ≤ t.word.length ∨ True := .inr trivial
 have hpar := h.par
 have oth : ∀ i : Nat, i < (t.say m).word.length → isOB ((t.say m).mv i) = decide (i % 2 = 0) := by
  intro i hi
  rw [say_len] at hi
  rw [say_mv _ _ _ (by omega) (by omega)]
  split
  ·have : i = t.word.length := by omega
   rw [hoth, this]
  exact h.oth i (by omega)
 have mvs : ∀ i : Nat, i < (t.say m).word.length → MvOk ((t.say m).mv i) := by
  intro i hi
  rw [say_len] at hi
  rw [say_mv _ _ _ (by omega) (by omega)]
  split
  ·exact hm
  exact h.mvs i (by omega)
 cases ha : isAns m with
 | true =>
  have eo := say_opn_ans (t := t) ha
  have hlen : (t.say m).opn.length = t.opn.length - 1 := by rw [eo]; simp
  have hpos : 0 < t.opn.length := by
   cases hw with
   | root _ _ ha' _ _ => rw [ha] at ha'; cases ha'
   | ident _ _ _ ha' _ _ _ => rw [ha] at ha'; cases ha'
   | param _ _ _ ha' _ _ _ _ => rw [ha] at ha'; cases ha'
   | answer q ht _ _ _ _ => exact (h.top ht).2.2.2.2
  have hg : ∀ k, k < (t.say m).opn.length → (t.say m).opn.getD k 0 = t.opn.getD k 0 := by
   intro k hk
   rw [eo]
   exact getD_dropLast _ _ _ (by omega)
  have hmv : ∀ k, k < (t.say m).opn.length → (t.say m).mv (t.opn.getD k 0) = t.mv (t.opn.getD k 0) := fun k hk => say_mv_old (h.lo k (by omega)).1 (h.lo k (by omega)).2
  refine ⟨?_, ?_, ?_, ?_, ?_, ?_, oth, ?_, mvs⟩
  ·rw [say_len, hlen]; omega
  ·intro k hk
   rw [hg k hk, say_len]
   have := h.lo k (by omega)
   omega
  ·intro k hk
   rw [hg k (by omega), hg (k + 1) hk]
   exact h.asc k (by omega)
  ·intro k hk
   rw [hg k hk, hmv k hk]
   exact h.alt k (by omega)
  ·intro k hk
   rw [hg k hk, hmv k hk]
   exact h.ask k (by omega)
  ·intro k hk
   rw [hg k hk]
   exact h.pty k (by omega)
  intro i hi hai h0
  rw [say_len] at hi
  rw [say_mv _ _ _ (by omega) (by omega)] at hai h0
  split at hai
  ·rw [ha] at hai; cases hai
  rename_i hne
  rw [if_neg hne] at h0
  exact h.root i (by omega) hai h0
 | false =>
  have eo := say_opn_ask (t := t) ha
  have hlen : (t.say m).opn.length = t.opn.length + 1 := by rw [eo]; simp
  have hg : ∀ k, (t.say m).opn.getD k 0 = if k < t.opn.length then t.opn.getD k 0 else if k = t.opn.length then (t.word.length : Int) else 0 := by
   intro k
   rw [eo]
   exact getD_snoc _ _ _ _
  have hid : isIdent m = decide (t.opn.length % 2 = 1) := by
   cases hw with
   | root h0 ht _ h1 h2 => rw [ht]; simp [isIdent, h1]
   | ident q ht hq _ hi hf hl =>
    have h3 := (h.top ht).2.2.2.1
    rw [hq] at h3
    have h4 := of_decide_eq_false h3.symm
    rw [hi, decide_eq_true (by omega)]
   | param q ht hq _ hp h0 hf hl =>
    have h3 := (h.top ht).2.2.2.1
    rw [hq] at h3
    have h4 := of_decide_eq_true h3.symm
    rw [par_ident hp, decide_eq_false (by omega)]
   | answer q ht ha' _ _ _ => rw [ha] at ha'; cases ha'
  refine ⟨?_, ?_, ?_, ?_, ?_, ?_, oth, ?_, mvs⟩
  ·rw [say_len, hlen]; omega
  ·intro k hk
   rw [hg k, say_len]
   split
   ·have := h.lo k (by assumption)
    omega
   rw [if_pos (by omega)]
   omega
  ·intro k hk
   rw [hg k, hg (k + 1), if_pos (by omega)]
   split
   ·exact h.asc k (by omega)
   rw [if_pos (by omega)]
   exact (h.lo k (by omega)).2
  ·intro k hk
   rw [hg k]
   split
   ·rename_i hk2
    rw [say_mv_old (h.lo k hk2).1 (h.lo k hk2).2]
    exact h.alt k hk2
   have : k = t.opn.length := by omega
   rw [if_pos this, say_mv_new, hid, this]
  ·intro k hk
   rw [hg k]
   split
   ·rename_i hk2
    rw [say_mv_old (h.lo k hk2).1 (h.lo k hk2).2]
    exact h.ask k hk2
   have : k = t.opn.length := by omega
   rw [if_pos this, say_mv_new, ha]
  ·intro k hk
   rw [hg k]
   split
   ·rename_i hk2
    exact h.pty k hk2
   have : k = t.opn.length := by omega
   rw [if_pos this]
   omega
  intro i hi hai h0
  rw [say_len] at hi
  rw [say_mv _ _ _ (by omega) (by omega)] at hai h0
  split at hai
  ·rename_i he
   rw [if_pos he] at h0
   cases hw with
   | root hz _ _ _ _ => omega
   | ident q ht hq _ hi' hf hl => simp [isIdent, h0] at hi'
   | param q ht hq _ hp h0' hf hl => simp [isPar, h0] at hp
   | answer q ht ha' _ _ _ => rw [ha] at ha'; cases ha'
  rename_i hne
  rw [if_neg hne] at h0
  exact h.root i (by omega) hai h0
end Go.Proofs.YtjgocihflhljeaaGreat.P
namespace Go.Proofs.YtjgocihflhljeaaGreat.P
open Go.RowKit Go.Shelf Go.Proofs.YtjgocihflhljeaaGreatW.PrintWords Go.Proofs.YtjgocihflhljeaaGreatW.PrintLast Go.Proofs.YtjgocihflhljeaaGreatW.PrintMore
attribute [local go_sem] Oper.semAt_some
def Tk.jst (t : Tk) (n : Int) : Int := t.just.getD n.toNat 0
def sightF (t : Tk) : Nat → Int → Option (List Int)
 | 0, _ => none
 | k + 1, n => if 1 ≤ n ∧ n ≤ t.word.length then if (t.mv (n - 1)).f1 = 0 then some [0, n - 1] else (sightF t k (t.jst (n - 1))).map (· ++ [t.jst (n - 1), n - 1]) else none
def seenF (t : Tk) : Nat → Int → Option (List Int)
 | 0, _ => none
 | k + 1, n => if 1 ≤ n ∧ n ≤ t.word.length then if (t.mv (n - 1)).f0 = 0 then some [n - 1]
   else if isEscB (t.mv (n - 1)) = true ∧ n < 2 then none
   else if isEscB (t.mv (n - 1)) && (isEscB (t.mv (n - 2)) && decide (0 < (t.mv (n - 2)).f1)) then (seenF t k (n - 2)).map (· ++ [n - 2, n - 1])
   else (seenF t k (t.jst (n - 1))).map (· ++ [t.jst (n - 1), n - 1]) else none
theorem sightF_len {t : Tk} (k : Nat) : ∀ {n : Int} {L : List Int}, sightF t k n = some L → L.length ≤ 2 * k := by
 induction k with
 | zero => intro n L h; cases h
 | succ k ih =>
  intro n L h
  unfold sightF at h
  split at h
  ·split at h
   ·cases h; simp; omega
   obtain ⟨M, hM, rfl⟩ := Option.map_eq_some_iff.1 h
   have := ih hM
   simp
   omega
  cases h
theorem seenF_len {t : Tk} (k : Nat) : ∀ {n : Int} {L : List Int}, seenF t k n = some L → L.length ≤ 2 * k := by
 induction k with
 | zero => intro n L h; cases h
 | succ k ih =>
  intro n L h
  unfold seenF at h
  split at h
  ·split at h
   ·cases h; simp; omega
   split at h
   ·cases h
   split at h
   all_goals
    obtain ⟨M, hM, rfl⟩ := Option.map_eq_some_iff.1 h
    have := ih hM
    simp
    omega
  cases h
theorem RI_lit (W : World) (base : Nat) (xs : List Int) (hb : base ≤ W.heap.size) (hl : xs.length ≤ 20) : RI (W.alloc (.cells (encs (Value.int .i64) xs).toArray 3)) base (.slice (some ⟨W.heap.size, 0, none⟩) xs.length xs.length) xs :=
 ⟨fun _ _ => trivial, encs (Value.int .i64) xs, by
  have h2 := World.ownsRow_lit (base := base) (e := 3) (size := (Kd.int .i64).sz) W (encs (Value.int .i64) xs).toArray xs.length hb (by simp [maxLen]; omega) (by simp [encs, Kd.int, Kd.scalar])
  simpa using h2, Kd.reps_scalar xs⟩
theorem RI_lit1 (W : World) (base : Nat) (x : Int) (hb : base ≤ W.heap.size) : RI (W.alloc (.cells #[.int .i64 x] 3)) base (.slice (some ⟨W.heap.size, 0, none⟩) 1 1) [x] := RI_lit W base [x] hb (by simp)
theorem RI_lit2 (W : World) (base : Nat) (x y : Int) (hb : base ≤ W.heap.size) : RI (W.alloc (.cells #[.int .i64 x, .int .i64 y] 3)) base (.slice (some ⟨W.heap.size, 0, none⟩) 2 2) [x, y] := RI_lit W base [x, y] hb (by simp)
set_option maxRecDepth 8000 in
set_option maxHeartbeats 4000000 in
theorem rSeenThere_any {base : Nat} {g : Nat} {A : Option Addr} {c : Nat} {ids : List S68} {rc : Bool} {rn : Int} {jb : Bool} {t : Tk} {vw vo vp vj : Value} (k : Nat) : ∀ {w : World} {n : Int} {L : List Int} (h : Wlk base w g A c ids rc rn jb t vw vo vp vj) (hL : sightF t k n = some L) (hk : k ≤ 100000),
  Calls Tryz.prog 71 #[.pointer (some ⟨g, 0, none⟩), .int .i64 n] w fun e w' => ∃ v, e = .returned v ∧ RI w' w.heap.size v L ∧ Below w.heap.size w w' := by
 induction k with
 | zero => intro w n L h hL; cases hL
 | succ k ih =>
  intro w n L h hL hk
  unfold sightF at hL
  split at hL
  ·rename_i hn
   obtain ⟨hn1, hn2⟩ := hn
   obtain ⟨m, hm⟩ : ∃ m, n - 1 = m := ⟨_, rfl⟩
   have hwl := h.ok.hw
   have hm0 : 0 ≤ m := by omega
   have hm1 : m < t.word.length := by omega
   have hm2 : m < 9223372036854775807 := by omega
   rw [hm] at hL
   have hgw := h.lt
   have hgn : g ≠ w.heap.size := by omega
   obtain ⟨gw, cw, q, hvw, hgw2, hq, a0, a1, a2, a3⟩ := h.r.w.get m hm0 hm1
   cases hvw
   have hq' : t.mv m = q := hq
   rw [hq'] at hL
   have h4 : w.cell? ⟨g, 4, none⟩ = some (.slice (some ⟨gw, 0, none⟩) t.word.length cw) := (blk_cell h.b 4).trans rfl
   have hgwn : gw ≠ w.heap.size := by omega
   have hlt : m.toNat < t.word.length := by omega
   clear hq
   split at hL
   ·rename_i hf
    cases hL
    have hfb : (q.f1 == 0) = true := by simpa using hf
    have HB := Aside0.mk ((Below.refl _ w).alloc (Nat.le_refl _) (.cells #[.int .i64 q.f0, .int .i64 q.f1, .int .u8 q.f2, .int .i64 q.f3] 52))
    have HR := Aside0.mk (show RI _ w.heap.size (.slice (some ⟨w.heap.size + 1, 0, none⟩) 2 2) [0, m] by have := RI_lit2 (w.alloc (.cells #[.int .i64 q.f0, .int .i64 q.f1, .int .u8 q.f2, .int .i64 q.f3] 52)) w.heap.size 0 m (by simp); rwa [World.size_alloc] at this)
    clear h hq' ih hf
    go_enter Tryz.func71, Tryz.ntmps71
    go_wp2
    go_ret
    exact ⟨_, rfl, HR.out, HB.out.alloc (by simp) _⟩
   rename_i hf
   obtain ⟨M, hM, rfl⟩ := Option.map_eq_some_iff.1 hL
   have hfb : (q.f1 == 0) = false := by simpa using hf
   have hML := sightF_len k hM
   obtain ⟨gj, cj, hvj, hgj, aj⟩ := h.r.j.get m.toNat (by have := h.ok.hj; omega)
   cases hvj
   have hjl := h.ok.hj
   have h7 : w.cell? ⟨g, 7, none⟩ = some (.slice (some ⟨gj, 0, none⟩) t.just.length cj) := (blk_cell h.b 7).trans rfl
   obtain ⟨p, hp⟩ : ∃ p, t.just.getD m.toNat 0 = p := ⟨_, rfl⟩
   have hpj : t.jst m = p := hp
   rw [hp] at aj
   rw [hpj] at hM ⊢
   have HB0 := Aside0.mk (((Below.refl _ w).alloc (Nat.le_refl _) (.cells #[.int .i64 q.f0, .int .i64 q.f1, .int .u8 q.f2, .int .i64 q.f3] 52)).drew)
   have HI := Aside0.mk (fun (V : World) (hb : Below w.heap.size w V) => ih (w := V) (h.below hb) hM (by omega))
   have HML := Aside0.mk hML
   have d7 : (w.alloc (.cells #[.int .i64 q.f0, .int .i64 q.f1, .int .u8 q.f2, .int .i64 q.f3] 52)).drew.cell? ⟨g, 7, none⟩ = some (.slice (some ⟨gj, 0, none⟩) t.just.length cj) := pw_cell_below HB0.out h7
   have dj : (w.alloc (.cells #[.int .i64 q.f0, .int .i64 q.f1, .int .u8 q.f2, .int .i64 q.f3] 52)).drew.cell? ⟨gj, m.toNat, none⟩ = some (.int .i64 p) := pw_cell_below HB0.out aj
   have hs0 : w.heap.size ≤ (w.alloc (.cells #[.int .i64 q.f0, .int .i64 q.f1, .int .u8 q.f2, .int .i64 q.f3] 52)).drew.heap.size := HB0.out.size
   have hmj : m.toNat < t.just.length := by omega
   have hmjz : m < (t.just.length : Int) := by omega
   have cbj : decide (m < (t.just.length : Int)) = true := decide_eq_true hmjz
   clear h hq' ih hf hp hpj hM hL hML
   go_enter Tryz.func71, Tryz.ntmps71
   go_upto_region 5 with fail
   refine start_ (n := 20) (S := fun w' => w'.cell? ⟨g, 7, none⟩ = some (.slice (some ⟨gj, 0, none⟩) t.just.length cj) ∧ w'.cell? ⟨gj, m.toNat, none⟩ = some (.int .i64 p)) (ds := []) #[ff,ff,ff,ff,ff,ff,ff,ff,ff,ff,ff,ff,ff,ff,ff,ff,ff,ff,ff,ff] (by kernel_rfl) rfl rfl ⟨d7, dj⟩ (fun hHeld => ?_)
   generalize (w.alloc (.cells #[.int .i64 q.f0, .int .i64 q.f1, .int .u8 q.f2, .int .i64 q.f3] 52)).drew = wd at HB0 d7 dj hs0 hHeld ⊢
   refine pure_ (i := 0) (N := some 21) (v := ?_) (a' := ?_) #[tt,ff,ff,ff,ff,ff,ff,ff,ff,ff,ff,ff,ff,ff,ff,ff,ff,ff,ff,ff] rfl rfl (by kernel_rfl) (fun _ _ _ h => h) (Or.inl ⟨by rfl, ?_⟩) ?_ ?_
   rotate_left
   ·intro w'
    go_simp
    with_reducible rfl
   rotate_left
   ·simp only [Act.put, sn1, sn2, sn3, i64_w]
    rfl
   refine pure_ (i := 1) (N := some 22) (v := ?_) (a' := ?_) #[tt,tt,ff,ff,ff,ff,ff,ff,ff,ff,ff,ff,ff,ff,ff,ff,ff,ff,ff,ff] rfl rfl (by kernel_rfl) (fun _ _ _ h => h) (Or.inl ⟨by rfl, ?_⟩) ?_ ?_
   rotate_left
   ·intro w'
    go_simp
    with_reducible rfl
   rotate_left
   ·simp only [Act.put, sn1, sn2, sn3, i64_w]
    rfl
   refine pure_ (i := 2) (N := some 23) (v := ?_) (a' := ?_) #[tt,tt,tt,ff,ff,ff,ff,ff,ff,ff,ff,ff,ff,ff,ff,ff,ff,ff,ff,ff] rfl rfl (by kernel_rfl) (fun _ _ _ h => h) (Or.inl ⟨by rfl, ?_⟩) ?_ ?_
   rotate_left
   ·intro w'
    go_simp
    with_reducible rfl
   rotate_left
   ·simp only [Act.put, sn1, sn2, sn3, i64_w]
    rfl
   refine pure_ (i := 3) (N := some 24) (v := ?_) (a' := ?_) #[tt,tt,tt,tt,ff,ff,ff,ff,ff,ff,ff,ff,ff,ff,ff,ff,ff,ff,ff,ff] rfl rfl (by kernel_rfl) (fun _ _ _ h => h) (Or.inl ⟨by rfl, ?_⟩) ?_ ?_
   rotate_left
   ·intro w'
    go_simp
    with_reducible rfl
   rotate_left
   ·simp only [Act.put, sn1, sn2, sn3, i64_w]
    rfl
   refine pure_ (i := 5) (N := some 26) (v := ?_) (a' := ?_) #[tt,tt,tt,tt,ff,tt,ff,ff,ff,ff,ff,ff,ff,ff,ff,ff,ff,ff,ff,ff] rfl rfl (by kernel_rfl) (fun _ _ _ h => h) (Or.inl ⟨by rfl, ?_⟩) ?_ ?_
   rotate_left
   ·intro w'
    go_simp
    with_reducible rfl
   rotate_left
   ·simp only [Act.put, sn1, sn2, sn3, i64_w]
    rfl
   refine pure_ (i := 9) (N := some 30) (v := ?_) (a' := ?_) #[tt,tt,tt,tt,ff,tt,ff,ff,ff,tt,ff,ff,ff,ff,ff,ff,ff,ff,ff,ff] rfl rfl (by kernel_rfl) (fun _ _ _ h => h) (Or.inl ⟨by rfl, ?_⟩) ?_ ?_
   rotate_left
   ·intro w'
    go_simp
    with_reducible rfl
   rotate_left
   ·simp only [Act.put, sn1, sn2, sn3, i64_w]
    rfl
   refine pure_ (i := 10) (N := some 31) (v := ?_) (a' := ?_) #[tt,tt,tt,tt,ff,tt,ff,ff,ff,tt,tt,ff,ff,ff,ff,ff,ff,ff,ff,ff] rfl rfl (by kernel_rfl) (fun _ _ _ h => h) (Or.inl ⟨by rfl, ?_⟩) ?_ ?_
   rotate_left
   ·intro w'
    go_simp
    with_reducible rfl
   rotate_left
   ·simp only [Act.put, sn1, sn2, sn3, i64_w]
    rfl
   refine pure_ (i := 11) (N := some 32) (v := ?_) (a' := ?_) #[tt,tt,tt,tt,ff,tt,ff,ff,ff,tt,tt,tt,ff,ff,ff,ff,ff,ff,ff,ff] rfl rfl (by kernel_rfl) (fun _ _ _ h => h) (Or.inl ⟨by rfl, ?_⟩) ?_ ?_
   rotate_left
   ·intro w'
    go_simp
    with_reducible rfl
   rotate_left
   ·simp only [Act.put, sn1, sn2, sn3, i64_w]
    rfl
   refine pure_ (i := 13) (N := some 34) (v := ?_) (a' := ?_) #[tt,tt,tt,tt,ff,tt,ff,ff,ff,tt,tt,tt,ff,tt,ff,ff,ff,ff,ff,ff] rfl rfl (by kernel_rfl) (fun _ _ _ h => h) (Or.inl ⟨by rfl, ?_⟩) ?_ ?_
   rotate_left
   ·intro w'
    go_simp
    with_reducible rfl
   rotate_left
   ·simp only [Act.put, sn1, sn2, sn3, i64_w]
    rfl
   refine pure_ (i := 16) (N := some 37) (v := ?_) (a' := ?_) #[tt,tt,tt,tt,ff,tt,ff,ff,ff,tt,tt,tt,ff,tt,ff,ff,tt,ff,ff,ff] rfl rfl (by kernel_rfl) (fun _ _ _ h => h) (Or.inl ⟨by rfl, ?_⟩) ?_ ?_
   rotate_left
   ·intro w'
    go_simp
    with_reducible rfl
   rotate_left
   ·simp only [Act.put, sn1, sn2, sn3, i64_w]
    rfl
   refine take_ (i := 4) (N := some 25) (v := ?_) (a' := ?_) #[tt,tt,tt,tt,tt,tt,ff,ff,ff,tt,tt,tt,ff,tt,ff,ff,tt,ff,ff,ff] rfl rfl (by kernel_rfl) (fun _ _ _ h => h) (Or.inl ⟨by rfl, ?_⟩) hHeld ?_ ?_
   rotate_left
   ·rintro w' ⟨s0, s1⟩
    go_simp
    with_reducible rfl
   rotate_left
   ·simp only [Act.put, sn1, sn2, sn3, i64_w]
    rfl
   refine pure_ (i := 6) (N := some 27) (v := ?_) (a' := ?_) #[tt,tt,tt,tt,tt,tt,tt,ff,ff,tt,tt,tt,ff,tt,ff,ff,tt,ff,ff,ff] rfl rfl (by kernel_rfl) (fun _ _ _ h => h) (Or.inl ⟨by rfl, ?_⟩) ?_ ?_
   rotate_left
   ·intro w'
    go_simp
    with_reducible rfl
   rotate_left
   ·simp only [Act.put, sn1, sn2, sn3, i64_w]
    rfl
   refine take_ (i := 7) (N := some 28) (v := ?_) (a' := ?_) #[tt,tt,tt,tt,tt,tt,tt,tt,ff,tt,tt,tt,ff,tt,ff,ff,tt,ff,ff,ff] rfl rfl (by kernel_rfl) (fun _ _ _ h => h) (Or.inl ⟨by rfl, ?_⟩) hHeld ?_ ?_
   rotate_left
   ·rintro w' ⟨s0, s1⟩
    go_simp
    with_reducible rfl
   rotate_left
   ·simp only [Act.put, sn1, sn2, sn3, i64_w]
    rfl
   refine take_ (i := 12) (N := some 33) (v := ?_) (a' := ?_) #[tt,tt,tt,tt,tt,tt,tt,tt,ff,tt,tt,tt,tt,tt,ff,ff,tt,ff,ff,ff] rfl rfl (by kernel_rfl) (fun _ _ _ h => h) (Or.inl ⟨by rfl, ?_⟩) hHeld ?_ ?_
   rotate_left
   ·rintro w' ⟨s0, s1⟩
    go_simp
    with_reducible rfl
   rotate_left
   ·simp only [Act.put, sn1, sn2, sn3, i64_w]
    rfl
   refine pure_ (i := 14) (N := some 35) (v := ?_) (a' := ?_) #[tt,tt,tt,tt,tt,tt,tt,tt,ff,tt,tt,tt,tt,tt,tt,ff,tt,ff,ff,ff] rfl rfl (by kernel_rfl) (fun _ _ _ h => h) (Or.inl ⟨by rfl, ?_⟩) ?_ ?_
   rotate_left
   ·intro w'
    go_simp
    with_reducible rfl
   rotate_left
   ·simp only [Act.put, sn1, sn2, sn3, i64_w]
    rfl
   refine take_ (i := 15) (N := some 36) (v := ?_) (a' := ?_) #[tt,tt,tt,tt,tt,tt,tt,tt,ff,tt,tt,tt,tt,tt,tt,tt,tt,ff,ff,ff] rfl rfl (by kernel_rfl) (fun _ _ _ h => h) (Or.inl ⟨by rfl, ?_⟩) hHeld ?_ ?_
   rotate_left
   ·rintro w' ⟨s0, s1⟩
    go_simp
    with_reducible rfl
   rotate_left
   ·simp only [Act.put, sn1, sn2, sn3, i64_w]
    rfl
   refine join_ (σ := Nat × Value) 2 #[tt,tt,tt,tt,tt,tt,tt,tt,tt,tt,tt,tt,tt,tt,tt,tt,tt,tt,ff,ff] (fun s => [(29, s.2), (38, .slice (some ⟨s.1, 0, none⟩) 2 2)]) (fun s w' => Below wd.heap.size wd w' ∧ RI w' wd.heap.size s.2 M ∧ RI w' wd.heap.size (.slice (some ⟨s.1, 0, none⟩) 2 2) [p, m]) ?_ ?_
   rotate_left
   ·intro hCont
    refine two_ (i := 8) (j := 17) (Ni := some 29) (Nj := some 38) #[tt,tt,tt,tt,tt,tt,tt,tt,tt,tt,tt,tt,tt,tt,tt,tt,tt,ff,ff,ff] #[tt,tt,tt,tt,tt,tt,tt,tt,ff,tt,tt,tt,tt,tt,tt,tt,tt,tt,ff,ff] rfl rfl rfl rfl (by kernel_rfl) (by decide) (by decide) (fun K hK => ?_) (fun K hK => ?_)
    ·skip
     refine goes_ Tryz.func71 (by kernel_rfl) rfl #[.pointer (some ⟨g, 0, none⟩), .int .i64 p] (by rfl) rfl rfl (by simp only [List.map_toArray, List.map_cons, List.map_nil]; rfl) ?_
     with_reducible refine (HI.out _ (HB0.out.trans (Below.mono (Below.refl _ wd) hs0))).mono ?_
     rintro e w2 ⟨v2, rfl, hR2, hb2⟩
     refine ⟨_, rfl, ?_⟩
     obtain ⟨A2, n2, k2, rfl⟩ := R_slc hR2
     refine hK.out _ _ ⟨pw_cell_below hb2 d7, pw_cell_below hb2 dj⟩ (fun hHeld => ?_)
     clear hK K
     refine norm_ (a' := ?_) ?_ ?_
     rotate_left
     ·show Act.put _ (some 29) _ = _
      simp only [Act.put, sn1, sn2, sn3, i64_w]
      rfl
     refine one_ (i := 17) (N := some 38) #[tt,tt,tt,tt,tt,tt,tt,tt,tt,tt,tt,tt,tt,tt,tt,tt,tt,tt,ff,ff] rfl rfl (by kernel_rfl) (by decide) (fun K hK => ?_)
     refine value_ (w1 := ?_) (v := ?_) (by rfl) rfl ?_ ?_
     rotate_left 2
     ·go_simp
      constructor
      ·rfl
      rfl
     refine hK.out _ _ ⟨pw_cell_below (hb2.alloc hb2.size (.cells #[.int .i64 p, .int .i64 m] 3)) d7, pw_cell_below (hb2.alloc hb2.size (.cells #[.int .i64 p, .int .i64 m] 3)) dj⟩ (fun hHeld => ?_)
     clear hK K
     refine norm_ (a' := ?_) ?_ ?_
     rotate_left
     ·show Act.put _ (some 38) _ = _
      simp only [Act.put, sn1, sn2, sn3, i64_w]
      rfl
     exact norm_ (by simp only [putAll, Act.put, sn1, sn2, sn3]) (hCont (w2.heap.size, .slice A2 n2 k2) _ ⟨hb2.alloc hb2.size _, Kd.R_alloc hR2 _, RI_lit2 _ _ _ _ hb2.size⟩)
    skip
    refine value_ (w1 := ?_) (v := ?_) (by rfl) rfl ?_ ?_
    rotate_left 2
    ·go_simp
     constructor
     ·rfl
     rfl
    refine hK.out _ _ ⟨pw_cell_below (Below.alloc (Below.refl _ wd) (Nat.le_refl _) (.cells #[.int .i64 p, .int .i64 m] 3)) d7, pw_cell_below (Below.alloc (Below.refl _ wd) (Nat.le_refl _) (.cells #[.int .i64 p, .int .i64 m] 3)) dj⟩ (fun hHeld => ?_)
    clear hK K
    refine norm_ (a' := ?_) ?_ ?_
    rotate_left
    ·show Act.put _ (some 38) _ = _
     simp only [Act.put, sn1, sn2, sn3, i64_w]
     rfl
    refine one_ (i := 8) (N := some 29) #[tt,tt,tt,tt,tt,tt,tt,tt,tt,tt,tt,tt,tt,tt,tt,tt,tt,tt,ff,ff] rfl rfl (by kernel_rfl) (by decide) (fun K hK => ?_)
    refine goes_ Tryz.func71 (by kernel_rfl) rfl #[.pointer (some ⟨g, 0, none⟩), .int .i64 p] (by rfl) rfl rfl (by simp only [List.map_toArray, List.map_cons, List.map_nil]; rfl) ?_
    with_reducible refine (HI.out _ (HB0.out.trans (Below.mono (Below.alloc (Below.refl _ wd) (Nat.le_refl _) (.cells #[.int .i64 p, .int .i64 m] 3)) hs0))).mono ?_
    rintro e w2 ⟨v2, rfl, hR2, hb2⟩
    refine ⟨_, rfl, ?_⟩
    obtain ⟨A2, n2, k2, rfl⟩ := R_slc hR2
    refine hK.out _ _ ⟨pw_cell_below ((Below.alloc (Below.refl _ wd) (Nat.le_refl _) (.cells #[.int .i64 p, .int .i64 m] 3)).trans (hb2.mono (by simp))) d7, pw_cell_below ((Below.alloc (Below.refl _ wd) (Nat.le_refl _) (.cells #[.int .i64 p, .int .i64 m] 3)).trans (hb2.mono (by simp))) dj⟩ (fun hHeld => ?_)
    clear hK K
    refine norm_ (a' := ?_) ?_ ?_
    rotate_left
    ·show Act.put _ (some 29) _ = _
     simp only [Act.put, sn1, sn2, sn3, i64_w]
     rfl
    exact norm_ (by simp only [putAll, Act.put, sn1, sn2, sn3]) (hCont (wd.heap.size, .slice A2 n2 k2) _ ⟨(Below.alloc (Below.refl _ wd) (Nat.le_refl _) (.cells #[.int .i64 p, .int .i64 m] 3)).trans (hb2.mono (by simp)), Kd.R_lower hR2 (by simp), R_st (RI_lit2 wd wd.heap.size p m (Nat.le_refl _)) (St.of_below (b := 0) (ex := fun _ => False) hb2)⟩)
   rintro ⟨sb, v2⟩ w2 ⟨hS, hV, hZ⟩
   have HS := Aside0.mk hS
   have HV := Aside0.mk hV
   have HZ := Aside0.mk hZ
   clear hS hZ hV
   have hHeld : w2.cell? ⟨g, 7, none⟩ = some (.slice (some ⟨gj, 0, none⟩) t.just.length cj) ∧ w2.cell? ⟨gj, m.toNat, none⟩ = some (.int .i64 p) := ⟨pw_cell_below HS.out d7, pw_cell_below HS.out dj⟩
   refine norm_ (a' := ?_) ?_ ?_
   rotate_left
   ·simp only [putAll, Act.put, sn1, sn2, sn3]
    rfl
   refine one_ (i := 18) (N := some 39) #[tt,tt,tt,tt,tt,tt,tt,tt,tt,tt,tt,tt,tt,tt,tt,tt,tt,tt,tt,ff] rfl rfl (by kernel_rfl) (by decide) (fun K hK => ?_)
   refine Kd.R_append_rows_step (Kd.int .i64) (w0 := wd) wd.heap.size (by rfl) (.tmp 29) (.tmp 38) 36 3 (.int .i64 0) 8 rfl Tryz.underlying36 info3 rfl (by decide) (by omega) v2 M [p, m] (some ⟨sb, 0, none⟩) 2 2 (fun _ => True) (fun _ => False) rfl rfl HV.out (Kd.R_reads' HZ.out).2.2 (fun _ _ h => h) (fun _ h => h.elim) (fun _ _ => trivial) HS.out HS.out.size (by have := HML.out; simp; omega) ?_
   intro v3 w3 ho3 hb3 hg3 hat3
   obtain ⟨Af, nf, kf, rfl⟩ := R_slc ho3
   have HV3 := Aside0.mk ho3
   have HS3 := Aside0.mk hb3
   refine hK.out _ _ ⟨pw_cell_below HS3.out d7, pw_cell_below HS3.out dj⟩ (fun hHeld => ?_)
   clear hK K
   refine norm_ (a' := ?_) ?_ ?_
   rotate_left
   ·show Act.put _ (some 39) _ = _
    simp only [Act.put, sn1, sn2, sn3, i64_w]
    rfl
   refine pure_ (i := 19) (N := some 4) (v := ?_) (a' := ?_) #[tt,tt,tt,tt,tt,tt,tt,tt,tt,tt,tt,tt,tt,tt,tt,tt,tt,tt,tt,tt] rfl rfl (by kernel_rfl) (fun _ _ _ h => h) (Or.inl ⟨by rfl, ?_⟩) ?_ ?_
   rotate_left
   ·intro w'
    go_simp
    with_reducible rfl
   rotate_left
   ·simp only [Act.put, sn1, sn2, sn3, i64_w]
    rfl
   refine done_ (by kernel_rfl) ?_
   go_wp2_with fail
   go_ret
   exact ⟨_, rfl, Kd.R_lower HV3.out hs0, HB0.out.trans (HS3.out.mono hs0)⟩
  cases hL
set_option maxRecDepth 8000 in
set_option maxHeartbeats 4000000 in
theorem rSeen_any {base : Nat} {g : Nat} {A : Option Addr} {c : Nat} {ids : List S68} {rc : Bool} {rn : Int} {jb : Bool} {t : Tk} {vw vo vp vj : Value} (k : Nat) : ∀ {w : World} {n : Int} {L : List Int} (h : Wlk base w g A c ids rc rn jb t vw vo vp vj) (hL : seenF t k n = some L) (hk : k ≤ 100000),
  Calls Tryz.prog 70 #[.pointer (some ⟨g, 0, none⟩), .int .i64 n] w fun e w' => ∃ v, e = .returned v ∧ RI w' w.heap.size v L ∧ Below w.heap.size w w' := by
 induction k with
 | zero => intro w n L h hL; cases hL
 | succ k ih =>
  intro w n L h hL hk
  unfold seenF at hL
  split at hL
  ·rename_i hn
   obtain ⟨hn1, hn2⟩ := hn
   obtain ⟨m, hm⟩ : ∃ m, n - 1 = m := ⟨_, rfl⟩
   obtain ⟨m2, hm2e⟩ : ∃ m2, n - 2 = m2 := ⟨_, rfl⟩
   have hmm2 : m - 1 = m2 := by omega
   have hwl := h.ok.hw
   have hm0 : 0 ≤ m := by omega
   have hm1 : m < t.word.length := by omega
   have hm2 : m < 9223372036854775807 := by omega
   rw [hm, hm2e] at hL
   have hgw := h.lt
   have hgn : g ≠ w.heap.size := by omega
   obtain ⟨gw, cw, q, hvw, hgw2, hq, a0, a1, a2, a3⟩ := h.r.w.get m hm0 hm1
   cases hvw
   have hq' : t.mv m = q := hq
   rw [hq'] at hL
   have h4 : w.cell? ⟨g, 4, none⟩ = some (.slice (some ⟨gw, 0, none⟩) t.word.length cw) := (blk_cell h.b 4).trans rfl
   have hgwn : gw ≠ w.heap.size := by omega
   have hlt : m.toNat < t.word.length := by omega
   have HB := Aside0.mk ((Below.refl _ w).alloc (Nat.le_refl _) (.cells #[.int .i64 q.f0, .int .i64 q.f1, .int .u8 q.f2, .int .i64 q.f3] 52))
   have HK := Aside0.mk (heap_alloc_new w (.cells #[.int .i64 q.f0, .int .i64 q.f1, .int .u8 q.f2, .int .i64 q.f3] 52))
   clear hq
   split at hL
   ·rename_i hf
    cases hL
    have hfb : (q.f0 == 0) = true := by simpa using hf
    have HR := Aside0.mk (show RI _ w.heap.size (.slice (some ⟨w.heap.size + 1, 0, none⟩) 1 1) [m] by have := RI_lit1 (w.alloc (.cells #[.int .i64 q.f0, .int .i64 q.f1, .int .u8 q.f2, .int .i64 q.f3] 52)) w.heap.size m (by simp); rwa [World.size_alloc] at this)
    clear h hq' ih hf
    go_enter Tryz.func70, Tryz.ntmps70
    go_wp2
    go_ret
    exact ⟨_, rfl, HR.out, HB.out.alloc (by simp) _⟩
   rename_i hf
   have hfb : (q.f0 == 0) = false := by simpa using hf
   split at hL
   ·cases hL
   rename_i hn3
   cases hb1 : isEscB q with
   | false =>
    rw [hb1, Bool.false_and, if_neg (by decide)] at hL
    have HE1 := Aside0.mk hb1
    clear hn3 hb1
    obtain ⟨M, hM, rfl⟩ := Option.map_eq_some_iff.1 hL
    have hML := seenF_len k hM
    obtain ⟨gj, cj, hvj, hgj, aj⟩ := h.r.j.get m.toNat (by have := h.ok.hj; omega)
    cases hvj
    have hjl := h.ok.hj
    have h7 : w.cell? ⟨g, 7, none⟩ = some (.slice (some ⟨gj, 0, none⟩) t.just.length cj) := (blk_cell h.b 7).trans rfl
    obtain ⟨p, hp⟩ : ∃ p, t.just.getD m.toNat 0 = p := ⟨_, rfl⟩
    have hpj : t.jst m = p := hp
    rw [hp] at aj
    rw [hpj] at hM ⊢
    have HI := Aside0.mk (fun (V : World) (hb : Below w.heap.size w V) => ih (w := V) (h.below hb) hM (by omega))
    have HML := Aside0.mk hML
    have hmj : m.toNat < t.just.length := by omega
    have hmjz : m < (t.just.length : Int) := by omega
    have cbj : decide (m < (t.just.length : Int)) = true := decide_eq_true hmjz
    clear h hq' ih hf hp hpj hM hL hML
    go_enter Tryz.func70, Tryz.ntmps70
    go_upto_region 7 with (go_at_call 38; with_reducible refine (rEsc_any q _).mono ?_; rw [HE1.out]; rintro e w1 ⟨rfl, hw1⟩; have Bw1 := Aside0.mk (HB.out.trans (hw1.mono (by simp))); have sw1 : w.heap.size + 1 ≤ w1.heap.size := (by have := hw1.size; simpa using this); have h4w1 := pw_cell_below Bw1.out h4; skip)
    have HB0 := Aside0.mk ((Bw1.out).drew)
    have d7 : (w1).drew.cell? ⟨g, 7, none⟩ = some (.slice (some ⟨gj, 0, none⟩) t.just.length cj) := pw_cell_below HB0.out h7
    have dj : (w1).drew.cell? ⟨gj, m.toNat, none⟩ = some (.int .i64 p) := pw_cell_below HB0.out aj
    have hs0 : w.heap.size ≤ (w1).drew.heap.size := HB0.out.size
    refine start_ (n := 20) (S := fun w' => w'.cell? ⟨g, 7, none⟩ = some (.slice (some ⟨gj, 0, none⟩) t.just.length cj) ∧ w'.cell? ⟨gj, m.toNat, none⟩ = some (.int .i64 p)) (ds := []) #[ff,ff,ff,ff,ff,ff,ff,ff,ff,ff,ff,ff,ff,ff,ff,ff,ff,ff,ff,ff] (by kernel_rfl) rfl rfl ⟨d7, dj⟩ (fun hHeld => ?_)
    generalize (w1).drew = wd at HB0 d7 dj hs0 hHeld ⊢
    refine pure_ (i := 0) (N := some 55) (v := ?_) (a' := ?_) #[tt,ff,ff,ff,ff,ff,ff,ff,ff,ff,ff,ff,ff,ff,ff,ff,ff,ff,ff,ff] rfl rfl (by kernel_rfl) (fun _ _ _ h => h) (Or.inl ⟨by rfl, ?_⟩) ?_ ?_
    rotate_left
    ·intro w'
     go_simp
     with_reducible rfl
    rotate_left
    ·simp only [Act.put, sn1, sn2, sn3, i64_w]
     rfl
    refine pure_ (i := 1) (N := some 56) (v := ?_) (a' := ?_) #[tt,tt,ff,ff,ff,ff,ff,ff,ff,ff,ff,ff,ff,ff,ff,ff,ff,ff,ff,ff] rfl rfl (by kernel_rfl) (fun _ _ _ h => h) (Or.inl ⟨by rfl, ?_⟩) ?_ ?_
    rotate_left
    ·intro w'
     go_simp
     with_reducible rfl
    rotate_left
    ·simp only [Act.put, sn1, sn2, sn3, i64_w]
     rfl
    refine pure_ (i := 2) (N := some 57) (v := ?_) (a' := ?_) #[tt,tt,tt,ff,ff,ff,ff,ff,ff,ff,ff,ff,ff,ff,ff,ff,ff,ff,ff,ff] rfl rfl (by kernel_rfl) (fun _ _ _ h => h) (Or.inl ⟨by rfl, ?_⟩) ?_ ?_
    rotate_left
    ·intro w'
     go_simp
     with_reducible rfl
    rotate_left
    ·simp only [Act.put, sn1, sn2, sn3, i64_w]
     rfl
    refine pure_ (i := 3) (N := some 58) (v := ?_) (a' := ?_) #[tt,tt,tt,tt,ff,ff,ff,ff,ff,ff,ff,ff,ff,ff,ff,ff,ff,ff,ff,ff] rfl rfl (by kernel_rfl) (fun _ _ _ h => h) (Or.inl ⟨by rfl, ?_⟩) ?_ ?_
    rotate_left
    ·intro w'
     go_simp
     with_reducible rfl
    rotate_left
    ·simp only [Act.put, sn1, sn2, sn3, i64_w]
     rfl
    refine pure_ (i := 5) (N := some 60) (v := ?_) (a' := ?_) #[tt,tt,tt,tt,ff,tt,ff,ff,ff,ff,ff,ff,ff,ff,ff,ff,ff,ff,ff,ff] rfl rfl (by kernel_rfl) (fun _ _ _ h => h) (Or.inl ⟨by rfl, ?_⟩) ?_ ?_
    rotate_left
    ·intro w'
     go_simp
     with_reducible rfl
    rotate_left
    ·simp only [Act.put, sn1, sn2, sn3, i64_w]
     rfl
    refine pure_ (i := 9) (N := some 64) (v := ?_) (a' := ?_) #[tt,tt,tt,tt,ff,tt,ff,ff,ff,tt,ff,ff,ff,ff,ff,ff,ff,ff,ff,ff] rfl rfl (by kernel_rfl) (fun _ _ _ h => h) (Or.inl ⟨by rfl, ?_⟩) ?_ ?_
    rotate_left
    ·intro w'
     go_simp
     with_reducible rfl
    rotate_left
    ·simp only [Act.put, sn1, sn2, sn3, i64_w]
     rfl
    refine pure_ (i := 10) (N := some 65) (v := ?_) (a' := ?_) #[tt,tt,tt,tt,ff,tt,ff,ff,ff,tt,tt,ff,ff,ff,ff,ff,ff,ff,ff,ff] rfl rfl (by kernel_rfl) (fun _ _ _ h => h) (Or.inl ⟨by rfl, ?_⟩) ?_ ?_
    rotate_left
    ·intro w'
     go_simp
     with_reducible rfl
    rotate_left
    ·simp only [Act.put, sn1, sn2, sn3, i64_w]
     rfl
    refine pure_ (i := 11) (N := some 66) (v := ?_) (a' := ?_) #[tt,tt,tt,tt,ff,tt,ff,ff,ff,tt,tt,tt,ff,ff,ff,ff,ff,ff,ff,ff] rfl rfl (by kernel_rfl) (fun _ _ _ h => h) (Or.inl ⟨by rfl, ?_⟩) ?_ ?_
    rotate_left
    ·intro w'
     go_simp
     with_reducible rfl
    rotate_left
    ·simp only [Act.put, sn1, sn2, sn3, i64_w]
     rfl
    refine pure_ (i := 13) (N := some 68) (v := ?_) (a' := ?_) #[tt,tt,tt,tt,ff,tt,ff,ff,ff,tt,tt,tt,ff,tt,ff,ff,ff,ff,ff,ff] rfl rfl (by kernel_rfl) (fun _ _ _ h => h) (Or.inl ⟨by rfl, ?_⟩) ?_ ?_
    rotate_left
    ·intro w'
     go_simp
     with_reducible rfl
    rotate_left
    ·simp only [Act.put, sn1, sn2, sn3, i64_w]
     rfl
    refine pure_ (i := 16) (N := some 71) (v := ?_) (a' := ?_) #[tt,tt,tt,tt,ff,tt,ff,ff,ff,tt,tt,tt,ff,tt,ff,ff,tt,ff,ff,ff] rfl rfl (by kernel_rfl) (fun _ _ _ h => h) (Or.inl ⟨by rfl, ?_⟩) ?_ ?_
    rotate_left
    ·intro w'
     go_simp
     with_reducible rfl
    rotate_left
    ·simp only [Act.put, sn1, sn2, sn3, i64_w]
     rfl
    refine take_ (i := 4) (N := some 59) (v := ?_) (a' := ?_) #[tt,tt,tt,tt,tt,tt,ff,ff,ff,tt,tt,tt,ff,tt,ff,ff,tt,ff,ff,ff] rfl rfl (by kernel_rfl) (fun _ _ _ h => h) (Or.inl ⟨by rfl, ?_⟩) hHeld ?_ ?_
    rotate_left
    ·rintro w' ⟨s0, s1⟩
     go_simp
     with_reducible rfl
    rotate_left
    ·simp only [Act.put, sn1, sn2, sn3, i64_w]
     rfl
    refine pure_ (i := 6) (N := some 61) (v := ?_) (a' := ?_) #[tt,tt,tt,tt,tt,tt,tt,ff,ff,tt,tt,tt,ff,tt,ff,ff,tt,ff,ff,ff] rfl rfl (by kernel_rfl) (fun _ _ _ h => h) (Or.inl ⟨by rfl, ?_⟩) ?_ ?_
    rotate_left
    ·intro w'
     go_simp
     with_reducible rfl
    rotate_left
    ·simp only [Act.put, sn1, sn2, sn3, i64_w]
     rfl
    refine take_ (i := 7) (N := some 62) (v := ?_) (a' := ?_) #[tt,tt,tt,tt,tt,tt,tt,tt,ff,tt,tt,tt,ff,tt,ff,ff,tt,ff,ff,ff] rfl rfl (by kernel_rfl) (fun _ _ _ h => h) (Or.inl ⟨by rfl, ?_⟩) hHeld ?_ ?_
    rotate_left
    ·rintro w' ⟨s0, s1⟩
     go_simp
     with_reducible rfl
    rotate_left
    ·simp only [Act.put, sn1, sn2, sn3, i64_w]
     rfl
    refine take_ (i := 12) (N := some 67) (v := ?_) (a' := ?_) #[tt,tt,tt,tt,tt,tt,tt,tt,ff,tt,tt,tt,tt,tt,ff,ff,tt,ff,ff,ff] rfl rfl (by kernel_rfl) (fun _ _ _ h => h) (Or.inl ⟨by rfl, ?_⟩) hHeld ?_ ?_
    rotate_left
    ·rintro w' ⟨s0, s1⟩
     go_simp
     with_reducible rfl
    rotate_left
    ·simp only [Act.put, sn1, sn2, sn3, i64_w]
     rfl
    refine pure_ (i := 14) (N := some 69) (v := ?_) (a' := ?_) #[tt,tt,tt,tt,tt,tt,tt,tt,ff,tt,tt,tt,tt,tt,tt,ff,tt,ff,ff,ff] rfl rfl (by kernel_rfl) (fun _ _ _ h => h) (Or.inl ⟨by rfl, ?_⟩) ?_ ?_
    rotate_left
    ·intro w'
     go_simp
     with_reducible rfl
    rotate_left
    ·simp only [Act.put, sn1, sn2, sn3, i64_w]
     rfl
    refine take_ (i := 15) (N := some 70) (v := ?_) (a' := ?_) #[tt,tt,tt,tt,tt,tt,tt,tt,ff,tt,tt,tt,tt,tt,tt,tt,tt,ff,ff,ff] rfl rfl (by kernel_rfl) (fun _ _ _ h => h) (Or.inl ⟨by rfl, ?_⟩) hHeld ?_ ?_
    rotate_left
    ·rintro w' ⟨s0, s1⟩
     go_simp
     with_reducible rfl
    rotate_left
    ·simp only [Act.put, sn1, sn2, sn3, i64_w]
     rfl
    refine join_ (σ := Nat × Value) 2 #[tt,tt,tt,tt,tt,tt,tt,tt,tt,tt,tt,tt,tt,tt,tt,tt,tt,tt,ff,ff] (fun s => [(63, s.2), (72, .slice (some ⟨s.1, 0, none⟩) 2 2)]) (fun s w' => Below wd.heap.size wd w' ∧ RI w' wd.heap.size s.2 M ∧ RI w' wd.heap.size (.slice (some ⟨s.1, 0, none⟩) 2 2) [p, m]) ?_ ?_
    rotate_left
    ·intro hCont
     refine two_ (i := 8) (j := 17) (Ni := some 63) (Nj := some 72) #[tt,tt,tt,tt,tt,tt,tt,tt,tt,tt,tt,tt,tt,tt,tt,tt,tt,ff,ff,ff] #[tt,tt,tt,tt,tt,tt,tt,tt,ff,tt,tt,tt,tt,tt,tt,tt,tt,tt,ff,ff] rfl rfl rfl rfl (by kernel_rfl) (by decide) (by decide) (fun K hK => ?_) (fun K hK => ?_)
     ·skip
      refine goes_ Tryz.func70 (by kernel_rfl) rfl #[.pointer (some ⟨g, 0, none⟩), .int .i64 p] (by rfl) rfl rfl (by simp only [List.map_toArray, List.map_cons, List.map_nil]; rfl) ?_
      with_reducible refine (HI.out _ (HB0.out.trans (Below.mono (Below.refl _ wd) hs0))).mono ?_
      rintro e w2 ⟨v2, rfl, hR2, hb2⟩
      refine ⟨_, rfl, ?_⟩
      obtain ⟨A2, n2, k2, rfl⟩ := R_slc hR2
      refine hK.out _ _ ⟨pw_cell_below hb2 d7, pw_cell_below hb2 dj⟩ (fun hHeld => ?_)
      clear hK K
      refine norm_ (a' := ?_) ?_ ?_
      rotate_left
      ·show Act.put _ (some 63) _ = _
       simp only [Act.put, sn1, sn2, sn3, i64_w]
       rfl
      refine one_ (i := 17) (N := some 72) #[tt,tt,tt,tt,tt,tt,tt,tt,tt,tt,tt,tt,tt,tt,tt,tt,tt,tt,ff,ff] rfl rfl (by kernel_rfl) (by decide) (fun K hK => ?_)
      refine value_ (w1 := ?_) (v := ?_) (by rfl) rfl ?_ ?_
      rotate_left 2
      ·go_simp
       constructor
       ·rfl
       rfl
      refine hK.out _ _ ⟨pw_cell_below (hb2.alloc hb2.size (.cells #[.int .i64 p, .int .i64 m] 3)) d7, pw_cell_below (hb2.alloc hb2.size (.cells #[.int .i64 p, .int .i64 m] 3)) dj⟩ (fun hHeld => ?_)
      clear hK K
      refine norm_ (a' := ?_) ?_ ?_
      rotate_left
      ·show Act.put _ (some 72) _ = _
       simp only [Act.put, sn1, sn2, sn3, i64_w]
       rfl
      exact norm_ (by simp only [putAll, Act.put, sn1, sn2, sn3]) (hCont (w2.heap.size, .slice A2 n2 k2) _ ⟨hb2.alloc hb2.size _, Kd.R_alloc hR2 _, RI_lit2 _ _ _ _ hb2.size⟩)
     skip
     refine value_ (w1 := ?_) (v := ?_) (by rfl) rfl ?_ ?_
     rotate_left 2
     ·go_simp
      constructor
      ·rfl
      rfl
     refine hK.out _ _ ⟨pw_cell_below (Below.alloc (Below.refl _ wd) (Nat.le_refl _) (.cells #[.int .i64 p, .int .i64 m] 3)) d7, pw_cell_below (Below.alloc (Below.refl _ wd) (Nat.le_refl _) (.cells #[.int .i64 p, .int .i64 m] 3)) dj⟩ (fun hHeld => ?_)
     clear hK K
     refine norm_ (a' := ?_) ?_ ?_
     rotate_left
     ·show Act.put _ (some 72) _ = _
      simp only [Act.put, sn1, sn2, sn3, i64_w]
      rfl
     refine one_ (i := 8) (N := some 63) #[tt,tt,tt,tt,tt,tt,tt,tt,tt,tt,tt,tt,tt,tt,tt,tt,tt,tt,ff,ff] rfl rfl (by kernel_rfl) (by decide) (fun K hK => ?_)
     refine goes_ Tryz.func70 (by kernel_rfl) rfl #[.pointer (some ⟨g, 0, none⟩), .int .i64 p] (by rfl) rfl rfl (by simp only [List.map_toArray, List.map_cons, List.map_nil]; rfl) ?_
     with_reducible refine (HI.out _ (HB0.out.trans (Below.mono (Below.alloc (Below.refl _ wd) (Nat.le_refl _) (.cells #[.int .i64 p, .int .i64 m] 3)) hs0))).mono ?_
     rintro e w2 ⟨v2, rfl, hR2, hb2⟩
     refine ⟨_, rfl, ?_⟩
     obtain ⟨A2, n2, k2, rfl⟩ := R_slc hR2
     refine hK.out _ _ ⟨pw_cell_below ((Below.alloc (Below.refl _ wd) (Nat.le_refl _) (.cells #[.int .i64 p, .int .i64 m] 3)).trans (hb2.mono (by simp))) d7, pw_cell_below ((Below.alloc (Below.refl _ wd) (Nat.le_refl _) (.cells #[.int .i64 p, .int .i64 m] 3)).trans (hb2.mono (by simp))) dj⟩ (fun hHeld => ?_)
     clear hK K
     refine norm_ (a' := ?_) ?_ ?_
     rotate_left
     ·show Act.put _ (some 63) _ = _
      simp only [Act.put, sn1, sn2, sn3, i64_w]
      rfl
     exact norm_ (by simp only [putAll, Act.put, sn1, sn2, sn3]) (hCont (wd.heap.size, .slice A2 n2 k2) _ ⟨(Below.alloc (Below.refl _ wd) (Nat.le_refl _) (.cells #[.int .i64 p, .int .i64 m] 3)).trans (hb2.mono (by simp)), Kd.R_lower hR2 (by simp), R_st (RI_lit2 wd wd.heap.size p m (Nat.le_refl _)) (St.of_below (b := 0) (ex := fun _ => False) hb2)⟩)
    rintro ⟨sb, v2⟩ w2 ⟨hS, hV, hZ⟩
    have HS := Aside0.mk hS
    have HV := Aside0.mk hV
    have HZ := Aside0.mk hZ
    clear hS hZ hV
    have hHeld : w2.cell? ⟨g, 7, none⟩ = some (.slice (some ⟨gj, 0, none⟩) t.just.length cj) ∧ w2.cell? ⟨gj, m.toNat, none⟩ = some (.int .i64 p) := ⟨pw_cell_below HS.out d7, pw_cell_below HS.out dj⟩
    refine norm_ (a' := ?_) ?_ ?_
    rotate_left
    ·simp only [putAll, Act.put, sn1, sn2, sn3]
     rfl
    refine one_ (i := 18) (N := some 73) #[tt,tt,tt,tt,tt,tt,tt,tt,tt,tt,tt,tt,tt,tt,tt,tt,tt,tt,tt,ff] rfl rfl (by kernel_rfl) (by decide) (fun K hK => ?_)
    refine Kd.R_append_rows_step (Kd.int .i64) (w0 := wd) wd.heap.size (by rfl) (.tmp 63) (.tmp 72) 36 3 (.int .i64 0) 8 rfl Tryz.underlying36 info3 rfl (by decide) (by omega) v2 M [p, m] (some ⟨sb, 0, none⟩) 2 2 (fun _ => True) (fun _ => False) rfl rfl HV.out (Kd.R_reads' HZ.out).2.2 (fun _ _ h => h) (fun _ h => h.elim) (fun _ _ => trivial) HS.out HS.out.size (by have := HML.out; simp; omega) ?_
    intro v3 w3 ho3 hb3 hg3 hat3
    obtain ⟨Af, nf, kf, rfl⟩ := R_slc ho3
    have HV3 := Aside0.mk ho3
    have HS3 := Aside0.mk hb3
    refine hK.out _ _ ⟨pw_cell_below HS3.out d7, pw_cell_below HS3.out dj⟩ (fun hHeld => ?_)
    clear hK K
    refine norm_ (a' := ?_) ?_ ?_
    rotate_left
    ·show Act.put _ (some 73) _ = _
     simp only [Act.put, sn1, sn2, sn3, i64_w]
     rfl
    refine pure_ (i := 19) (N := some 4) (v := ?_) (a' := ?_) #[tt,tt,tt,tt,tt,tt,tt,tt,tt,tt,tt,tt,tt,tt,tt,tt,tt,tt,tt,tt] rfl rfl (by kernel_rfl) (fun _ _ _ h => h) (Or.inl ⟨by rfl, ?_⟩) ?_ ?_
    rotate_left
    ·intro w'
     go_simp
     with_reducible rfl
    rotate_left
    ·simp only [Act.put, sn1, sn2, sn3, i64_w]
     rfl
    refine done_ (by kernel_rfl) ?_
    go_wp2_with fail
    go_ret
    exact ⟨_, rfl, Kd.R_lower HV3.out hs0, HB0.out.trans (HS3.out.mono hs0)⟩
   | true =>
    have hn4 : ¬ n < 2 := fun hx => hn3 ⟨hb1, hx⟩
    have hm20 : 0 ≤ m2 := by omega
    have hm21 : m2 < t.word.length := by omega
    have hlt2 : m2.toNat < t.word.length := by omega
    obtain ⟨gw', cw', q2, hvw', _, hq2, b0, b1, b2, b3⟩ := h.r.w.get m2 hm20 hm21
    cases hvw'
    have hq2' : t.mv m2 = q2 := hq2
    rw [hq2', hb1, Bool.true_and] at hL
    have HE1 := Aside0.mk hb1
    clear hn3 hb1 hq2 hq2'
    cases hb2 : isEscB q2 with
    | false =>
     rw [hb2, Bool.false_and, if_neg (by decide)] at hL
     have HE2 := Aside0.mk hb2
     clear hb2
     obtain ⟨M, hM, rfl⟩ := Option.map_eq_some_iff.1 hL
     have hML := seenF_len k hM
     obtain ⟨gj, cj, hvj, hgj, aj⟩ := h.r.j.get m.toNat (by have := h.ok.hj; omega)
     cases hvj
     have hjl := h.ok.hj
     have h7 : w.cell? ⟨g, 7, none⟩ = some (.slice (some ⟨gj, 0, none⟩) t.just.length cj) := (blk_cell h.b 7).trans rfl
     obtain ⟨p, hp⟩ : ∃ p, t.just.getD m.toNat 0 = p := ⟨_, rfl⟩
     have hpj : t.jst m = p := hp
     rw [hp] at aj
     rw [hpj] at hM ⊢
     have HI := Aside0.mk (fun (V : World) (hb : Below w.heap.size w V) => ih (w := V) (h.below hb) hM (by omega))
     have HML := Aside0.mk hML
     have hmj : m.toNat < t.just.length := by omega
     have hmjz : m < (t.just.length : Int) := by omega
     have cbj : decide (m < (t.just.length : Int)) = true := decide_eq_true hmjz
     clear h hq' ih hf hp hpj hM hL hML
     go_enter Tryz.func70, Tryz.ntmps70
     go_upto_region 7 with (first
      | (go_at_call 38; with_reducible refine (rEsc_any q _).mono ?_; rw [HE1.out]; rintro e w1 ⟨rfl, hw1⟩; have Bw1 := Aside0.mk (HB.out.trans (hw1.mono (by simp))); have sw1 : w.heap.size + 1 ≤ w1.heap.size := (by have := hw1.size; simpa using this); have h4w1 := pw_cell_below Bw1.out h4; have e0 := pw_cell_below Bw1.out b0; have e1 := pw_cell_below Bw1.out b1; have e2 := pw_cell_below Bw1.out b2; have e3 := pw_cell_below Bw1.out b3)
      | (go_at_call 38; with_reducible refine (rEsc_any q2 _).mono ?_; rw [HE2.out]; rintro e w2 ⟨rfl, hw2⟩; have Bw2 := Aside0.mk (Bw1.out.trans (hw2.mono (by omega))); have sw2 : w.heap.size + 1 ≤ w2.heap.size := (by have := hw2.size; omega); have h4w2 := pw_cell_below Bw2.out h4; skip))
     have HB0 := Aside0.mk ((Bw2.out).drew)
     have d7 : (w2).drew.cell? ⟨g, 7, none⟩ = some (.slice (some ⟨gj, 0, none⟩) t.just.length cj) := pw_cell_below HB0.out h7
     have dj : (w2).drew.cell? ⟨gj, m.toNat, none⟩ = some (.int .i64 p) := pw_cell_below HB0.out aj
     have hs0 : w.heap.size ≤ (w2).drew.heap.size := HB0.out.size
     refine start_ (n := 20) (S := fun w' => w'.cell? ⟨g, 7, none⟩ = some (.slice (some ⟨gj, 0, none⟩) t.just.length cj) ∧ w'.cell? ⟨gj, m.toNat, none⟩ = some (.int .i64 p)) (ds := []) #[ff,ff,ff,ff,ff,ff,ff,ff,ff,ff,ff,ff,ff,ff,ff,ff,ff,ff,ff,ff] (by kernel_rfl) rfl rfl ⟨d7, dj⟩ (fun hHeld => ?_)
     generalize (w2).drew = wd at HB0 d7 dj hs0 hHeld ⊢
     refine pure_ (i := 0) (N := some 55) (v := ?_) (a' := ?_) #[tt,ff,ff,ff,ff,ff,ff,ff,ff,ff,ff,ff,ff,ff,ff,ff,ff,ff,ff,ff] rfl rfl (by kernel_rfl) (fun _ _ _ h => h) (Or.inl ⟨by rfl, ?_⟩) ?_ ?_
     rotate_left
     ·intro w'
      go_simp
      with_reducible rfl
     rotate_left
     ·simp only [Act.put, sn1, sn2, sn3, i64_w]
      rfl
     refine pure_ (i := 1) (N := some 56) (v := ?_) (a' := ?_) #[tt,tt,ff,ff,ff,ff,ff,ff,ff,ff,ff,ff,ff,ff,ff,ff,ff,ff,ff,ff] rfl rfl (by kernel_rfl) (fun _ _ _ h => h) (Or.inl ⟨by rfl, ?_⟩) ?_ ?_
     rotate_left
     ·intro w'
      go_simp
      with_reducible rfl
     rotate_left
     ·simp only [Act.put, sn1, sn2, sn3, i64_w]
      rfl
     refine pure_ (i := 2) (N := some 57) (v := ?_) (a' := ?_) #[tt,tt,tt,ff,ff,ff,ff,ff,ff,ff,ff,ff,ff,ff,ff,ff,ff,ff,ff,ff] rfl rfl (by kernel_rfl) (fun _ _ _ h => h) (Or.inl ⟨by rfl, ?_⟩) ?_ ?_
     rotate_left
     ·intro w'
      go_simp
      with_reducible rfl
     rotate_left
     ·simp only [Act.put, sn1, sn2, sn3, i64_w]
      rfl
     refine pure_ (i := 3) (N := some 58) (v := ?_) (a' := ?_) #[tt,tt,tt,tt,ff,ff,ff,ff,ff,ff,ff,ff,ff,ff,ff,ff,ff,ff,ff,ff] rfl rfl (by kernel_rfl) (fun _ _ _ h => h) (Or.inl ⟨by rfl, ?_⟩) ?_ ?_
     rotate_left
     ·intro w'
      go_simp
      with_reducible rfl
     rotate_left
     ·simp only [Act.put, sn1, sn2, sn3, i64_w]
      rfl
     refine pure_ (i := 5) (N := some 60) (v := ?_) (a' := ?_) #[tt,tt,tt,tt,ff,tt,ff,ff,ff,ff,ff,ff,ff,ff,ff,ff,ff,ff,ff,ff] rfl rfl (by kernel_rfl) (fun _ _ _ h => h) (Or.inl ⟨by rfl, ?_⟩) ?_ ?_
     rotate_left
     ·intro w'
      go_simp
      with_reducible rfl
     rotate_left
     ·simp only [Act.put, sn1, sn2, sn3, i64_w]
      rfl
     refine pure_ (i := 9) (N := some 64) (v := ?_) (a' := ?_) #[tt,tt,tt,tt,ff,tt,ff,ff,ff,tt,ff,ff,ff,ff,ff,ff,ff,ff,ff,ff] rfl rfl (by kernel_rfl) (fun _ _ _ h => h) (Or.inl ⟨by rfl, ?_⟩) ?_ ?_
     rotate_left
     ·intro w'
      go_simp
      with_reducible rfl
     rotate_left
     ·simp only [Act.put, sn1, sn2, sn3, i64_w]
      rfl
     refine pure_ (i := 10) (N := some 65) (v := ?_) (a' := ?_) #[tt,tt,tt,tt,ff,tt,ff,ff,ff,tt,tt,ff,ff,ff,ff,ff,ff,ff,ff,ff] rfl rfl (by kernel_rfl) (fun _ _ _ h => h) (Or.inl ⟨by rfl, ?_⟩) ?_ ?_
     rotate_left
     ·intro w'
      go_simp
      with_reducible rfl
     rotate_left
     ·simp only [Act.put, sn1, sn2, sn3, i64_w]
      rfl
     refine pure_ (i := 11) (N := some 66) (v := ?_) (a' := ?_) #[tt,tt,tt,tt,ff,tt,ff,ff,ff,tt,tt,tt,ff,ff,ff,ff,ff,ff,ff,ff] rfl rfl (by kernel_rfl) (fun _ _ _ h => h) (Or.inl ⟨by rfl, ?_⟩) ?_ ?_
     rotate_left
     ·intro w'
      go_simp
      with_reducible rfl
     rotate_left
     ·simp only [Act.put, sn1, sn2, sn3, i64_w]
      rfl
     refine pure_ (i := 13) (N := some 68) (v := ?_) (a' := ?_) #[tt,tt,tt,tt,ff,tt,ff,ff,ff,tt,tt,tt,ff,tt,ff,ff,ff,ff,ff,ff] rfl rfl (by kernel_rfl) (fun _ _ _ h => h) (Or.inl ⟨by rfl, ?_⟩) ?_ ?_
     rotate_left
     ·intro w'
      go_simp
      with_reducible rfl
     rotate_left
     ·simp only [Act.put, sn1, sn2, sn3, i64_w]
      rfl
     refine pure_ (i := 16) (N := some 71) (v := ?_) (a' := ?_) #[tt,tt,tt,tt,ff,tt,ff,ff,ff,tt,tt,tt,ff,tt,ff,ff,tt,ff,ff,ff] rfl rfl (by kernel_rfl) (fun _ _ _ h => h) (Or.inl ⟨by rfl, ?_⟩) ?_ ?_
     rotate_left
     ·intro w'
      go_simp
      with_reducible rfl
     rotate_left
     ·simp only [Act.put, sn1, sn2, sn3, i64_w]
      rfl
     refine take_ (i := 4) (N := some 59) (v := ?_) (a' := ?_) #[tt,tt,tt,tt,tt,tt,ff,ff,ff,tt,tt,tt,ff,tt,ff,ff,tt,ff,ff,ff] rfl rfl (by kernel_rfl) (fun _ _ _ h => h) (Or.inl ⟨by rfl, ?_⟩) hHeld ?_ ?_
     rotate_left
     ·rintro w' ⟨s0, s1⟩
      go_simp
      with_reducible rfl
     rotate_left
     ·simp only [Act.put, sn1, sn2, sn3, i64_w]
      rfl
     refine pure_ (i := 6) (N := some 61) (v := ?_) (a' := ?_) #[tt,tt,tt,tt,tt,tt,tt,ff,ff,tt,tt,tt,ff,tt,ff,ff,tt,ff,ff,ff] rfl rfl (by kernel_rfl) (fun _ _ _ h => h) (Or.inl ⟨by rfl, ?_⟩) ?_ ?_
     rotate_left
     ·intro w'
      go_simp
      with_reducible rfl
     rotate_left
     ·simp only [Act.put, sn1, sn2, sn3, i64_w]
      rfl
     refine take_ (i := 7) (N := some 62) (v := ?_) (a' := ?_) #[tt,tt,tt,tt,tt,tt,tt,tt,ff,tt,tt,tt,ff,tt,ff,ff,tt,ff,ff,ff] rfl rfl (by kernel_rfl) (fun _ _ _ h => h) (Or.inl ⟨by rfl, ?_⟩) hHeld ?_ ?_
     rotate_left
     ·rintro w' ⟨s0, s1⟩
      go_simp
      with_reducible rfl
     rotate_left
     ·simp only [Act.put, sn1, sn2, sn3, i64_w]
      rfl
     refine take_ (i := 12) (N := some 67) (v := ?_) (a' := ?_) #[tt,tt,tt,tt,tt,tt,tt,tt,ff,tt,tt,tt,tt,tt,ff,ff,tt,ff,ff,ff] rfl rfl (by kernel_rfl) (fun _ _ _ h => h) (Or.inl ⟨by rfl, ?_⟩) hHeld ?_ ?_
     rotate_left
     ·rintro w' ⟨s0, s1⟩
      go_simp
      with_reducible rfl
     rotate_left
     ·simp only [Act.put, sn1, sn2, sn3, i64_w]
      rfl
     refine pure_ (i := 14) (N := some 69) (v := ?_) (a' := ?_) #[tt,tt,tt,tt,tt,tt,tt,tt,ff,tt,tt,tt,tt,tt,tt,ff,tt,ff,ff,ff] rfl rfl (by kernel_rfl) (fun _ _ _ h => h) (Or.inl ⟨by rfl, ?_⟩) ?_ ?_
     rotate_left
     ·intro w'
      go_simp
      with_reducible rfl
     rotate_left
     ·simp only [Act.put, sn1, sn2, sn3, i64_w]
      rfl
     refine take_ (i := 15) (N := some 70) (v := ?_) (a' := ?_) #[tt,tt,tt,tt,tt,tt,tt,tt,ff,tt,tt,tt,tt,tt,tt,tt,tt,ff,ff,ff] rfl rfl (by kernel_rfl) (fun _ _ _ h => h) (Or.inl ⟨by rfl, ?_⟩) hHeld ?_ ?_
     rotate_left
     ·rintro w' ⟨s0, s1⟩
      go_simp
      with_reducible rfl
     rotate_left
     ·simp only [Act.put, sn1, sn2, sn3, i64_w]
      rfl
     refine join_ (σ := Nat × Value) 2 #[tt,tt,tt,tt,tt,tt,tt,tt,tt,tt,tt,tt,tt,tt,tt,tt,tt,tt,ff,ff] (fun s => [(63, s.2), (72, .slice (some ⟨s.1, 0, none⟩) 2 2)]) (fun s w' => Below wd.heap.size wd w' ∧ RI w' wd.heap.size s.2 M ∧ RI w' wd.heap.size (.slice (some ⟨s.1, 0, none⟩) 2 2) [p, m]) ?_ ?_
     rotate_left
     ·intro hCont
      refine two_ (i := 8) (j := 17) (Ni := some 63) (Nj := some 72) #[tt,tt,tt,tt,tt,tt,tt,tt,tt,tt,tt,tt,tt,tt,tt,tt,tt,ff,ff,ff] #[tt,tt,tt,tt,tt,tt,tt,tt,ff,tt,tt,tt,tt,tt,tt,tt,tt,tt,ff,ff] rfl rfl rfl rfl (by kernel_rfl) (by decide) (by decide) (fun K hK => ?_) (fun K hK => ?_)
      ·skip
       refine goes_ Tryz.func70 (by kernel_rfl) rfl #[.pointer (some ⟨g, 0, none⟩), .int .i64 p] (by rfl) rfl rfl (by simp only [List.map_toArray, List.map_cons, List.map_nil]; rfl) ?_
       with_reducible refine (HI.out _ (HB0.out.trans (Below.mono (Below.refl _ wd) hs0))).mono ?_
       rintro e w2 ⟨v2, rfl, hR2, hb2⟩
       refine ⟨_, rfl, ?_⟩
       obtain ⟨A2, n2, k2, rfl⟩ := R_slc hR2
       refine hK.out _ _ ⟨pw_cell_below hb2 d7, pw_cell_below hb2 dj⟩ (fun hHeld => ?_)
       clear hK K
       refine norm_ (a' := ?_) ?_ ?_
       rotate_left
       ·show Act.put _ (some 63) _ = _
        simp only [Act.put, sn1, sn2, sn3, i64_w]
        rfl
       refine one_ (i := 17) (N := some 72) #[tt,tt,tt,tt,tt,tt,tt,tt,tt,tt,tt,tt,tt,tt,tt,tt,tt,tt,ff,ff] rfl rfl (by kernel_rfl) (by decide) (fun K hK => ?_)
       refine value_ (w1 := ?_) (v := ?_) (by rfl) rfl ?_ ?_
       rotate_left 2
       ·go_simp
        constructor
        ·rfl
        rfl
       refine hK.out _ _ ⟨pw_cell_below (hb2.alloc hb2.size (.cells #[.int .i64 p, .int .i64 m] 3)) d7, pw_cell_below (hb2.alloc hb2.size (.cells #[.int .i64 p, .int .i64 m] 3)) dj⟩ (fun hHeld => ?_)
       clear hK K
       refine norm_ (a' := ?_) ?_ ?_
       rotate_left
       ·show Act.put _ (some 72) _ = _
        simp only [Act.put, sn1, sn2, sn3, i64_w]
        rfl
       exact norm_ (by simp only [putAll, Act.put, sn1, sn2, sn3]) (hCont (w2.heap.size, .slice A2 n2 k2) _ ⟨hb2.alloc hb2.size _, Kd.R_alloc hR2 _, RI_lit2 _ _ _ _ hb2.size⟩)
      skip
      refine value_ (w1 := ?_) (v := ?_) (by rfl) rfl ?_ ?_
      rotate_left 2
      ·go_simp
       constructor
       ·rfl
       rfl
      refine hK.out _ _ ⟨pw_cell_below (Below.alloc (Below.refl _ wd) (Nat.le_refl _) (.cells #[.int .i64 p, .int .i64 m] 3)) d7, pw_cell_below (Below.alloc (Below.refl _ wd) (Nat.le_refl _) (.cells #[.int .i64 p, .int .i64 m] 3)) dj⟩ (fun hHeld => ?_)
      clear hK K
      refine norm_ (a' := ?_) ?_ ?_
      rotate_left
      ·show Act.put _ (some 72) _ = _
       simp only [Act.put, sn1, sn2, sn3, i64_w]
       rfl
      refine one_ (i := 8) (N := some 63) #[tt,tt,tt,tt,tt,tt,tt,tt,tt,tt,tt,tt,tt,tt,tt,tt,tt,tt,ff,ff] rfl rfl (by kernel_rfl) (by decide) (fun K hK => ?_)
      refine goes_ Tryz.func70 (by kernel_rfl) rfl #[.pointer (some ⟨g, 0, none⟩), .int .i64 p] (by rfl) rfl rfl (by simp only [List.map_toArray, List.map_cons, List.map_nil]; rfl) ?_
      with_reducible refine (HI.out _ (HB0.out.trans (Below.mono (Below.alloc (Below.refl _ wd) (Nat.le_refl _) (.cells #[.int .i64 p, .int .i64 m] 3)) hs0))).mono ?_
      rintro e w2 ⟨v2, rfl, hR2, hb2⟩
      refine ⟨_, rfl, ?_⟩
      obtain ⟨A2, n2, k2, rfl⟩ := R_slc hR2
      refine hK.out _ _ ⟨pw_cell_below ((Below.alloc (Below.refl _ wd) (Nat.le_refl _) (.cells #[.int .i64 p, .int .i64 m] 3)).trans (hb2.mono (by simp))) d7, pw_cell_below ((Below.alloc (Below.refl _ wd) (Nat.le_refl _) (.cells #[.int .i64 p, .int .i64 m] 3)).trans (hb2.mono (by simp))) dj⟩ (fun hHeld => ?_)
      clear hK K
      refine norm_ (a' := ?_) ?_ ?_
      rotate_left
      ·show Act.put _ (some 63) _ = _
       simp only [Act.put, sn1, sn2, sn3, i64_w]
       rfl
      exact norm_ (by simp only [putAll, Act.put, sn1, sn2, sn3]) (hCont (wd.heap.size, .slice A2 n2 k2) _ ⟨(Below.alloc (Below.refl _ wd) (Nat.le_refl _) (.cells #[.int .i64 p, .int .i64 m] 3)).trans (hb2.mono (by simp)), Kd.R_lower hR2 (by simp), R_st (RI_lit2 wd wd.heap.size p m (Nat.le_refl _)) (St.of_below (b := 0) (ex := fun _ => False) hb2)⟩)
     rintro ⟨sb, v2⟩ w2 ⟨hS, hV, hZ⟩
     have HS := Aside0.mk hS
     have HV := Aside0.mk hV
     have HZ := Aside0.mk hZ
     clear hS hZ hV
     have hHeld : w2.cell? ⟨g, 7, none⟩ = some (.slice (some ⟨gj, 0, none⟩) t.just.length cj) ∧ w2.cell? ⟨gj, m.toNat, none⟩ = some (.int .i64 p) := ⟨pw_cell_below HS.out d7, pw_cell_below HS.out dj⟩
     refine norm_ (a' := ?_) ?_ ?_
     rotate_left
     ·simp only [putAll, Act.put, sn1, sn2, sn3]
      rfl
     refine one_ (i := 18) (N := some 73) #[tt,tt,tt,tt,tt,tt,tt,tt,tt,tt,tt,tt,tt,tt,tt,tt,tt,tt,tt,ff] rfl rfl (by kernel_rfl) (by decide) (fun K hK => ?_)
     refine Kd.R_append_rows_step (Kd.int .i64) (w0 := wd) wd.heap.size (by rfl) (.tmp 63) (.tmp 72) 36 3 (.int .i64 0) 8 rfl Tryz.underlying36 info3 rfl (by decide) (by omega) v2 M [p, m] (some ⟨sb, 0, none⟩) 2 2 (fun _ => True) (fun _ => False) rfl rfl HV.out (Kd.R_reads' HZ.out).2.2 (fun _ _ h => h) (fun _ h => h.elim) (fun _ _ => trivial) HS.out HS.out.size (by have := HML.out; simp; omega) ?_
     intro v3 w3 ho3 hb3 hg3 hat3
     obtain ⟨Af, nf, kf, rfl⟩ := R_slc ho3
     have HV3 := Aside0.mk ho3
     have HS3 := Aside0.mk hb3
     refine hK.out _ _ ⟨pw_cell_below HS3.out d7, pw_cell_below HS3.out dj⟩ (fun hHeld => ?_)
     clear hK K
     refine norm_ (a' := ?_) ?_ ?_
     rotate_left
     ·show Act.put _ (some 73) _ = _
      simp only [Act.put, sn1, sn2, sn3, i64_w]
      rfl
     refine pure_ (i := 19) (N := some 4) (v := ?_) (a' := ?_) #[tt,tt,tt,tt,tt,tt,tt,tt,tt,tt,tt,tt,tt,tt,tt,tt,tt,tt,tt,tt] rfl rfl (by kernel_rfl) (fun _ _ _ h => h) (Or.inl ⟨by rfl, ?_⟩) ?_ ?_
     rotate_left
     ·intro w'
      go_simp
      with_reducible rfl
     rotate_left
     ·simp only [Act.put, sn1, sn2, sn3, i64_w]
      rfl
     refine done_ (by kernel_rfl) ?_
     go_wp2_with fail
     go_ret
     exact ⟨_, rfl, Kd.R_lower HV3.out hs0, HB0.out.trans (HS3.out.mono hs0)⟩
    | true =>
     rw [hb2, Bool.true_and] at hL
     have HE2 := Aside0.mk hb2
     clear hb2
     cases hb3 : decide (0 < q2.f1) with
     | false =>
      rw [hb3, if_neg (by decide)] at hL
      obtain ⟨M, hM, rfl⟩ := Option.map_eq_some_iff.1 hL
      have hML := seenF_len k hM
      obtain ⟨gj, cj, hvj, hgj, aj⟩ := h.r.j.get m.toNat (by have := h.ok.hj; omega)
      cases hvj
      have hjl := h.ok.hj
      have h7 : w.cell? ⟨g, 7, none⟩ = some (.slice (some ⟨gj, 0, none⟩) t.just.length cj) := (blk_cell h.b 7).trans rfl
      obtain ⟨p, hp⟩ : ∃ p, t.just.getD m.toNat 0 = p := ⟨_, rfl⟩
      have hpj : t.jst m = p := hp
      rw [hp] at aj
      rw [hpj] at hM ⊢
      have HI := Aside0.mk (fun (V : World) (hb : Below w.heap.size w V) => ih (w := V) (h.below hb) hM (by omega))
      have HML := Aside0.mk hML
      have hmj : m.toNat < t.just.length := by omega
      have hmjz : m < (t.just.length : Int) := by omega
      have cbj : decide (m < (t.just.length : Int)) = true := decide_eq_true hmjz
      clear h hq' ih hf hp hpj hM hL hML
      go_enter Tryz.func70, Tryz.ntmps70
      go_upto_region 7 with (first
       | (go_at_call 38; with_reducible refine (rEsc_any q _).mono ?_; rw [HE1.out]; rintro e w1 ⟨rfl, hw1⟩; have Bw1 := Aside0.mk (HB.out.trans (hw1.mono (by simp))); have sw1 : w.heap.size + 1 ≤ w1.heap.size := (by have := hw1.size; simpa using this); have h4w1 := pw_cell_below Bw1.out h4; have e0 := pw_cell_below Bw1.out b0; have e1 := pw_cell_below Bw1.out b1; have e2 := pw_cell_below Bw1.out b2; have e3 := pw_cell_below Bw1.out b3)
       | (go_at_call 38; with_reducible refine (rEsc_any q2 _).mono ?_; rw [HE2.out]; rintro e w2 ⟨rfl, hw2⟩; have Bw2 := Aside0.mk (Bw1.out.trans (hw2.mono (by omega))); have sw2 : w.heap.size + 1 ≤ w2.heap.size := (by have := hw2.size; omega); have h4w2 := pw_cell_below Bw2.out h4; have f1 := pw_cell_below Bw2.out b1))
      have HB0 := Aside0.mk ((Bw2.out).drew)
      have d7 : (w2).drew.cell? ⟨g, 7, none⟩ = some (.slice (some ⟨gj, 0, none⟩) t.just.length cj) := pw_cell_below HB0.out h7
      have dj : (w2).drew.cell? ⟨gj, m.toNat, none⟩ = some (.int .i64 p) := pw_cell_below HB0.out aj
      have hs0 : w.heap.size ≤ (w2).drew.heap.size := HB0.out.size
      refine start_ (n := 20) (S := fun w' => w'.cell? ⟨g, 7, none⟩ = some (.slice (some ⟨gj, 0, none⟩) t.just.length cj) ∧ w'.cell? ⟨gj, m.toNat, none⟩ = some (.int .i64 p)) (ds := []) #[ff,ff,ff,ff,ff,ff,ff,ff,ff,ff,ff,ff,ff,ff,ff,ff,ff,ff,ff,ff] (by kernel_rfl) rfl rfl ⟨d7, dj⟩ (fun hHeld => ?_)
      generalize (w2).drew = wd at HB0 d7 dj hs0 hHeld ⊢
      refine pure_ (i := 0) (N := some 55) (v := ?_) (a' := ?_) #[tt,ff,ff,ff,ff,ff,ff,ff,ff,ff,ff,ff,ff,ff,ff,ff,ff,ff,ff,ff] rfl rfl (by kernel_rfl) (fun _ _ _ h => h) (Or.inl ⟨by rfl, ?_⟩) ?_ ?_
      rotate_left
      ·intro w'
       go_simp
       with_reducible rfl
      rotate_left
      ·simp only [Act.put, sn1, sn2, sn3, i64_w]
       rfl
      refine pure_ (i := 1) (N := some 56) (v := ?_) (a' := ?_) #[tt,tt,ff,ff,ff,ff,ff,ff,ff,ff,ff,ff,ff,ff,ff,ff,ff,ff,ff,ff] rfl rfl (by kernel_rfl) (fun _ _ _ h => h) (Or.inl ⟨by rfl, ?_⟩) ?_ ?_
      rotate_left
      ·intro w'
       go_simp
       with_reducible rfl
      rotate_left
      ·simp only [Act.put, sn1, sn2, sn3, i64_w]
       rfl
      refine pure_ (i := 2) (N := some 57) (v := ?_) (a' := ?_) #[tt,tt,tt,ff,ff,ff,ff,ff,ff,ff,ff,ff,ff,ff,ff,ff,ff,ff,ff,ff] rfl rfl (by kernel_rfl) (fun _ _ _ h => h) (Or.inl ⟨by rfl, ?_⟩) ?_ ?_
      rotate_left
      ·intro w'
       go_simp
       with_reducible rfl
      rotate_left
      ·simp only [Act.put, sn1, sn2, sn3, i64_w]
       rfl
      refine pure_ (i := 3) (N := some 58) (v := ?_) (a' := ?_) #[tt,tt,tt,tt,ff,ff,ff,ff,ff,ff,ff,ff,ff,ff,ff,ff,ff,ff,ff,ff] rfl rfl (by kernel_rfl) (fun _ _ _ h => h) (Or.inl ⟨by rfl, ?_⟩) ?_ ?_
      rotate_left
      ·intro w'
       go_simp
       with_reducible rfl
      rotate_left
      ·simp only [Act.put, sn1, sn2, sn3, i64_w]
       rfl
      refine pure_ (i := 5) (N := some 60) (v := ?_) (a' := ?_) #[tt,tt,tt,tt,ff,tt,ff,ff,ff,ff,ff,ff,ff,ff,ff,ff,ff,ff,ff,ff] rfl rfl (by kernel_rfl) (fun _ _ _ h => h) (Or.inl ⟨by rfl, ?_⟩) ?_ ?_
      rotate_left
      ·intro w'
       go_simp
       with_reducible rfl
      rotate_left
      ·simp only [Act.put, sn1, sn2, sn3, i64_w]
       rfl
      refine pure_ (i := 9) (N := some 64) (v := ?_) (a' := ?_) #[tt,tt,tt,tt,ff,tt,ff,ff,ff,tt,ff,ff,ff,ff,ff,ff,ff,ff,ff,ff] rfl rfl (by kernel_rfl) (fun _ _ _ h => h) (Or.inl ⟨by rfl, ?_⟩) ?_ ?_
      rotate_left
      ·intro w'
       go_simp
       with_reducible rfl
      rotate_left
      ·simp only [Act.put, sn1, sn2, sn3, i64_w]
       rfl
      refine pure_ (i := 10) (N := some 65) (v := ?_) (a' := ?_) #[tt,tt,tt,tt,ff,tt,ff,ff,ff,tt,tt,ff,ff,ff,ff,ff,ff,ff,ff,ff] rfl rfl (by kernel_rfl) (fun _ _ _ h => h) (Or.inl ⟨by rfl, ?_⟩) ?_ ?_
      rotate_left
      ·intro w'
       go_simp
       with_reducible rfl
      rotate_left
      ·simp only [Act.put, sn1, sn2, sn3, i64_w]
       rfl
      refine pure_ (i := 11) (N := some 66) (v := ?_) (a' := ?_) #[tt,tt,tt,tt,ff,tt,ff,ff,ff,tt,tt,tt,ff,ff,ff,ff,ff,ff,ff,ff] rfl rfl (by kernel_rfl) (fun _ _ _ h => h) (Or.inl ⟨by rfl, ?_⟩) ?_ ?_
      rotate_left
      ·intro w'
       go_simp
       with_reducible rfl
      rotate_left
      ·simp only [Act.put, sn1, sn2, sn3, i64_w]
       rfl
      refine pure_ (i := 13) (N := some 68) (v := ?_) (a' := ?_) #[tt,tt,tt,tt,ff,tt,ff,ff,ff,tt,tt,tt,ff,tt,ff,ff,ff,ff,ff,ff] rfl rfl (by kernel_rfl) (fun _ _ _ h => h) (Or.inl ⟨by rfl, ?_⟩) ?_ ?_
      rotate_left
      ·intro w'
       go_simp
       with_reducible rfl
      rotate_left
      ·simp only [Act.put, sn1, sn2, sn3, i64_w]
       rfl
      refine pure_ (i := 16) (N := some 71) (v := ?_) (a' := ?_) #[tt,tt,tt,tt,ff,tt,ff,ff,ff,tt,tt,tt,ff,tt,ff,ff,tt,ff,ff,ff] rfl rfl (by kernel_rfl) (fun _ _ _ h => h) (Or.inl ⟨by rfl, ?_⟩) ?_ ?_
      rotate_left
      ·intro w'
       go_simp
       with_reducible rfl
      rotate_left
      ·simp only [Act.put, sn1, sn2, sn3, i64_w]
       rfl
      refine take_ (i := 4) (N := some 59) (v := ?_) (a' := ?_) #[tt,tt,tt,tt,tt,tt,ff,ff,ff,tt,tt,tt,ff,tt,ff,ff,tt,ff,ff,ff] rfl rfl (by kernel_rfl) (fun _ _ _ h => h) (Or.inl ⟨by rfl, ?_⟩) hHeld ?_ ?_
      rotate_left
      ·rintro w' ⟨s0, s1⟩
       go_simp
       with_reducible rfl
      rotate_left
      ·simp only [Act.put, sn1, sn2, sn3, i64_w]
       rfl
      refine pure_ (i := 6) (N := some 61) (v := ?_) (a' := ?_) #[tt,tt,tt,tt,tt,tt,tt,ff,ff,tt,tt,tt,ff,tt,ff,ff,tt,ff,ff,ff] rfl rfl (by kernel_rfl) (fun _ _ _ h => h) (Or.inl ⟨by rfl, ?_⟩) ?_ ?_
      rotate_left
      ·intro w'
       go_simp
       with_reducible rfl
      rotate_left
      ·simp only [Act.put, sn1, sn2, sn3, i64_w]
       rfl
      refine take_ (i := 7) (N := some 62) (v := ?_) (a' := ?_) #[tt,tt,tt,tt,tt,tt,tt,tt,ff,tt,tt,tt,ff,tt,ff,ff,tt,ff,ff,ff] rfl rfl (by kernel_rfl) (fun _ _ _ h => h) (Or.inl ⟨by rfl, ?_⟩) hHeld ?_ ?_
      rotate_left
      ·rintro w' ⟨s0, s1⟩
       go_simp
       with_reducible rfl
      rotate_left
      ·simp only [Act.put, sn1, sn2, sn3, i64_w]
       rfl
      refine take_ (i := 12) (N := some 67) (v := ?_) (a' := ?_) #[tt,tt,tt,tt,tt,tt,tt,tt,ff,tt,tt,tt,tt,tt,ff,ff,tt,ff,ff,ff] rfl rfl (by kernel_rfl) (fun _ _ _ h => h) (Or.inl ⟨by rfl, ?_⟩) hHeld ?_ ?_
      rotate_left
      ·rintro w' ⟨s0, s1⟩
       go_simp
       with_reducible rfl
      rotate_left
      ·simp only [Act.put, sn1, sn2, sn3, i64_w]
       rfl
      refine pure_ (i := 14) (N := some 69) (v := ?_) (a' := ?_) #[tt,tt,tt,tt,tt,tt,tt,tt,ff,tt,tt,tt,tt,tt,tt,ff,tt,ff,ff,ff] rfl rfl (by kernel_rfl) (fun _ _ _ h => h) (Or.inl ⟨by rfl, ?_⟩) ?_ ?_
      rotate_left
      ·intro w'
       go_simp
       with_reducible rfl
      rotate_left
      ·simp only [Act.put, sn1, sn2, sn3, i64_w]
       rfl
      refine take_ (i := 15) (N := some 70) (v := ?_) (a' := ?_) #[tt,tt,tt,tt,tt,tt,tt,tt,ff,tt,tt,tt,tt,tt,tt,tt,tt,ff,ff,ff] rfl rfl (by kernel_rfl) (fun _ _ _ h => h) (Or.inl ⟨by rfl, ?_⟩) hHeld ?_ ?_
      rotate_left
      ·rintro w' ⟨s0, s1⟩
       go_simp
       with_reducible rfl
      rotate_left
      ·simp only [Act.put, sn1, sn2, sn3, i64_w]
       rfl
      refine join_ (σ := Nat × Value) 2 #[tt,tt,tt,tt,tt,tt,tt,tt,tt,tt,tt,tt,tt,tt,tt,tt,tt,tt,ff,ff] (fun s => [(63, s.2), (72, .slice (some ⟨s.1, 0, none⟩) 2 2)]) (fun s w' => Below wd.heap.size wd w' ∧ RI w' wd.heap.size s.2 M ∧ RI w' wd.heap.size (.slice (some ⟨s.1, 0, none⟩) 2 2) [p, m]) ?_ ?_
      rotate_left
      ·intro hCont
       refine two_ (i := 8) (j := 17) (Ni := some 63) (Nj := some 72) #[tt,tt,tt,tt,tt,tt,tt,tt,tt,tt,tt,tt,tt,tt,tt,tt,tt,ff,ff,ff] #[tt,tt,tt,tt,tt,tt,tt,tt,ff,tt,tt,tt,tt,tt,tt,tt,tt,tt,ff,ff] rfl rfl rfl rfl (by kernel_rfl) (by decide) (by decide) (fun K hK => ?_) (fun K hK => ?_)
       ·skip
        refine goes_ Tryz.func70 (by kernel_rfl) rfl #[.pointer (some ⟨g, 0, none⟩), .int .i64 p] (by rfl) rfl rfl (by simp only [List.map_toArray, List.map_cons, List.map_nil]; rfl) ?_
        with_reducible refine (HI.out _ (HB0.out.trans (Below.mono (Below.refl _ wd) hs0))).mono ?_
        rintro e w2 ⟨v2, rfl, hR2, hb2⟩
        refine ⟨_, rfl, ?_⟩
        obtain ⟨A2, n2, k2, rfl⟩ := R_slc hR2
        refine hK.out _ _ ⟨pw_cell_below hb2 d7, pw_cell_below hb2 dj⟩ (fun hHeld => ?_)
        clear hK K
        refine norm_ (a' := ?_) ?_ ?_
        rotate_left
        ·show Act.put _ (some 63) _ = _
         simp only [Act.put, sn1, sn2, sn3, i64_w]
         rfl
        refine one_ (i := 17) (N := some 72) #[tt,tt,tt,tt,tt,tt,tt,tt,tt,tt,tt,tt,tt,tt,tt,tt,tt,tt,ff,ff] rfl rfl (by kernel_rfl) (by decide) (fun K hK => ?_)
        refine value_ (w1 := ?_) (v := ?_) (by rfl) rfl ?_ ?_
        rotate_left 2
        ·go_simp
         constructor
         ·rfl
         rfl
        refine hK.out _ _ ⟨pw_cell_below (hb2.alloc hb2.size (.cells #[.int .i64 p, .int .i64 m] 3)) d7, pw_cell_below (hb2.alloc hb2.size (.cells #[.int .i64 p, .int .i64 m] 3)) dj⟩ (fun hHeld => ?_)
        clear hK K
        refine norm_ (a' := ?_) ?_ ?_
        rotate_left
        ·show Act.put _ (some 72) _ = _
         simp only [Act.put, sn1, sn2, sn3, i64_w]
         rfl
        exact norm_ (by simp only [putAll, Act.put, sn1, sn2, sn3]) (hCont (w2.heap.size, .slice A2 n2 k2) _ ⟨hb2.alloc hb2.size _, Kd.R_alloc hR2 _, RI_lit2 _ _ _ _ hb2.size⟩)
       skip
       refine value_ (w1 := ?_) (v := ?_) (by rfl) rfl ?_ ?_
       rotate_left 2
       ·go_simp
        constructor
        ·rfl
        rfl
       refine hK.out _ _ ⟨pw_cell_below (Below.alloc (Below.refl _ wd) (Nat.le_refl _) (.cells #[.int .i64 p, .int .i64 m] 3)) d7, pw_cell_below (Below.alloc (Below.refl _ wd) (Nat.le_refl _) (.cells #[.int .i64 p, .int .i64 m] 3)) dj⟩ (fun hHeld => ?_)
       clear hK K
       refine norm_ (a' := ?_) ?_ ?_
       rotate_left
       ·show Act.put _ (some 72) _ = _
        simp only [Act.put, sn1, sn2, sn3, i64_w]
        rfl
       refine one_ (i := 8) (N := some 63) #[tt,tt,tt,tt,tt,tt,tt,tt,tt,tt,tt,tt,tt,tt,tt,tt,tt,tt,ff,ff] rfl rfl (by kernel_rfl) (by decide) (fun K hK => ?_)
       refine goes_ Tryz.func70 (by kernel_rfl) rfl #[.pointer (some ⟨g, 0, none⟩), .int .i64 p] (by rfl) rfl rfl (by simp only [List.map_toArray, List.map_cons, List.map_nil]; rfl) ?_
       with_reducible refine (HI.out _ (HB0.out.trans (Below.mono (Below.alloc (Below.refl _ wd) (Nat.le_refl _) (.cells #[.int .i64 p, .int .i64 m] 3)) hs0))).mono ?_
       rintro e w2 ⟨v2, rfl, hR2, hb2⟩
       refine ⟨_, rfl, ?_⟩
       obtain ⟨A2, n2, k2, rfl⟩ := R_slc hR2
       refine hK.out _ _ ⟨pw_cell_below ((Below.alloc (Below.refl _ wd) (Nat.le_refl _) (.cells #[.int .i64 p, .int .i64 m] 3)).trans (hb2.mono (by simp))) d7, pw_cell_below ((Below.alloc (Below.refl _ wd) (Nat.le_refl _) (.cells #[.int .i64 p, .int .i64 m] 3)).trans (hb2.mono (by simp))) dj⟩ (fun hHeld => ?_)
       clear hK K
       refine norm_ (a' := ?_) ?_ ?_
       rotate_left
       ·show Act.put _ (some 63) _ = _
        simp only [Act.put, sn1, sn2, sn3, i64_w]
        rfl
       exact norm_ (by simp only [putAll, Act.put, sn1, sn2, sn3]) (hCont (wd.heap.size, .slice A2 n2 k2) _ ⟨(Below.alloc (Below.refl _ wd) (Nat.le_refl _) (.cells #[.int .i64 p, .int .i64 m] 3)).trans (hb2.mono (by simp)), Kd.R_lower hR2 (by simp), R_st (RI_lit2 wd wd.heap.size p m (Nat.le_refl _)) (St.of_below (b := 0) (ex := fun _ => False) hb2)⟩)
      rintro ⟨sb, v2⟩ w2 ⟨hS, hV, hZ⟩
      have HS := Aside0.mk hS
      have HV := Aside0.mk hV
      have HZ := Aside0.mk hZ
      clear hS hZ hV
      have hHeld : w2.cell? ⟨g, 7, none⟩ = some (.slice (some ⟨gj, 0, none⟩) t.just.length cj) ∧ w2.cell? ⟨gj, m.toNat, none⟩ = some (.int .i64 p) := ⟨pw_cell_below HS.out d7, pw_cell_below HS.out dj⟩
      refine norm_ (a' := ?_) ?_ ?_
      rotate_left
      ·simp only [putAll, Act.put, sn1, sn2, sn3]
       rfl
      refine one_ (i := 18) (N := some 73) #[tt,tt,tt,tt,tt,tt,tt,tt,tt,tt,tt,tt,tt,tt,tt,tt,tt,tt,tt,ff] rfl rfl (by kernel_rfl) (by decide) (fun K hK => ?_)
      refine Kd.R_append_rows_step (Kd.int .i64) (w0 := wd) wd.heap.size (by rfl) (.tmp 63) (.tmp 72) 36 3 (.int .i64 0) 8 rfl Tryz.underlying36 info3 rfl (by decide) (by omega) v2 M [p, m] (some ⟨sb, 0, none⟩) 2 2 (fun _ => True) (fun _ => False) rfl rfl HV.out (Kd.R_reads' HZ.out).2.2 (fun _ _ h => h) (fun _ h => h.elim) (fun _ _ => trivial) HS.out HS.out.size (by have := HML.out; simp; omega) ?_
      intro v3 w3 ho3 hb3 hg3 hat3
      obtain ⟨Af, nf, kf, rfl⟩ := R_slc ho3
      have HV3 := Aside0.mk ho3
      have HS3 := Aside0.mk hb3
      refine hK.out _ _ ⟨pw_cell_below HS3.out d7, pw_cell_below HS3.out dj⟩ (fun hHeld => ?_)
      clear hK K
      refine norm_ (a' := ?_) ?_ ?_
      rotate_left
      ·show Act.put _ (some 73) _ = _
       simp only [Act.put, sn1, sn2, sn3, i64_w]
       rfl
      refine pure_ (i := 19) (N := some 4) (v := ?_) (a' := ?_) #[tt,tt,tt,tt,tt,tt,tt,tt,tt,tt,tt,tt,tt,tt,tt,tt,tt,tt,tt,tt] rfl rfl (by kernel_rfl) (fun _ _ _ h => h) (Or.inl ⟨by rfl, ?_⟩) ?_ ?_
      rotate_left
      ·intro w'
       go_simp
       with_reducible rfl
      rotate_left
      ·simp only [Act.put, sn1, sn2, sn3, i64_w]
       rfl
      refine done_ (by kernel_rfl) ?_
      go_wp2_with fail
      go_ret
      exact ⟨_, rfl, Kd.R_lower HV3.out hs0, HB0.out.trans (HS3.out.mono hs0)⟩
     | true =>
      rw [hb3, if_pos rfl] at hL
      obtain ⟨M, hM, rfl⟩ := Option.map_eq_some_iff.1 hL
      have HML := Aside0.mk (seenF_len k hM)
      have HI := Aside0.mk (fun (V : World) (hb : Below w.heap.size w V) => ih (w := V) (h.below hb) hM (by omega))
      clear h hq' ih hf hM hL
      go_enter Tryz.func70, Tryz.ntmps70
      go_wp2_with (first
       | (go_at_call 38; with_reducible refine (rEsc_any q _).mono ?_; rw [HE1.out]; rintro e w1 ⟨rfl, hw1⟩; have Bw1 := Aside0.mk (HB.out.trans (hw1.mono (by simp))); have sw1 : w.heap.size + 1 ≤ w1.heap.size := (by have := hw1.size; simpa using this); have h4w1 := pw_cell_below Bw1.out h4; have e0 := pw_cell_below Bw1.out b0; have e1 := pw_cell_below Bw1.out b1; have e2 := pw_cell_below Bw1.out b2; have e3 := pw_cell_below Bw1.out b3)
       | (go_at_call 38; with_reducible refine (rEsc_any q2 _).mono ?_; rw [HE2.out]; rintro e w2 ⟨rfl, hw2⟩; have Bw2 := Aside0.mk (Bw1.out.trans (hw2.mono (by omega))); have sw2 : w.heap.size + 1 ≤ w2.heap.size := (by have := hw2.size; omega); have h4w2 := pw_cell_below Bw2.out h4; have f1 := pw_cell_below Bw2.out b1)
       | (go_at_call 70; refine (HI.out _ Bw2.out).mono ?_; rintro e w3 ⟨v2, rfl, hR2, hb3⟩; obtain ⟨A2, n2, k2, rfl⟩ := R_slc hR2; have HR2 := Aside0.mk (Kd.R_lower (Kd.R_alloc hR2 (.cells #[.int .i64 m2, .int .i64 m] 3)) (show w.heap.size ≤ w2.heap.size by omega)); have HB3 := Aside0.mk ((Bw2.out.trans (hb3.mono (by omega))).alloc (show w.heap.size ≤ w3.heap.size by have := hb3.size; omega) (.cells #[.int .i64 m2, .int .i64 m] 3)); have HL3 := Aside0.mk (RI_lit2 w3 w.heap.size m2 m (by have := hb3.size; omega)); clear hR2)
       | ((with_reducible refine gate_builtin (b := .append) (xs := #[.tmp 49, .tmp 53]) rfl ?_); at_builtin; refine Kd.R_append_rows (Kd.int .i64) (w0 := w) w.heap.size rfl (.tmp 49) (.tmp 53) 36 3 (.int .i64 0) 8 rfl Tryz.underlying36 info3 rfl (by decide) (by omega) (.slice A2 n2 k2) M [m2, m] (some ⟨w3.heap.size, 0, none⟩) 2 2 (fun _ => True) (fun _ => False) rfl rfl HR2.out (Kd.R_reads' HL3.out).2.2 (fun _ _ h => h) (fun _ h => h.elim) (fun _ _ => trivial) HB3.out HB3.out.size (by have := HML.out; simp; omega) ?_; intro v3 w4 ho hb hg hat; have HO2 := Aside0.mk ho; have HB4 := Aside0.mk hb; clear ho hb hg hat))
      go_ret
      exact ⟨_, rfl, HO2.out, HB4.out⟩
  cases hL
end Go.Proofs.YtjgocihflhljeaaGreat.P
namespace Go.Proofs.YtjgocihflhljeaaGreat.P
open Go.RowKit Go.Shelf Go.Proofs.YtjgocihflhljeaaGreatW.PrintWords Go.Proofs.YtjgocihflhljeaaGreatW.PrintLast Go.Proofs.YtjgocihflhljeaaGreatW.PrintMore
def Tk.prt (t : Tk) (i : Nat) : Int := t.part.getD i 0
def Tk.jus (t : Tk) (i : Nat) : Int := t.just.getD i 0
def Tk.frd (t : Tk) (i : Nat) : Bool := t.forc.getD i false
structure Tk.InvC (t : Tk) : Prop where
 ans : ∀ i : Nat, i < t.word.length → isAns (t.mv i) = true → ∃ j : Nat, j < i ∧ t.prt i = j ∧ t.jus i = j ∧ isAns (t.mv j) = false ∧ (t.mv j).f0 = (t.mv i).f0 ∧ (t.mv j).f1 = (t.mv i).f1
 idn : ∀ i : Nat, i < t.word.length → isAns (t.mv i) = false → isIdent (t.mv i) = true → t.jus i = 0 ∧ 0 < i
 par : ∀ i : Nat, i < t.word.length → isAns (t.mv i) = false → isPar (t.mv i) = true → ∃ j : Nat, j < i ∧ t.jus i = j ∧ isAns (t.mv j) = false ∧ isIdent (t.mv j) = true ∧ (t.mv j).f0 = (t.mv i).f0
 rot : ∀ i : Nat, i < t.word.length → isAns (t.mv i) = false → (t.mv i).f0 = 0 → t.jus i = -1
 frc : ∀ i : Nat, i < t.word.length → t.frd i = (decide (0 < i) && isEscB (t.mv ((i : Int) - 1)) && decide (0 < (t.mv ((i : Int) - 1)).f1))
 fes : ∀ i : Nat, i < t.word.length → t.frd i = true → isEscB (t.mv i) = true
 zer : 0 < t.word.length → (t.mv 0).f0 = 0
theorem Tk.InvC.empty : Tk.empty.InvC := ⟨fun k h => by simp [Tk.empty] at h, fun k h => by simp [Tk.empty] at h, fun k h => by simp [Tk.empty] at h, fun k h => by simp [Tk.empty] at h, fun k h => by simp [Tk.empty] at h, fun k h => by simp [Tk.empty] at h, fun h => by simp [Tk.empty] at h⟩
theorem say_prt (t : Tk) (m : Mv) (ho : t.Ok) (i : Nat) (hi : i ≤ t.word.length) : (t.say m).prt i = if i = t.word.length then (if isAns m then t.topI else -1) else if isAns m = true ∧ t.topI.toNat = i then t.word.length else t.prt i := by
 have hp := ho.hp
 show ((if isAns m then t.part.set t.topI.toNat t.word.length else t.part) ++ [if isAns m then t.topI else -1]).getD i 0 = _
 have hl : (if isAns m then t.part.set t.topI.toNat t.word.length else t.part).length = t.word.length := by
  split <;> simp [hp]
 rw [getD_snoc, hl]
 by_cases h : i = t.word.length
 ·rw [if_neg (by omega), if_pos h, if_pos h]
 rw [if_pos (by omega), if_neg h]
 cases ha : isAns m with
 | true =>
  rw [if_pos rfl]
  by_cases h2 : t.topI.toNat = i
  ·rw [if_pos ⟨rfl, h2⟩, h2, List.getD_eq_getElem?_getD, List.getElem?_set_self (by omega)]
   rfl
  rw [if_neg (by simpa using h2), List.getD_eq_getElem?_getD, List.getElem?_set_ne h2]
  exact (List.getD_eq_getElem?_getD ..).symm
 | false =>
  rw [if_neg (by decide), if_neg (by simp)]
  rfl
theorem say_jus (t : Tk) (m : Mv) (ho : t.Ok) (i : Nat) (hi : i ≤ t.word.length) : (t.say m).jus i = if i = t.word.length then t.justOf m else t.jus i := by
 have hp := ho.hj
 show (t.just ++ [t.justOf m]).getD i 0 = _
 rw [getD_snoc, hp]
 by_cases h : i = t.word.length
 ·rw [if_neg (by omega), if_pos h, if_pos h]
 rw [if_pos (by omega), if_neg h]
 rfl
theorem say_frd (t : Tk) (m : Mv) (ho : t.Ok) (i : Nat) (hi : i ≤ t.word.length) : (t.say m).frd i = if i = t.word.length then t.force else t.frd i := by
 have hp := ho.hf
 show (t.forc ++ [t.force]).getD i false = _
 rw [getD_snoc, hp]
 by_cases h : i = t.word.length
 ·rw [if_neg (by omega), if_pos h, if_pos h]
 rw [if_pos (by omega), if_neg h]
 rfl
theorem say_mvN (t : Tk) (m : Mv) (i : Nat) (h : i < t.word.length) : (t.say m).mv (i : Int) = t.mv i := say_mv_old (by omega) (by omega)
theorem topI_of {t : Tk} {q : Int} (h : t.top = some q) : t.topI = q := by rw [Tk.topI, h]; rfl
theorem answers_esc {t : Tk} {jb : Bool} {q m : Mv} (h : t.answers jb q m = true) (hf : t.force = true ∨ t.lost = true) : isEscB m = true := by
 unfold Tk.answers at h
 have : (t.force || t.lost) = true := by rcases hf with h | h <;> simp [h]
 rw [this, if_pos rfl] at h
 exact h
theorem Tk.InvC.say {t : Tk} {jb : Bool} {m : Mv} (h : t.InvC) (hA : t.InvA) (ho : t.Ok) (hfo : t.force = (decide (0 < t.word.length) && isEscB (t.mv ((t.word.length : Int) - 1)) && decide (0 < (t.mv ((t.word.length : Int) - 1)).f1))) (hm : MvOk m) (hw : Way t jb m) : (t.say m).InvC := by
 have hl := say_len t m
 have htop : ∀ q, t.top = some q → ∃ j : Nat, (j : Int) = q ∧ j < t.word.length ∧ isAns (t.mv j) = false := by
  intro q hq
  have h1 := hA.top hq
  exact ⟨q.toNat, by omega, by omega, by rw [Int.toNat_of_nonneg h1.1]; exact h1.2.2.1⟩
 refine ⟨?_, ?_, ?_, ?_, ?_, ?_, ?_⟩
 ·intro i hi ha
  rw [hl] at hi
  by_cases hin : i = t.word.length
  ·subst hin
   rw [say_mv_new] at ha ⊢
   cases hw with
   | root _ _ ha' _ _ => rw [ha] at ha'; cases ha'
   | ident _ _ _ ha' _ _ _ => rw [ha] at ha'; cases ha'
   | param _ _ _ ha' _ _ _ _ => rw [ha] at ha'; cases ha'
   | answer q ht _ h0 h1 hn =>
    obtain ⟨j, hj, hjl, hja⟩ := htop q ht
    refine ⟨j, hjl, ?_, ?_, ?_, ?_, ?_⟩
    ·rw [say_prt _ _ ho _ (Nat.le_refl _), if_pos rfl, if_pos ha, topI_of ht, hj]
    ·rw [say_jus _ _ ho _ (Nat.le_refl _), if_pos rfl, Tk.justOf, if_pos ha, topI_of ht, hj]
    ·rw [say_mvN _ _ _ hjl]; exact hja
    ·rw [say_mvN _ _ _ hjl, hj, h0]
    rw [say_mvN _ _ _ hjl, hj, h1]
  have hi' : i < t.word.length := by omega
  rw [say_mvN _ _ _ hi'] at ha ⊢
  obtain ⟨j, hj, h1, h2, h3, h4, h5⟩ := h.ans i hi' ha
  refine ⟨j, hj, ?_, ?_, ?_, ?_, ?_⟩
  ·rw [say_prt _ _ ho _ (by omega), if_neg hin, if_neg, h1]
   rintro ⟨ham, hti⟩
   cases hw with
   | root _ _ ha' _ _ => rw [ham] at ha'; cases ha'
   | ident _ _ _ ha' _ _ _ => rw [ham] at ha'; cases ha'
   | param _ _ _ ha' _ _ _ _ => rw [ham] at ha'; cases ha'
   | answer q ht _ _ _ _ =>
    obtain ⟨k, hk, hkl, hka⟩ := htop q ht
    rw [topI_of ht, ← hk, Int.toNat_natCast] at hti
    rw [hti, ha] at hka
    cases hka
  ·rw [say_jus _ _ ho _ (by omega), if_neg hin, h2]
  ·rw [say_mvN _ _ _ (by omega)]; exact h3
  ·rw [say_mvN _ _ _ (by omega)]; exact h4
  rw [say_mvN _ _ _ (by omega)]; exact h5
 ·intro i hi ha hid
  rw [hl] at hi
  by_cases hin : i = t.word.length
  ·subst hin
   rw [say_mv_new] at ha hid
   rw [say_jus _ _ ho _ (Nat.le_refl _), if_pos rfl, Tk.justOf, if_neg (by rw [ha]; decide), if_pos hid]
   refine ⟨rfl, ?_⟩
   cases hw with
   | root h0 ht _ h1 h2 => simp [isIdent, h1] at hid
   | ident q ht _ _ _ _ _ => obtain ⟨j, _, hjl, _⟩ := htop q ht; omega
   | param q ht _ _ _ _ _ _ => obtain ⟨j, _, hjl, _⟩ := htop q ht; omega
   | answer q ht _ _ _ _ => obtain ⟨j, _, hjl, _⟩ := htop q ht; omega
  have hi' : i < t.word.length := by omega
  rw [say_mvN _ _ _ hi'] at ha hid
  rw [say_jus _ _ ho _ (by omega), if_neg hin]
  exact h.idn i hi' ha hid
 ·intro i hi ha hp
  rw [hl] at hi
  by_cases hin : i = t.word.length
  ·subst hin
   rw [say_mv_new] at ha hp
   have hid := par_ident hp
   cases hw with
   | root h0 ht _ h1 h2 => simp [isPar, h1] at hp
   | ident _ _ _ _ hi' _ _ => rw [hid] at hi'; cases hi'
   | param q ht hq _ _ h0 _ _ =>
    obtain ⟨j, hj, hjl, hja⟩ := htop q ht
    refine ⟨j, hjl, ?_, ?_, ?_, ?_⟩
    ·rw [say_jus _ _ ho _ (Nat.le_refl _), if_pos rfl, Tk.justOf, if_neg (by rw [ha]; decide), if_neg (by rw [hid]; decide), if_pos hp, topI_of ht, hj]
    ·rw [say_mvN _ _ _ hjl]; exact hja
    ·rw [say_mvN _ _ _ hjl, hj]; exact hq
    rw [say_mvN _ _ _ hjl, hj, say_mv_new, h0]
   | answer _ _ ha' _ _ _ => rw [ha] at ha'; cases ha'
  have hi' : i < t.word.length := by omega
  rw [say_mvN _ _ _ hi'] at ha hp ⊢
  obtain ⟨j, hj, h1, h2, h3, h4⟩ := h.par i hi' ha hp
  refine ⟨j, hj, ?_, ?_, ?_, ?_⟩
  ·rw [say_jus _ _ ho _ (by omega), if_neg hin, h1]
  ·rw [say_mvN _ _ _ (by omega)]; exact h2
  ·rw [say_mvN _ _ _ (by omega)]; exact h3
  rw [say_mvN _ _ _ (by omega)]; exact h4
 ·intro i hi ha h0
  rw [hl] at hi
  by_cases hin : i = t.word.length
  ·subst hin
   rw [say_mv_new] at ha h0
   rw [say_jus _ _ ho _ (Nat.le_refl _), if_pos rfl, Tk.justOf, if_neg (by rw [ha]; decide), if_neg (by simp [isIdent, h0]), if_neg (by simp [isPar, h0])]
  have hi' : i < t.word.length := by omega
  rw [say_mvN _ _ _ hi'] at ha h0
  rw [say_jus _ _ ho _ (by omega), if_neg hin]
  exact h.rot i hi' ha h0
 ·intro i hi
  rw [hl] at hi
  rw [say_frd _ _ ho _ (by omega)]
  by_cases hin : i = t.word.length
  ·subst hin
   rw [if_pos rfl, hfo]
   by_cases h0 : 0 < t.word.length
   ·rw [say_mv_old (by omega) (by omega)]
   rw [decide_eq_false h0]
   rfl
  rw [if_neg hin, h.frc i (by omega)]
  by_cases h0 : 0 < i
  ·rw [say_mv_old (by omega) (by omega)]
  rw [decide_eq_false h0]
  rfl
 ·intro i hi hf
  rw [hl] at hi
  rw [say_frd _ _ ho _ (by omega)] at hf
  by_cases hin : i = t.word.length
  ·subst hin
   rw [if_pos rfl] at hf
   rw [say_mv_new]
   cases hw with
   | root h0 _ _ _ _ => rw [hfo, decide_eq_false (by omega)] at hf; cases hf
   | ident _ _ _ _ _ hff _ => rw [hf] at hff; cases hff
   | param _ _ _ _ _ _ hff _ => rw [hf] at hff; cases hff
   | answer q ht _ _ _ hn => exact answers_esc hn (.inl hf)
  rw [if_neg hin] at hf
  rw [say_mvN _ _ _ (by omega)]
  exact h.fes i (by omega) hf
 intro _
 by_cases h0 : 0 < t.word.length
 ·have := say_mvN t m 0 h0
  rw [show ((0 : Nat) : Int) = 0 from rfl] at this
  rw [this]
  exact h.zer h0
 have e : (t.word.length : Int) = 0 := by omega
 rw [← e, say_mv_new]
 cases hw with
 | root _ _ _ h1 _ => rw [h1, e]
 | ident q ht _ _ _ _ _ => obtain ⟨j, _, hjl, _⟩ := htop q ht; omega
 | param q ht _ _ _ _ _ _ => obtain ⟨j, _, hjl, _⟩ := htop q ht; omega
 | answer q ht _ _ _ _ => obtain ⟨j, _, hjl, _⟩ := htop q ht; omega
structure Tk.Inv (ids : List S68) (rc : Bool) (rn : Int) (jb : Bool) (t : Tk) : Prop where
 l : t.Legal ids rc rn jb
 a : t.InvA
 c : t.InvC
section
variable {ids : List S68} {rc : Bool} {rn : Int} {jb : Bool}
theorem may_way {t : Tk} {m : Mv} (ho : t.Ok) (h : t.may ids rc rn jb m = true) : hasR ids rc rn jb m = true ∧ MvOk m ∧ Way t jb m := by
 unfold Tk.may at h
 simp only [Bool.and_eq_true] at h
 exact ⟨h.1.2, hasR_ok h.1.2, way_of ho.hl h.2⟩
theorem Tk.Inv.empty : Tk.empty.Inv ids rc rn jb := ⟨Tk.Legal.empty _ _ _ _, Tk.InvA.empty, Tk.InvC.empty⟩
theorem Tk.Inv.say {t : Tk} {m : Mv} (h : t.Inv ids rc rn jb) (hm : t.may ids rc rn jb m = true) (hw : t.word.length < 1048576) : (t.say m).Inv ids rc rn jb := by
 obtain ⟨h1, h2, h3⟩ := may_way h.l.ok hm
 exact ⟨h.l.say m h2.i (fun _ => h1) hw, h.a.say h2 h3, h.c.say h.a h.l.ok h.l.fo h2 h3⟩
theorem walkL_inv (l : List Mv) : ∀ t : Tk, t.Inv ids rc rn jb → t.word.length + l.length ≤ 1048576 → (walkL ids rc rn jb t l).Inv ids rc rn jb := by
 induction l with
 | nil => intro t h _; rw [walkL]; exact h
 | cons m ms ih =>
  intro t h hl
  rw [List.length_cons] at hl
  rw [walkL]
  split
  ·rename_i hm
   exact ih _ (h.say hm (by omega)) (by rw [say_len]; omega)
  exact h
end
theorem ident_same {a b : Mv} (h0 : a.f0 = b.f0) (h1 : a.f1 = b.f1) : isIdent a = isIdent b := by unfold isIdent; rw [h0, h1]
theorem bef_eq (t : Tk) (n : Nat) : t.bef (n : Int) = if isAns (t.mv n) && t.frd n then (n : Int) - 1 else t.jus n := by
 unfold Tk.bef
 rw [Int.toNat_natCast]
 rfl
theorem jst_eq (t : Tk) (n : Nat) : t.jst (n : Int) = t.jus n := by
 unfold Tk.jst
 rw [Int.toNat_natCast]
 rfl
theorem backL_step (t : Tk) (k : Nat) (n : Int) (h0 : 0 ≤ n) (h1 : n < t.word.length) : backL t (k + 1) n = if t.bef n < 0 then some [n] else (backL t k (t.bef n - 1)).map fun l => n :: t.bef n :: l := by
 rw [backL, if_neg (by omega), if_pos h1]
theorem frontL_step (t : Tk) (k : Nat) (n : Int) (h : 0 ≤ n ∧ n < t.word.length) : frontL t (k + 1) n = if isPar (t.mv n) then (frontL t k (t.part.getD n.toNat 0 - 1)).map fun l => n :: t.part.getD n.toNat 0 :: l else some [n, 0] := by
 rw [frontL, if_pos h]
theorem sightF_step (t : Tk) (k : Nat) (n : Int) (h : 1 ≤ n ∧ n ≤ t.word.length) : sightF t (k + 1) n = if (t.mv (n - 1)).f1 = 0 then some [0, n - 1] else (sightF t k (t.jst (n - 1))).map (· ++ [t.jst (n - 1), n - 1]) := by
 rw [sightF, if_pos h]
theorem seenF_step (t : Tk) (k : Nat) (n : Int) (h : 1 ≤ n ∧ n ≤ t.word.length) : seenF t (k + 1) n = if (t.mv (n - 1)).f0 = 0 then some [n - 1]
   else if isEscB (t.mv (n - 1)) = true ∧ n < 2 then none
   else if isEscB (t.mv (n - 1)) && (isEscB (t.mv (n - 2)) && decide (0 < (t.mv (n - 2)).f1)) then (seenF t k (n - 2)).map (· ++ [n - 2, n - 1])
   else (seenF t k (t.jst (n - 1))).map (· ++ [t.jst (n - 1), n - 1]) := by
 rw [seenF, if_pos h]
theorem back_seen {t : Tk} (hA : t.InvA) (hC : t.InvC) : ∀ (k n : Nat), n < k → n < t.word.length → n % 2 = 0 → ∃ L, backL t k (n : Int) = some L ∧ seenF t k ((n : Int) + 1) = some L.reverse ∧ L.length ≤ n + 1 := by
 intro k
 induction k with
 | zero => intro n h; omega
 | succ k ih =>
  intro n hk hn he
  have e1 : ((n : Int) + 1 - 1) = (n : Int) := by omega
  have e2 : ((n : Int) + 1 - 2) = (n : Int) - 1 := by omega
  have ho := hA.oth n hn
  rw [decide_eq_true he] at ho
  have hok := hA.mvs n hn
  have haa := ask_ans hok
  rw [backL_step t k n (by omega) (by omega), seenF_step t k (n + 1) (by omega), e1, e2, bef_eq, jst_eq]
  have odd : ∀ j : Nat, j < t.word.length → isAns (t.mv j) = false → isIdent (t.mv j) = true → j % 2 = 1 := by
   intro j hj ha hi
   have h1 := hA.oth j hj
   unfold isOB at h1
   rw [hi, ask_ans (hA.mvs j hj), ha] at h1
   have := of_decide_eq_false h1.symm
   omega
  have step : ∀ j : Nat, j < n → j % 2 = 1 → ∃ L, backL t k ((j : Int) - 1) = some L ∧ seenF t k (j : Int) = some L.reverse ∧ L.length ≤ j := by
   intro j hj hjo
   obtain ⟨L, h1, h2, h3⟩ := ih (j - 1) (by omega) (by omega) (by omega)
   have e3 : ((j - 1 : Nat) : Int) = (j : Int) - 1 := by omega
   rw [e3] at h1 h2
   rw [show ((j : Int) - 1 + 1) = j by omega] at h2
   exact ⟨L, h1, h2, by omega⟩
  unfold isOB at ho
  by_cases h0 : (t.mv n).f0 = 0
  ·have hi : isIdent (t.mv n) = false := by simp [isIdent, h0]
   rw [hi, haa] at ho
   have ha : isAns (t.mv n) = false := by
    cases hx : isAns (t.mv n) with
    | false => rfl
    | true => rw [hx] at ho; cases ho
   have hn0 := hA.root n hn ha h0
   have hj := hC.rot n hn ha h0
   rw [ha, Bool.false_and, if_neg Bool.false_ne_true, hj, if_pos (by decide), if_pos h0]
   exact ⟨_, rfl, rfl, by simp⟩
  rw [if_neg h0]
  cases ha : isAns (t.mv n) with
  | true =>
   rw [haa, ha] at ho
   have hi : isIdent (t.mv n) = true := by
    cases hx : isIdent (t.mv n) with
    | true => rfl
    | false => rw [hx] at ho; cases ho
   obtain ⟨j, hj, _, h2, h3, h4, h5⟩ := hC.ans n hn ha
   have hjo := odd j (by omega) h3 (by rw [ident_same h4 h5]; exact hi)
   have hf := hC.frc n hn
   have hn0 : 0 < n := by omega
   rw [decide_eq_true hn0, Bool.true_and] at hf
   rw [Bool.true_and]
   cases hx : t.frd n with
   | true =>
    have hes := hC.fes n hn hx
    rw [hx] at hf
    rw [if_pos rfl, if_neg (by omega), if_neg (by omega), if_pos (by rw [hes, ← hf]; rfl)]
    obtain ⟨L, h6, h7, h8⟩ := step (n - 1) (by omega) (by omega)
    have e3 : ((n - 1 : Nat) : Int) = (n : Int) - 1 := by omega
    rw [e3] at h6 h7
    rw [h6, h7]
    exact ⟨_, rfl, by simp, by simp; omega⟩
   | false =>
    rw [hx] at hf
    rw [if_neg Bool.false_ne_true, h2, if_neg (by omega), if_neg (by omega), if_neg (by rw [← hf, Bool.and_false]; decide)]
    obtain ⟨L, h6, h7, h8⟩ := step j hj hjo
    rw [h6, h7]
    exact ⟨_, rfl, by simp, by simp; omega⟩
  | false =>
   rw [haa, ha] at ho
   have hi : isIdent (t.mv n) = false := by
    cases hx : isIdent (t.mv n) with
    | false => rfl
    | true => rw [hx] at ho; cases ho
   have hp : isPar (t.mv n) = true := by
    have h1 := hok.i
    have hf0 : 0 < (t.mv n).f0 := by omega
    unfold isIdent at hi
    rw [decide_eq_true hf0, Bool.true_and] at hi
    have hf1 : (t.mv n).f1 ≠ 0 := by simpa using hi
    unfold isPar
    rw [decide_eq_true hf0, decide_eq_true (by omega)]
    rfl
   obtain ⟨j, hj, h2, h3, h4, _⟩ := hC.par n hn ha hp
   have hjo := odd j (by omega) h3 h4
   have hes : isEscB (t.mv n) = false := by
    unfold isAns at ha
    unfold isEscB
    rw [ha]
    rfl
   rw [Bool.false_and, if_neg Bool.false_ne_true, h2, if_neg (by omega), if_neg (by rw [hes]; simp), if_neg (by rw [hes]; simp)]
   obtain ⟨L, h6, h7, h8⟩ := step j hj hjo
   rw [h6, h7]
   exact ⟨_, rfl, by simp, by simp; omega⟩
theorem front_sight {t : Tk} (hA : t.InvA) (hC : t.InvC) : ∀ (k n : Nat), n < k → n < t.word.length → n % 2 = 1 → ∃ L, frontL t k (n : Int) = some L ∧ sightF t k ((n : Int) + 1) = some L.reverse ∧ L.length ≤ n + 1 := by
 intro k
 induction k with
 | zero => intro n h; omega
 | succ k ih =>
  intro n hk hn he
  have e1 : ((n : Int) + 1 - 1) = (n : Int) := by omega
  have ho := hA.oth n hn
  rw [decide_eq_false (by omega)] at ho
  have hok := hA.mvs n hn
  have haa := ask_ans hok
  rw [frontL_step t k n (by omega), sightF_step t k (n + 1) (by omega), e1, jst_eq, Int.toNat_natCast]
  by_cases h0 : (t.mv n).f1 = 0
  ·rw [if_neg (by simp [isPar, h0]), if_pos h0]
   exact ⟨_, rfl, rfl, by simp; omega⟩
  have h1 := hok.i
  have hp : isPar (t.mv n) = true := by
   unfold isPar
   rw [decide_eq_true (by omega), decide_eq_true (by omega)]
   rfl
  unfold isOB at ho
  rw [par_ident hp, haa] at ho
  have ha : isAns (t.mv n) = true := by
   cases hx : isAns (t.mv n) with
   | true => rfl
   | false => rw [hx] at ho; cases ho
  obtain ⟨j, hj, hpt, h2, h3, h4, h5⟩ := hC.ans n hn ha
  have hpt' : t.part.getD n 0 = (j : Int) := hpt
  have hje : j % 2 = 0 := by
   have h6 := hA.oth j (by omega)
   unfold isOB at h6
   rw [ident_same h4 h5, par_ident hp, ask_ans (hA.mvs j (by omega)), h3] at h6
   exact of_decide_eq_true h6.symm
  have hj0 : j ≠ 0 := by
   rintro rfl
   have h7 := hC.zer (by omega)
   have h8 : (t.mv ((0 : Nat) : Int)).f0 = 0 := h7
   omega
  rw [if_pos hp, if_neg h0, hpt', h2]
  obtain ⟨L, h6, h7, h8⟩ := ih (j - 1) (by omega) (by omega) (by omega)
  have e3 : ((j - 1 : Nat) : Int) = (j : Int) - 1 := by omega
  rw [e3] at h6 h7
  rw [show ((j : Int) - 1 + 1) = j by omega] at h7
  rw [h6, h7]
  exact ⟨_, rfl, by simp, by simp; omega⟩
end Go.Proofs.YtjgocihflhljeaaGreat.P
namespace Go.Proofs.YtjgocihflhljeaaGreat.P
open Go.RowKit Go.Shelf Go.Proofs.YtjgocihflhljeaaGreatW.PrintWords Go.Proofs.YtjgocihflhljeaaGreatW.PrintLast Go.Proofs.YtjgocihflhljeaaGreatW.PrintMore
attribute [local go_sem] Oper.semAt_some
set_option maxRecDepth 8000 in
theorem rIsOther_any (m : Mv) (w : World) : Calls Tryz.prog 34 #[.agg #[.int .i64 m.f0, .int .i64 m.f1, .int .u8 m.f2, .int .i64 m.f3]] w fun e w' => e = .returned (.bool (isOB m)) ∧ Below w.heap.size w w' := by
 have HB := Aside0.mk (((Below.refl _ w).alloc (Nat.le_refl _) (.cells #[.int .i64 m.f0, .int .i64 m.f1, .int .u8 m.f2, .int .i64 m.f3] 52)).drew)
 have HK := Aside0.mk (blk_drew (heap_alloc_new w (.cells #[.int .i64 m.f0, .int .i64 m.f1, .int .u8 m.f2, .int .i64 m.f3] 52)))
 cases hb : decide (0 < m.f0) with
 | false =>
  have H := Aside0.mk hb
  go_enter Tryz.func34, Tryz.ntmps34
  go_upto_region 1 with fail
  refine start_ (n := 12) (S := fun w' => w'.cell? ⟨w.heap.size, 0, none⟩ = some (.int .i64 m.f0) ∧ w'.cell? ⟨w.heap.size, 1, none⟩ = some (.int .i64 m.f1) ∧ w'.cell? ⟨w.heap.size, 2, none⟩ = some (.int .u8 m.f2) ∧ w'.cell? ⟨w.heap.size, 3, none⟩ = some (.int .i64 m.f3)) (ds := []) #[ff,ff,ff,ff,ff,ff,ff,ff,ff,ff,ff,ff] (by kernel_rfl) rfl rfl ⟨(blk_cell HK.out 0).trans rfl, (blk_cell HK.out 1).trans rfl, (blk_cell HK.out 2).trans rfl, (blk_cell HK.out 3).trans rfl⟩ (fun hHeld => ?_)
  generalize (w.alloc (.cells #[.int .i64 m.f0, .int .i64 m.f1, .int .u8 m.f2, .int .i64 m.f3] 52)).drew = wd at HK HB hHeld ⊢
  refine pure_ (i := 0) (N := some 3) (v := ?_) (a' := ?_) #[tt,ff,ff,ff,ff,ff,ff,ff,ff,ff,ff,ff] rfl rfl (by kernel_rfl) (fun _ _ _ h => h) (Or.inl ⟨by rfl, ?_⟩) ?_ ?_
  rotate_left
  ·intro w'
   go_simp
   with_reducible rfl
  rotate_left
  ·simp only [Act.put, sn1, sn2, sn3, i64_w]
   rfl
  refine take_ (i := 1) (N := some 4) (v := ?_) (a' := ?_) #[tt,tt,ff,ff,ff,ff,ff,ff,ff,ff,ff,ff] rfl rfl (by kernel_rfl) (fun _ _ _ h => h) (Or.inl ⟨by rfl, ?_⟩) hHeld ?_ ?_
  rotate_left
  ·rintro w' ⟨s0, s1, s2, s3⟩
   go_simp
   with_reducible rfl
  rotate_left
  ·simp only [Act.put, sn1, sn2, sn3, i64_w]
   rfl
  refine pure_ (i := 2) (N := some 5) (v := ?_) (a' := ?_) #[tt,tt,tt,ff,ff,ff,ff,ff,ff,ff,ff,ff] rfl rfl (by kernel_rfl) (fun _ _ _ h => h) (Or.inl ⟨by rfl, ?_⟩) ?_ ?_
  rotate_left
  ·intro w'
   go_simp
   with_reducible rfl
  rotate_left
  ·simp only [Act.put, sn1, sn2, sn3, i64_w]
   rfl
  refine pure_ (i := 3) (N := some 6) (v := ?_) (a' := ?_) #[tt,tt,tt,tt,ff,ff,ff,ff,ff,ff,ff,ff] rfl rfl (by kernel_rfl) (fun _ _ _ h => h) (Or.inl ⟨by rfl, ?_⟩) ?_ ?_
  rotate_left
  ·intro w'
   go_simp
   with_reducible rfl
  rotate_left
  ·simp only [Act.put, sn1, sn2, sn3, i64_w]
   rfl
  refine pure_ (i := 4) (N := some 7) (v := undef) (a' := ?_) #[tt,tt,tt,tt,tt,ff,ff,ff,ff,ff,ff,ff] rfl rfl (by kernel_rfl) (fun _ _ _ h => h) (Or.inr ⟨by rfl, rfl⟩) ?_ ?_
  rotate_left
  ·simp only [Act.put, sn1, sn2, sn3, i64_w]
   rfl
  refine pure_ (i := 5) (N := some 8) (v := undef) (a' := ?_) #[tt,tt,tt,tt,tt,tt,ff,ff,ff,ff,ff,ff] rfl rfl (by kernel_rfl) (fun _ _ _ h => h) (Or.inr ⟨by rfl, rfl⟩) ?_ ?_
  rotate_left
  ·simp only [Act.put, sn1, sn2, sn3, i64_w]
   rfl
  refine pure_ (i := 6) (N := some 9) (v := undef) (a' := ?_) #[tt,tt,tt,tt,tt,tt,tt,ff,ff,ff,ff,ff] rfl rfl (by kernel_rfl) (fun _ _ _ h => h) (Or.inr ⟨by rfl, rfl⟩) ?_ ?_
  rotate_left
  ·simp only [Act.put, sn1, sn2, sn3, i64_w]
   rfl
  refine pure_ (i := 7) (N := some 10) (v := ?_) (a' := ?_) #[tt,tt,tt,tt,tt,tt,tt,tt,ff,ff,ff,ff] rfl rfl (by kernel_rfl) (fun _ _ _ h => h) (Or.inl ⟨by rfl, ?_⟩) ?_ ?_
  rotate_left
  ·intro w'
   go_simp
   with_reducible rfl
  rotate_left
  ·simp only [Act.put, sn1, sn2, sn3, i64_w]
   rfl
  refine take_ (i := 8) (N := some 11) (v := ?_) (a' := ?_) #[tt,tt,tt,tt,tt,tt,tt,tt,tt,ff,ff,ff] rfl rfl (by kernel_rfl) (fun _ _ _ h => h) (Or.inl ⟨by rfl, ?_⟩) hHeld ?_ ?_
  rotate_left
  ·rintro w' ⟨s0, s1, s2, s3⟩
   go_simp
   with_reducible rfl
  rotate_left
  ·simp only [Act.put, sn1, sn2, sn3, i64_w]
   rfl
  refine one_ (i := 9) (N := some 12) #[tt,tt,tt,tt,tt,tt,tt,tt,tt,tt,ff,ff] rfl rfl (by kernel_rfl) (by decide) (fun K hK => ?_)
  refine goes_ Tryz.func37 (by kernel_rfl) rfl #[.agg #[.int .i64 m.f0, .int .i64 m.f1, .int .u8 m.f2, .int .i64 m.f3]] (by rfl) rfl rfl (by simp only [List.map_toArray, List.map_cons, List.map_nil]; rfl) ?_
  with_reducible refine (rAsk_any m wd).mono ?_
  rintro e w1 ⟨rfl, hb1⟩
  refine ⟨_, rfl, ?_⟩
  have HK1 := Aside0.mk ((hb1.block _ (blk_lt HK.out)).trans HK.out)
  refine hK.out _ _ ⟨(blk_cell HK1.out 0).trans rfl, (blk_cell HK1.out 1).trans rfl, (blk_cell HK1.out 2).trans rfl, (blk_cell HK1.out 3).trans rfl⟩ (fun hHeld => ?_)
  clear hK K
  refine norm_ (a' := ?_) ?_ ?_
  rotate_left
  ·show Act.put _ (some 12) _ = _
   simp only [Act.put, sn1, sn2, sn3, i64_w]
   rfl
  refine pure_ (i := 10) (N := some 13) (v := ?_) (a' := ?_) #[tt,tt,tt,tt,tt,tt,tt,tt,tt,tt,tt,ff] rfl rfl (by kernel_rfl) (fun _ _ _ h => h) (Or.inl ⟨by rfl, ?_⟩) ?_ ?_
  rotate_left
  ·intro w'
   go_simp
   with_reducible rfl
  rotate_left
  ·simp only [Act.put, sn1, sn2, sn3, i64_w]
   rfl
  refine pure_ (i := 11) (N := some 2) (v := ?_) (a' := ?_) #[tt,tt,tt,tt,tt,tt,tt,tt,tt,tt,tt,tt] rfl rfl (by kernel_rfl) (fun _ _ _ h => h) (Or.inl ⟨by rfl, ?_⟩) ?_ ?_
  rotate_left
  ·intro w'
   go_simp
   with_reducible rfl
  rotate_left
  ·simp only [Act.put, sn1, sn2, sn3, i64_w]
   rfl
  refine done_ (by kernel_rfl) ?_
  go_wp2_with fail
  go_ret
  exact ⟨by rw [show isOB m = (askB m) by unfold isOB isIdent; rw [H.out]; first | rfl | simp]; rfl, HB.out.trans (hb1.mono HB.out.size)⟩
 | true =>
  have H := Aside0.mk hb
  go_enter Tryz.func34, Tryz.ntmps34
  go_upto_region 1 with fail
  refine start_ (n := 12) (S := fun w' => w'.cell? ⟨w.heap.size, 0, none⟩ = some (.int .i64 m.f0) ∧ w'.cell? ⟨w.heap.size, 1, none⟩ = some (.int .i64 m.f1) ∧ w'.cell? ⟨w.heap.size, 2, none⟩ = some (.int .u8 m.f2) ∧ w'.cell? ⟨w.heap.size, 3, none⟩ = some (.int .i64 m.f3)) (ds := []) #[ff,ff,ff,ff,ff,ff,ff,ff,ff,ff,ff,ff] (by kernel_rfl) rfl rfl ⟨(blk_cell HK.out 0).trans rfl, (blk_cell HK.out 1).trans rfl, (blk_cell HK.out 2).trans rfl, (blk_cell HK.out 3).trans rfl⟩ (fun hHeld => ?_)
  generalize (w.alloc (.cells #[.int .i64 m.f0, .int .i64 m.f1, .int .u8 m.f2, .int .i64 m.f3] 52)).drew = wd at HK HB hHeld ⊢
  refine pure_ (i := 0) (N := some 3) (v := ?_) (a' := ?_) #[tt,ff,ff,ff,ff,ff,ff,ff,ff,ff,ff,ff] rfl rfl (by kernel_rfl) (fun _ _ _ h => h) (Or.inl ⟨by rfl, ?_⟩) ?_ ?_
  rotate_left
  ·intro w'
   go_simp
   with_reducible rfl
  rotate_left
  ·simp only [Act.put, sn1, sn2, sn3, i64_w]
   rfl
  refine take_ (i := 1) (N := some 4) (v := ?_) (a' := ?_) #[tt,tt,ff,ff,ff,ff,ff,ff,ff,ff,ff,ff] rfl rfl (by kernel_rfl) (fun _ _ _ h => h) (Or.inl ⟨by rfl, ?_⟩) hHeld ?_ ?_
  rotate_left
  ·rintro w' ⟨s0, s1, s2, s3⟩
   go_simp
   with_reducible rfl
  rotate_left
  ·simp only [Act.put, sn1, sn2, sn3, i64_w]
   rfl
  refine pure_ (i := 2) (N := some 5) (v := ?_) (a' := ?_) #[tt,tt,tt,ff,ff,ff,ff,ff,ff,ff,ff,ff] rfl rfl (by kernel_rfl) (fun _ _ _ h => h) (Or.inl ⟨by rfl, ?_⟩) ?_ ?_
  rotate_left
  ·intro w'
   go_simp
   with_reducible rfl
  rotate_left
  ·simp only [Act.put, sn1, sn2, sn3, i64_w]
   rfl
  refine pure_ (i := 3) (N := some 6) (v := ?_) (a' := ?_) #[tt,tt,tt,tt,ff,ff,ff,ff,ff,ff,ff,ff] rfl rfl (by kernel_rfl) (fun _ _ _ h => h) (Or.inl ⟨by rfl, ?_⟩) ?_ ?_
  rotate_left
  ·intro w'
   go_simp
   with_reducible rfl
  rotate_left
  ·simp only [Act.put, sn1, sn2, sn3, i64_w]
   rfl
  refine pure_ (i := 4) (N := some 7) (v := ?_) (a' := ?_) #[tt,tt,tt,tt,tt,ff,ff,ff,ff,ff,ff,ff] rfl rfl (by kernel_rfl) (fun _ _ _ h => h) (Or.inl ⟨by rfl, ?_⟩) ?_ ?_
  rotate_left
  ·intro w'
   go_simp
   with_reducible rfl
  rotate_left
  ·simp only [Act.put, sn1, sn2, sn3, i64_w]
   rfl
  refine take_ (i := 5) (N := some 8) (v := ?_) (a' := ?_) #[tt,tt,tt,tt,tt,tt,ff,ff,ff,ff,ff,ff] rfl rfl (by kernel_rfl) (fun _ _ _ h => h) (Or.inl ⟨by rfl, ?_⟩) hHeld ?_ ?_
  rotate_left
  ·rintro w' ⟨s0, s1, s2, s3⟩
   go_simp
   with_reducible rfl
  rotate_left
  ·simp only [Act.put, sn1, sn2, sn3, i64_w]
   rfl
  refine pure_ (i := 6) (N := some 9) (v := ?_) (a' := ?_) #[tt,tt,tt,tt,tt,tt,tt,ff,ff,ff,ff,ff] rfl rfl (by kernel_rfl) (fun _ _ _ h => h) (Or.inl ⟨by rfl, ?_⟩) ?_ ?_
  rotate_left
  ·intro w'
   go_simp
   with_reducible rfl
  rotate_left
  ·simp only [Act.put, sn1, sn2, sn3, i64_w]
   rfl
  refine pure_ (i := 7) (N := some 10) (v := ?_) (a' := ?_) #[tt,tt,tt,tt,tt,tt,tt,tt,ff,ff,ff,ff] rfl rfl (by kernel_rfl) (fun _ _ _ h => h) (Or.inl ⟨by rfl, ?_⟩) ?_ ?_
  rotate_left
  ·intro w'
   go_simp
   with_reducible rfl
  rotate_left
  ·simp only [Act.put, sn1, sn2, sn3, i64_w]
   rfl
  refine take_ (i := 8) (N := some 11) (v := ?_) (a' := ?_) #[tt,tt,tt,tt,tt,tt,tt,tt,tt,ff,ff,ff] rfl rfl (by kernel_rfl) (fun _ _ _ h => h) (Or.inl ⟨by rfl, ?_⟩) hHeld ?_ ?_
  rotate_left
  ·rintro w' ⟨s0, s1, s2, s3⟩
   go_simp
   with_reducible rfl
  rotate_left
  ·simp only [Act.put, sn1, sn2, sn3, i64_w]
   rfl
  refine one_ (i := 9) (N := some 12) #[tt,tt,tt,tt,tt,tt,tt,tt,tt,tt,ff,ff] rfl rfl (by kernel_rfl) (by decide) (fun K hK => ?_)
  refine goes_ Tryz.func37 (by kernel_rfl) rfl #[.agg #[.int .i64 m.f0, .int .i64 m.f1, .int .u8 m.f2, .int .i64 m.f3]] (by rfl) rfl rfl (by simp only [List.map_toArray, List.map_cons, List.map_nil]; rfl) ?_
  with_reducible refine (rAsk_any m wd).mono ?_
  rintro e w1 ⟨rfl, hb1⟩
  refine ⟨_, rfl, ?_⟩
  have HK1 := Aside0.mk ((hb1.block _ (blk_lt HK.out)).trans HK.out)
  refine hK.out _ _ ⟨(blk_cell HK1.out 0).trans rfl, (blk_cell HK1.out 1).trans rfl, (blk_cell HK1.out 2).trans rfl, (blk_cell HK1.out 3).trans rfl⟩ (fun hHeld => ?_)
  clear hK K
  refine norm_ (a' := ?_) ?_ ?_
  rotate_left
  ·show Act.put _ (some 12) _ = _
   simp only [Act.put, sn1, sn2, sn3, i64_w]
   rfl
  refine pure_ (i := 10) (N := some 13) (v := ?_) (a' := ?_) #[tt,tt,tt,tt,tt,tt,tt,tt,tt,tt,tt,ff] rfl rfl (by kernel_rfl) (fun _ _ _ h => h) (Or.inl ⟨by rfl, ?_⟩) ?_ ?_
  rotate_left
  ·intro w'
   go_simp
   with_reducible rfl
  rotate_left
  ·simp only [Act.put, sn1, sn2, sn3, i64_w]
   rfl
  refine pure_ (i := 11) (N := some 2) (v := ?_) (a' := ?_) #[tt,tt,tt,tt,tt,tt,tt,tt,tt,tt,tt,tt] rfl rfl (by kernel_rfl) (fun _ _ _ h => h) (Or.inl ⟨by rfl, ?_⟩) ?_ ?_
  rotate_left
  ·intro w'
   go_simp
   with_reducible rfl
  rotate_left
  ·simp only [Act.put, sn1, sn2, sn3, i64_w]
   rfl
  refine done_ (by kernel_rfl) ?_
  go_wp2_with fail
  go_ret
  exact ⟨by rw [show isOB m = ((m.f1 == 0) != askB m) by unfold isOB isIdent; rw [H.out]; first | rfl | simp]; rfl, HB.out.trans (hb1.mono HB.out.size)⟩
theorem spotAt_place {ids : List S68} {rc : Bool} {rn : Int} {j : Bool} {id arg : Int} {p : Spot} (h : spotAt ids rc rn j id arg = some p) : p.id = id ∧ p.arg = arg := by
 unfold spotAt at h
 split at h
 ·rename_i h0; cases h; exact ⟨h0.1.symm, h0.2.symm⟩
 split at h
 ·unfold idAt at h
  simp only at h
  split at h
  ·rename_i h0; cases h; exact ⟨rfl, h0.symm⟩
  split at h
  ·cases h; exact ⟨rfl, rfl⟩
  cases h
 cases h
theorem hasR_move {ids : List S68} {rc : Bool} {rn : Int} {jb : Bool} {m : Mv} (h : hasR ids rc rn jb m = true) : moveE ids rc rn jb m = 0 ∧ isOtherR ids rc rn jb m = isOB m := by
 obtain ⟨hc, p, hp, _⟩ := hasR_spot h
 have hok := hasR_ok h
 have hE : moveE ids rc rn jb m = 0 := by
  unfold hasR at h
  rw [if_pos hc] at h
  rw [moveE, if_pos hc, if_pos h]
 refine ⟨hE, ?_⟩
 rw [isOtherR, if_pos hE, moveP, if_pos hc, find_spots, hp]
 obtain ⟨h1, h2⟩ := spotAt_place hp
 show ((p.id == 0 || decide (0 < p.arg)) == (m.f2 != 3)) = _
 rw [h1, h2]
 obtain ⟨hk, _, hi⟩ := hok
 unfold isOB isIdent askB
 rw [Bool.eq_iff_iff]
 rcases hk with h | h | h <;> rw [h] <;> by_cases h3 : 0 < m.f0 <;> by_cases h4 : m.f1 = 0 <;> simp [h3, h4] <;> omega
theorem walkL_has {ids : List S68} {rc : Bool} {rn : Int} {jb : Bool} (l : List Mv) : ∀ t : Tk, (∀ m ∈ t.word, hasR ids rc rn jb m = true) → ∀ m ∈ (walkL ids rc rn jb t l).word, hasR ids rc rn jb m = true := by
 induction l with
 | nil => intro t h; rw [walkL]; exact h
 | cons m ms ih =>
  intro t h
  rw [walkL]
  split
  ·rename_i hm
   unfold Tk.may at hm
   simp only [Bool.and_eq_true] at hm
   refine ih _ ?_
   intro x hx
   have e : (t.say m).word = t.word ++ [m] := rfl
   rw [e, List.mem_append, List.mem_singleton] at hx
   rcases hx with hx | rfl
   ·exact h x hx
   exact hm.1.2
  exact h
theorem walkL_word (ids : List S68) (rc : Bool) (rn : Int) (jb : Bool) (l : List Mv) : ∀ t : Tk, ∃ n, n ≤ l.length ∧ (walkL ids rc rn jb t l).word = t.word ++ l.take n := by
 induction l with
 | nil => intro t; exact ⟨0, Nat.le_refl _, by rw [walkL]; simp⟩
 | cons m ms ih =>
  intro t
  rw [walkL]
  split
  ·obtain ⟨n, h1, h2⟩ := ih (t.say m)
   refine ⟨n + 1, by simpa using h1, ?_⟩
   rw [h2]
   show (t.word ++ [m]) ++ ms.take n = _
   simp
  exact ⟨0, Nat.zero_le _, by simp⟩
theorem talk_take (ids : List S68) (rc : Bool) (rn : Int) (jb : Bool) (l : List Mv) : (talkL ids rc rn jb l).word = l.take (talkL ids rc rn jb l).word.length := by
 obtain ⟨n, h1, h2⟩ := walkL_word ids rc rn jb l Tk.empty
 have e : Tk.empty.word = [] := rfl
 rw [e, List.nil_append] at h2
 show (walkL ids rc rn jb Tk.empty l).word = l.take (walkL ids rc rn jb Tk.empty l).word.length
 rw [h2, List.length_take]
 congr 1
 omega
theorem talk_all {ids : List S68} {rc : Bool} {rn : Int} {jb : Bool} {l : List Mv} (h : ¬ (talkL ids rc rn jb l).word.length < l.length) : (talkL ids rc rn jb l).word = l := by
 rw [talk_take]
 exact List.take_of_length_le (by omega)
theorem talk_inv (ids : List S68) (rc : Bool) (rn : Int) (jb : Bool) (l : List Mv) (hl : l.length ≤ 1000000) : (talkL ids rc rn jb l).Inv ids rc rn jb :=
 walkL_inv l _ Tk.Inv.empty (by simp [Tk.empty]; omega)
theorem talk_has {ids : List S68} {rc : Bool} {rn : Int} {jb : Bool} {l : List Mv} {i : Nat} (h : i < (talkL ids rc rn jb l).word.length) : hasR ids rc rn jb ((talkL ids rc rn jb l).mv i) = true := by
 refine walkL_has l Tk.empty (fun m hm => by simp [Tk.empty] at hm) _ ?_
 unfold Tk.mv
 rw [Int.toNat_natCast, getD_get _ _ _ h]
 exact List.getElem_mem h
theorem viewE_eq (ids : List S68) (rc : Bool) (rn : Int) (jb mine : Bool) (l : List Mv) : viewE ids rc rn jb mine l = if tellE ids rc rn jb l ≠ 0 then tellE ids rc rn jb l else if l.length = 0 then 9 else if isOB (l.getD (l.length - 1) z52) = mine then 0 else 9 := by
 unfold viewE
 by_cases hE : tellE ids rc rn jb l = 0
 ·rw [if_neg (by simpa using hE), if_neg (by simpa using hE)]
  obtain ⟨h1, h2, h3⟩ := tellE_zero hE
  have hw := talk_all h3
  unfold seenE
  rw [hw]
  by_cases h0 : l.length = 0
  ·rw [if_pos h0, if_pos h0]
  rw [if_neg h0, if_neg h0]
  have hlast : (talkL ids rc rn jb l).last = ((l.length - 1 : Nat) : Int) := by unfold Tk.last; rw [hw]; omega
  have hh := hasR_move (talk_has (ids := ids) (rc := rc) (rn := rn) (jb := jb) (l := l) (i := l.length - 1) (by rw [hw]; omega))
  rw [hlast, hh.1, hh.2]
  have e : (talkL ids rc rn jb l).mv ((l.length - 1 : Nat) : Int) = l.getD (l.length - 1) z52 := by unfold Tk.mv; rw [hw, Int.toNat_natCast]
  rw [e]
  by_cases hm : isOB (l.getD (l.length - 1) z52) = mine
  ·rw [if_pos hm, if_neg (by simpa using hm)]
  rw [if_neg hm, if_pos (.inr hm)]
 rw [if_pos hE, if_pos hE]
def viewL (t : Tk) : List Int := (seenF t (t.word.length + 1) t.word.length).getD []
def sightL (t : Tk) : List Int := (sightF t (t.word.length + 1) t.word.length).getD []
theorem view_zero {ids : List S68} {rc : Bool} {rn : Int} {jb mine : Bool} {l : List Mv} (h : viewE ids rc rn jb mine l = 0) : tellE ids rc rn jb l = 0 ∧ ∃ n : Nat, (talkL ids rc rn jb l).word.length = n + 1 ∧ n < 400 ∧ (talkL ids rc rn jb l).last = n ∧ n % 2 = if mine then 0 else 1 := by
 rw [viewE_eq] at h
 by_cases hE : tellE ids rc rn jb l = 0
 ·refine ⟨hE, ?_⟩
  rw [if_neg (by simpa using hE)] at h
  obtain ⟨h1, h2, h3⟩ := tellE_zero hE
  have hw := talk_all h3
  split at h
  ·cases h
  rename_i h0
  split at h
  ·rename_i hm
   have hi := (talk_inv ids rc rn jb l (by omega)).a.oth (l.length - 1) (by rw [hw]; omega)
   have e : (talkL ids rc rn jb l).mv ((l.length - 1 : Nat) : Int) = l.getD (l.length - 1) z52 := by unfold Tk.mv; rw [hw, Int.toNat_natCast]
   rw [e, hm] at hi
   refine ⟨l.length - 1, by rw [hw]; omega, by omega, by unfold Tk.last; rw [hw]; omega, ?_⟩
   cases mine with
   | true => exact of_decide_eq_true hi.symm
   | false => have := of_decide_eq_false hi.symm; simp; omega
  cases h
 rw [if_pos hE] at h
 exact absurd h hE
theorem view_ok {ids : List S68} {rc : Bool} {rn : Int} {jb : Bool} {l : List Mv} (h : viewE ids rc rn jb true l = 0) : ∃ L, backL (talkL ids rc rn jb l) ((talkL ids rc rn jb l).word.length + 1) (talkL ids rc rn jb l).last = some L ∧ L.length ≤ 1048577 ∧ seenF (talkL ids rc rn jb l) ((talkL ids rc rn jb l).word.length + 1) (talkL ids rc rn jb l).word.length = some L.reverse := by
 obtain ⟨hE, n, h1, h2, h3, h4⟩ := view_zero h
 obtain ⟨h5, h6, h7⟩ := tellE_zero hE
 have hi := talk_inv ids rc rn jb l (by omega)
 obtain ⟨L, h8, h9, h10⟩ := back_seen hi.a hi.c ((talkL ids rc rn jb l).word.length + 1) n (by omega) (by omega) h4
 refine ⟨L, by rw [h3]; exact h8, by omega, ?_⟩
 have e : (((talkL ids rc rn jb l).word.length : Nat) : Int) = (n : Int) + 1 := by omega
 rw [e]
 exact h9
theorem sight_ok {ids : List S68} {rc : Bool} {rn : Int} {jb : Bool} {l : List Mv} (h : viewE ids rc rn jb false l = 0) : ∃ L, frontL (talkL ids rc rn jb l) ((talkL ids rc rn jb l).word.length + 1) (talkL ids rc rn jb l).last = some L ∧ L.length ≤ 1048577 ∧ sightF (talkL ids rc rn jb l) ((talkL ids rc rn jb l).word.length + 1) (talkL ids rc rn jb l).word.length = some L.reverse := by
 obtain ⟨hE, n, h1, h2, h3, h4⟩ := view_zero h
 obtain ⟨h5, h6, h7⟩ := tellE_zero hE
 have hi := talk_inv ids rc rn jb l (by omega)
 obtain ⟨L, h8, h9, h10⟩ := front_sight hi.a hi.c ((talkL ids rc rn jb l).word.length + 1) n (by omega) (by omega) h4
 refine ⟨L, by rw [h3]; exact h8, by omega, ?_⟩
 have e : (((talkL ids rc rn jb l).word.length : Nat) : Int) = (n : Int) + 1 := by omega
 rw [e]
 exact h9
set_option maxRecDepth 8000 in
set_option maxHeartbeats 2000000 in
theorem rView_any (A : Option Addr) (c : Nat) (ids : List S68) (rc : Bool) (rn : Int) (jb : Bool) (A1 : Option Addr) (c1 : Nat) (l : List Mv) (w : World) (hr : Kd.C k68 w A ids.length ids) (hlc : ids.length ≤ c) (hr1 : Kd.C k52 w A1 l.length l) (hl : l.length ≤ 1000000) : Calls Tryz.prog 27 #[.agg #[.slice A ids.length c, .bool rc, .int .i64 rn, .bool jb], .slice A1 l.length c1] w (Ret2 (viewE ids rc rn jb true l) fun v w' => RI w' w.heap.size v (okL (viewE ids rc rn jb true l) (viewL (talkL ids rc rn jb l))) ∧ Below w.heap.size w w') := by
 have HB := Aside0.mk ((Below.refl _ w).alloc (Nat.le_refl _) (.cells #[.slice A ids.length c, .bool rc, .int .i64 rn, .bool jb] 26))
 have HO := Aside0.mk (fun (V : World) (hb : Below w.heap.size w V) => rBegin_any A c ids rc rn jb A1 c1 l V (Kd.C_below hr hb) hlc (Kd.C_below hr1 hb) hl)
 clear hr
 have hvE := viewE_eq ids rc rn jb true l
 by_cases hE : tellE ids rc rn jb l = 0
 ·have HE := Aside0.mk hE
  rw [if_neg (by simpa using hE)] at hvE
  have hw := talk_all (tellE_zero hE).2.2
  by_cases h0 : l.length = 0
  ·rw [if_pos h0] at hvE
   have HV := Aside0.mk hvE
   have hz : ((l.length : Int) == 0) = true := by simp [h0]
   clear hr1 hE hw hvE h0
   go_enter Tryz.func27, Tryz.ntmps27
   go_wp2_with (go_at_call 60; refine (HO.out _ HB.out).mono ?_; rintro e w1 hp; obtain ⟨hb1, g, rfl, vw, vo, vp, vj, hT⟩ := hp.ok HE.out; have HT := Aside0.mk hT; have HB1 := Aside0.mk (HB.out.trans (hb1.mono (by simp))); have hs1 : w.heap.size ≤ w1.heap.size := HB1.out.size; skip)
   go_ret2
   exact Ret2.mk _ (by rw [HV.out]; rfl) ⟨by rw [HV.out]; exact Kd.R_nil _ _ _ _ _, HB1.out⟩
  rw [if_neg h0] at hvE
  obtain ⟨n, hn⟩ : ∃ n, l.length = n + 1 := ⟨l.length - 1, by omega⟩
  have hz : ((l.length : Int) == 0) = false := beq_false_of_ne (by omega)
  have hnz : (l.length : Int) - 1 = (n : Int) := by omega
  have hnl : n < l.length := by omega
  have hnl2 : (n : Int) < (l.length : Int) := by omega
  obtain ⟨ad, e0, a0, a1, a2, a3⟩ := at_T52 hr1 (n : Int) (by omega) hnl2
  cases e0
  rw [Int.toNat_natCast] at a0 a1 a2 a3
  have hq : rd_T52 l (n : Int) = l.getD (l.length - 1) z52 := by rw [rd_T52, Int.toNat_natCast, hn]; rfl
  generalize rd_T52 l (n : Int) = q at *
  clear hn h0
  cases hb : isOB q with
  | false =>
   rw [← hq, hb, if_neg (by decide)] at hvE
   have HV := Aside0.mk hvE
   have HQ := Aside0.mk hb
   clear hr1 hE hw hvE hb hq
   go_enter Tryz.func27, Tryz.ntmps27
   go_wp2_with (first
    | (go_at_call 60; refine (HO.out _ HB.out).mono ?_; rintro e w1 hp; obtain ⟨hb1, g, rfl, vw, vo, vp, vj, hT⟩ := hp.ok HE.out; have HT := Aside0.mk hT; have HB1 := Aside0.mk (HB.out.trans (hb1.mono (by simp))); have hs1 : w.heap.size ≤ w1.heap.size := HB1.out.size; have b0 := pw_cell_below HB1.out a0; have b1 := pw_cell_below HB1.out a1; have b2 := pw_cell_below HB1.out a2; have b3 := pw_cell_below HB1.out a3)
    | (go_at_call 34; refine (rIsOther_any q _).mono ?_; rw [HQ.out]; rintro e w2 ⟨rfl, hb2⟩; have HT2 := Aside0.mk (HT.out.below hb2); have HB2 := Aside0.mk (HB1.out.trans (hb2.mono hs1))))
   go_ret2
   exact Ret2.mk _ (by rw [HV.out]; rfl) ⟨by rw [HV.out]; exact Kd.R_nil _ _ _ _ _, HB2.out⟩
  | true =>
   rw [← hq, hb, if_pos rfl] at hvE
   have HV := Aside0.mk hvE
   have HQ := Aside0.mk hb
   obtain ⟨L, _, _, hsn⟩ := view_ok hvE
   have HL := Aside0.mk (show viewL (talkL ids rc rn jb l) = L.reverse by unfold viewL; rw [hsn]; rfl)
   have hbd := (tellE_zero hE).2.1
   rw [hw] at hsn
   have HSN := Aside0.mk (fun (V : World) (g : Nat) (vw vo vp vj : Value) (hT : Wlk w.heap.size V g A c ids rc rn jb (talkL ids rc rn jb l) vw vo vp vj) => rSeen_any (l.length + 1) (w := V) (n := l.length) hT hsn (by omega))
   clear hr1 hE hw hvE hb hq hsn
   go_enter Tryz.func27, Tryz.ntmps27
   go_wp2_with (first
    | (go_at_call 60; refine (HO.out _ HB.out).mono ?_; rintro e w1 hp; obtain ⟨hb1, g, rfl, vw, vo, vp, vj, hT⟩ := hp.ok HE.out; have HT := Aside0.mk hT; have HB1 := Aside0.mk (HB.out.trans (hb1.mono (by simp))); have hs1 : w.heap.size ≤ w1.heap.size := HB1.out.size; have b0 := pw_cell_below HB1.out a0; have b1 := pw_cell_below HB1.out a1; have b2 := pw_cell_below HB1.out a2; have b3 := pw_cell_below HB1.out a3)
    | (go_at_call 34; refine (rIsOther_any q _).mono ?_; rw [HQ.out]; rintro e w2 ⟨rfl, hb2⟩; have HT2 := Aside0.mk (HT.out.below hb2); have HB2 := Aside0.mk (HB1.out.trans (hb2.mono hs1)))
    | (go_at_call 70; refine (HSN.out _ _ _ _ _ _ (HT2.out.lower (by simp))).mono ?_; rintro e w3 ⟨v, rfl, hR, hb3⟩))
   go_ret2
   exact Ret2.mk _ (by rw [HV.out]; rfl) ⟨by rw [HV.out, okL_ok _ rfl, HL.out]; exact Kd.R_lower hR HB2.out.size, HB2.out.trans (hb3.mono HB2.out.size)⟩
 have HE := Aside0.mk hE
 rw [if_pos hE] at hvE
 have HV := Aside0.mk hvE
 have hb : (tellE ids rc rn jb l != 0) = true := by simpa using hE
 clear hE hr1 hvE
 go_enter Tryz.func27, Tryz.ntmps27
 go_wp2_with (go_at_call 60; refine (HO.out _ HB.out).mono ?_; rintro e w1 hp; obtain ⟨p, rfl, hb1⟩ := hp.both)
 go_ret2
 exact Ret2.mk _ (by rw [HV.out]; rfl) ⟨by rw [HV.out, okL_no _ HE.out]; exact Kd.R_nil _ _ _ _ _, HB.out.trans (hb1.mono (by simp))⟩
set_option maxRecDepth 8000 in
set_option maxHeartbeats 2000000 in
theorem rSight_any (A : Option Addr) (c : Nat) (ids : List S68) (rc : Bool) (rn : Int) (jb : Bool) (A1 : Option Addr) (c1 : Nat) (l : List Mv) (w : World) (hr : Kd.C k68 w A ids.length ids) (hlc : ids.length ≤ c) (hr1 : Kd.C k52 w A1 l.length l) (hl : l.length ≤ 1000000) : Calls Tryz.prog 28 #[.agg #[.slice A ids.length c, .bool rc, .int .i64 rn, .bool jb], .slice A1 l.length c1] w (Ret2 (viewE ids rc rn jb false l) fun v w' => RI w' w.heap.size v (okL (viewE ids rc rn jb false l) (sightL (talkL ids rc rn jb l))) ∧ Below w.heap.size w w') := by
 have HB := Aside0.mk ((Below.refl _ w).alloc (Nat.le_refl _) (.cells #[.slice A ids.length c, .bool rc, .int .i64 rn, .bool jb] 26))
 have HO := Aside0.mk (fun (V : World) (hb : Below w.heap.size w V) => rBegin_any A c ids rc rn jb A1 c1 l V (Kd.C_below hr hb) hlc (Kd.C_below hr1 hb) hl)
 clear hr
 have hvE := viewE_eq ids rc rn jb false l
 by_cases hE : tellE ids rc rn jb l = 0
 ·have HE := Aside0.mk hE
  rw [if_neg (by simpa using hE)] at hvE
  have hw := talk_all (tellE_zero hE).2.2
  by_cases h0 : l.length = 0
  ·rw [if_pos h0] at hvE
   have HV := Aside0.mk hvE
   have hz : ((l.length : Int) == 0) = true := by simp [h0]
   clear hr1 hE hw hvE h0
   go_enter Tryz.func28, Tryz.ntmps28
   go_wp2_with (go_at_call 60; refine (HO.out _ HB.out).mono ?_; rintro e w1 hp; obtain ⟨hb1, g, rfl, vw, vo, vp, vj, hT⟩ := hp.ok HE.out; have HT := Aside0.mk hT; have HB1 := Aside0.mk (HB.out.trans (hb1.mono (by simp))); have hs1 : w.heap.size ≤ w1.heap.size := HB1.out.size; skip)
   go_ret2
   exact Ret2.mk _ (by rw [HV.out]; rfl) ⟨by rw [HV.out]; exact Kd.R_nil _ _ _ _ _, HB1.out⟩
  rw [if_neg h0] at hvE
  obtain ⟨n, hn⟩ : ∃ n, l.length = n + 1 := ⟨l.length - 1, by omega⟩
  have hz : ((l.length : Int) == 0) = false := beq_false_of_ne (by omega)
  have hnz : (l.length : Int) - 1 = (n : Int) := by omega
  have hnl : n < l.length := by omega
  have hnl2 : (n : Int) < (l.length : Int) := by omega
  obtain ⟨ad, e0, a0, a1, a2, a3⟩ := at_T52 hr1 (n : Int) (by omega) hnl2
  cases e0
  rw [Int.toNat_natCast] at a0 a1 a2 a3
  have hq : rd_T52 l (n : Int) = l.getD (l.length - 1) z52 := by rw [rd_T52, Int.toNat_natCast, hn]; rfl
  generalize rd_T52 l (n : Int) = q at *
  clear hn h0
  cases hb : isOB q with
  | true =>
   rw [← hq, hb, if_neg (by decide)] at hvE
   have HV := Aside0.mk hvE
   have HQ := Aside0.mk hb
   clear hr1 hE hw hvE hb hq
   go_enter Tryz.func28, Tryz.ntmps28
   go_wp2_with (first
    | (go_at_call 60; refine (HO.out _ HB.out).mono ?_; rintro e w1 hp; obtain ⟨hb1, g, rfl, vw, vo, vp, vj, hT⟩ := hp.ok HE.out; have HT := Aside0.mk hT; have HB1 := Aside0.mk (HB.out.trans (hb1.mono (by simp))); have hs1 : w.heap.size ≤ w1.heap.size := HB1.out.size; have b0 := pw_cell_below HB1.out a0; have b1 := pw_cell_below HB1.out a1; have b2 := pw_cell_below HB1.out a2; have b3 := pw_cell_below HB1.out a3)
    | (go_at_call 34; refine (rIsOther_any q _).mono ?_; rw [HQ.out]; rintro e w2 ⟨rfl, hb2⟩; have HT2 := Aside0.mk (HT.out.below hb2); have HB2 := Aside0.mk (HB1.out.trans (hb2.mono hs1))))
   go_ret2
   exact Ret2.mk _ (by rw [HV.out]; rfl) ⟨by rw [HV.out]; exact Kd.R_nil _ _ _ _ _, HB2.out⟩
  | false =>
   rw [← hq, hb, if_pos rfl] at hvE
   have HV := Aside0.mk hvE
   have HQ := Aside0.mk hb
   obtain ⟨L, _, _, hsn⟩ := sight_ok hvE
   have HL := Aside0.mk (show sightL (talkL ids rc rn jb l) = L.reverse by unfold sightL; rw [hsn]; rfl)
   have hbd := (tellE_zero hE).2.1
   rw [hw] at hsn
   have HSN := Aside0.mk (fun (V : World) (g : Nat) (vw vo vp vj : Value) (hT : Wlk w.heap.size V g A c ids rc rn jb (talkL ids rc rn jb l) vw vo vp vj) => rSeenThere_any (l.length + 1) (w := V) (n := l.length) hT hsn (by omega))
   clear hr1 hE hw hvE hb hq hsn
   go_enter Tryz.func28, Tryz.ntmps28
   go_wp2_with (first
    | (go_at_call 60; refine (HO.out _ HB.out).mono ?_; rintro e w1 hp; obtain ⟨hb1, g, rfl, vw, vo, vp, vj, hT⟩ := hp.ok HE.out; have HT := Aside0.mk hT; have HB1 := Aside0.mk (HB.out.trans (hb1.mono (by simp))); have hs1 : w.heap.size ≤ w1.heap.size := HB1.out.size; have b0 := pw_cell_below HB1.out a0; have b1 := pw_cell_below HB1.out a1; have b2 := pw_cell_below HB1.out a2; have b3 := pw_cell_below HB1.out a3)
    | (go_at_call 34; refine (rIsOther_any q _).mono ?_; rw [HQ.out]; rintro e w2 ⟨rfl, hb2⟩; have HT2 := Aside0.mk (HT.out.below hb2); have HB2 := Aside0.mk (HB1.out.trans (hb2.mono hs1)))
    | (go_at_call 71; refine (HSN.out _ _ _ _ _ _ (HT2.out.lower (by simp))).mono ?_; rintro e w3 ⟨v, rfl, hR, hb3⟩))
   go_ret2
   exact Ret2.mk _ (by rw [HV.out]; rfl) ⟨by rw [HV.out, okL_ok _ rfl, HL.out]; exact Kd.R_lower hR HB2.out.size, HB2.out.trans (hb3.mono HB2.out.size)⟩
 have HE := Aside0.mk hE
 rw [if_pos hE] at hvE
 have HV := Aside0.mk hvE
 have hb : (tellE ids rc rn jb l != 0) = true := by simpa using hE
 clear hE hr1 hvE
 go_enter Tryz.func28, Tryz.ntmps28
 go_wp2_with (go_at_call 60; refine (HO.out _ HB.out).mono ?_; rintro e w1 hp; obtain ⟨p, rfl, hb1⟩ := hp.both)
 go_ret2
 exact Ret2.mk _ (by rw [HV.out]; rfl) ⟨by rw [HV.out, okL_no _ HE.out]; exact Kd.R_nil _ _ _ _ _, HB.out.trans (hb1.mono (by simp))⟩
end Go.Proofs.YtjgocihflhljeaaGreat.P
namespace Go.Proofs.YtjgocihflhljeaaGreat.P
open Go.RowKit Go.Shelf Go.Proofs.YtjgocihflhljeaaGreatW.PrintWords Go.Proofs.YtjgocihflhljeaaGreatW.PrintLast Go.Proofs.YtjgocihflhljeaaGreatW.PrintMore
section
variable {w W W' : World} {I : List (Option Addr × List S68)} {Y : List (Option Addr × List Mv)} {X : List (Option Addr × List Int)} {G : List (Nat × Array Value × TypeId)}
variable (h : Lw w W I Y X G) {A A1 : Option Addr} {c c1 : Nat} {ids : List S68} {l : List Mv} (rc : Bool) (rn : Int) (jb : Bool) (hi : (A, ids) ∈ I) (hy : (A1, l) ∈ Y) (hl : l.length ≤ 1000000)
include h hi hy hl
theorem Lw.rview (hc : ids.length ≤ c) : Calls Tryz.prog 27 #[.agg #[.slice A ids.length c, .bool rc, .int .i64 rn, .bool jb], .slice A1 l.length c1] W fun e w' => ∃ B k, e = .returned (.tuple #[.slice B (okL (viewE ids rc rn jb true l) (viewL (talkL ids rc rn jb l))).length k, .int .i64 (viewE ids rc rn jb true l)]) ∧ (okL (viewE ids rc rn jb true l) (viewL (talkL ids rc rn jb l))).length ≤ k ∧ Lw w w' I Y ((B, okL (viewE ids rc rn jb true l) (viewL (talkL ids rc rn jb l))) :: X) G :=
 (rView_any A c ids rc rn jb A1 c1 l W (h.i _ hi) hc (h.y _ hy) hl).mono (by
  rintro e w' ⟨r, rfl, hR, hb⟩
  skip
  obtain ⟨B, k, rfl, hk, hC⟩ := Kd.R_reads hR
  exact ⟨B, k, rfl, hk, (h.below hb).addx hC⟩)
theorem Lw.rsight (hc : ids.length ≤ c) : Calls Tryz.prog 28 #[.agg #[.slice A ids.length c, .bool rc, .int .i64 rn, .bool jb], .slice A1 l.length c1] W fun e w' => ∃ B k, e = .returned (.tuple #[.slice B (okL (viewE ids rc rn jb false l) (sightL (talkL ids rc rn jb l))).length k, .int .i64 (viewE ids rc rn jb false l)]) ∧ (okL (viewE ids rc rn jb false l) (sightL (talkL ids rc rn jb l))).length ≤ k ∧ Lw w w' I Y ((B, okL (viewE ids rc rn jb false l) (sightL (talkL ids rc rn jb l))) :: X) G :=
 (rSight_any A c ids rc rn jb A1 c1 l W (h.i _ hi) hc (h.y _ hy) hl).mono (by
  rintro e w' ⟨r, rfl, hR, hb⟩
  skip
  obtain ⟨B, k, rfl, hk, hC⟩ := Kd.R_reads hR
  exact ⟨B, k, rfl, hk, (h.below hb).addx hC⟩)
theorem Lw.view : Calls Tryz.prog 25 #[.agg #[.slice A ids.length c, .bool rc, .int .i64 rn, .bool jb], .slice A1 l.length c1] W fun e w' => ∃ B k, e = .returned (.tuple #[.slice B (okL (viewE ids rc rn jb true l) (viewL (talkL ids rc rn jb l))).length k, .int .i64 (viewE ids rc rn jb true l)]) ∧ (okL (viewE ids rc rn jb true l) (viewL (talkL ids rc rn jb l))).length ≤ k ∧ Lw w w' I Y ((B, okL (viewE ids rc rn jb true l) (viewL (talkL ids rc rn jb l))) :: X) G :=
 (pView_any A c ids rc rn jb A1 c1 l W (h.i _ hi) (h.y _ hy) hl (viewL (talkL ids rc rn jb l)).reverse (fun h0 => by obtain ⟨L, h1, h2, h3⟩ := view_ok h0; unfold viewL; rw [h3]; exact ⟨by rw [h1]; simp, by simpa using h2⟩)).mono (by
  rintro e w' ⟨r, rfl, hR, hb⟩
  rw [List.reverse_reverse] at hR
  obtain ⟨B, k, rfl, hk, hC⟩ := Kd.R_reads hR
  exact ⟨B, k, rfl, hk, (h.below hb).addx hC⟩)
theorem Lw.sight : Calls Tryz.prog 26 #[.agg #[.slice A ids.length c, .bool rc, .int .i64 rn, .bool jb], .slice A1 l.length c1] W fun e w' => ∃ B k, e = .returned (.tuple #[.slice B (okL (viewE ids rc rn jb false l) (sightL (talkL ids rc rn jb l))).length k, .int .i64 (viewE ids rc rn jb false l)]) ∧ (okL (viewE ids rc rn jb false l) (sightL (talkL ids rc rn jb l))).length ≤ k ∧ Lw w w' I Y ((B, okL (viewE ids rc rn jb false l) (sightL (talkL ids rc rn jb l))) :: X) G :=
 (pSight_any A c ids rc rn jb A1 c1 l W (h.i _ hi) (h.y _ hy) hl (sightL (talkL ids rc rn jb l)).reverse (fun h0 => by obtain ⟨L, h1, h2, h3⟩ := sight_ok h0; unfold sightL; rw [h3]; exact ⟨by rw [h1]; simp, by simpa using h2⟩)).mono (by
  rintro e w' ⟨r, rfl, hR, hb⟩
  rw [List.reverse_reverse] at hR
  obtain ⟨B, k, rfl, hk, hC⟩ := Kd.R_reads hR
  exact ⟨B, k, rfl, hk, (h.below hb).addx hC⟩)
end
theorem view_len (ids : List S68) (rc : Bool) (rn : Int) (jb : Bool) (l : List Mv) (hl : l.length ≤ 405) : (okL (viewE ids rc rn jb true l) (viewL (talkL ids rc rn jb l))).length ≤ 1000000 ∧ (okL (viewE ids rc rn jb false l) (sightL (talkL ids rc rn jb l))).length ≤ 1000000 := by
 have h3 := talk_word ids rc rn jb l
 refine ⟨Nat.le_trans (okL_len _ _) ?_, Nat.le_trans (okL_len _ _) ?_⟩
 ·unfold viewL
  cases hs : seenF (talkL ids rc rn jb l) ((talkL ids rc rn jb l).word.length + 1) (talkL ids rc rn jb l).word.length with
  | none => simp
  | some L => have := seenF_len _ hs; simp; omega
 unfold sightL
 cases hs : sightF (talkL ids rc rn jb l) ((talkL ids rc rn jb l).word.length + 1) (talkL ids rc rn jb l).word.length with
 | none => simp
 | some L => have := sightF_len _ hs; simp; omega
end Go.Proofs.YtjgocihflhljeaaGreat.P
namespace Go.Proofs.YtjgocihflhljeaaGreat.P
open Go.RowKit Go.Shelf Go.Proofs.YtjgocihflhljeaaGreatW.PrintWords Go.Proofs.YtjgocihflhljeaaGreatW.PrintLast Go.Proofs.YtjgocihflhljeaaGreatW.PrintMore
attribute [local go_sem] Oper.semAt_some
set_option maxRecDepth 8000 in
set_option maxHeartbeats 4000000 in
theorem playViews_any (A : Option Addr) (c : Nat) (ids : List S68) (rc : Bool) (rn : Int) (jb : Bool) (A1 : Option Addr) (c1 : Nat) (l : List Mv) (w : World) (hr : Kd.C k68 w A ids.length ids) (hlc : ids.length ≤ c) (hr1 : Kd.C k52 w A1 l.length l) (hlc1 : l.length ≤ c1) :
  Calls Tryz.prog 4 #[.agg #[.slice A ids.length c, .bool rc, .int .i64 rn, .bool jb], .slice A1 l.length c1] w fun e w' => e = .returned (.bool true) ∧ Below w.heap.size w w' := by
 have h0 := Lw.start hr hr1
 have H0 := Aside0.mk (h0.new #[.slice A ids.length c, .bool rc, .int .i64 rn, .bool jb] 26)
 clear h0 hr hr1
 cases ht : thinB ids l with
 | false =>
  have HT := Aside0.mk ht
  clear ht
  go_enter Tryz.func4, Tryz.ntmps4
  go_wp2_with (first
   | (go_at_call 14; refine (H0.out.thin rc rn jb (List.Mem.head _) (List.Mem.head _) hlc hlc1).mono ?_; rw [HT.out]; rintro e w1 ⟨rfl, h1⟩; have H1 := Aside0.mk h1; clear h1)
   | (go_at_call 15; refine H1.out.awake.mono ?_; rintro e w2 ⟨rfl, h2⟩))
  go_ret
  exact ⟨rfl, h2.b⟩
 | true =>
  have HT := Aside0.mk ht
  have hth := thinB_ids ht
  have ht8 := Aside0.mk (And.intro hth.1 hth.2.1)
  have hl := hth.2.2
  have hl6 : l.length ≤ 1000000 := by omega
  have HLP := Aside0.mk (view_len ids rc rn jb l hl)
  clear ht hth
  go_enter Tryz.func4, Tryz.ntmps4
  go_upto_region 3 with (go_at_call 14; refine (H0.out.thin rc rn jb (List.Mem.head _) (List.Mem.head _) hlc hlc1).mono ?_; rw [HT.out]; rintro e w1 ⟨rfl, h1⟩; have H1 := Aside0.mk h1; clear h1; have hg1 : w.heap.size < w1.heap.size := blk_lt (H1.out.g _ (List.Mem.head _)); have a0 : w1.cell? ⟨w.heap.size, 0, none⟩ = some (.slice A ids.length c) := H1.out.cell List.mem_cons_self 0 rfl; have a1 : w1.cell? ⟨w.heap.size, 1, none⟩ = some (.bool rc) := H1.out.cell List.mem_cons_self 1 rfl; have a2 : w1.cell? ⟨w.heap.size, 2, none⟩ = some (.int .i64 rn) := H1.out.cell List.mem_cons_self 2 rfl; have a3 : w1.cell? ⟨w.heap.size, 3, none⟩ = some (.bool jb) := H1.out.cell List.mem_cons_self 3 rfl)
  have hg00 := hg1
  go_upto_region 4 with (first
   | (go_at_call 16; refine (H1.out.copyA rc rn jb List.mem_cons_self hlc ht8.out).mono ?_; rintro e wpa ⟨Ep, kbp, rfl, hkbp, hpa⟩; have Hpa := Aside0.mk hpa; clear hpa)
   | (go_at_call 17; refine (Hpa.out.copyW List.mem_cons_self hlc1 hl6).mono ?_; rintro e wpb ⟨Cp, kcp, rfl, hkcp, hpb⟩; have Hpb := Aside0.mk hpb; clear hpb)
   | (go_at_call 25; refine (Hpb.out.view rc rn jb List.mem_cons_self List.mem_cons_self hl6).mono ?_; rintro e wp ⟨Bp, kp, rfl, hkp, hp⟩; have Hp := Aside0.mk hp.popi.popy; clear hp Hpa Hpb))
  clear a0 a1 a2 a3 hg1 H0
  have hgp : w.heap.size < wp.heap.size := blk_lt (Hp.out.g _ List.mem_cons_self)
  have a0 : wp.cell? ⟨w.heap.size, 0, none⟩ = some (.slice A ids.length c) := Hp.out.cell List.mem_cons_self 0 rfl; have a1 : wp.cell? ⟨w.heap.size, 1, none⟩ = some (.bool rc) := Hp.out.cell List.mem_cons_self 1 rfl; have a2 : wp.cell? ⟨w.heap.size, 2, none⟩ = some (.int .i64 rn) := Hp.out.cell List.mem_cons_self 2 rfl; have a3 : wp.cell? ⟨w.heap.size, 3, none⟩ = some (.bool jb) := Hp.out.cell List.mem_cons_self 3 rfl
  go_upto_region 5 with (first
   | (go_at_call 16; refine (Hp.out.copyA rc rn jb List.mem_cons_self hlc ht8.out).mono ?_; rintro e wja ⟨Ej, kbj, rfl, hkbj, hja⟩; have Hja := Aside0.mk hja; clear hja)
   | (go_at_call 17; refine (Hja.out.copyW List.mem_cons_self hlc1 hl6).mono ?_; rintro e wjb ⟨Cj, kcj, rfl, hkcj, hjb⟩; have Hjb := Aside0.mk hjb; clear hjb)
   | (go_at_call 26; refine (Hjb.out.sight rc rn jb List.mem_cons_self List.mem_cons_self hl6).mono ?_; rintro e wj ⟨Bj, kj, rfl, hkj, hj⟩; have Hj := Aside0.mk hj.popi.popy; clear hj Hja Hjb))
  clear a0 a1 a2 a3 hgp H1
  have hgj : w.heap.size < wj.heap.size := blk_lt (Hj.out.g _ List.mem_cons_self)
  have a0 : wj.cell? ⟨w.heap.size, 0, none⟩ = some (.slice A ids.length c) := Hj.out.cell List.mem_cons_self 0 rfl; have a1 : wj.cell? ⟨w.heap.size, 1, none⟩ = some (.bool rc) := Hj.out.cell List.mem_cons_self 1 rfl; have a2 : wj.cell? ⟨w.heap.size, 2, none⟩ = some (.int .i64 rn) := Hj.out.cell List.mem_cons_self 2 rfl; have a3 : wj.cell? ⟨w.heap.size, 3, none⟩ = some (.bool jb) := Hj.out.cell List.mem_cons_self 3 rfl
  go_upto_region 6 with (go_at_call 27; refine (Hj.out.rview rc rn jb List.mem_cons_self List.mem_cons_self hl6 hlc).mono ?_; rintro e wq ⟨Bq, kq, rfl, hkq, hq⟩; have Hq := Aside0.mk hq; clear hq)
  clear a0 a1 a2 a3 hgj Hp
  have hgq : w.heap.size < wq.heap.size := blk_lt (Hq.out.g _ List.mem_cons_self)
  have a0 : wq.cell? ⟨w.heap.size, 0, none⟩ = some (.slice A ids.length c) := Hq.out.cell List.mem_cons_self 0 rfl; have a1 : wq.cell? ⟨w.heap.size, 1, none⟩ = some (.bool rc) := Hq.out.cell List.mem_cons_self 1 rfl; have a2 : wq.cell? ⟨w.heap.size, 2, none⟩ = some (.int .i64 rn) := Hq.out.cell List.mem_cons_self 2 rfl; have a3 : wq.cell? ⟨w.heap.size, 3, none⟩ = some (.bool jb) := Hq.out.cell List.mem_cons_self 3 rfl
  go_upto_region 7 with (go_at_call 28; refine (Hq.out.rsight rc rn jb List.mem_cons_self List.mem_cons_self hl6 hlc).mono ?_; rintro e ws ⟨Br, kr, rfl, hkr, hs⟩; have Hs := Aside0.mk hs; clear hs)
  clear a0 a1 a2 a3 hgq Hj
  have hgs : w.heap.size < ws.heap.size := blk_lt (Hs.out.g _ List.mem_cons_self)
  have a0 : ws.cell? ⟨w.heap.size, 0, none⟩ = some (.slice A ids.length c) := Hs.out.cell List.mem_cons_self 0 rfl; have a1 : ws.cell? ⟨w.heap.size, 1, none⟩ = some (.bool rc) := Hs.out.cell List.mem_cons_self 1 rfl; have a2 : ws.cell? ⟨w.heap.size, 2, none⟩ = some (.int .i64 rn) := Hs.out.cell List.mem_cons_self 2 rfl; have a3 : ws.cell? ⟨w.heap.size, 3, none⟩ = some (.bool jb) := Hs.out.cell List.mem_cons_self 3 rfl
  clear a0 a1 a2 a3
  go_wp2_with fail
  have hs := Hs.out.sameI (List.mem_cons_of_mem _ (List.mem_cons_of_mem _ (List.mem_cons_of_mem _ List.mem_cons_self))) (List.mem_cons_of_mem _ List.mem_cons_self) hkp hkq HLP.out.1
  with_reducible refine hs.mono ?_
  clear hs
  rintro e w8 ⟨rfl, h8⟩
  have H8 := Aside0.mk h8
  clear h8
  go_wp2_with fail
  have hs := H8.out.sameI (List.mem_cons_of_mem _ (List.mem_cons_of_mem _ List.mem_cons_self)) List.mem_cons_self hkj hkr HLP.out.2
  with_reducible refine hs.mono ?_
  clear hs
  rintro e w9 ⟨rfl, h9⟩
  have H9 := Aside0.mk h9
  clear h9
  go_wp2_with fail
  with_reducible refine H9.out.awake.mono ?_
  rintro e w11 ⟨rfl, h11⟩
  go_wp2_with fail
  go_ret
  exact ⟨rfl, h11.b⟩
end Go.Proofs.YtjgocihflhljeaaGreat.P
namespace Go.Proofs.YtjgocihflhljeaaGreat.P
open Go Go.RowKit Go.ChangeShapes Go.WideShapes Go.Proofs.YtjgocihflhljeaaGreatW.PrintWords Go.Proofs.YtjgocihflhljeaaGreatW.PrintLast Go.Proofs.YtjgocihflhljeaaGreatW.PrintMore
set_option maxRecDepth 100000
section
variable {H : Type} {enc : TypeId × Value → H} {W : World} {base : Nat} {sp : Nat → Bool} {held : Bool} {fuel : Nat} {cs : List Value} {x : DataW H × List MemPlace}
theorem opens_slice {α : Type} (d : Kd α) {t e : TypeId} (ht : Tryz.prog.underlying t = some (.slice e)) (hsz : Tryz.prog.cellsOf e = d.sz)
  (he : ∀ (n : Nat) (c : List Value) (y : DataW H × List MemPlace), DataW.trod enc Tryz.prog W base sp held n e c = some y → ∃ a, d.K W a c)
  (h : DataW.trod enc Tryz.prog W base sp held fuel t cs = some x) : ∃ A c xs, cs = [.slice A xs.length c] ∧ xs.length ≤ c ∧ d.C W A xs.length xs := by
 rcases Go.Deep.open_slice ht h with ⟨rfl, _⟩ | ⟨a, len, cap, m, n, D, Pl, rfl, hb, hl, hm, hmm, _, hx⟩
 ·exact ⟨none, 0, [], rfl, Nat.le_refl _, rfl, by simp, fun h => absurd h (by simp)⟩
 have hlm : len ≤ m := by rw [hmm]; split <;> omega
 have hex : ∀ i, i < len → ∃ p : α × List Value, W.cells? base (a.add (i * Tryz.prog.cellsOf e)) (Tryz.prog.cellsOf e) = some p.2 ∧ d.K W p.1 p.2 := fun i hi => by
  obtain ⟨c, h1, h2⟩ := hx i (by omega)
  obtain ⟨p, hp⟩ := he _ _ _ h2
  exact ⟨(p, c), h1, hp⟩
 rcases Nat.eq_zero_or_pos len with rfl | hpos
 ·exact ⟨some a, cap, [], rfl, Nat.zero_le _, rfl, by simp, fun h => absurd h (by simp)⟩
 have : Inhabited (α × List Value) := ⟨Classical.choose (hex 0 hpos)⟩
 obtain ⟨V, hV⟩ := Go.Deep.choose_lt hex
 have hlen : ((List.range len).map fun i => (V i).1).length = len := by simp
 refine ⟨some a, cap, (List.range len).map fun i => (V i).1, by rw [hlen], by rw [hlen]; exact hl, rfl, by rw [hlen]; simp only [maxLen] at hm; omega, fun _ => ⟨a, rfl, ?_⟩⟩
 intro j p hj
 obtain ⟨hjl, rfl⟩ := List.getElem?_eq_some_iff.1 hj
 rw [hlen] at hjl
 obtain ⟨h1, h2⟩ := hV j hjl
 rw [hsz] at h1
 obtain ⟨_, h3, h4⟩ := World.cells?_some h1
 refine ⟨(V j).2, h3, by simpa using h2, fun i u hu => ?_⟩
 have hi : i < d.sz := by rw [← h3]; exact (List.getElem?_eq_some_iff.1 hu).1
 have h5 := h4 i hi
 rw [Go.Deep.add_add] at h5
 rw [h5, hu]
theorem cells3 : Tryz.prog.cellsOf 3 = 1 := by kernel_rfl
theorem cells4 : Tryz.prog.cellsOf 4 = 1 := by kernel_rfl
theorem cells5 : Tryz.prog.cellsOf 5 = 1 := by kernel_rfl
theorem cells22 : Tryz.prog.cellsOf 22 = 1 := by kernel_rfl
theorem cells66 : Tryz.prog.cellsOf 66 = 1 := by kernel_rfl
theorem cellsB : Tryz.prog.cellsOf 24 = 2 := by kernel_rfl
theorem cellsT : Tryz.prog.cellsOf 68 = 3 := by kernel_rfl
theorem cellsM : Tryz.prog.cellsOf 52 = 4 := by kernel_rfl
theorem cellsA : Tryz.prog.cellsOf 26 = 4 := by kernel_rfl
theorem opens24 (h : DataW.trod enc Tryz.prog W base sp held fuel 24 cs = some x) : ∃ a : S24, cs = [.bool a.f0, .int .i64 a.f1] := by
 obtain ⟨y0, y1, n, _, hl, h0, h1⟩ := trod_struct2 Tryz.underlying24 h
 rw [cellsB] at hl
 match cs, hl with
 | [a, b], _ =>
  simp only [cells3, cells4, cells5, cells22, cells66, cellsB, List.drop_zero, List.drop_succ_cons, List.take_succ_cons, List.take_zero] at h0 h1
  have ha : DataW.trod enc Tryz.prog W base sp held n 4 [a] = some y0 := h0
  have hb : DataW.trod enc Tryz.prog W base sp held n 3 [b] = some y1 := h1
  obtain ⟨b0, e0, _⟩ := DataW.trod_bool Tryz.underlying4 ha
  obtain ⟨b1, e1, _⟩ := DataW.trod_int Tryz.underlying3 hb
  cases e0
  cases e1
  exact ⟨⟨b0, b1⟩, rfl⟩
theorem opens68 (h : DataW.trod enc Tryz.prog W base sp held fuel 68 cs = some x) : ∃ a : S68, k68.K W a cs := by
 obtain ⟨y0, y1, n, _, hl, h0, h1⟩ := trod_struct2 Tryz.underlying68 h
 rw [cellsT] at hl
 match cs, hl with
 | [a, b, c], _ =>
  simp only [cells3, cells4, cells5, cells22, cells66, cellsB, List.drop_zero, List.drop_succ_cons, List.take_succ_cons, List.take_zero] at h0 h1
  have ha : DataW.trod enc Tryz.prog W base sp held n 66 [a] = some y0 := h0
  have hb : DataW.trod enc Tryz.prog W base sp held n 24 [b, c] = some y1 := h1
  obtain ⟨A, cp, xs, e0, hle, hC⟩ := opens_slice k24 Tryz.underlying66 (cellsB) (fun n c y hy => by obtain ⟨p, rfl⟩ := opens24 hy; exact ⟨p, k24_mk W p⟩) ha
  obtain ⟨p, e1⟩ := opens24 hb
  cases e0
  cases e1
  exact ⟨⟨xs, p⟩, k68_mk W ⟨xs, p⟩ hle hC⟩
theorem opens52 (h : DataW.trod enc Tryz.prog W base sp held fuel 52 cs = some x) : ∃ a : S52, k52.K W a cs := by
 obtain ⟨y0, y1, y2, y3, n, _, hl, h0, h1, h2, h3⟩ := Go.Joins.trod_struct4 Tryz.underlying52 h
 rw [cellsM] at hl
 match cs, hl with
 | [a, b, c, d], _ =>
  simp only [cells3, cells4, cells5, cells22, cells66, cellsB, List.drop_zero, List.drop_succ_cons, List.take_succ_cons, List.take_zero] at h0 h1 h2 h3
  have ha : DataW.trod enc Tryz.prog W base sp held n 3 [a] = some y0 := h0
  have hb : DataW.trod enc Tryz.prog W base sp held n 3 [b] = some y1 := h1
  have hd : DataW.trod enc Tryz.prog W base sp held n 5 [c] = some y2 := h2
  have he : DataW.trod enc Tryz.prog W base sp held n 3 [d] = some y3 := h3
  obtain ⟨b0, e0, _⟩ := DataW.trod_int Tryz.underlying3 ha
  obtain ⟨b1, e1, _⟩ := DataW.trod_int Tryz.underlying3 hb
  obtain ⟨b2, e2, _⟩ := DataW.trod_int Tryz.underlying5 hd
  obtain ⟨b3, e3, _⟩ := DataW.trod_int Tryz.underlying3 he
  cases e0
  cases e1
  cases e2
  cases e3
  exact ⟨⟨b0, b1, b2, b3⟩, k52_mk W _⟩
theorem opens_arena {r : Reach} {b0 : Nat} {v : Value} {d : DataW H} {p : List MemPlace} (hv : Value.okWide Tryz.prog W r b0 26 v) (h : DataW.Trod enc Tryz.prog W base sp held 26 v d p) :
  ∃ A c ids rc rn jb, v = .agg #[.slice A ids.length c, .bool rc, .int .i64 rn, .bool jb] ∧ ids.length ≤ c ∧ k68.C W A ids.length ids := by
 obtain ⟨cs, rfl, hsz⟩ := okWide_struct Tryz.underlying26 hv
 obtain ⟨fuel, hf⟩ := h
 obtain ⟨y0, y1, y2, n, _, hl, h0, h1, h2⟩ := Go.Deep.trod_struct3 Tryz.underlying26 hf
 rw [cellsA] at hl
 have e : (Value.agg cs).cells.toList = cs.toList := rfl
 rw [e] at hl h0 h1 h2
 obtain ⟨l⟩ := cs
 match l, hl with
 | [a, b, c, g], _ =>
  simp only [cells3, cells4, cells5, cells22, cells66, cellsB, List.drop_zero, List.drop_succ_cons, List.take_succ_cons, List.take_zero] at h0 h1 h2
  have ha : DataW.trod enc Tryz.prog W base sp held n 22 [a] = some y0 := h0
  have hb : DataW.trod enc Tryz.prog W base sp held n 24 [b, c] = some y1 := h1
  have hg : DataW.trod enc Tryz.prog W base sp held n 4 [g] = some y2 := h2
  obtain ⟨A, cp, xs, e0, hle, hC⟩ := opens_slice k68 Tryz.underlying22 cellsT (fun n c y hy => opens68 hy) ha
  obtain ⟨p, e1⟩ := opens24 hb
  obtain ⟨b0, e2, _⟩ := DataW.trod_bool Tryz.underlying4 hg
  cases e0
  cases e1
  cases e2
  exact ⟨A, cp, xs, p.f0, p.f1, b0, rfl, hle, hC⟩
theorem opens_word {r : Reach} {b0 : Nat} {v : Value} {d : DataW H} {p : List MemPlace} (hv : Value.okWide Tryz.prog W r b0 28 v) (h : DataW.Trod enc Tryz.prog W base sp held 28 v d p) :
  ∃ A c l, v = .slice A l.length c ∧ l.length ≤ c ∧ k52.C W A l.length l := by
 obtain ⟨a, n, c, rfl⟩ := okWide_slice Tryz.underlying28 hv
 obtain ⟨fuel, hf⟩ := h
 obtain ⟨A, cp, xs, e0, hle, hC⟩ := opens_slice k52 Tryz.underlying28 cellsM (fun n c y hy => opens52 hy) hf
 have e : (Value.slice a n c).cells.toList = [.slice a n c] := rfl
 rw [e] at e0
 cases e0
 exact ⟨_, _, xs, rfl, hle, hC⟩
end
end Go.Proofs.YtjgocihflhljeaaGreat.P
