/- What the claim's law needs, many texts in one (Uh Vd Ui Uj Uk Db Dc Dd P11 Vg Ve Ul Vf Um Un Vh Uo Di Vi Dj Dk Ra Rb). No conditions of its own. -/
import Derived.Test.YtjgocihflhljeaaGreatZg18
import Derived.Test.YtjgocihflhljeaaGreatZg20
import Derived.Test.YtjgocihflhljeaaGreatZg12
import Derived.Test.YtjgocihflhljeaaGreatZg9
import Derived.Test.YtjgocihflhljeaaGreatZg14
import Derived.Test.YtjgocihflhljeaaGreatZg10
import Derived.Test.YtjgocihflhljeaaGreatZg17
import Derived.Test.YtjgocihflhljeaaGreatZg2
import Derived.Deep.Slices
import Derived.Lib.SmallJoins
import Derived.OpenShut
import Derived.ChangeOld
import Derived.WideShapes
import Derived.ProofKit
set_option linter.unusedVariables false
set_option linter.unusedSimpArgs false
namespace Go.Proofs.YtjgocihflhljeaaGreat.P
open Go.RowKit Go.Shelf Go.Proofs.YtjgocihflhljeaaGreatW.PrintWords Go.Proofs.YtjgocihflhljeaaGreatW.PrintLast Go.Proofs.YtjgocihflhljeaaGreatW.PrintMore
attribute [local go_sem] Oper.semAt_some
structure Takes (t : Tk) (m : Mv) : Prop where
 i : 0 ≤ m.f0 ∧ 0 ≤ m.f1 ∧ (m.f0 = 0 → m.f1 = 0)
 k : askB m = !isAns m
 o : isAns m = true → t.opn ≠ []
 p : isAns m = false → 0 < m.f1 → t.opn ≠ []
theorem rTakeZ_any {base : Nat} {w : World} {g : Nat} {A : Option Addr} {c : Nat} {ids : List S68} {rc : Bool} {rn : Int} {jb : Bool} {t : Tk} {vw vo vp vj : Value} (h : Wlk base w g A c ids rc rn jb t vw vo vp vj) (hL : t.Legal ids rc rn jb) (m : Mv) (hm : Takes t m) (hw : t.word.length < 1048576) :
  Calls Tryz.prog 85 #[.pointer (some ⟨g, 0, none⟩), .agg #[.int .i64 m.f0, .int .i64 m.f1, .int .u8 m.f2, .int .i64 m.f3]] w fun e w' => e = .returned (.tuple #[]) ∧ SK base 86 w w' ∧ (∀ bz cs, Boxy w g bz → w.heap[bz]? = some (.cells cs 52 (0, 0)) → w'.heap[bz]? = some (.cells cs 52 (0, 0))) ∧ ∃ vw vo vp vj, Wlk base w' g A c ids rc rn jb (t.say m) vw vo vp vj := by
 have hk := hm.k
 cases ha : isAns m with
 | true =>
  rw [ha] at hk
  exact take_ans h m hw hk ha (hm.o ha) hL.fo.symm hL.dp
 | false =>
  rw [ha] at hk
  refine take_ask h m hw hk ha (hm.p ha) ?_
  have hi := hm.i
  unfold Tk.justOf isIdent isPar
  rw [ha]
  by_cases h1 : 0 < m.f1
  ·have h0 : 0 < m.f0 := by have := hi.2.2; omega
   have h2 : (m.f1 == 0) = false := by simp; omega
   simp [h1, h0, h2]
  have h2 : m.f1 = 0 := by omega
  by_cases h0 : 0 < m.f0
  ·simp [h1, h0, h2]
  simp [h1, h0, h2]
theorem rTake_any {base : Nat} {w : World} {g : Nat} {A : Option Addr} {c : Nat} {ids : List S68} {rc : Bool} {rn : Int} {jb : Bool} {t : Tk} {vw vo vp vj : Value} (h : Wlk base w g A c ids rc rn jb t vw vo vp vj) (hL : t.Legal ids rc rn jb) (m : Mv) (hm : Takes t m) (hw : t.word.length < 1048576) :
  Calls Tryz.prog 85 #[.pointer (some ⟨g, 0, none⟩), .agg #[.int .i64 m.f0, .int .i64 m.f1, .int .u8 m.f2, .int .i64 m.f3]] w fun e w' => e = .returned (.tuple #[]) ∧ SK base 86 w w' ∧ ∃ vw vo vp vj, Wlk base w' g A c ids rc rn jb (t.say m) vw vo vp vj := by
 refine (rTakeZ_any h hL m hm hw).mono ?_
 rintro e w' ⟨h1, h2, _, h3⟩
 exact ⟨h1, h2, h3⟩
theorem may_takes {ids : List S68} {rc : Bool} {rn : Int} {jb : Bool} {t : Tk} {m : Mv} (hm : hasR ids rc rn jb m = true) (hc : t.can jb m = true) : Takes t m := by
 have hk := hasR_ok hm
 refine ⟨hk.i, ?_, Tk.can_ans hc, ?_⟩
 ·have h1 := hk.k
  unfold askB isAns
  rcases h1 with h | h | h <;> rw [h] <;> rfl
 intro ha h1 hn
 unfold Tk.can Tk.top at hc
 rw [hn] at hc
 simp only [List.getLast?_nil] at hc
 unfold atB at hc
 simp only [Bool.and_eq_true, beq_iff_eq] at hc
 omega
set_option maxHeartbeats 2000000 in
theorem rRun_any (A : Option Addr) (c : Nat) (ids : List S68) (rc : Bool) (rn : Int) (jb : Bool) (A1 : Option Addr) (c1 : Nat) (l : List Mv) (w : World) (hr : Kd.C k68 w A ids.length ids) (hlc : ids.length ≤ c) (hr1 : Kd.C k52 w A1 l.length l) (hl : l.length ≤ 1000000) (hok : checkE ids rn = 0) :
  Calls Tryz.prog 97 #[.agg #[.slice A ids.length c, .bool rc, .int .i64 rn, .bool jb], .slice A1 l.length c1] w fun e w' => e = .returned (.tuple #[.pointer (some ⟨w.heap.size + 1, 0, none⟩), .int .i64 (talkL ids rc rn jb l).word.length]) ∧ Below w.heap.size w w' ∧ ∃ vw vo vp vj, Wlk w.heap.size w' (w.heap.size + 1) A c ids rc rn jb (talkL ids rc rn jb l) vw vo vp vj := by
 have HRI := Aside0.mk hr
 have HR1 := Aside0.mk hr1
 clear hr hr1
 go_enter Tryz.func97, Tryz.ntmps97
 go_wp2
 have hT0 : Wlk w.heap.size ((w.alloc (.cells #[.slice A ids.length c, .bool rc, .int .i64 rn, .bool jb] 26)).alloc (.cells #[.slice A ids.length c, .bool rc, .int .i64 rn, .bool jb, .slice none 0 0, .slice none 0 0, .slice none 0 0, .slice none 0 0, .bool false, .int .i64 0] 86)) (w.heap.size + 1) A c ids rc rn jb Tk.empty (.slice none 0 0) (.slice none 0 0) (.slice none 0 0) (.slice none 0 0) :=
  ⟨(two w _ _).2, ⟨Kd.R_nil _ _ _ _ _, Kd.R_nil _ _ _ _ _, Kd.R_nil _ _ _ _ _, Kd.R_nil _ _ _ _ _, Kd.R_nil _ _ _ _ _, Ap.none _, Ap.none _, Ap.none _⟩, by omega, Tk.Ok.empty⟩
 go_loopg [7] l.length (fun gg s7 wr => ∃ (kk : Nat) (t : Tk), kk ≤ l.length ∧ l.length - kk ≤ gg ∧ s7 = .int .i64 kk ∧ t.word.length = kk ∧ Aside0 (walkL ids rc rn jb Tk.empty l = walkL ids rc rn jb t (l.drop kk)) ∧ Aside0 (Below w.heap.size w wr) ∧ w.heap.size ≤ wr.heap.size ∧ Aside0 (t.Legal ids rc rn jb) ∧ Aside0 (∃ vw vo vp vj, Wlk w.heap.size wr (w.heap.size + 1) A c ids rc rn jb t vw vo vp vj))
 case atStart => exact ⟨0, Tk.empty, Nat.zero_le _, by omega, rfl, rfl, ⟨rfl⟩, ⟨((Below.refl _ w).alloc (Nat.le_refl _) _).alloc (by simp) _⟩, by simp; omega, ⟨Tk.Legal.empty ids rc rn jb⟩, ⟨_, _, _, _, hT0⟩⟩
 case round =>
  obtain ⟨kk, t, hkk, hg, rfl, hwl, HE, BW, hsw, HL, HT⟩ := hrel
  clear hT0
  by_cases hlt : kk < l.length
  ·have hltz : (kk : Int) < (l.length : Int) := by omega
   obtain ⟨ad, e0, a0, a1, a2, a3⟩ := at_T52 HR1.out (kk : Int) (by omega) hltz
   cases e0
   rw [Int.toNat_natCast] at a0 a1 a2 a3
   have cb : decide ((kk : Int) < (l.length : Int)) = true := decide_eq_true hltz
   replace a0 := (BW.out.cell (World.block_lt_of_cell? w _ a0)).trans a0
   replace a1 := (BW.out.cell (World.block_lt_of_cell? w _ a1)).trans a1
   replace a2 := (BW.out.cell (World.block_lt_of_cell? w _ a2)).trans a2
   replace a3 := (BW.out.cell (World.block_lt_of_cell? w _ a3)).trans a3
   have HQ : Aside0 (l.drop kk = rd_T52 l (kk : Int) :: l.drop (kk + 1)) := ⟨by rw [List.drop_eq_getElem_cons hlt, rd_T52, Int.toNat_natCast, ← getD_get l z52 kk hlt]⟩
   generalize rd_T52 l (kk : Int) = m at *
   obtain ⟨vw, vo, vp, vj, hT⟩ := HT.out
   have HCAN := Aside0.mk (rCan_any hT m (Kd.C_below HRI.out BW.out) hlc hok)
   have HT := Aside0.mk hT
   clear hT
   cases hm : (hasR ids rc rn jb m && canR t jb m) with
   | false =>
    rw [hm] at HCAN
    have HF := Aside0.mk (show t.may ids rc rn jb m = false by
     unfold Tk.may
     cases hh : hasR ids rc rn jb m with
     | false => simp
     | true => rw [hh, Bool.true_and, canR_eq HL.out hh] at hm; rw [hm]; simp)
    clear hm
    go_wp2_with (go_at_call 87; refine HCAN.out.mono ?_; rintro e w1 ⟨rfl, hb1⟩)
    go_ret2
    have e : walkL ids rc rn jb Tk.empty l = t := by rw [HE.out, HQ.out, walkL, if_neg (by rw [HF.out]; decide)]
    refine ⟨by rw [show (talkL ids rc rn jb l) = t from e, hwl]; rfl, BW.out.trans (hb1.mono hsw), vw, vo, vp, vj, ?_⟩
    rw [show (talkL ids rc rn jb l) = t from e]
    exact HT.out.below hb1
   | true =>
    rw [hm] at HCAN
    have hh : hasR ids rc rn jb m = true := by
     cases hh : hasR ids rc rn jb m with
     | false => rw [hh] at hm; cases hm
     | true => rfl
    have hcn : t.can jb m = true := by rw [hh, Bool.true_and, canR_eq HL.out hh] at hm; exact hm
    have HF := Aside0.mk (show t.may ids rc rn jb m = true by unfold Tk.may; rw [hok, hh, hcn]; rfl)
    have HTK := Aside0.mk (may_takes hh hcn)
    have HLS := Aside0.mk (HL.out.say m (may_takes hh hcn).i (fun _ => hh) (by omega))
    clear hm hh hcn
    go_wp2_with (first
     | (go_at_call 87; refine HCAN.out.mono ?_; rintro e w1 ⟨rfl, hb1⟩; have HT1 := Aside0.mk (HT.out.below hb1); have HB1 := Aside0.mk (BW.out.trans (hb1.mono hsw)); have hs1 := hb1.size; have c0 := pw_cell_below hb1 a0; have c1 := pw_cell_below hb1 a1; have c2 := pw_cell_below hb1 a2; have c3 := pw_cell_below hb1 a3)
     | (go_at_call 85; refine (rTake_any HT1.out HL.out m HTK.out (by omega)).mono ?_; rintro e w2 ⟨rfl, hk2, hT2⟩))
    go_roundg (l.length - (kk + 1))
    case measure => omega
    case rel => exact ⟨kk + 1, t.say m, by omega, by omega, by go_num, by simp [Tk.say]; omega, ⟨by rw [HE.out, HQ.out, walkL, if_pos HF.out]⟩, ⟨hk2.below HB1.out (by omega)⟩, by have := hk2.1.2.2.2; omega, HLS, ⟨hT2⟩⟩
  have cb : decide ((kk : Int) < (l.length : Int)) = false := decide_eq_false (by omega)
  have e : walkL ids rc rn jb Tk.empty l = t := by rw [HE.out, List.drop_eq_nil_of_le (by omega), walkL]
  have EE := Aside0.mk e
  have HKL := Aside0.mk (show (t.word.length : Int) = (l.length : Int) by omega)
  clear e
  go_wp2
  go_ret2
  refine ⟨by rw [show (talkL ids rc rn jb l) = t from EE.out, HKL.out]; rfl, BW.out, ?_⟩
  rw [show (talkL ids rc rn jb l) = t from EE.out]
  exact HT.out
end Go.Proofs.YtjgocihflhljeaaGreat.P
namespace Go.Proofs.YtjgocihflhljeaaGreat.P
open Go.RowKit Go.Shelf Go.Proofs.YtjgocihflhljeaaGreatW.PrintWords Go.Proofs.YtjgocihflhljeaaGreatW.PrintLast Go.Proofs.YtjgocihflhljeaaGreatW.PrintMore
theorem isBase_f (b : Bool) (n : Int) : riposteref04_IsBase.f b n = some (isBaseB n) := by
 rw [riposteref04_IsBase.f, inF_eq, Option.bind_some]
 rfl
theorem isType_l0 (ps : List S24) (b : Bool) (n : Int) (hp : ps.length ≤ 5) : ∀ (d i k : Nat), ps.length - i = d → i ≤ ps.length → d < k → riposteref04_IsType.l0 k (i : Int) ps b n = some ((ps.drop i).all (fun x => isBaseB x.f1) && (isBaseB n && (decide (ps.length = 0) || !b))) := by
 intro d
 induction d with
 | zero =>
  intro i k hd hi hk
  obtain ⟨k, rfl⟩ : ∃ k', k = k' + 1 := ⟨k - 1, by omega⟩
  rw [riposteref04_IsType.l0, if_neg (by omega), isBase_f, Option.bind_some, List.drop_eq_nil_of_le (by omega)]
  simp only [List.all_nil, Bool.true_and]
  cases isBaseB n with
  | false => simp
  | true =>
   by_cases h : ps.length = 0
   ·simp [h]
   have : ¬ ((ps.length : Int) = 0) := by omega
   simp only [if_true, if_neg this, decide_eq_false h, Bool.false_or, Bool.true_and]
 | succ d ih =>
  intro i k hd hi hk
  obtain ⟨k, rfl⟩ : ∃ k', k = k' + 1 := ⟨k - 1, by omega⟩
  have hlt : i < ps.length := by omega
  have hr : rd_T24 ps (i : Int) = ps[i] := by
   unfold rd_T24
   rw [Int.toNat_natCast]
   exact getD_get ps z24 i hlt
  have hw : wrap64 ((i : Int) + 1) = ((i + 1 : Nat) : Int) := by
   rw [wrap_in (by omega) (by omega)]
   simp
  rw [riposteref04_IsType.l0, if_pos (by omega), if_pos (by omega), hr, isBase_f, Option.bind_some, hw, List.drop_eq_getElem_cons hlt, List.all_cons]
  cases hb : isBaseB ps[i].f1 with
  | false => simp
  | true => rw [if_pos rfl, Bool.true_and, ih (i + 1) k (by omega) (by omega) (by omega)]
theorem isType_f (k : Nat) (hk : 6 ≤ k) (x : S68) (hp : x.f0.length ≤ 5) : riposteref04_IsType.f k x.f0 x.f1.f0 x.f1.f1 = some (isTypeB x) := by
 have := isType_l0 x.f0 x.f1.f0 x.f1.f1 hp x.f0.length 0 k rfl (Nat.zero_le _) (by omega)
 rw [riposteref04_IsType.f]
 rw [show ((0 : Nat) : Int) = 0 from rfl] at this
 rw [this, List.drop_zero]
 congr 1
 unfold isTypeB
 have e : (!x.f0.any fun b => !isBaseB b.f1) = x.f0.all (fun b => isBaseB b.f1) := by
  rw [Bool.eq_iff_iff]
  simp
 rw [e, ← Bool.and_assoc, Bool.and_comm (x.f0.all _)]
theorem check_l1 (ids : List S68) (rc : Bool) (rn : Int) (j : Bool) (hl : ids.length ≤ 8) (hp : ∀ x ∈ ids, x.f0.length ≤ 5) : ∀ (d i k : Nat), ids.length - i = d → i ≤ ids.length → d + 6 < k → riposteref04_Check.l1 k (i : Int) ids rc rn j = some (if isBaseB rn = false ∨ ((ids.drop i).any fun x => !isTypeB x) = true then 4 else 0) := by
 intro d
 induction d with
 | zero =>
  intro i k hd hi hk
  obtain ⟨k, rfl⟩ : ∃ k', k = k' + 1 := ⟨k - 1, by omega⟩
  rw [riposteref04_Check.l1, if_neg (by omega), isBase_f, Option.bind_some, List.drop_eq_nil_of_le (by omega)]
  cases isBaseB rn <;> simp
 | succ d ih =>
  intro i k hd hi hk
  obtain ⟨k, rfl⟩ : ∃ k', k = k' + 1 := ⟨k - 1, by omega⟩
  have hlt : i < ids.length := by omega
  have hr : rd_T68 ids (i : Int) = ids[i] := by
   unfold rd_T68
   rw [Int.toNat_natCast]
   exact getD_get ids z68 i hlt
  have hw : wrap64 ((i : Int) + 1) = ((i + 1 : Nat) : Int) := by
   rw [wrap_in (by omega) (by omega)]
   simp
  rw [riposteref04_Check.l1, if_pos (by omega), if_pos (by omega), hr, isType_f k (by omega) ids[i] (hp _ (List.getElem_mem _)), Option.bind_some, hw, List.drop_eq_getElem_cons hlt, List.any_cons]
  cases hb : isTypeB ids[i] with
  | false => simp
  | true => rw [if_pos rfl, ih (i + 1) k (by omega) (by omega) (by omega)]; simp
theorem check_l0 (ids : List S68) (rc : Bool) (rn : Int) (j : Bool) (hl : ids.length ≤ 8) : ∀ (d i k : Nat), ids.length - i = d → i ≤ ids.length → d + 20 < k → (∀ m, m < i → ∀ h : m < ids.length, longB ids[m] = false) → riposteref04_Check.l0 k (i : Int) ids rc rn j = some (checkE ids rn) := by
 intro d
 induction d with
 | zero =>
  intro i k hd hi hk hn
  obtain ⟨k, rfl⟩ : ∃ k', k = k' + 1 := ⟨k - 1, by omega⟩
  have ha : ids.any longB = false := by
   rw [List.any_eq_false]
   intro x hx
   obtain ⟨m, hm, rfl⟩ := List.getElem_of_mem hx
   simp [hn m (by omega) hm]
  have hp : ∀ x ∈ ids, x.f0.length ≤ 5 := by
   intro x hx
   have := List.any_eq_false.1 ha x hx
   unfold longB at this
   simpa using this
  have h1 := check_l1 ids rc rn j hl hp ids.length 0 k rfl (Nat.zero_le _) (by omega)
  rw [show ((0 : Nat) : Int) = 0 from rfl, List.drop_zero] at h1
  rw [riposteref04_Check.l0, if_neg (by omega), h1]
  unfold checkE
  rw [if_neg (show ¬ (8 < ids.length ∨ ids.any longB = true) by rw [ha]; simp; omega)]
 | succ d ih =>
  intro i k hd hi hk hn
  obtain ⟨k, rfl⟩ : ∃ k', k = k' + 1 := ⟨k - 1, by omega⟩
  have hlt : i < ids.length := by omega
  have hr : rd_T68 ids (i : Int) = ids[i] := by
   unfold rd_T68
   rw [Int.toNat_natCast]
   exact getD_get ids z68 i hlt
  have hw : wrap64 ((i : Int) + 1) = ((i + 1 : Nat) : Int) := by
   rw [wrap_in (by omega) (by omega)]
   simp
  rw [riposteref04_Check.l0, if_pos (by omega), if_pos (by omega), hr, hw]
  by_cases h5 : ((ids[i].f0.length : Nat) : Int) > 5
  ·rw [if_pos h5]
   unfold checkE
   rw [if_pos (.inr (List.any_eq_true.2 ⟨ids[i], List.getElem_mem _, by unfold longB; simp; omega⟩))]
  rw [if_neg h5]
  refine ih (i + 1) k (by omega) (by omega) (by omega) (fun m hm h => ?_)
  by_cases e : m = i
  ·subst e
   unfold longB
   simp
   omega
  exact hn m (by omega) h
theorem check_f (k : Nat) (hk : 60 ≤ k) (ids : List S68) (rc : Bool) (rn : Int) (j : Bool) : riposteref04_Check.f k ids rc rn j = some (checkE ids rn) := by
 rw [riposteref04_Check.f]
 by_cases h : (ids.length : Int) > 8
 ·rw [if_pos h]
  unfold checkE
  rw [if_pos (.inl (by omega))]
 rw [if_neg h]
 have := check_l0 ids rc rn j (by omega) ids.length 0 k rfl (Nat.zero_le _) (by omega) (fun m hm => absurd hm (Nat.not_lt_zero _))
 rw [show ((0 : Nat) : Int) = 0 from rfl] at this
 exact this
end Go.Proofs.YtjgocihflhljeaaGreat.P
namespace Go.Proofs.YtjgocihflhljeaaGreat.P
open Go.RowKit Go.Shelf Go.Proofs.YtjgocihflhljeaaGreatW.PrintWords Go.Proofs.YtjgocihflhljeaaGreatW.PrintLast Go.Proofs.YtjgocihflhljeaaGreatW.PrintMore
attribute [local go_sem] Oper.semAt_some
theorem rArena_any (A : Option Addr) (c : Nat) (ids : List S68) (rc : Bool) (rn : Int) (jb : Bool) (w : World) (hr : Kd.C k68 w A ids.length ids) (hlc : ids.length ≤ c) :
  Calls Tryz.prog 96 #[.agg #[.slice A ids.length c, .bool rc, .int .i64 rn, .bool jb]] w fun e w' => e = .returned (.int .i64 (checkE ids rn)) ∧ Below w.heap.size w w' :=
 riposteref04_Check.calls 60 A c ids rc rn jb _ w hr hlc (check_f 60 (Nat.le_refl _) ids rc rn jb)
def BeginPost (A : Option Addr) (c : Nat) (ids : List S68) (rc : Bool) (rn : Int) (jb : Bool) (l : List Mv) (w : World) (e : Ending) (w' : World) : Prop :=
 Below w.heap.size w w' ∧ ((tellE ids rc rn jb l ≠ 0 ∧ e = .returned (.tuple #[.pointer none, .int .i64 (tellAt ids rc rn jb l), .int .i64 (tellE ids rc rn jb l)])) ∨
  (tellE ids rc rn jb l = 0 ∧ ∃ g, e = .returned (.tuple #[.pointer (some ⟨g, 0, none⟩), .int .i64 0, .int .i64 0]) ∧ ∃ vw vo vp vj, Wlk w.heap.size w' g A c ids rc rn jb (talkL ids rc rn jb l) vw vo vp vj))
set_option maxHeartbeats 2000000 in
theorem rBegin_any (A : Option Addr) (c : Nat) (ids : List S68) (rc : Bool) (rn : Int) (jb : Bool) (A1 : Option Addr) (c1 : Nat) (l : List Mv) (w : World) (hr : Kd.C k68 w A ids.length ids) (hlc : ids.length ≤ c) (hr1 : Kd.C k52 w A1 l.length l) (hl : l.length ≤ 1000000) : Calls Tryz.prog 60 #[.agg #[.slice A ids.length c, .bool rc, .int .i64 rn, .bool jb], .slice A1 l.length c1] w (BeginPost A c ids rc rn jb l w) := by
 have HB := Aside0.mk ((Below.refl _ w).alloc (Nat.le_refl _) (.cells #[.slice A ids.length c, .bool rc, .int .i64 rn, .bool jb] 26))
 have HC := Aside0.mk (fun (V : World) (hb : Below w.heap.size w V) => rArena_any A c ids rc rn jb V (Kd.C_below hr hb) hlc)
 have HKA := Aside0.mk (heap_alloc_new w (.cells #[.slice A ids.length c, .bool rc, .int .i64 rn, .bool jb] 26))
 by_cases h1 : checkE ids rn ≠ 0
 ·have HE := Aside0.mk (tellE_err (rc := rc) (jb := jb) (l := l) h1)
  have HA := Aside0.mk (show tellAt ids rc rn jb l = 0 by rw [tellAt, HE.out, if_neg (by have := checkE_or ids rn; omega)])
  have hb : (checkE ids rn != 0) = true := by simpa using h1
  clear hr hr1
  go_enter Tryz.func60, Tryz.ntmps60
  go_wp2_with (go_at_call 96; refine (HC.out _ HB.out).mono ?_; rintro e w1 ⟨rfl, hb1⟩; have HB1 := Aside0.mk (HB.out.trans (hb1.mono (by simp))); have hs1 : w.heap.size + 1 ≤ w1.heap.size := (by have := hb1.size; simpa using this); have HK1 := Aside0.mk ((hb1.block _ (by simp)).trans HKA.out); have k0 : w1.cell? ⟨w.heap.size, 0, none⟩ = some (.slice A ids.length c) := (blk_cell HK1.out 0).trans rfl; have k1 : w1.cell? ⟨w.heap.size, 1, none⟩ = some (.bool rc) := (blk_cell HK1.out 1).trans rfl; have k2 : w1.cell? ⟨w.heap.size, 2, none⟩ = some (.int .i64 rn) := (blk_cell HK1.out 2).trans rfl; have k3 : w1.cell? ⟨w.heap.size, 3, none⟩ = some (.bool jb) := (blk_cell HK1.out 3).trans rfl)
  go_ret3
  exact ⟨HB1.out, Or.inl ⟨by rw [HE.out]; exact h1, by rw [HE.out, HA.out]; rfl⟩⟩
 have h1' : checkE ids rn = 0 := by omega
 by_cases h2 : 400 < l.length
 ·have HE := Aside0.mk (tellE_long (rc := rc) (jb := jb) (l := l) h1' h2)
  have HA := Aside0.mk (show tellAt ids rc rn jb l = 0 by rw [tellAt, HE.out, if_neg (by omega)])
  have hz : (400 : Int) < (l.length : Int) := by omega
  clear hr hr1
  go_enter Tryz.func60, Tryz.ntmps60
  go_wp2_with (go_at_call 96; refine (HC.out _ HB.out).mono ?_; rw [h1']; rintro e w1 ⟨rfl, hb1⟩; have HB1 := Aside0.mk (HB.out.trans (hb1.mono (by simp))); have hs1 : w.heap.size + 1 ≤ w1.heap.size := (by have := hb1.size; simpa using this); have HK1 := Aside0.mk ((hb1.block _ (by simp)).trans HKA.out); have k0 : w1.cell? ⟨w.heap.size, 0, none⟩ = some (.slice A ids.length c) := (blk_cell HK1.out 0).trans rfl; have k1 : w1.cell? ⟨w.heap.size, 1, none⟩ = some (.bool rc) := (blk_cell HK1.out 1).trans rfl; have k2 : w1.cell? ⟨w.heap.size, 2, none⟩ = some (.int .i64 rn) := (blk_cell HK1.out 2).trans rfl; have k3 : w1.cell? ⟨w.heap.size, 3, none⟩ = some (.bool jb) := (blk_cell HK1.out 3).trans rfl)
  go_ret3
  exact ⟨HB1.out, Or.inl ⟨by rw [HE.out]; decide, by rw [HE.out, HA.out]; rfl⟩⟩
 have h2' : l.length ≤ 400 := by omega
 have hz2 : decide ((400 : Int) < (l.length : Int)) = false := decide_eq_false (by omega)
 have HR := Aside0.mk (fun (V : World) (hb : Below w.heap.size w V) => rRun_any A c ids rc rn jb A1 c1 l V (Kd.C_below hr hb) hlc (Kd.C_below hr1 hb) hl h1')
 clear hr hr1
 by_cases h3 : (talkL ids rc rn jb l).word.length < l.length
 ·have HE := Aside0.mk (tellE_odd h1' h2' h3)
  have HA := Aside0.mk (show tellAt ids rc rn jb l = (talkL ids rc rn jb l).word.length by rw [tellAt, HE.out, if_pos rfl])
  have hzb : decide (((talkL ids rc rn jb l).word.length : Int) < (l.length : Int)) = true := decide_eq_true (by omega)
  go_enter Tryz.func60, Tryz.ntmps60
  go_wp2_with (first
   | (go_at_call 96; refine (HC.out _ HB.out).mono ?_; rw [h1']; rintro e w1 ⟨rfl, hb1⟩; have HB1 := Aside0.mk (HB.out.trans (hb1.mono (by simp))); have hs1 : w.heap.size + 1 ≤ w1.heap.size := (by have := hb1.size; simpa using this); have HK1 := Aside0.mk ((hb1.block _ (by simp)).trans HKA.out); have k0 : w1.cell? ⟨w.heap.size, 0, none⟩ = some (.slice A ids.length c) := (blk_cell HK1.out 0).trans rfl; have k1 : w1.cell? ⟨w.heap.size, 1, none⟩ = some (.bool rc) := (blk_cell HK1.out 1).trans rfl; have k2 : w1.cell? ⟨w.heap.size, 2, none⟩ = some (.int .i64 rn) := (blk_cell HK1.out 2).trans rfl; have k3 : w1.cell? ⟨w.heap.size, 3, none⟩ = some (.bool jb) := (blk_cell HK1.out 3).trans rfl)
   | (go_at_call 97; refine (HR.out _ HB1.out).mono ?_; rintro e w2 ⟨rfl, hb2, vw, vo, vp, vj, hT⟩))
  go_ret3
  exact ⟨HB1.out.trans (hb2.mono (by omega)), Or.inl ⟨by rw [HE.out]; decide, by rw [HE.out, HA.out]; rfl⟩⟩
 have HE := Aside0.mk (tellE_ok h1' h2' h3)
 have hzb : decide (((talkL ids rc rn jb l).word.length : Int) < (l.length : Int)) = false := decide_eq_false (by omega)
 go_enter Tryz.func60, Tryz.ntmps60
 go_wp2_with (first
  | (go_at_call 96; refine (HC.out _ HB.out).mono ?_; rw [h1']; rintro e w1 ⟨rfl, hb1⟩; have HB1 := Aside0.mk (HB.out.trans (hb1.mono (by simp))); have hs1 : w.heap.size + 1 ≤ w1.heap.size := (by have := hb1.size; simpa using this); have HK1 := Aside0.mk ((hb1.block _ (by simp)).trans HKA.out); have k0 : w1.cell? ⟨w.heap.size, 0, none⟩ = some (.slice A ids.length c) := (blk_cell HK1.out 0).trans rfl; have k1 : w1.cell? ⟨w.heap.size, 1, none⟩ = some (.bool rc) := (blk_cell HK1.out 1).trans rfl; have k2 : w1.cell? ⟨w.heap.size, 2, none⟩ = some (.int .i64 rn) := (blk_cell HK1.out 2).trans rfl; have k3 : w1.cell? ⟨w.heap.size, 3, none⟩ = some (.bool jb) := (blk_cell HK1.out 3).trans rfl)
  | (go_at_call 97; refine (HR.out _ HB1.out).mono ?_; rintro e w2 ⟨rfl, hb2, vw, vo, vp, vj, hT⟩))
 go_ret3
 exact ⟨HB1.out.trans (hb2.mono (by omega)), Or.inr ⟨HE.out, _, rfl, _, _, _, _, hT.lower (by omega)⟩⟩
end Go.Proofs.YtjgocihflhljeaaGreat.P
namespace Go.Proofs.YtjgocihflhljeaaGreat.P
open Go.RowKit Go.Shelf Go.Proofs.YtjgocihflhljeaaGreatW.PrintWords Go.Proofs.YtjgocihflhljeaaGreatW.PrintLast Go.Proofs.YtjgocihflhljeaaGreatW.PrintMore
attribute [local go_sem] Oper.semAt_some
theorem tellAt_ok {ids : List S68} {rc : Bool} {rn : Int} {jb : Bool} {l : List Mv} (h : tellE ids rc rn jb l = 0) : tellAt ids rc rn jb l = 0 := by rw [tellAt, if_neg (by omega)]
section
variable {A : Option Addr} {c : Nat} {ids : List S68} {rc : Bool} {rn : Int} {jb : Bool} {l : List Mv} {w : World} {e : Ending} {w' : World}
theorem BeginPost.both (h : BeginPost A c ids rc rn jb l w e w') : ∃ p, e = .returned (.tuple #[.pointer p, .int .i64 (tellAt ids rc rn jb l), .int .i64 (tellE ids rc rn jb l)]) ∧ Below w.heap.size w w' := by
 obtain ⟨hb, ⟨h0, rfl⟩ | ⟨h0, g, rfl, _⟩⟩ := h
 ·exact ⟨_, rfl, hb⟩
 exact ⟨some ⟨g, 0, none⟩, by rw [tellAt_ok h0, h0], hb⟩
end
theorem rCheck_any (A : Option Addr) (c : Nat) (ids : List S68) (rc : Bool) (rn : Int) (jb : Bool) (A1 : Option Addr) (c1 : Nat) (l : List Mv) (w : World) (hr : Kd.C k68 w A ids.length ids) (hlc : ids.length ≤ c) (hr1 : Kd.C k52 w A1 l.length l) (hl : l.length ≤ 1000000) : Calls Tryz.prog 20 #[.agg #[.slice A ids.length c, .bool rc, .int .i64 rn, .bool jb], .slice A1 l.length c1] w fun e w' => e = .returned (.tuple #[.int .i64 (tellAt ids rc rn jb l), .int .i64 (tellE ids rc rn jb l)]) ∧ Below w.heap.size w w' := by
 have HB := Aside0.mk ((Below.refl _ w).alloc (Nat.le_refl _) (.cells #[.slice A ids.length c, .bool rc, .int .i64 rn, .bool jb] 26))
 have HO := Aside0.mk (fun (V : World) (hb : Below w.heap.size w V) => rBegin_any A c ids rc rn jb A1 c1 l V (Kd.C_below hr hb) hlc (Kd.C_below hr1 hb) hl)
 clear hr hr1
 go_enter Tryz.func20, Tryz.ntmps20
 go_wp2_with (go_at_call 60; refine (HO.out _ HB.out).mono ?_; rintro e w1 hp; obtain ⟨p, rfl, hb1⟩ := hp.both)
 go_ret2
 exact ⟨rfl, HB.out.trans (hb1.mono (by simp))⟩
end Go.Proofs.YtjgocihflhljeaaGreat.P
namespace Go.Proofs.YtjgocihflhljeaaGreat.P
open Go.RowKit Go.Shelf Go.Proofs.YtjgocihflhljeaaGreatW.PrintWords Go.Proofs.YtjgocihflhljeaaGreatW.PrintLast Go.Proofs.YtjgocihflhljeaaGreatW.PrintMore
attribute [local go_sem] Oper.semAt_some
end Go.Proofs.YtjgocihflhljeaaGreat.P
namespace Go.Proofs.YtjgocihflhljeaaGreat.P
open Go.RowKit Go.Shelf Go.Proofs.YtjgocihflhljeaaGreatW.PrintWords Go.Proofs.YtjgocihflhljeaaGreatW.PrintLast Go.Proofs.YtjgocihflhljeaaGreatW.PrintMore
attribute [local go_sem] Oper.semAt_some
structure Lw (w W : World) (I : List (Option Addr × List S68)) (Y : List (Option Addr × List Mv)) (X : List (Option Addr × List Int)) (G : List (Nat × Array Value × TypeId)) : Prop where
 b : Below w.heap.size w W
 i : ∀ p ∈ I, Kd.C k68 W p.1 p.2.length p.2
 y : ∀ p ∈ Y, Kd.C k52 W p.1 p.2.length p.2
 x : ∀ p ∈ X, Kd.C (Kd.int .i64) W p.1 p.2.length p.2
 g : ∀ p ∈ G, W.heap[p.1]? = some (.cells p.2.1 p.2.2 (0, 0))
section
variable {w W W' : World} {I : List (Option Addr × List S68)} {Y : List (Option Addr × List Mv)} {X : List (Option Addr × List Int)} {G : List (Nat × Array Value × TypeId)}
theorem Lw.below (h : Lw w W I Y X G) (hb : Below W.heap.size W W') : Lw w W' I Y X G :=
 ⟨h.b.trans (hb.mono h.b.size), fun p hp => Kd.C_below (h.i p hp) hb, fun p hp => Kd.C_below (h.y p hp) hb, fun p hp => Kd.C_below (h.x p hp) hb, fun p hp => (hb.block _ (blk_lt (h.g p hp))).trans (h.g p hp)⟩
theorem Lw.addi (h : Lw w W I Y X G) {B : Option Addr} {xs : List S68} (hx : Kd.C k68 W B xs.length xs) : Lw w W ((B, xs) :: I) Y X G :=
 ⟨h.b, fun p hp => by rcases List.mem_cons.1 hp with rfl | hp <;> first | exact hx | exact h.i p hp, h.y, h.x, h.g⟩
theorem Lw.addy (h : Lw w W I Y X G) {B : Option Addr} {xs : List Mv} (hx : Kd.C k52 W B xs.length xs) : Lw w W I ((B, xs) :: Y) X G :=
 ⟨h.b, h.i, fun p hp => by rcases List.mem_cons.1 hp with rfl | hp <;> first | exact hx | exact h.y p hp, h.x, h.g⟩
theorem Lw.addg (h : Lw w W I Y X G) {b : Nat} {cs : Array Value} {t : TypeId} (hx : W.heap[b]? = some (.cells cs t (0, 0))) : Lw w W I Y X ((b, cs, t) :: G) :=
 ⟨h.b, h.i, h.y, h.x, fun p hp => by rcases List.mem_cons.1 hp with rfl | hp <;> first | exact hx | exact h.g p hp⟩
theorem Lw.new (h : Lw w W I Y X G) (cs : Array Value) (t : TypeId) : Lw w (W.alloc (.cells cs t)) I Y X ((W.heap.size, cs, t) :: G) :=
 (h.below ((Below.refl _ W).alloc (Nat.le_refl _) _)).addg (heap_alloc_new W _)
theorem Lw.cell (h : Lw w W I Y X G) {b : Nat} {cs : Array Value} {t : TypeId} (hg : (b, cs, t) ∈ G) (i : Nat) {v : Value} (hv : cs[i]? = some v) : W.cell? ⟨b, i, none⟩ = some v := (blk_cell (h.g _ hg) i).trans hv
theorem Lw.awake (h : Lw w W I Y X G) : Calls Tryz.prog 15 #[] W fun e w' => e = .returned (.bool true) ∧ Lw w w' I Y X G :=
 (awake_any W).mono (by rintro e w' ⟨rfl, hb⟩; exact ⟨rfl, h.below hb⟩)
theorem Lw.copyA (h : Lw w W I Y X G) {A : Option Addr} {c : Nat} {ids : List S68} (rc : Bool) (rn : Int) (jb : Bool) (hi : (A, ids) ∈ I) (hc : ids.length ≤ c) (ht : ids.length ≤ 12 ∧ ∀ x ∈ ids, x.f0.length ≤ 8) :
  Calls Tryz.prog 16 #[.agg #[.slice A ids.length c, .bool rc, .int .i64 rn, .bool jb]] W fun e w' => ∃ B k, e = .returned (.agg #[.slice B ids.length k, .bool rc, .int .i64 rn, .bool jb]) ∧ ids.length ≤ k ∧ Lw w w' ((B, ids) :: I) Y X G :=
 (riposteref04_Copy.calls 20 A c ids rc rn jb _ _ _ _ W (h.i _ hi) hc (copy_f ids rc rn jb ht.1 ht.2)).mono (by
  rintro e w' ⟨v, rfl, hR, hb⟩
  obtain ⟨B, k, rfl, hk, hC⟩ := Kd.S_reads hR
  exact ⟨B, k, rfl, hk, (h.below hb).addi hC⟩)
theorem Lw.copyW (h : Lw w W I Y X G) {A1 : Option Addr} {c1 : Nat} {l : List Mv} (hy : (A1, l) ∈ Y) (hc1 : l.length ≤ c1) (hl : l.length ≤ 1000000) :
  Calls Tryz.prog 17 #[.slice A1 l.length c1] W fun e w' => ∃ B k, e = .returned (.slice B l.length k) ∧ l.length ≤ k ∧ Lw w w' I ((B, l) :: Y) X G :=
 (riposteref05_Copy.calls A1 c1 l l W (h.y _ hy) hc1 (copyW_f l hl)).mono (by
  rintro e w' ⟨v, rfl, hR, hb⟩
  obtain ⟨B, k, rfl, hk, hC⟩ := Kd.R_reads hR
  exact ⟨B, k, rfl, hk, (h.below hb).addy hC⟩)
end
section
variable {w W W' : World} {I : List (Option Addr × List S68)} {Y : List (Option Addr × List Mv)} {X : List (Option Addr × List Int)} {G : List (Nat × Array Value × TypeId)}
variable (h : Lw w W I Y X G) {A A1 : Option Addr} {c c1 : Nat} {ids : List S68} {l : List Mv} (rc : Bool) (rn : Int) (jb : Bool) (hi : (A, ids) ∈ I) (hy : (A1, l) ∈ Y) (hl : l.length ≤ 1000000)
include h hi hy hl
theorem Lw.check : Calls Tryz.prog 18 #[.agg #[.slice A ids.length c, .bool rc, .int .i64 rn, .bool jb], .slice A1 l.length c1] W fun e w' => e = .returned (.tuple #[.int .i64 (tellAt ids rc rn jb l), .int .i64 (tellE ids rc rn jb l)]) ∧ Lw w w' I Y X G :=
 (pCheck_any A c ids rc rn jb A1 c1 l W (h.i _ hi) (h.y _ hy) hl).mono (by rintro e w' ⟨rfl, hb⟩; exact ⟨rfl, h.below hb⟩)
theorem Lw.rcheck (hc : ids.length ≤ c) : Calls Tryz.prog 20 #[.agg #[.slice A ids.length c, .bool rc, .int .i64 rn, .bool jb], .slice A1 l.length c1] W fun e w' => e = .returned (.tuple #[.int .i64 (tellAt ids rc rn jb l), .int .i64 (tellE ids rc rn jb l)]) ∧ Lw w w' I Y X G :=
 (rCheck_any A c ids rc rn jb A1 c1 l W (h.i _ hi) hc (h.y _ hy) hl).mono (by rintro e w' ⟨rfl, hb⟩; exact ⟨rfl, h.below hb⟩)
end
end Go.Proofs.YtjgocihflhljeaaGreat.P
namespace Go.Proofs.YtjgocihflhljeaaGreat.P
open Go.RowKit Go.Shelf Go.Proofs.YtjgocihflhljeaaGreatW.PrintWords Go.Proofs.YtjgocihflhljeaaGreatW.PrintLast Go.Proofs.YtjgocihflhljeaaGreatW.PrintMore
attribute [local go_sem] Oper.semAt_some
theorem Lw.start {w : World} {A A1 : Option Addr} {ids : List S68} {l : List Mv} (hr : Kd.C k68 w A ids.length ids) (hr1 : Kd.C k52 w A1 l.length l) : Lw w w [(A, ids)] [(A1, l)] [] [] := by
 refine ⟨Below.refl _ _, ?_, ?_, ?_, ?_⟩ <;> intro p hp
 ·rw [List.mem_singleton] at hp
  subst hp
  exact hr
 ·rw [List.mem_singleton] at hp
  subst hp
  exact hr1
 ·cases hp
 cases hp
end Go.Proofs.YtjgocihflhljeaaGreat.P
namespace Go.Proofs.YtjgocihflhljeaaGreat.P
open Go.RowKit Go.Shelf Go.Proofs.YtjgocihflhljeaaGreatW.PrintWords Go.Proofs.YtjgocihflhljeaaGreatW.PrintLast Go.Proofs.YtjgocihflhljeaaGreatW.PrintMore
section
variable {w W W' : World} {I : List (Option Addr × List S68)} {Y : List (Option Addr × List Mv)} {X : List (Option Addr × List Int)} {G : List (Nat × Array Value × TypeId)}
theorem Lw.popi {p : Option Addr × List S68} (h : Lw w W (p :: I) Y X G) : Lw w W I Y X G := ⟨h.b, fun q hq => h.i q (List.mem_cons_of_mem _ hq), h.y, h.x, h.g⟩
variable (h : Lw w W I Y X G) {A A1 : Option Addr} {c c1 : Nat} {ids : List S68} {l : List Mv} (rc : Bool) (rn : Int) (jb : Bool) (hi : (A, ids) ∈ I) (hy : (A1, l) ∈ Y) (hl : l.length ≤ 1000000)
include h hi hy hl
end
end Go.Proofs.YtjgocihflhljeaaGreat.P
namespace Go.Proofs.YtjgocihflhljeaaGreat.P
open Go.RowKit Go.Proofs.YtjgocihflhljeaaGreatW.PrintWords Go.Proofs.YtjgocihflhljeaaGreatW.PrintLast Go.Proofs.YtjgocihflhljeaaGreatW.PrintMore
attribute [local go_sem] max2_int max_two
mutual
def riposteref04_All.l0 : Nat → List (S52) → Int → List (S68) → Bool → Int → Bool → Option ((List (S52)))
 | 0, _, _, _, _, _, _ => none
 | k + 1, x3, x4, x369000, x369001, x369002, x369003 => if x4 ≤ (x369000.length : Int) then (riposteref04_All.l1 k x3 x4 0 x369000 x369001 x369002 x369003) else (some x3)
def riposteref04_All.l1 : Nat → List (S52) → Int → Int → List (S68) → Bool → Int → Bool → Option ((List (S52)))
 | 0, _, _, _, _, _, _, _ => none
 | k + 1, x3, x4, x5, x369000, x369001, x369002, x369003 => if x5 ≤ 5 then ((riposteref04_Questions.f k x369000 x369001 x369002 x369003 x4 x5).bind fun t369 => (if x3.length + t369.length < 4398046511104 then ((some (x3 ++ t369 : List (S52))).bind fun y372 => ((riposteref04_Told.f k x369000 x369001 x369002 x369003 x4 x5 1).bind fun t375 => (if y372.length + t375.length < 4398046511104 then (riposteref04_All.l1 k (y372 ++ t375) x4 (wrap64 (x5 + 1)) x369000 x369001 x369002 x369003) else (none)))) else (none))) else (riposteref04_All.l0 k x3 (wrap64 (x4 + 1)) x369000 x369001 x369002 x369003)
end
def riposteref04_All.f (k : Nat) (l0_0 : List (S68)) (a0_1 : Bool) (a0_2 : Int) (a0_3 : Bool) : Option ((List (S52))) := riposteref04_All.l0 k ([] : List (S52)) 0 l0_0 a0_1 a0_2 a0_3
def riposteref04_All.T8 : Bool × List (List Nat × List Nat) := (true, [([], []), ([], []), ([], []), ([], []), ([1, 2, 3], [1, 2, 3]), ([0, 4, 4], [0, 4]), ([], []), ([], []), ([], []), ([6, 7, 8, 5], [6, 7, 8]), ([5, 9, 9], [5, 9]), ([10, 10, 0, 1, 2, 3, 4, 5, 6, 7, 8, 9, 10], [0, 10])])
def riposteref04_All.B8 : List Nat := [0, 0, 0, 0, 14, 31, 0, 0, 0, 511, 1023, 2047]
theorem riposteref04_All.tab8 : rtab .any (opsOf Tryz.f31 8) = riposteref04_All.T8 := by kernel_rfl
theorem riposteref04_All.bits8 : waitsOk riposteref04_All.T8.2 riposteref04_All.B8 = true := by kernel_rfl
set_option maxHeartbeats 8000000 in
set_option maxRecDepth 100000 in
theorem riposteref04_All.calls (k : Nat) (A0_0 : Option Addr) (c0_0 : Nat) (l0_0 : List (S68)) (a0_1 : Bool) (a0_2 : Int) (a0_3 : Bool) (r : List (S52)) (w : World) (hr0_0 : Kd.C k68 w A0_0 l0_0.length l0_0) (hc0_0 : l0_0.length ≤ c0_0) (h : riposteref04_All.f k l0_0 a0_1 a0_2 a0_3 = some r) :
  Calls Tryz.prog 31 #[.agg #[.slice A0_0 l0_0.length c0_0, .bool a0_1, .int .i64 a0_2, .bool a0_3]] w fun e w' => ∃ v0_ : Value, e = .returned (v0_) ∧ Kd.R k52 52 w' w.heap.size (fun _ => True) v0_ r ∧ Below w.heap.size w w' := by
 have hu26 := Tryz.underlying26
 have HR0_0 := Aside0.mk hr0_0
 have HC0_0 := Aside0.mk hc0_0
 clear hr0_0 hc0_0
 have HB := Aside0.mk (Below.refl w.heap.size w)
 have H : (riposteref04_All.l0 k ([] : List (S52)) 0 l0_0 a0_1 a0_2 a0_3) = some r := h
 clear h
 have H' := Aside0.mk H
 clear H
 go_enter Tryz.func31, Tryz.ntmps31
 go_wp2_with (first | ((with_reducible refine gate_dst (N := 1) rfl ?_); refine box_event ?hg (N := 1) ?hd (cs := #[.slice A0_0 l0_0.length c0_0, .bool a0_1, .int .i64 a0_2, .bool a0_3]) (t := 26) ?hr ?_; (case hd => rfl); (case hg => rfl); (case hr => go_simp); intro gb368 hg w2 hbox hb; have n0_ := Aside0.mk (below_step HB.out hb); have n1_ := Aside0.mk (hbox); have n2_ := Aside0.mk ((by rw [hg]; exact (below_size HB.out) : w.heap.size ≤ gb368)); have n3_ := Aside0.mk ((by rw [hg]; exact (below_size HB.out) : w.heap.size ≤ gb368)); clear HB; have HB := n0_; have BK368 := n1_; have GW368 := n2_; have GE368 := n3_; clear n0_ n1_ n2_ n3_; clear hb hbox hg))
 go_loopg [3, 4] k (fun kq v3 v4 w' => ∃ (x3_1 : List (S52)) (x4_1 : Int), v4 = .int .i64 x4_1 ∧ Aside0 (riposteref04_All.l0 kq x3_1 x4_1 l0_0 a0_1 a0_2 a0_3 = some r) ∧ Aside0 (kq ≤ k) ∧ Aside0 (Kd.R k52 52 w' w.heap.size (fun _ => True) v3 x3_1) ∧ Aside0 (w'.heap[gb368]? = some (.cells #[(.slice A0_0 l0_0.length c0_0), .bool a0_1, .int .i64 a0_2, .bool a0_3] 26 (0, 0))) ∧ Aside0 (Below w.heap.size w w'))
 case atStart => exact ⟨(([] : List (S52))), (0), (by first | rfl), H', ⟨Nat.le_refl _⟩, ⟨by first | exact Kd.R_nil _ _ _ _ _⟩, ⟨by exact BK368.out⟩, ⟨by exact HB.out⟩⟩
 case round =>
  clear H'
  try clear p2
  obtain ⟨x3_1, x4_1, rfl, HA, HK1, HO_3, BK368, HB⟩ := hrel
  cases gk with
  | zero => exact absurd HA.out (by simp [riposteref04_All.l0])
  | succ k1 =>
   have H := HA.out
   clear HA
   simp only [riposteref04_All.l0] at H
   by_cases c3 : x4_1 ≤ (l0_0.length : Int)
   ·rw [if_pos c3] at H
    have c3b0 : decide (x4_1 ≤ (l0_0.length : Int)) = true := decide_eq_true c3
    clear c3
    have H' := Aside0.mk H
    clear H
    have hcz4_0 : wr.cell? ⟨gb368, 0, none⟩ = some (.slice A0_0 l0_0.length c0_0) := (blk_cell BK368.out 0).trans rfl
    have hcz4_1 : wr.cell? ⟨gb368, 1, none⟩ = some (.bool a0_1) := (blk_cell BK368.out 1).trans rfl
    have hcz4_2 : wr.cell? ⟨gb368, 2, none⟩ = some (.int .i64 a0_2) := (blk_cell BK368.out 2).trans rfl
    have hcz4_3 : wr.cell? ⟨gb368, 3, none⟩ = some (.bool a0_3) := (blk_cell BK368.out 3).trans rfl
    have hfz4_0 := blk_frozen BK368.out 0
    have hfz4_1 := blk_frozen BK368.out 1
    have hfz4_2 := blk_frozen BK368.out 2
    have hfz4_3 := blk_frozen BK368.out 3
    go_wp2
    go_loopg [3, 5] k1 (fun kq v3 v5 w' => ∃ (x3_2 : List (S52)) (x5_2 : Int), v5 = .int .i64 x5_2 ∧ Aside0 (riposteref04_All.l1 kq x3_2 x4_1 x5_2 l0_0 a0_1 a0_2 a0_3 = some r) ∧ Aside0 (kq ≤ k1) ∧ Aside0 (Kd.R k52 52 w' w.heap.size (fun _ => True) v3 x3_2) ∧ Aside0 (w'.heap[gb368]? = some (.cells #[(.slice A0_0 l0_0.length c0_0), .bool a0_1, .int .i64 a0_2, .bool a0_3] 26 (0, 0))) ∧ Aside0 (Below w.heap.size w w'))
    case atStart => exact ⟨(x3_1), (0), (by first | rfl), H', ⟨Nat.le_refl _⟩, ⟨by exact HO_3.out⟩, ⟨by exact BK368.out⟩, ⟨by exact HB.out⟩⟩
    case round =>
     clear H'
     try clear p2
     try clear c3
     try clear c3b0
     try clear hcz4_0
     try clear hcz4_1
     try clear hcz4_2
     try clear hcz4_3
     try clear hfz4_0
     try clear hfz4_1
     try clear hfz4_2
     try clear hfz4_3
     try clear p2
     obtain ⟨x3_2, x5_2, rfl, HA, HK2, HO_3, BK368, HB⟩ := hrel
     cases gk with
     | zero => exact absurd HA.out (by simp [riposteref04_All.l1])
     | succ k2 =>
      have H := HA.out
      clear HA
      simp only [riposteref04_All.l1] at H
      by_cases c5 : x5_2 ≤ 5
      ·rw [if_pos c5] at H
       have c5b0 : decide (x5_2 ≤ 5) = true := decide_eq_true c5
       clear c5
       replace H := Option.bind_eq_some_iff.mp H
       obtain ⟨t369, A60, H⟩ := H
       replace H : (if x3_2.length + t369.length < 4398046511104 then ((some (x3_2 ++ t369 : List (S52))).bind fun y372 => ((riposteref04_Told.f k2 l0_0 a0_1 a0_2 a0_3 x4_1 x5_2 1).bind fun t375 => (if y372.length + t375.length < 4398046511104 then (riposteref04_All.l1 k2 (y372 ++ t375) x4_1 (wrap64 (x5_2 + 1)) l0_0 a0_1 a0_2 a0_3) else (none)))) else (none)) = some r := H
       have A6 := Aside0.mk A60
       clear A60
       by_cases c7 : x3_2.length + t369.length < 4398046511104
       ·rw [if_pos c7] at H
        have LMc7 := Aside0.mk c7
        clear c7
        obtain ⟨y372, hy372⟩ : ∃ y_ : List (S52), y_ = (x3_2 ++ t369) := ⟨_, rfl⟩
        replace H : ((riposteref04_Told.f k2 l0_0 a0_1 a0_2 a0_3 x4_1 x5_2 1).bind fun t375 => (if y372.length + t375.length < 4398046511104 then (riposteref04_All.l1 k2 (y372 ++ t375) x4_1 (wrap64 (x5_2 + 1)) l0_0 a0_1 a0_2 a0_3) else (none))) = some r := by first | (have H2_ := (Option.bind_some _ _).symm.trans H; rw [hy372]; with_reducible exact H2_)
        have Ny372 := Aside0.mk hy372
        clear hy372
        replace H := Option.bind_eq_some_iff.mp H
        obtain ⟨t375, A80, H⟩ := H
        replace H : (if y372.length + t375.length < 4398046511104 then (riposteref04_All.l1 k2 (y372 ++ t375) x4_1 (wrap64 (x5_2 + 1)) l0_0 a0_1 a0_2 a0_3) else (none)) = some r := H
        have A8 := Aside0.mk A80
        clear A80
        by_cases c9 : y372.length + t375.length < 4398046511104
        ·rw [if_pos c9] at H
         have LMc9 := Aside0.mk c9
         clear c9
         obtain ⟨y378, hy378⟩ : ∃ y_ : List (S52), y_ = (y372 ++ t375) := ⟨_, rfl⟩
         replace H : (riposteref04_All.l1 k2 y378 x4_1 (wrap64 (x5_2 + 1)) l0_0 a0_1 a0_2 a0_3) = some r := by first | (rw [hy378]; with_reducible exact H)
         have Ny378 := Aside0.mk hy378
         clear hy378
         have H' := Aside0.mk H
         clear H
         try go_wp2
         have n0_ := Aside0.mk (Kd.R_drew HO_3.out)
         have n1_ := Aside0.mk (blk_drew BK368.out)
         have n2_ := Aside0.mk (below_drew1 HB.out)
         clear HO_3
         clear BK368
         clear HB
         have HO_3 := n0_
         have BK368 := n1_
         have HB := n2_
         clear n0_ n1_ n2_
         refine start_ (n := 12) (S := fun w' => w'.cell? ⟨gb368, 0, none⟩ = some (.slice A0_0 l0_0.length c0_0) ∧ w'.cell? ⟨gb368, 1, none⟩ = some (.bool a0_1) ∧ w'.cell? ⟨gb368, 2, none⟩ = some (.int .i64 a0_2) ∧ w'.cell? ⟨gb368, 3, none⟩ = some (.bool a0_3)) (ds := []) #[ff,ff,ff,ff,ff,ff,ff,ff,ff,ff,ff,ff] (by kernel_rfl) rfl rfl ⟨(blk_cell BK368.out 0).trans rfl, (blk_cell BK368.out 1).trans rfl, (blk_cell BK368.out 2).trans rfl, (blk_cell BK368.out 3).trans rfl⟩ (fun hHeld => ?_); refine with_tabW riposteref04_All.tab8 riposteref04_All.bits8 (fun HT_ HW_ => ?_)
         generalize wr.drew = w10 at HO_3 BK368 HB hHeld ⊢
         refine pure_ (i := 0) (N := some 17) (v := ?_) (a' := ?_) #[tt,ff,ff,ff,ff,ff,ff,ff,ff,ff,ff,ff] rfl rfl (any_of HT_.out (by kernel_rfl)) (fun _ _ _ h => h) (Or.inl ⟨by rfl, ?_⟩) ?_ ?_
         rotate_left
         ·intro w'
          go_simp
          with_reducible rfl
         rotate_left
         ·simp only [Act.put, sn1, sn2, sn3, i64_w]
          rfl
         refine pure_ (i := 2) (N := some 19) (v := ?_) (a' := ?_) #[tt,ff,tt,ff,ff,ff,ff,ff,ff,ff,ff,ff] rfl rfl (any_of HT_.out (by kernel_rfl)) (fun _ _ _ h => h) (Or.inl ⟨by rfl, ?_⟩) ?_ ?_
         rotate_left
         ·intro w'
          go_simp
          with_reducible rfl
         rotate_left
         ·simp only [Act.put, sn1, sn2, sn3, i64_w]
          rfl
         refine pure_ (i := 3) (N := some 20) (v := ?_) (a' := ?_) #[tt,ff,tt,tt,ff,ff,ff,ff,ff,ff,ff,ff] rfl rfl (any_of HT_.out (by kernel_rfl)) (fun _ _ _ h => h) (Or.inl ⟨by rfl, ?_⟩) ?_ ?_
         rotate_left
         ·intro w'
          go_simp
          with_reducible rfl
         rotate_left
         ·simp only [Act.put, sn1, sn2, sn3, i64_w]
          rfl
         refine pure_ (i := 7) (N := some 24) (v := ?_) (a' := ?_) #[tt,ff,tt,tt,ff,ff,ff,tt,ff,ff,ff,ff] rfl rfl (any_of HT_.out (by kernel_rfl)) (fun _ _ _ h => h) (Or.inl ⟨by rfl, ?_⟩) ?_ ?_
         rotate_left
         ·intro w'
          go_simp
          with_reducible rfl
         rotate_left
         ·simp only [Act.put, sn1, sn2, sn3, i64_w]
          rfl
         refine pure_ (i := 8) (N := some 25) (v := ?_) (a' := ?_) #[tt,ff,tt,tt,ff,ff,ff,tt,tt,ff,ff,ff] rfl rfl (any_of HT_.out (by kernel_rfl)) (fun _ _ _ h => h) (Or.inl ⟨by rfl, ?_⟩) ?_ ?_
         rotate_left
         ·intro w'
          go_simp
          with_reducible rfl
         rotate_left
         ·simp only [Act.put, sn1, sn2, sn3, i64_w]
          rfl
         refine take_ (i := 1) (N := some 18) (v := ?_) (a' := ?_) #[tt,tt,tt,tt,ff,ff,ff,tt,tt,ff,ff,ff] rfl rfl (take_ofW HT_.out HW_.out (by kernel_rfl)) (fun _ _ _ h => h) (Or.inl ⟨by rfl, ?_⟩) hHeld ?_ ?_
         rotate_left
         ·rintro w' ⟨s0, s1, s2, s3⟩
          go_simp
          with_reducible rfl
         rotate_left
         ·simp only [Act.put, sn1, sn2, sn3, i64_w]
          rfl
         refine take_ (i := 6) (N := some 23) (v := ?_) (a' := ?_) #[tt,tt,tt,tt,ff,ff,tt,tt,tt,ff,ff,ff] rfl rfl (take_ofW HT_.out HW_.out (by kernel_rfl)) (fun _ _ _ h => h) (Or.inl ⟨by rfl, ?_⟩) hHeld ?_ ?_
         rotate_left
         ·rintro w' ⟨s0, s1, s2, s3⟩
          go_simp
          with_reducible rfl
         rotate_left
         ·simp only [Act.put, sn1, sn2, sn3, i64_w]
          rfl
         refine one_ (i := 4) (N := some 21) #[tt,tt,tt,tt,tt,ff,tt,tt,tt,ff,ff,ff] rfl rfl (one_of HT_.out (by kernel_rfl)) (by decide) (fun K hK => ?_)
         refine goes_ Tryz.func72 (by kernel_rfl) rfl #[.agg #[.slice A0_0 l0_0.length c0_0, .bool a0_1, .int .i64 a0_2, .bool a0_3], .int .i64 x4_1, .int .i64 x5_2] (by rfl) rfl rfl (by (try simp only [List.map_toArray, List.map_cons, List.map_nil]); first | rfl) ?_
         with_reducible refine (riposteref04_Questions.calls k2 _ _ l0_0 a0_1 a0_2 a0_3 x4_1 x5_2 t369 _ ?side1 ?side2 A6.out).mono ?_
         (case side1 => repeat (first | exact (Kd.C_below HR0_0.out HB.out)))
         (case side2 => exact HC0_0.out)
         rintro e w11 ⟨v370, rfl, ho0, hb⟩
         refine ⟨_, rfl, ?_⟩
         have n0_ := Aside0.mk (Kd.R_elder' HO_3.out (Kd.R_base ho0) hb)
         have n1_ := Aside0.mk (Kd.R_lower (Kd.R_new' ho0 (Kd.R_lt HO_3.out)) (below_size HB.out))
         have n2_ := Aside0.mk (blk_below (g := gb368) (o := .cells #[.slice A0_0 l0_0.length c0_0, .bool a0_1, .int .i64 a0_2, .bool a0_3] 26 (0, 0)) BK368.out hb)
         have n3_ := Aside0.mk (below_step HB.out hb)
         clear HO_3
         clear BK368
         clear HB
         have HO_3 := n0_
         have HO371 := n1_
         have BK368 := n2_
         have HB := n3_
         clear n0_ n1_ n2_ n3_
         (try clear hb)
         (try clear hb2)
         (try clear hk)
         (try clear hi)
         (try clear ho0)
         obtain ⟨Ao13, co13, eo13⟩ := Kd.R_slice HO371.out
         (first | subst eo13)
         refine hK.out _ _ ⟨(blk_cell BK368.out 0).trans rfl, (blk_cell BK368.out 1).trans rfl, (blk_cell BK368.out 2).trans rfl, (blk_cell BK368.out 3).trans rfl⟩ (fun hHeld => ?_)
         clear hK K
         refine norm_ (a' := ?_) ?_ ?_
         rotate_left
         ·show Act.put _ (some 21) _ = _
          simp only [Act.put, sn1, sn2, sn3, i64_w]
          rfl
         refine one_ (i := 5) (N := some 22) #[tt,tt,tt,tt,tt,tt,tt,tt,tt,ff,ff,ff] rfl rfl (one_of HT_.out (by kernel_rfl)) (by decide) (fun K hK => ?_)
         refine Kd.R_append_rows_step k52 (w0 := w) w.heap.size (by rfl) (.tmp 17) (.tmp 21) 27 52 (.agg #[(.int .i64 0), (.int .i64 0), (.int .u8 0), (.int .i64 0)]) 32 rfl Tryz.underlying27 info52 rfl (by decide) (by omega) u3 x3_2 t369 _ _ _ (fun k_ => some k_ ≠ (.slice Ao13 t369.length co13 : Value).ownBlock) (fun _ => False) rfl rfl ?aO ?aR (fun _ _ h => h) (fun _ h => h.elim) ?aF ?aB ?aS ?aL ?_
         (case aR => repeat (first | exact (Kd.R_reads' HO371.out).2.2))
         (case aB => exact HB.out)
         (case aF => exact (fun k_ hk => Kd.fresh' (Kd.R_lt HO371.out) k_ hk))
         (case aO => exact (by exact Kd.R_mono HO_3.out (fun _ hk => hk.2)))
         (case aS => exact (below_size HB.out))
         (case aL => have := LMc7.out; omega)
         intro v373 w12 ho hb hg hat
         rw [← Ny372.out] at ho
         have n0_ := Aside0.mk (blk_grown (g := gb368) (o := .cells #[.slice A0_0 l0_0.length c0_0, .bool a0_1, .int .i64 a0_2, .bool a0_3] 26 (0, 0)) BK368.out hg (Kd.R_ne HO_3.out BK368.out (by decide)))
         have n1_ := Aside0.mk (Kd.R_after (ok := (fun _ => True)) HO371.out hg hat)
         have n2_ := Aside0.mk (hb)
         have n3_ := Aside0.mk (ho)
         clear BK368
         clear HO371
         clear HB
         clear HO_3
         have BK368 := n0_
         have HO371 := n1_
         have HB := n2_
         have HO374 := n3_
         clear n0_ n1_ n2_ n3_
         clear ho hb hg hat
         refine hK.out _ _ ⟨(blk_cell BK368.out 0).trans rfl, (blk_cell BK368.out 1).trans rfl, (blk_cell BK368.out 2).trans rfl, (blk_cell BK368.out 3).trans rfl⟩ (fun hHeld => ?_)
         clear hK K
         refine norm_ (a' := ?_) ?_ ?_
         rotate_left
         ·show Act.put _ (some 22) _ = _
          simp only [Act.put, sn1, sn2, sn3, i64_w]
          rfl
         refine one_ (i := 9) (N := some 26) #[tt,tt,tt,tt,tt,tt,tt,tt,tt,tt,ff,ff] rfl rfl (one_of HT_.out (by kernel_rfl)) (by decide) (fun K hK => ?_)
         refine goes_ Tryz.func73 (by kernel_rfl) rfl #[.agg #[.slice A0_0 l0_0.length c0_0, .bool a0_1, .int .i64 a0_2, .bool a0_3], .int .i64 x4_1, .int .i64 x5_2, .int .u8 1] (by rfl) rfl rfl (by (try simp only [List.map_toArray, List.map_cons, List.map_nil]); first | rfl) ?_
         with_reducible refine (riposteref04_Told.calls k2 _ _ l0_0 a0_1 a0_2 a0_3 x4_1 x5_2 1 t375 _ ?side1 ?side2 A8.out).mono ?_
         (case side1 => repeat (first | exact (Kd.C_below HR0_0.out HB.out)))
         (case side2 => exact HC0_0.out)
         rintro e w14 ⟨v376, rfl, ho0, hb⟩
         refine ⟨_, rfl, ?_⟩
         have n0_ := Aside0.mk (Kd.R_elder' HO371.out (Kd.R_base ho0) hb)
         have n1_ := Aside0.mk (Kd.R_elder' HO374.out (Kd.R_base ho0) hb)
         have n2_ := Aside0.mk (Kd.R_lower (Kd.R_new' (Kd.R_new' ho0 (Kd.R_lt HO371.out)) (Kd.R_lt HO374.out)) (below_size HB.out))
         have n3_ := Aside0.mk (blk_below (g := gb368) (o := .cells #[.slice A0_0 l0_0.length c0_0, .bool a0_1, .int .i64 a0_2, .bool a0_3] 26 (0, 0)) BK368.out hb)
         have n4_ := Aside0.mk (below_step HB.out hb)
         clear HO371
         clear HO374
         clear BK368
         clear HB
         have HO371 := n0_
         have HO374 := n1_
         have HO377 := n2_
         have BK368 := n3_
         have HB := n4_
         clear n0_ n1_ n2_ n3_ n4_
         (try clear hb)
         (try clear hb2)
         (try clear hk)
         (try clear hi)
         (try clear ho0)
         obtain ⟨Ao16, co16, eo16⟩ := Kd.R_slice HO377.out
         (first | subst eo16)
         refine hK.out _ _ ⟨(blk_cell BK368.out 0).trans rfl, (blk_cell BK368.out 1).trans rfl, (blk_cell BK368.out 2).trans rfl, (blk_cell BK368.out 3).trans rfl⟩ (fun hHeld => ?_)
         clear hK K
         refine norm_ (a' := ?_) ?_ ?_
         rotate_left
         ·show Act.put _ (some 26) _ = _
          simp only [Act.put, sn1, sn2, sn3, i64_w]
          rfl
         refine one_ (i := 10) (N := some 27) #[tt,tt,tt,tt,tt,tt,tt,tt,tt,tt,tt,ff] rfl rfl (one_of HT_.out (by kernel_rfl)) (by decide) (fun K hK => ?_)
         refine Kd.R_append_rows_step k52 (w0 := w) w.heap.size (by rfl) (.tmp 22) (.tmp 26) 27 52 (.agg #[(.int .i64 0), (.int .i64 0), (.int .u8 0), (.int .i64 0)]) 32 rfl Tryz.underlying27 info52 rfl (by decide) (by omega) v373 y372 t375 _ _ _ (fun k_ => some k_ ≠ (.slice Ao13 t369.length co13 : Value).ownBlock ∧ some k_ ≠ (.slice Ao16 t375.length co16 : Value).ownBlock) (fun _ => False) rfl rfl ?aO ?aR (fun _ _ h => h) (fun _ h => h.elim) ?aF ?aB ?aS ?aL ?_
         (case aR => repeat (first | exact (Kd.R_reads' HO377.out).2.2))
         (case aB => exact HB.out)
         (case aF => exact (fun k_ hk => ⟨Kd.fresh' (Kd.R_lt HO371.out) k_ hk, Kd.fresh' (Kd.R_lt HO377.out) k_ hk⟩))
         (case aO => exact HO374.out)
         (case aS => exact (below_size HB.out))
         (case aL => have := LMc9.out; omega)
         intro v379 w15 ho hb hg hat
         rw [← Ny378.out] at ho
         have n0_ := Aside0.mk (blk_grown (g := gb368) (o := .cells #[.slice A0_0 l0_0.length c0_0, .bool a0_1, .int .i64 a0_2, .bool a0_3] 26 (0, 0)) BK368.out hg (Kd.R_ne HO374.out BK368.out (by decide)))
         have n1_ := Aside0.mk (Kd.R_after (ok := (fun k_ => some k_ ≠ (.slice Ao16 t375.length co16 : Value).ownBlock)) (by exact Kd.R_mono HO371.out (fun _ hk => ⟨hk.2, hk.1.2⟩)) hg hat)
         have n2_ := Aside0.mk (Kd.R_after (ok := (fun k_ => some k_ ≠ (.slice Ao13 t369.length co13 : Value).ownBlock)) (by exact Kd.R_mono HO377.out (fun _ hk => ⟨hk.1.2, hk.2⟩)) hg hat)
         have n3_ := Aside0.mk (hb)
         have n4_ := Aside0.mk (ho)
         clear BK368
         clear HO371
         clear HO377
         clear HB
         clear HO374
         have BK368 := n0_
         have HO371 := n1_
         have HO377 := n2_
         have HB := n3_
         have HO380 := n4_
         clear n0_ n1_ n2_ n3_ n4_
         clear ho hb hg hat
         refine hK.out _ _ ⟨(blk_cell BK368.out 0).trans rfl, (blk_cell BK368.out 1).trans rfl, (blk_cell BK368.out 2).trans rfl, (blk_cell BK368.out 3).trans rfl⟩ (fun hHeld => ?_)
         clear hK K
         refine norm_ (a' := ?_) ?_ ?_
         rotate_left
         ·show Act.put _ (some 27) _ = _
          simp only [Act.put, sn1, sn2, sn3, i64_w]
          rfl
         refine pure_ (i := 11) (N := some 3) (v := ?_) (a' := ?_) #[tt,tt,tt,tt,tt,tt,tt,tt,tt,tt,tt,tt] rfl rfl (any_of HT_.out (by kernel_rfl)) (fun _ _ _ h => h) (Or.inl ⟨by rfl, ?_⟩) ?_ ?_
         rotate_left
         ·intro w'
          go_simp
          with_reducible rfl
         rotate_left
         ·simp only [Act.put, sn1, sn2, sn3, i64_w]
          rfl
         refine done_ (done_of HT_.out (by kernel_rfl)) ?_
         try go_wp2
         go_roundg k2
         case measure => have := HK1.out; have := HK2.out; omega
         case rel => exact ⟨(y378), (wrap64 (x5_2 + 1)), (by first | rfl), H', ⟨by have := HK1.out; have := HK2.out; omega⟩, ⟨by exact Kd.R_mono HO380.out (fun _ hk => trivial)⟩, ⟨by exact BK368.out⟩, ⟨by exact HB.out⟩⟩
        rw [if_neg c9] at H
        exact absurd H (by simp)
       rw [if_neg c7] at H
       exact absurd H (by simp)
      rw [if_neg c5] at H
      have c5b0 : decide (x5_2 ≤ 5) = false := decide_eq_false c5
      clear c5
      have H' := Aside0.mk H
      clear H
      go_wp2
      go_roundg k2
      case measure => have := HK1.out; have := HK2.out; omega
      case rel => exact ⟨(x3_2), (wrap64 (x4_1 + 1)), (by first | rfl), H', ⟨by have := HK1.out; have := HK2.out; omega⟩, ⟨by exact HO_3.out⟩, ⟨by exact BK368.out⟩, ⟨by exact HB.out⟩⟩
   rw [if_neg c3] at H
   have c3b0 : decide (x4_1 ≤ (l0_0.length : Int)) = false := decide_eq_false c3
   clear c3
   obtain rfl := Option.some.inj H
   have hcz17_0 : wr.cell? ⟨gb368, 0, none⟩ = some (.slice A0_0 l0_0.length c0_0) := (blk_cell BK368.out 0).trans rfl
   have hcz17_1 : wr.cell? ⟨gb368, 1, none⟩ = some (.bool a0_1) := (blk_cell BK368.out 1).trans rfl
   have hcz17_2 : wr.cell? ⟨gb368, 2, none⟩ = some (.int .i64 a0_2) := (blk_cell BK368.out 2).trans rfl
   have hcz17_3 : wr.cell? ⟨gb368, 3, none⟩ = some (.bool a0_3) := (blk_cell BK368.out 3).trans rfl
   have hfz17_0 := blk_frozen BK368.out 0
   have hfz17_1 := blk_frozen BK368.out 1
   have hfz17_2 := blk_frozen BK368.out 2
   have hfz17_3 := blk_frozen BK368.out 3
   go_wp2
   go_ret
   exact ⟨_, by first | rfl, by exact HO_3.out, by exact HB.out⟩
end Go.Proofs.YtjgocihflhljeaaGreat.P
namespace Go.Proofs.YtjgocihflhljeaaGreat.P
open Go.RowKit Go.Shelf Go.Proofs.YtjgocihflhljeaaGreatW.PrintWords Go.Proofs.YtjgocihflhljeaaGreatW.PrintLast Go.Proofs.YtjgocihflhljeaaGreatW.PrintMore
def cellL (ids : List S68) (rc : Bool) (rn : Int) (j : Bool) (id arg : Nat) : List S52 := match spotAt ids rc rn j id arg with
 | none => []
 | some p => movesL p
def rowL (ids : List S68) (rc : Bool) (rn : Int) (j : Bool) (id : Nat) : List S52 := (List.range 6).flatMap fun a => cellL ids rc rn j id a
theorem cellL_len {ids : List S68} {rn : Int} (h : checkE ids rn = 0) (rc j : Bool) (id arg : Nat) : (cellL ids rc rn j id arg).length ≤ 130 := by
 unfold cellL
 cases hs : spotAt ids rc rn j id arg with
 | none => simp
 | some p =>
  rw [← find_spots] at hs
  exact movesL_len p (spotsL_n h rc j p (List.mem_of_find?_eq_some hs)).2
theorem up_nat {n : Nat} (h : n ≤ 1000) : wrap64 ((n : Int) + 1) = ((n + 1 : Nat) : Int) := by
 rw [wrap_in (by omega) (by omega)]
 simp
theorem all_l1 {ids : List S68} {rn : Int} (hc : checkE ids rn = 0) (rc j : Bool) (id : Nat) (hid : id ≤ 8) : ∀ (d a k : Nat) (acc : List S52), a + d = 6 → acc.length + d * 130 ≤ 10000 → 80 ≤ k →
  riposteref04_All.l1 (k + d + 1) acc id a ids rc rn j = riposteref04_All.l0 k (acc ++ (List.range d).flatMap fun i => cellL ids rc rn j id (a + i)) ((id + 1 : Nat) : Int) ids rc rn j := by
 obtain ⟨hl, hp, _, _⟩ := checkE_ok hc
 intro d
 induction d with
 | zero =>
  intro a k acc ha hacc hk
  rw [riposteref04_All.l1, if_neg (by omega), up_nat (by omega)]
  simp
 | succ d ih =>
  intro a k acc ha hacc hk
  have hn : ∀ p, spotAt ids rc rn j id a = some p → 1 ≤ p.n ∧ p.n ≤ 64 := by
   intro p hs
   rw [← find_spots] at hs
   exact spotsL_n hc rc j p (List.mem_of_find?_eq_some hs)
  have hq := questions_f (k + d + 1) (by omega) ids rc rn j id a hl hp hn (fun p hs => spotAt_id hs)
  have ht := told_f (k + d + 1) (by omega) ids rc rn j id a hl hp hn
  obtain ⟨Q, B, hQ, hB, hcell⟩ : ∃ Q B, riposteref04_Questions.f (k + d + 1) ids rc rn j id a = some Q ∧ riposteref04_Told.f (k + d + 1) ids rc rn j id a 1 = some B ∧ cellL ids rc rn j id a = Q ++ B := by
   cases hs : spotAt ids rc rn j id a with
   | none => rw [hs] at hq ht; exact ⟨_, _, hq, ht, by unfold cellL; rw [hs]; rfl⟩
   | some p => rw [hs] at hq ht; exact ⟨_, _, hq, ht, by unfold cellL; rw [hs]; rfl⟩
  have hlen2 := cellL_len hc rc j id a
  rw [hcell, List.length_append] at hlen2
  rw [show k + (d + 1) + 1 = (k + d + 1) + 1 by omega, riposteref04_All.l1, if_pos (by omega), hQ, Option.bind_some, hB, up_nat (by omega)]
  have e : (List.range (d + 1)).flatMap (fun i => cellL ids rc rn j id (a + i)) = cellL ids rc rn j id a ++ (List.range d).flatMap (fun i => cellL ids rc rn j id (a + 1 + i)) := by
   rw [List.range_succ_eq_map, List.flatMap_cons, List.flatMap_map]
   simp [Nat.add_comm, Nat.add_left_comm]
  rw [e, ← List.append_assoc, hcell, ← List.append_assoc]
  rw [if_pos (by omega), Option.bind_some, Option.bind_some, if_pos (by rw [List.length_append]; omega)]
  exact ih (a + 1) k (acc ++ Q ++ B) (by omega) (by rw [List.length_append, List.length_append]; omega) hk
theorem rowL_len {ids : List S68} {rn : Int} (h : checkE ids rn = 0) (rc j : Bool) (id : Nat) : (rowL ids rc rn j id).length ≤ 780 := by
 have := flat_len (L := List.range 6) (f := fun a => cellL ids rc rn j id a) (m := 130) (fun a _ => cellL_len h rc j id a)
 unfold rowL
 simp only [List.length_range] at this
 omega
theorem all_l0 {ids : List S68} {rn : Int} (hc : checkE ids rn = 0) (rc j : Bool) : ∀ (d id k : Nat) (acc : List S52), id + d = ids.length + 1 → acc.length ≤ 780 * id → 80 ≤ k →
  riposteref04_All.l0 (k + d * 8 + 1) acc id ids rc rn j = some (acc ++ (List.range d).flatMap fun i => rowL ids rc rn j (id + i)) := by
 obtain ⟨hl, hp, _, _⟩ := checkE_ok hc
 intro d
 induction d with
 | zero =>
  intro id k acc ha hacc hk
  rw [riposteref04_All.l0, if_neg (by omega)]
  simp
 | succ d ih =>
  intro id k acc ha hacc hk
  rw [riposteref04_All.l0, if_pos (by omega)]
  have hb : acc.length + 6 * 130 ≤ 10000 := by omega
  have hk2 : 80 ≤ k + d * 8 + 1 := by omega
  have hid : id ≤ 8 := by omega
  have e2 : k + (d + 1) * 8 = k + d * 8 + 1 + 6 + 1 := by omega
  have h1 : riposteref04_All.l1 (k + d * 8 + 1 + 6 + 1) acc id ((0 : Nat) : Int) ids rc rn j = _ := all_l1 hc rc j id hid 6 0 (k + d * 8 + 1) acc (Nat.zero_add 6) hb hk2
  rw [show ((0 : Nat) : Int) = 0 from rfl] at h1
  have h2 : (List.range 6).flatMap (fun i => cellL ids rc rn j id (0 + i)) = rowL ids rc rn j id := by unfold rowL; simp
  have h3 : (List.range (d + 1)).flatMap (fun i => rowL ids rc rn j (id + i)) = rowL ids rc rn j id ++ (List.range d).flatMap (fun i => rowL ids rc rn j (id + 1 + i)) := by
   rw [List.range_succ_eq_map, List.flatMap_cons, List.flatMap_map]
   simp [Nat.add_comm, Nat.add_left_comm]
  rw [e2, h1, h2, h3]
  have hlen := rowL_len hc rc j id
  obtain ⟨R, hR⟩ : ∃ R, rowL ids rc rn j id = R := ⟨_, rfl⟩
  rw [hR] at hlen ⊢
  clear h1 h2 h3 hR
  rw [ih (id + 1) k (acc ++ R) (by omega) (by rw [List.length_append]; omega) hk, List.append_assoc]
theorem param_moves (i : Nat) : ∀ (bs : List S24) (k : Nat), (paramSpots i k bs).flatMap movesL = (List.range bs.length).flatMap fun a => movesL ⟨(i : Int) + 1, ((k + a : Nat) : Int) + 1, (bs.getD a z24).f0, (bs.getD a z24).f1, true⟩ := by
 intro bs
 induction bs with
 | nil => intro k; rfl
 | cons b bs ih =>
  intro k
  rw [paramSpots, List.flatMap_cons, ih (k + 1), List.length_cons, List.range_succ_eq_map, List.flatMap_cons, List.flatMap_map]
  congr 1
  congr 1
  funext a
  rw [List.getD_cons_succ, show k + 1 + a = k + (a + 1) by omega]
theorem range_add {α : Type} (n m : Nat) (f : Nat → List α) (h : ∀ a, n ≤ a → f a = []) : (List.range (n + m)).flatMap f = (List.range n).flatMap f := by
 induction m with
 | zero => rfl
 | succ m ih =>
  rw [← Nat.add_assoc, List.range_succ, List.flatMap_append, ih]
  simp [h (n + m) (by omega)]
theorem flatMap_same {α β : Type} {l : List α} {f g : α → List β} (h : ∀ a ∈ l, f a = g a) : l.flatMap f = l.flatMap g := by
 rw [List.flatMap_def, List.flatMap_def, List.map_congr_left h]
theorem row_id {ids : List S68} (rc : Bool) (rn : Int) (j : Bool) (hp : ∀ x ∈ ids, x.f0.length ≤ 5) (i : Nat) (hi : i < ids.length) :
  rowL ids rc rn j (i + 1) = movesL ⟨(i : Int) + 1, 0, (ids.getD i z68).f1.f0, (ids.getD i z68).f1.f1, j || decide (0 < (ids.getD i z68).f0.length)⟩ ++ (paramSpots i 0 (ids.getD i z68).f0).flatMap movesL := by
 have hx : (ids.getD i z68).f0.length ≤ 5 := hp _ (by rw [getD_get _ _ _ hi]; exact List.getElem_mem hi)
 have e0 : ((i + 1 : Nat) : Int) - 1 = (i : Int) := by omega
 have hc : ∀ a : Nat, cellL ids rc rn j (i + 1) a = if a = 0 then movesL ⟨(i : Int) + 1, 0, (ids.getD i z68).f1.f0, (ids.getD i z68).f1.f1, j || decide (0 < (ids.getD i z68).f0.length)⟩ else if a ≤ (ids.getD i z68).f0.length then movesL ⟨(i : Int) + 1, a, ((ids.getD i z68).f0.getD (a - 1) z24).f0, ((ids.getD i z68).f0.getD (a - 1) z24).f1, true⟩ else [] := by
  intro a
  unfold cellL spotAt
  rw [if_neg (by omega), if_pos (by omega), idAt, e0]
  simp only [Int.toNat_natCast]
  by_cases h0 : a = 0
  ·rw [if_pos (by omega), if_pos h0]
   simp
  rw [if_neg (by omega), if_neg h0]
  by_cases h1 : a ≤ (ids.getD i z68).f0.length
  ·rw [if_pos (by omega), if_pos h1]
   have e1 : ((a : Int) - 1).toNat = a - 1 := by omega
   simp [e1]
  rw [if_neg (by omega), if_neg h1]
 unfold rowL
 rw [List.range_succ_eq_map, List.flatMap_cons, List.flatMap_map, hc 0, if_pos rfl, param_moves]
 congr 1
 obtain ⟨m, hm⟩ : ∃ m, 5 = (ids.getD i z68).f0.length + m := ⟨5 - (ids.getD i z68).f0.length, by omega⟩
 rw [hm, range_add]
 ·refine flatMap_same fun a ha => ?_
  rw [List.mem_range] at ha
  rw [hc (a + 1), if_neg (by omega), if_pos (by omega), show a + 1 - 1 = a by omega]
  simp
 intro a ha
 rw [hc (a + 1), if_neg (by omega), if_neg (by omega)]
theorem ids_moves (ids : List S68) (rc : Bool) (rn : Int) (j : Bool) (hp : ∀ x ∈ ids, x.f0.length ≤ 5) : ∀ (l : List S68) (i : Nat), ids.drop i = l → (idsSpots j i l).flatMap movesL = (List.range l.length).flatMap fun a => rowL ids rc rn j (i + a + 1) := by
 intro l
 induction l with
 | nil => intro i _; rfl
 | cons x xs ih =>
  intro i hd
  have hi : i < ids.length := by
   rcases Nat.lt_or_ge i ids.length with h | h
   ·exact h
   rw [List.drop_eq_nil_of_le h] at hd; cases hd
  have hx : ids.getD i z68 = x := by
   have := List.drop_eq_getElem_cons hi
   rw [this] at hd
   injection hd with h1 h2
   rw [getD_get _ _ _ hi, h1]
  have ht : ids.drop (i + 1) = xs := by
   have := List.drop_eq_getElem_cons hi
   rw [this] at hd
   injection hd
  rw [idsSpots, List.flatMap_cons, List.flatMap_append, ih (i + 1) ht, List.length_cons, List.range_succ_eq_map, List.flatMap_cons, List.flatMap_map, ← List.append_assoc]
  have hr := row_id rc rn j hp i hi
  rw [hx] at hr
  rw [← hr]
  congr 1
  congr 1
  funext a
  rw [show i + 1 + a + 1 = i + (a + 1) + 1 by omega]
theorem movesA_rows {ids : List S68} {rn : Int} (hc : checkE ids rn = 0) (rc j : Bool) : (List.range (ids.length + 1)).flatMap (fun i => rowL ids rc rn j (0 + i)) = movesA ids rc rn j := by
 obtain ⟨hl, hp, _, _⟩ := checkE_ok hc
 rw [List.range_succ_eq_map, List.flatMap_cons, List.flatMap_map]
 unfold movesA spotsL
 rw [List.flatMap_cons, ids_moves ids rc rn j hp ids 0 rfl]
 congr 1
 have e : rowL ids rc rn j (0 + 0) = movesL ⟨0, 0, rc, rn, j⟩ := by
  have hcell : ∀ a : Nat, cellL ids rc rn j 0 a = if a = 0 then movesL ⟨0, 0, rc, rn, j⟩ else [] := by
   intro a
   unfold cellL spotAt
   by_cases h0 : a = 0
   ·subst h0; rfl
   rw [if_neg (by omega), if_neg (by omega), if_neg h0]
  unfold rowL
  rw [range_add 1 5 _ (fun a ha => by rw [hcell a, if_neg (by omega)])]
  simp [hcell]
 rw [e]
 first
  | done
  | congr 1
theorem all_f {ids : List S68} {rn : Int} (hc : checkE ids rn = 0) (rc j : Bool) : riposteref04_All.f 200 ids rc rn j = some (movesA ids rc rn j) := by
 obtain ⟨hl, hp, _, _⟩ := checkE_ok hc
 rw [riposteref04_All.f]
 have h := all_l0 hc rc j (ids.length + 1) 0 (200 - (ids.length + 1) * 8 - 1) [] (by omega) (by simp) (by omega)
 rw [show ((0 : Nat) : Int) = 0 from rfl] at h
 rw [show 200 - (ids.length + 1) * 8 - 1 + (ids.length + 1) * 8 + 1 = 200 by omega] at h
 rw [h, List.nil_append, movesA_rows hc rc j]
theorem mem_movesA {ids : List S68} {rn : Int} (hc : checkE ids rn = 0) {rc j : Bool} {m : S52} (h : m ∈ movesA ids rc rn j) : ∃ (id a : Nat) (p : Spot), spotAt ids rc rn j id a = some p ∧ m ∈ movesL p := by
 rw [← movesA_rows hc] at h
 obtain ⟨i, _, h1⟩ := List.mem_flatMap.1 h
 unfold rowL at h1
 obtain ⟨a, _, h2⟩ := List.mem_flatMap.1 h1
 unfold cellL at h2
 cases hs : spotAt ids rc rn j ((0 + i : Nat) : Int) a with
 | none => rw [hs] at h2; cases h2
 | some p => rw [hs] at h2; exact ⟨0 + i, a, p, hs, h2⟩
end Go.Proofs.YtjgocihflhljeaaGreat.P
namespace Go.Proofs.YtjgocihflhljeaaGreat.P
open Go.RowKit Go.Shelf Go.Proofs.YtjgocihflhljeaaGreatW.PrintWords Go.Proofs.YtjgocihflhljeaaGreatW.PrintLast Go.Proofs.YtjgocihflhljeaaGreatW.PrintMore
theorem say_len (t : Tk) (m : Mv) : (t.say m).word.length = t.word.length + 1 := by simp [Tk.say]
end Go.Proofs.YtjgocihflhljeaaGreat.P
namespace Go.Proofs.YtjgocihflhljeaaGreat.P
open Go.RowKit Go.Shelf Go.Proofs.YtjgocihflhljeaaGreatW.PrintWords Go.Proofs.YtjgocihflhljeaaGreatW.PrintLast Go.Proofs.YtjgocihflhljeaaGreatW.PrintMore
attribute [local go_sem] Oper.semAt_some
end Go.Proofs.YtjgocihflhljeaaGreat.P
namespace Go.Proofs.YtjgocihflhljeaaGreat.P
open Go.RowKit Go.Shelf Go.Proofs.YtjgocihflhljeaaGreatW.PrintWords Go.Proofs.YtjgocihflhljeaaGreatW.PrintLast Go.Proofs.YtjgocihflhljeaaGreatW.PrintMore
end Go.Proofs.YtjgocihflhljeaaGreat.P
namespace Go.Proofs.YtjgocihflhljeaaGreat.P
open Go.RowKit Go.Shelf Go.Proofs.YtjgocihflhljeaaGreatW.PrintWords Go.Proofs.YtjgocihflhljeaaGreatW.PrintLast Go.Proofs.YtjgocihflhljeaaGreatW.PrintMore
attribute [local go_sem] Oper.semAt_some
theorem spotAt_place {ids : List S68} {rc : Bool} {rn : Int} {j : Bool} {id arg : Int} {p : Spot} (h : spotAt ids rc rn j id arg = some p) : p.id = id ∧ p.arg = arg := by
 unfold spotAt at h
 split at h
 ·rename_i h0; cases h; exact ⟨h0.1.symm, h0.2.symm⟩
 split at h
 ·unfold idAt at h
  simp only at h
  split at h
  ·rename_i h0; cases h; exact ⟨rfl, h0.symm⟩
  split at h
  ·cases h; exact ⟨rfl, rfl⟩
  cases h
 cases h
theorem walkL_word (ids : List S68) (rc : Bool) (rn : Int) (jb : Bool) (l : List Mv) : ∀ t : Tk, ∃ n, n ≤ l.length ∧ (walkL ids rc rn jb t l).word = t.word ++ l.take n := by
 induction l with
 | nil => intro t; exact ⟨0, Nat.le_refl _, by rw [walkL]; simp⟩
 | cons m ms ih =>
  intro t
  rw [walkL]
  split
  ·obtain ⟨n, h1, h2⟩ := ih (t.say m)
   refine ⟨n + 1, by simpa using h1, ?_⟩
   rw [h2]
   show (t.word ++ [m]) ++ ms.take n = _
   simp
  exact ⟨0, Nat.zero_le _, by simp⟩
theorem talk_take (ids : List S68) (rc : Bool) (rn : Int) (jb : Bool) (l : List Mv) : (talkL ids rc rn jb l).word = l.take (talkL ids rc rn jb l).word.length := by
 obtain ⟨n, h1, h2⟩ := walkL_word ids rc rn jb l Tk.empty
 have e : Tk.empty.word = [] := rfl
 rw [e, List.nil_append] at h2
 show (walkL ids rc rn jb Tk.empty l).word = l.take (walkL ids rc rn jb Tk.empty l).word.length
 rw [h2, List.length_take]
 congr 1
 omega
theorem talk_all {ids : List S68} {rc : Bool} {rn : Int} {jb : Bool} {l : List Mv} (h : ¬ (talkL ids rc rn jb l).word.length < l.length) : (talkL ids rc rn jb l).word = l := by
 rw [talk_take]
 exact List.take_of_length_le (by omega)
end Go.Proofs.YtjgocihflhljeaaGreat.P
namespace Go.Proofs.YtjgocihflhljeaaGreat.P
open Go.RowKit Go.Shelf Go.Proofs.YtjgocihflhljeaaGreatW.PrintWords Go.Proofs.YtjgocihflhljeaaGreatW.PrintLast Go.Proofs.YtjgocihflhljeaaGreatW.PrintMore
attribute [local go_sem] Oper.semAt_some
theorem eqM_refl (m : Mv) : eqM m m = true := by unfold eqM; simp
theorem mv_place {p : Spot} {m : Mv} (h : m ∈ movesL p) : m.f0 = p.id ∧ m.f1 = p.arg := by
 rcases mem_moves h with rfl | ⟨k, rfl⟩ | ⟨_, rfl⟩ | ⟨k, _, rfl⟩ <;> exact ⟨rfl, rfl⟩
theorem movesA_has {ids : List S68} {rc : Bool} {rn : Int} {jb : Bool} (hc : checkE ids rn = 0) {m : Mv} (h : m ∈ movesA ids rc rn jb) : hasR ids rc rn jb m = true := by
 obtain ⟨id, a, p, hs, hm⟩ := mem_movesA hc h
 obtain ⟨h1, h2⟩ := spotAt_place hs
 obtain ⟨h3, h4⟩ := mv_place hm
 unfold hasR
 rw [if_pos hc, find_spots, h3, h4, h1, h2, hs]
 exact List.any_eq_true.2 ⟨m, hm, eqM_refl m⟩
end Go.Proofs.YtjgocihflhljeaaGreat.P
namespace Go.Proofs.YtjgocihflhljeaaGreat.P
open Go.RowKit Go.Shelf Go.Proofs.YtjgocihflhljeaaGreatW.PrintWords Go.Proofs.YtjgocihflhljeaaGreatW.PrintLast Go.Proofs.YtjgocihflhljeaaGreatW.PrintMore
end Go.Proofs.YtjgocihflhljeaaGreat.P
namespace Go.Proofs.YtjgocihflhljeaaGreat.P
open Go.RowKit Go.Shelf Go.Proofs.YtjgocihflhljeaaGreatW.PrintWords Go.Proofs.YtjgocihflhljeaaGreatW.PrintLast Go.Proofs.YtjgocihflhljeaaGreatW.PrintMore
attribute [local go_sem] Oper.semAt_some
end Go.Proofs.YtjgocihflhljeaaGreat.P
namespace Go.Proofs.YtjgocihflhljeaaGreat.P
open Go.RowKit Go.Shelf Go.Proofs.YtjgocihflhljeaaGreatW.PrintWords Go.Proofs.YtjgocihflhljeaaGreatW.PrintLast Go.Proofs.YtjgocihflhljeaaGreatW.PrintMore
section
variable {w W W' : World} {I : List (Option Addr × List S68)} {Y : List (Option Addr × List Mv)} {X : List (Option Addr × List Int)} {G : List (Nat × Array Value × TypeId)}
variable (h : Lw w W I Y X G) {A A1 : Option Addr} {c c1 : Nat} {ids : List S68} {l : List Mv} (rc : Bool) (rn : Int) (jb : Bool) (hi : (A, ids) ∈ I) (hy : (A1, l) ∈ Y) (hl : l.length ≤ 1000000)
include h hi hy hl
theorem Lw.next : Calls Tryz.prog 32 #[.agg #[.slice A ids.length c, .bool rc, .int .i64 rn, .bool jb], .slice A1 l.length c1] W fun e w' => ∃ B k, e = .returned (.tuple #[.slice B (okL (tellE ids rc rn jb l) (nextL jb (talkL ids rc rn jb l) (movesA ids rc rn jb))).length k, .int .i64 (tellE ids rc rn jb l)]) ∧ (okL (tellE ids rc rn jb l) (nextL jb (talkL ids rc rn jb l) (movesA ids rc rn jb))).length ≤ k ∧ Lw w w' I ((B, okL (tellE ids rc rn jb l) (nextL jb (talkL ids rc rn jb l) (movesA ids rc rn jb))) :: Y) X G :=
 (pNext_any A c ids rc rn jb A1 c1 l W (h.i _ hi) (h.y _ hy) hl).mono (by
  rintro e w' ⟨r, rfl, hR, hb⟩
  obtain ⟨B, k, rfl, hk, hC⟩ := Kd.R_reads hR
  exact ⟨B, k, rfl, hk, (h.below hb).addy hC⟩)
end
end Go.Proofs.YtjgocihflhljeaaGreat.P
namespace Go.Proofs.YtjgocihflhljeaaGreat.P
open Go.RowKit Go.Shelf Go.Proofs.YtjgocihflhljeaaGreatW.PrintWords Go.Proofs.YtjgocihflhljeaaGreatW.PrintLast Go.Proofs.YtjgocihflhljeaaGreatW.PrintMore
section
variable {ids : List S68} {rc : Bool} {rn : Int} {jb : Bool}
theorem walkL_append (r : List Mv) (l : List Mv) : ∀ t : Tk, walkL ids rc rn jb t (l ++ r) = if (walkL ids rc rn jb t l).word.length = t.word.length + l.length then walkL ids rc rn jb (walkL ids rc rn jb t l) r else walkL ids rc rn jb t l := by
 induction l with
 | nil => intro t; rw [walkL, if_pos (by simp)]; rfl
 | cons m ms ih =>
  intro t
  rw [List.cons_append, walkL, walkL]
  split
  ·rw [ih (t.say m), say_len, List.length_cons]
   have e : t.word.length + 1 + ms.length = t.word.length + (ms.length + 1) := by omega
   rw [e]
  rw [if_neg (by rw [List.length_cons]; omega)]
theorem mem_fidx (p : Mv → Bool) (xs : List Mv) : 0 ≤ fidx p xs ↔ ∃ x ∈ xs, p x = true := by
 have h := fidx_nonneg p xs
 constructor
 ·intro h0
  rw [decide_eq_true h0] at h
  exact List.any_eq_true.1 h.symm
 intro hx
 rw [List.any_eq_true.2 hx] at h
 exact of_decide_eq_true h
theorem hasR_mem {m : Mv} (h : hasR ids rc rn jb m = true) : m ∈ movesA ids rc rn jb := by
 obtain ⟨_, p, hp, hm⟩ := hasR_spot h
 rw [← find_spots] at hp
 exact List.mem_flatMap.2 ⟨p, List.mem_of_find?_eq_some hp, hm⟩
theorem mem_next {t : Tk} {m : Mv} (hc : checkE ids rn = 0) : m ∈ nextL jb t (movesA ids rc rn jb) ↔ t.may ids rc rn jb m = true := by
 unfold nextL Tk.may
 rw [List.mem_filter, hc]
 constructor
 ·rintro ⟨h1, h2⟩
  rw [movesA_has hc h1, h2]
  rfl
 intro h
 simp only [Bool.and_eq_true] at h
 exact ⟨hasR_mem h.1.2, h.2⟩
theorem find_next {t : Tk} {m : Mv} (hc : checkE ids rn = 0) : 0 ≤ fidx (fun x => eqM x m) (nextL jb t (movesA ids rc rn jb)) ↔ t.may ids rc rn jb m = true := by
 rw [mem_fidx, ← mem_next hc]
 constructor
 ·rintro ⟨x, hx, he⟩
  rw [← eqM_eq he]
  exact hx
 intro h
 exact ⟨m, h, eqM_refl m⟩
theorem tell_snoc {l : List Mv} {m : Mv} (hE : tellE ids rc rn jb l = 0) (hl : l.length ≤ 80) : tellE ids rc rn jb (l ++ [m]) = (if (talkL ids rc rn jb l).may ids rc rn jb m then 0 else 13) ∧ tellAt ids rc rn jb (l ++ [m]) = if (talkL ids rc rn jb l).may ids rc rn jb m then 0 else (l.length : Int) := by
 obtain ⟨h1, h2, h3⟩ := tellE_zero hE
 have hw := talk_all h3
 have ht : talkL ids rc rn jb (l ++ [m]) = if (talkL ids rc rn jb l).may ids rc rn jb m then (talkL ids rc rn jb l).say m else talkL ids rc rn jb l := by
  show walkL ids rc rn jb Tk.empty (l ++ [m]) = _
  rw [walkL_append, if_pos (by show (talkL ids rc rn jb l).word.length = _; rw [hw]; simp [Tk.empty]), walkL, walkL]
 have hlen : (l ++ [m]).length = l.length + 1 := by simp
 cases hm : (talkL ids rc rn jb l).may ids rc rn jb m with
 | true =>
  rw [hm, if_pos rfl] at ht
  have e : tellE ids rc rn jb (l ++ [m]) = 0 := tellE_ok h1 (by omega) (by rw [ht, say_len, hw, hlen]; omega)
  rw [if_pos rfl, if_pos rfl]
  exact ⟨e, tellAt_ok e⟩
 | false =>
  rw [hm, if_neg Bool.false_ne_true] at ht
  have e : tellE ids rc rn jb (l ++ [m]) = 13 := tellE_odd h1 (by omega) (by rw [ht, hw, hlen]; omega)
  rw [if_neg Bool.false_ne_true, if_neg Bool.false_ne_true]
  exact ⟨e, by rw [tellAt, if_pos e, ht, hw]⟩
end
end Go.Proofs.YtjgocihflhljeaaGreat.P
namespace Go.Proofs.YtjgocihflhljeaaGreat.P
open Go.RowKit Go.Shelf Go.Proofs.YtjgocihflhljeaaGreatW.PrintWords Go.Proofs.YtjgocihflhljeaaGreatW.PrintLast Go.Proofs.YtjgocihflhljeaaGreatW.PrintMore
attribute [local go_sem] Oper.semAt_some
def legalB (ids : List S68) (rc : Bool) (rn : Int) (jb : Bool) (l : List Mv) : Bool := thinA ids && (decide (l.length ≤ 80) && tellE ids rc rn jb l == 0)
theorem legal_of {ids : List S68} {rc : Bool} {rn : Int} {jb : Bool} {l : List Mv} (h : legalB ids rc rn jb l = true) : (ids.length ≤ 12 ∧ ∀ x ∈ ids, x.f0.length ≤ 8) ∧ l.length ≤ 80 ∧ tellE ids rc rn jb l = 0 := by
 unfold legalB at h
 simp only [Bool.and_eq_true, decide_eq_true_eq, beq_iff_eq] at h
 exact ⟨thinA_ids h.1, h.2.1, h.2.2⟩
section
variable {w W W' : World} {I : List (Option Addr × List S68)} {Y : List (Option Addr × List Mv)} {X : List (Option Addr × List Int)} {G : List (Nat × Array Value × TypeId)}
theorem Lw.popg {p : Nat × Array Value × TypeId} (h : Lw w W I Y X (p :: G)) : Lw w W I Y X G := ⟨h.b, h.i, h.y, h.x, fun q hq => h.g q (List.mem_cons_of_mem _ hq)⟩
theorem Lw.thinA (h : Lw w W I Y X G) {A : Option Addr} {c : Nat} {ids : List S68} (rc : Bool) (rn : Int) (jb : Bool) (hi : (A, ids) ∈ I) (hc : ids.length ≤ c) :
  Calls Tryz.prog 53 #[.agg #[.slice A ids.length c, .bool rc, .int .i64 rn, .bool jb]] W fun e w' => e = .returned (.bool (P.thinA ids)) ∧ Lw w w' I Y X G :=
 (ripostelaw04_Thin.calls 20 A c ids rc rn jb _ W (h.i _ hi) hc (thin04_f 20 (by omega) ids rc rn jb)).mono (by rintro e w' ⟨rfl, hb⟩; exact ⟨rfl, h.below hb⟩)
theorem Lw.find (h : Lw w W I Y X G) {A1 : Option Addr} {c1 : Nat} {l : List Mv} (hy : (A1, l) ∈ Y) (hc1 : l.length ≤ c1) (hl : l.length ≤ 1000000) (m : Mv) :
  Calls Tryz.prog 33 #[.slice A1 l.length c1, .agg #[.int .i64 m.f0, .int .i64 m.f1, .int .u8 m.f2, .int .i64 m.f3]] W fun e w' => e = .returned (.int .i64 (fidx (fun x => eqM x m) l)) ∧ Lw w w' I Y X G :=
 (riposteref04_Find.calls (l.length + 1) A1 c1 l m.f0 m.f1 m.f2 m.f3 _ W (h.y _ hy) hc1 (find_f m l hl _ (by omega))).mono (by rintro e w' ⟨rfl, hb⟩; exact ⟨rfl, h.below hb⟩)
theorem Lw.all (h : Lw w W I Y X G) {A : Option Addr} {c : Nat} {ids : List S68} (rc : Bool) (rn : Int) (jb : Bool) (hi : (A, ids) ∈ I) (hc : ids.length ≤ c) (hok : checkE ids rn = 0) :
  Calls Tryz.prog 31 #[.agg #[.slice A ids.length c, .bool rc, .int .i64 rn, .bool jb]] W fun e w' => ∃ B k, e = .returned (.slice B (movesA ids rc rn jb).length k) ∧ Lw w w' I Y X G :=
 (riposteref04_All.calls 200 A c ids rc rn jb _ W (h.i _ hi) hc (all_f hok rc jb)).mono (by
  rintro e w' ⟨v, rfl, hR, hb⟩
  obtain ⟨B, k, rfl, hk, hC⟩ := Kd.R_reads hR
  exact ⟨B, k, rfl, h.below hb⟩)
set_option maxHeartbeats 2000000 in
theorem Lw.legal (h : Lw w W I Y X G) {A A1 : Option Addr} {c c1 : Nat} {ids : List S68} {l : List Mv} (rc : Bool) (rn : Int) (jb : Bool) (hi : (A, ids) ∈ I) (hy : (A1, l) ∈ Y) (hc : ids.length ≤ c) :
  Calls Tryz.prog 30 #[.agg #[.slice A ids.length c, .bool rc, .int .i64 rn, .bool jb], .slice A1 l.length c1] W fun e w' => e = .returned (.bool (legalB ids rc rn jb l)) ∧ Lw w w' I Y X G := by
 have H0 := Aside0.mk (h.new #[.slice A ids.length c, .bool rc, .int .i64 rn, .bool jb] 26)
 have HI := Aside0.mk hi
 have HY := Aside0.mk hy
 clear h hi hy
 cases ht : P.thinA ids with
 | false =>
  have HT := Aside0.mk ht
  clear ht
  go_enter Tryz.func30, Tryz.ntmps30
  go_wp2_with (go_at_call 53; refine (H0.out.thinA rc rn jb HI.out hc).mono ?_; rw [HT.out]; rintro e w1 ⟨rfl, h1⟩; have H1 := Aside0.mk h1.popg; clear h1)
  go_ret
  exact ⟨by unfold legalB; rw [HT.out]; rfl, H1.out⟩
 | true =>
  have HT := Aside0.mk ht
  clear ht
  by_cases h80 : l.length ≤ 80
  ·have hz : decide ((80 : Int) < (l.length : Int)) = false := decide_eq_false (by omega)
   have hl : l.length ≤ 1000000 := by omega
   have H80 := Aside0.mk h80
   clear h80
   go_enter Tryz.func30, Tryz.ntmps30
   go_wp2_with (first
    | (go_at_call 53; refine (H0.out.thinA rc rn jb HI.out hc).mono ?_; rw [HT.out]; rintro e w1 ⟨rfl, h1⟩; have H1 := Aside0.mk h1; clear h1; have hg1 : W.heap.size < w1.heap.size := blk_lt (H1.out.g _ List.mem_cons_self); have a0 : w1.cell? ⟨W.heap.size, 0, none⟩ = some (.slice A ids.length c) := H1.out.cell List.mem_cons_self 0 rfl; have a1 : w1.cell? ⟨W.heap.size, 1, none⟩ = some (.bool rc) := H1.out.cell List.mem_cons_self 1 rfl; have a2 : w1.cell? ⟨W.heap.size, 2, none⟩ = some (.int .i64 rn) := H1.out.cell List.mem_cons_self 2 rfl; have a3 : w1.cell? ⟨W.heap.size, 3, none⟩ = some (.bool jb) := H1.out.cell List.mem_cons_self 3 rfl)
    | (go_at_call 20; refine (H1.out.rcheck rc rn jb HI.out HY.out hl hc).mono ?_; rintro e w2 ⟨rfl, h2⟩; have H2 := Aside0.mk h2.popg; clear h2))
   go_ret
   exact ⟨by unfold legalB; rw [HT.out, decide_eq_true H80.out]; rfl, H2.out⟩
  have hz : decide ((80 : Int) < (l.length : Int)) = true := decide_eq_true (by omega)
  have H80 := Aside0.mk h80
  clear h80
  go_enter Tryz.func30, Tryz.ntmps30
  go_wp2_with (go_at_call 53; refine (H0.out.thinA rc rn jb HI.out hc).mono ?_; rw [HT.out]; rintro e w1 ⟨rfl, h1⟩; have H1 := Aside0.mk h1.popg; clear h1)
  go_ret
  exact ⟨by unfold legalB; rw [HT.out, decide_eq_false H80.out]; rfl, H1.out⟩
end
end Go.Proofs.YtjgocihflhljeaaGreat.P
namespace Go.Proofs.YtjgocihflhljeaaGreat.P
open Go.RowKit Go.Shelf Go.Proofs.YtjgocihflhljeaaGreatW.PrintWords Go.Proofs.YtjgocihflhljeaaGreatW.PrintLast Go.Proofs.YtjgocihflhljeaaGreatW.PrintMore
attribute [local go_sem] Oper.semAt_some
theorem RM_app {W w1 : World} {n : Nat} {u : World} {v : Value} {xs : List Mv} (hR : RM W n v xs) (hb : Below n u W) (hs : n ≤ W.heap.size) (hg : W.grownBy w1 v.ownBlock) : Below n u w1 :=
 below_grown hb hg (fun k hk => by obtain ⟨i, ho⟩ := Kd.R_own hR; exact own_base ho k hk) hs
set_option maxRecDepth 8000 in
set_option maxHeartbeats 8000000 in
theorem playLegal_any (A : Option Addr) (c : Nat) (ids : List S68) (rc : Bool) (rn : Int) (jb : Bool) (A1 : Option Addr) (c1 : Nat) (l : List Mv) (m : Mv) (w : World) (hr : Kd.C k68 w A ids.length ids) (hlc : ids.length ≤ c) (hr1 : Kd.C k52 w A1 l.length l) (hlc1 : l.length ≤ c1) :
  Calls Tryz.prog 6 #[.agg #[.slice A ids.length c, .bool rc, .int .i64 rn, .bool jb], .slice A1 l.length c1, .agg #[.int .i64 m.f0, .int .i64 m.f1, .int .u8 m.f2, .int .i64 m.f3]] w fun e w' => e = .returned (.bool true) ∧ Below w.heap.size w w' := by
 have h0 := (Lw.start hr hr1).new #[.slice A ids.length c, .bool rc, .int .i64 rn, .bool jb] 26
 have h00 := h0.new #[.int .i64 m.f0, .int .i64 m.f1, .int .u8 m.f2, .int .i64 m.f3] 52
 rw [World.size_alloc] at h00
 have H0 := Aside0.mk h00
 clear h0 h00 hr hr1
 cases ht : legalB ids rc rn jb l with
 | false =>
  have HT := Aside0.mk ht
  clear ht
  go_enter Tryz.func6, Tryz.ntmps6
  go_wp2_with (first
   | (go_at_call 30; refine (H0.out.legal rc rn jb List.mem_cons_self List.mem_cons_self hlc).mono ?_; rw [HT.out]; rintro e w1 ⟨rfl, h1⟩; have H1 := Aside0.mk h1; clear h1; have hg1 : w.heap.size < w1.heap.size := blk_lt (H1.out.g _ (List.mem_cons_of_mem _ List.mem_cons_self)); have hgm1 : w.heap.size + 1 < w1.heap.size := blk_lt (H1.out.g _ List.mem_cons_self); have a0 : w1.cell? ⟨w.heap.size, 0, none⟩ = some (.slice A ids.length c) := H1.out.cell (List.mem_cons_of_mem _ List.mem_cons_self) 0 rfl; have a1 : w1.cell? ⟨w.heap.size, 1, none⟩ = some (.bool rc) := H1.out.cell (List.mem_cons_of_mem _ List.mem_cons_self) 1 rfl; have a2 : w1.cell? ⟨w.heap.size, 2, none⟩ = some (.int .i64 rn) := H1.out.cell (List.mem_cons_of_mem _ List.mem_cons_self) 2 rfl; have a3 : w1.cell? ⟨w.heap.size, 3, none⟩ = some (.bool jb) := H1.out.cell (List.mem_cons_of_mem _ List.mem_cons_self) 3 rfl)
   | (go_at_call 15; refine H1.out.awake.mono ?_; rintro e w2 ⟨rfl, h2⟩))
  go_ret
  exact ⟨rfl, h2.b⟩
 | true =>
  have HT := Aside0.mk ht
  obtain ⟨ht8', hl80, hE⟩ := legal_of ht
  have ht8 := Aside0.mk ht8'
  have hlx : l.length ≤ 1000000 := by omega
  have HOK := Aside0.mk (tellE_zero hE).1
  have hml := movesA_len (tellE_zero hE).1 rc jb
  obtain ⟨mz, hmz⟩ : ∃ mz, (movesA ids rc rn jb).length = mz := ⟨_, rfl⟩
  rw [hmz] at hml
  have HMZ := Aside0.mk hmz
  clear ht ht8' hmz
  by_cases h3 : 300 < mz
  ·have hz : (300 : Int) < (mz : Int) := by omega
   clear hE
   go_enter Tryz.func6, Tryz.ntmps6
   go_wp2_with (first
    | (go_at_call 30; refine (H0.out.legal rc rn jb List.mem_cons_self List.mem_cons_self hlc).mono ?_; rw [HT.out]; rintro e w1 ⟨rfl, h1⟩; have H1 := Aside0.mk h1; clear h1; have hg1 : w.heap.size < w1.heap.size := blk_lt (H1.out.g _ (List.mem_cons_of_mem _ List.mem_cons_self)); have hgm1 : w.heap.size + 1 < w1.heap.size := blk_lt (H1.out.g _ List.mem_cons_self); have a0 : w1.cell? ⟨w.heap.size, 0, none⟩ = some (.slice A ids.length c) := H1.out.cell (List.mem_cons_of_mem _ List.mem_cons_self) 0 rfl; have a1 : w1.cell? ⟨w.heap.size, 1, none⟩ = some (.bool rc) := H1.out.cell (List.mem_cons_of_mem _ List.mem_cons_self) 1 rfl; have a2 : w1.cell? ⟨w.heap.size, 2, none⟩ = some (.int .i64 rn) := H1.out.cell (List.mem_cons_of_mem _ List.mem_cons_self) 2 rfl; have a3 : w1.cell? ⟨w.heap.size, 3, none⟩ = some (.bool jb) := H1.out.cell (List.mem_cons_of_mem _ List.mem_cons_self) 3 rfl)
    | ((go_at_call 31; refine (H1.out.all rc rn jb List.mem_cons_self hlc HOK.out).mono ?_; rintro e w2 ⟨Bz, kz, rfl, h2⟩; have H2 := Aside0.mk h2; clear h2; have hgo2 := And.intro (blk_lt (H2.out.g _ List.mem_cons_self)) (blk_lt (H2.out.g _ (List.mem_cons_of_mem _ List.mem_cons_self)))); rw [HMZ.out])
    | (go_at_call 15; refine H2.out.awake.mono ?_; rintro e w3 ⟨rfl, h3⟩))
   go_ret
   exact ⟨rfl, h3.b⟩
  have hz : decide ((300 : Int) < (mz : Int)) = false := decide_eq_false (by omega)
  have HE := Aside0.mk hE
  have hnl := nextL_le jb (talkL ids rc rn jb l) (movesA ids rc rn jb)
  rw [HMZ.out] at hnl
  have HSN := Aside0.mk (tell_snoc (m := m) hE hl80)
  have HFN := Aside0.mk (find_next (t := (talkL ids rc rn jb l)) (m := m) (jb := jb) (rc := rc) HOK.out)
  obtain ⟨nx, hnx⟩ : ∃ nx, nextL jb (talkL ids rc rn jb l) (movesA ids rc rn jb) = nx := ⟨_, rfl⟩
  rw [hnx] at hnl HFN
  have HNX := Aside0.mk (show okL (tellE ids rc rn jb l) (nextL jb (talkL ids rc rn jb l) (movesA ids rc rn jb)) = nx by rw [okL_ok _ hE, hnx])
  clear hE hnx h3
  go_enter Tryz.func6, Tryz.ntmps6
  go_upto_region 3 with (first
   | (go_at_call 30; refine (H0.out.legal rc rn jb List.mem_cons_self List.mem_cons_self hlc).mono ?_; rw [HT.out]; rintro e w1 ⟨rfl, h1⟩; have H1 := Aside0.mk h1; clear h1; have hg1 : w.heap.size < w1.heap.size := blk_lt (H1.out.g _ (List.mem_cons_of_mem _ List.mem_cons_self)); have hgm1 : w.heap.size + 1 < w1.heap.size := blk_lt (H1.out.g _ List.mem_cons_self); have a0 : w1.cell? ⟨w.heap.size, 0, none⟩ = some (.slice A ids.length c) := H1.out.cell (List.mem_cons_of_mem _ List.mem_cons_self) 0 rfl; have a1 : w1.cell? ⟨w.heap.size, 1, none⟩ = some (.bool rc) := H1.out.cell (List.mem_cons_of_mem _ List.mem_cons_self) 1 rfl; have a2 : w1.cell? ⟨w.heap.size, 2, none⟩ = some (.int .i64 rn) := H1.out.cell (List.mem_cons_of_mem _ List.mem_cons_self) 2 rfl; have a3 : w1.cell? ⟨w.heap.size, 3, none⟩ = some (.bool jb) := H1.out.cell (List.mem_cons_of_mem _ List.mem_cons_self) 3 rfl)
   | ((go_at_call 31; refine (H1.out.all rc rn jb List.mem_cons_self hlc HOK.out).mono ?_; rintro e w2 ⟨Bz, kz, rfl, h2⟩; have H2 := Aside0.mk h2; clear h2; have hgo2 := And.intro (blk_lt (H2.out.g _ List.mem_cons_self)) (blk_lt (H2.out.g _ (List.mem_cons_of_mem _ List.mem_cons_self)))); rw [HMZ.out]))
  clear a0 a1 a2 a3 hg1 hgm1 H1 H0
  have hg2 : w.heap.size < w2.heap.size := hgo2.2
  have a0 : w2.cell? ⟨w.heap.size, 0, none⟩ = some (.slice A ids.length c) := H2.out.cell (List.mem_cons_of_mem _ List.mem_cons_self) 0 rfl; have a1 : w2.cell? ⟨w.heap.size, 1, none⟩ = some (.bool rc) := H2.out.cell (List.mem_cons_of_mem _ List.mem_cons_self) 1 rfl; have a2 : w2.cell? ⟨w.heap.size, 2, none⟩ = some (.int .i64 rn) := H2.out.cell (List.mem_cons_of_mem _ List.mem_cons_self) 2 rfl; have a3 : w2.cell? ⟨w.heap.size, 3, none⟩ = some (.bool jb) := H2.out.cell (List.mem_cons_of_mem _ List.mem_cons_self) 3 rfl
  go_upto_region 4 with (first
   | (go_at_call 16; refine (H2.out.copyA rc rn jb List.mem_cons_self hlc ht8.out).mono ?_; rintro e w3 ⟨B3, k3, rfl, hk3, h3⟩; have H3 := Aside0.mk h3; clear h3)
   | (go_at_call 17; refine (H3.out.copyW List.mem_cons_self hlc1 hlx).mono ?_; rintro e w4 ⟨B4, k4, rfl, hk4, h4⟩; have H4 := Aside0.mk h4; clear h4)
   | (go_at_call 32; refine (H4.out.next rc rn jb List.mem_cons_self List.mem_cons_self hlx).mono ?_; rw [HNX.out, HE.out]; rintro e w5 ⟨B5, k5, rfl, hk5, h5⟩; have H5 := Aside0.mk h5.popi; clear h5 H3 H4))
  have Hd0 := Aside0.mk (H5.out.below ((Below.refl _ w5).drew))
  clear a0 a1 a2 a3 hg2 hgo2 H2 H5
  refine start_ (n := 13) (S := fun w' => w'.cell? ⟨w.heap.size, 0, none⟩ = some (.slice A ids.length c) ∧ w'.cell? ⟨w.heap.size, 1, none⟩ = some (.bool rc) ∧ w'.cell? ⟨w.heap.size, 2, none⟩ = some (.int .i64 rn) ∧ w'.cell? ⟨w.heap.size, 3, none⟩ = some (.bool jb) ∧ w'.cell? ⟨w.heap.size + 1, 0, none⟩ = some (.int .i64 m.f0) ∧ w'.cell? ⟨w.heap.size + 1, 1, none⟩ = some (.int .i64 m.f1) ∧ w'.cell? ⟨w.heap.size + 1, 2, none⟩ = some (.int .u8 m.f2) ∧ w'.cell? ⟨w.heap.size + 1, 3, none⟩ = some (.int .i64 m.f3)) (ds := []) #[ff,ff,ff,ff,ff,ff,ff,ff,ff,ff,ff,ff,ff] (by kernel_rfl) rfl rfl ⟨(Hd0.out).cell (List.mem_cons_of_mem _ List.mem_cons_self) 0 rfl, (Hd0.out).cell (List.mem_cons_of_mem _ List.mem_cons_self) 1 rfl, (Hd0.out).cell (List.mem_cons_of_mem _ List.mem_cons_self) 2 rfl, (Hd0.out).cell (List.mem_cons_of_mem _ List.mem_cons_self) 3 rfl, (Hd0.out).cell List.mem_cons_self 0 rfl, (Hd0.out).cell List.mem_cons_self 1 rfl, (Hd0.out).cell List.mem_cons_self 2 rfl, (Hd0.out).cell List.mem_cons_self 3 rfl⟩ (fun hHeld => ?_)
  generalize w5.drew = wd at Hd0 hHeld ⊢
  refine pure_ (i := 2) (N := some 33) (v := ?_) (a' := ?_) #[ff,ff,tt,ff,ff,ff,ff,ff,ff,ff,ff,ff,ff] rfl rfl (by kernel_rfl) (fun _ _ _ h => h) (Or.inl ⟨by rfl, ?_⟩) ?_ ?_
  rotate_left
  ·intro w'
   go_simp
   with_reducible rfl
  rotate_left
  ·simp only [Act.put, sn1, sn2, sn3, i64_w]
   rfl
  refine take_ (i := 0) (N := some 31) (v := ?_) (a' := ?_) #[tt,ff,tt,ff,ff,ff,ff,ff,ff,ff,ff,ff,ff] rfl rfl (by kernel_rfl) (fun _ _ _ h => h) (Or.inl ⟨by rfl, ?_⟩) hHeld ?_ ?_
  rotate_left
  ·rintro w' ⟨s0, s1, s2, s3, s4, s5, s6, s7⟩
   go_simp
   with_reducible rfl
  rotate_left
  ·simp only [Act.put, sn1, sn2, sn3, i64_w]
   rfl
  refine take_ (i := 4) (N := some 35) (v := ?_) (a' := ?_) #[tt,ff,tt,ff,tt,ff,ff,ff,ff,ff,ff,ff,ff] rfl rfl (by kernel_rfl) (fun _ _ _ h => h) (Or.inl ⟨by rfl, ?_⟩) hHeld ?_ ?_
  rotate_left
  ·rintro w' ⟨s0, s1, s2, s3, s4, s5, s6, s7⟩
   go_simp
   with_reducible rfl
  rotate_left
  ·simp only [Act.put, sn1, sn2, sn3, i64_w]
   rfl
  refine join_ (σ := (Option Addr × Nat) × (Option Addr × Nat) × Nat) 7 #[tt,tt,tt,tt,tt,tt,ff,ff,ff,ff,ff,ff,ff] (fun s => [(32, .agg #[.slice s.1.1 ids.length s.1.2, .bool rc, .int .i64 rn, .bool jb]), (34, .slice s.2.1.1 l.length s.2.1.2), (36, .slice (some ⟨s.2.2, 0, none⟩) 1 1)]) (fun s w' => ∃ u, Lw w u [(s.1.1, ids), (A, ids)] [(B5, nx), (B4, l), (A1, l)] [] [(w.heap.size + 1, #[.int .i64 m.f0, .int .i64 m.f1, .int .u8 m.f2, .int .i64 m.f3], 52), (w.heap.size, #[.slice A ids.length c, .bool rc, .int .i64 rn, .bool jb], 26)] ∧ ids.length ≤ s.1.2 ∧ Below u.heap.size u w' ∧ RM w' u.heap.size (.slice s.2.1.1 l.length s.2.1.2) l ∧ w'.heap[s.2.2]? = some (.cells #[.int .i64 m.f0, .int .i64 m.f1, .int .u8 m.f2, .int .i64 m.f3] 52 (0, 0)) ∧ some s.2.2 ≠ (Value.slice s.2.1.1 l.length s.2.1.2).ownBlock) ?_ ?_
  rotate_left
  ·intro hCont
   refine two_ (i := 1) (j := 5) (Ni := some 32) (Nj := some 36) #[tt,tt,tt,ff,tt,ff,ff,ff,ff,ff,ff,ff,ff] #[tt,ff,tt,ff,tt,tt,ff,ff,ff,ff,ff,ff,ff] rfl rfl rfl rfl (by kernel_rfl) (by decide) (by decide) (fun K hK => ?_) (fun K hK => ?_)
   ·skip
    refine goes_ Tryz.func16 (by kernel_rfl) rfl #[.agg #[.slice A ids.length c, .bool rc, .int .i64 rn, .bool jb]] (by rfl) rfl rfl (by simp only [List.map_toArray, List.map_cons, List.map_nil]; rfl) ?_
    with_reducible refine ((Hd0.out).copyA rc rn jb List.mem_cons_self hlc ht8.out).mono ?_
    rintro e w2a ⟨B2, kb2, rfl, hkb2, h2⟩
    refine ⟨_, rfl, ?_⟩
    have H2 := Aside0.mk h2
    clear h2
    refine hK.out _ _ ⟨(H2.out).cell (List.mem_cons_of_mem _ List.mem_cons_self) 0 rfl, (H2.out).cell (List.mem_cons_of_mem _ List.mem_cons_self) 1 rfl, (H2.out).cell (List.mem_cons_of_mem _ List.mem_cons_self) 2 rfl, (H2.out).cell (List.mem_cons_of_mem _ List.mem_cons_self) 3 rfl, (H2.out).cell List.mem_cons_self 0 rfl, (H2.out).cell List.mem_cons_self 1 rfl, (H2.out).cell List.mem_cons_self 2 rfl, (H2.out).cell List.mem_cons_self 3 rfl⟩ (fun hHeld => ?_)
    clear hK K
    refine norm_ (a' := ?_) ?_ ?_
    rotate_left
    ·show Act.put _ (some 32) _ = _
     simp only [Act.put, sn1, sn2, sn3, i64_w]
     rfl
    refine two_ (i := 3) (j := 5) (Ni := some 34) (Nj := some 36) #[tt,tt,tt,tt,tt,ff,ff,ff,ff,ff,ff,ff,ff] #[tt,tt,tt,ff,tt,tt,ff,ff,ff,ff,ff,ff,ff] rfl rfl rfl rfl (by kernel_rfl) (by decide) (by decide) (fun K hK => ?_) (fun K hK => ?_)
    ·skip
     refine goes_ Tryz.func17 (by kernel_rfl) rfl #[.slice A1 l.length c1] (by rfl) rfl rfl (by simp only [List.map_toArray, List.map_cons, List.map_nil]; rfl) ?_
     with_reducible refine (riposteref05_Copy.calls A1 c1 l l _ ((H2.out).y _ (List.mem_cons_of_mem _ (List.mem_cons_of_mem _ List.mem_cons_self))) hlc1 (copyW_f l hlx)).mono ?_
     rintro e w3a ⟨v3, rfl, hR3, hb3⟩
     refine ⟨_, rfl, ?_⟩
     obtain ⟨C3, kc3, rfl⟩ := Kd.R_slice hR3
     have H3 := Aside0.mk ((H2.out).below hb3)
     refine hK.out _ _ ⟨(H3.out).cell (List.mem_cons_of_mem _ List.mem_cons_self) 0 rfl, (H3.out).cell (List.mem_cons_of_mem _ List.mem_cons_self) 1 rfl, (H3.out).cell (List.mem_cons_of_mem _ List.mem_cons_self) 2 rfl, (H3.out).cell (List.mem_cons_of_mem _ List.mem_cons_self) 3 rfl, (H3.out).cell List.mem_cons_self 0 rfl, (H3.out).cell List.mem_cons_self 1 rfl, (H3.out).cell List.mem_cons_self 2 rfl, (H3.out).cell List.mem_cons_self 3 rfl⟩ (fun hHeld => ?_)
     clear hK K
     refine norm_ (a' := ?_) ?_ ?_
     rotate_left
     ·show Act.put _ (some 34) _ = _
      simp only [Act.put, sn1, sn2, sn3, i64_w]
      rfl
     refine one_ (i := 5) (N := some 36) #[tt,tt,tt,tt,tt,tt,ff,ff,ff,ff,ff,ff,ff] rfl rfl (by kernel_rfl) (by decide) (fun K hK => ?_)
     refine value_ (w1 := ?_) (v := ?_) (by rfl) rfl ?_ ?_
     rotate_left 2
     ·go_simp
      constructor
      ·rfl
      rfl
     refine hK.out _ _ ⟨(((H3.out).below ((Below.refl _ w3a).alloc (Nat.le_refl _) (.cells #[.int .i64 m.f0, .int .i64 m.f1, .int .u8 m.f2, .int .i64 m.f3] 52)))).cell (List.mem_cons_of_mem _ List.mem_cons_self) 0 rfl, (((H3.out).below ((Below.refl _ w3a).alloc (Nat.le_refl _) (.cells #[.int .i64 m.f0, .int .i64 m.f1, .int .u8 m.f2, .int .i64 m.f3] 52)))).cell (List.mem_cons_of_mem _ List.mem_cons_self) 1 rfl, (((H3.out).below ((Below.refl _ w3a).alloc (Nat.le_refl _) (.cells #[.int .i64 m.f0, .int .i64 m.f1, .int .u8 m.f2, .int .i64 m.f3] 52)))).cell (List.mem_cons_of_mem _ List.mem_cons_self) 2 rfl, (((H3.out).below ((Below.refl _ w3a).alloc (Nat.le_refl _) (.cells #[.int .i64 m.f0, .int .i64 m.f1, .int .u8 m.f2, .int .i64 m.f3] 52)))).cell (List.mem_cons_of_mem _ List.mem_cons_self) 3 rfl, (((H3.out).below ((Below.refl _ w3a).alloc (Nat.le_refl _) (.cells #[.int .i64 m.f0, .int .i64 m.f1, .int .u8 m.f2, .int .i64 m.f3] 52)))).cell List.mem_cons_self 0 rfl, (((H3.out).below ((Below.refl _ w3a).alloc (Nat.le_refl _) (.cells #[.int .i64 m.f0, .int .i64 m.f1, .int .u8 m.f2, .int .i64 m.f3] 52)))).cell List.mem_cons_self 1 rfl, (((H3.out).below ((Below.refl _ w3a).alloc (Nat.le_refl _) (.cells #[.int .i64 m.f0, .int .i64 m.f1, .int .u8 m.f2, .int .i64 m.f3] 52)))).cell List.mem_cons_self 2 rfl, (((H3.out).below ((Below.refl _ w3a).alloc (Nat.le_refl _) (.cells #[.int .i64 m.f0, .int .i64 m.f1, .int .u8 m.f2, .int .i64 m.f3] 52)))).cell List.mem_cons_self 3 rfl⟩ (fun hHeld => ?_)
     clear hK K
     refine norm_ (a' := ?_) ?_ ?_
     rotate_left
     ·show Act.put _ (some 36) _ = _
      simp only [Act.put, sn1, sn2, sn3, i64_w]
      rfl
     exact norm_ (by simp only [putAll, Act.put, sn1, sn2, sn3]) (hCont ((B2, kb2), (C3, kc3), w3a.heap.size) _ ⟨w2a, H2.out, hkb2, hb3.alloc hb3.size _, Kd.R_alloc hR3 _, heap_alloc_new w3a _, fun e => by obtain ⟨i, ho⟩ := Kd.R_own hR3; have := own_lt ho w3a.heap.size e.symm; omega⟩)
    skip
    refine value_ (w1 := ?_) (v := ?_) (by rfl) rfl ?_ ?_
    rotate_left 2
    ·go_simp
     constructor
     ·rfl
     rfl
    refine hK.out _ _ ⟨(((H2.out).below ((Below.refl _ w2a).alloc (Nat.le_refl _) (.cells #[.int .i64 m.f0, .int .i64 m.f1, .int .u8 m.f2, .int .i64 m.f3] 52)))).cell (List.mem_cons_of_mem _ List.mem_cons_self) 0 rfl, (((H2.out).below ((Below.refl _ w2a).alloc (Nat.le_refl _) (.cells #[.int .i64 m.f0, .int .i64 m.f1, .int .u8 m.f2, .int .i64 m.f3] 52)))).cell (List.mem_cons_of_mem _ List.mem_cons_self) 1 rfl, (((H2.out).below ((Below.refl _ w2a).alloc (Nat.le_refl _) (.cells #[.int .i64 m.f0, .int .i64 m.f1, .int .u8 m.f2, .int .i64 m.f3] 52)))).cell (List.mem_cons_of_mem _ List.mem_cons_self) 2 rfl, (((H2.out).below ((Below.refl _ w2a).alloc (Nat.le_refl _) (.cells #[.int .i64 m.f0, .int .i64 m.f1, .int .u8 m.f2, .int .i64 m.f3] 52)))).cell (List.mem_cons_of_mem _ List.mem_cons_self) 3 rfl, (((H2.out).below ((Below.refl _ w2a).alloc (Nat.le_refl _) (.cells #[.int .i64 m.f0, .int .i64 m.f1, .int .u8 m.f2, .int .i64 m.f3] 52)))).cell List.mem_cons_self 0 rfl, (((H2.out).below ((Below.refl _ w2a).alloc (Nat.le_refl _) (.cells #[.int .i64 m.f0, .int .i64 m.f1, .int .u8 m.f2, .int .i64 m.f3] 52)))).cell List.mem_cons_self 1 rfl, (((H2.out).below ((Below.refl _ w2a).alloc (Nat.le_refl _) (.cells #[.int .i64 m.f0, .int .i64 m.f1, .int .u8 m.f2, .int .i64 m.f3] 52)))).cell List.mem_cons_self 2 rfl, (((H2.out).below ((Below.refl _ w2a).alloc (Nat.le_refl _) (.cells #[.int .i64 m.f0, .int .i64 m.f1, .int .u8 m.f2, .int .i64 m.f3] 52)))).cell List.mem_cons_self 3 rfl⟩ (fun hHeld => ?_)
    clear hK K
    refine norm_ (a' := ?_) ?_ ?_
    rotate_left
    ·show Act.put _ (some 36) _ = _
     simp only [Act.put, sn1, sn2, sn3, i64_w]
     rfl
    refine one_ (i := 3) (N := some 34) #[tt,tt,tt,tt,tt,tt,ff,ff,ff,ff,ff,ff,ff] rfl rfl (by kernel_rfl) (by decide) (fun K hK => ?_)
    refine goes_ Tryz.func17 (by kernel_rfl) rfl #[.slice A1 l.length c1] (by rfl) rfl rfl (by simp only [List.map_toArray, List.map_cons, List.map_nil]; rfl) ?_
    with_reducible refine (riposteref05_Copy.calls A1 c1 l l _ ((((H2.out).below ((Below.refl _ w2a).alloc (Nat.le_refl _) (.cells #[.int .i64 m.f0, .int .i64 m.f1, .int .u8 m.f2, .int .i64 m.f3] 52)))).y _ (List.mem_cons_of_mem _ (List.mem_cons_of_mem _ List.mem_cons_self))) hlc1 (copyW_f l hlx)).mono ?_
    rintro e w3a ⟨v3, rfl, hR3, hb3⟩
    refine ⟨_, rfl, ?_⟩
    obtain ⟨C3, kc3, rfl⟩ := Kd.R_slice hR3
    have H3 := Aside0.mk ((((H2.out).below ((Below.refl _ w2a).alloc (Nat.le_refl _) (.cells #[.int .i64 m.f0, .int .i64 m.f1, .int .u8 m.f2, .int .i64 m.f3] 52)))).below hb3)
    refine hK.out _ _ ⟨(H3.out).cell (List.mem_cons_of_mem _ List.mem_cons_self) 0 rfl, (H3.out).cell (List.mem_cons_of_mem _ List.mem_cons_self) 1 rfl, (H3.out).cell (List.mem_cons_of_mem _ List.mem_cons_self) 2 rfl, (H3.out).cell (List.mem_cons_of_mem _ List.mem_cons_self) 3 rfl, (H3.out).cell List.mem_cons_self 0 rfl, (H3.out).cell List.mem_cons_self 1 rfl, (H3.out).cell List.mem_cons_self 2 rfl, (H3.out).cell List.mem_cons_self 3 rfl⟩ (fun hHeld => ?_)
    clear hK K
    refine norm_ (a' := ?_) ?_ ?_
    rotate_left
    ·show Act.put _ (some 34) _ = _
     simp only [Act.put, sn1, sn2, sn3, i64_w]
     rfl
    exact norm_ (by simp only [putAll, Act.put, sn1, sn2, sn3]) (hCont ((B2, kb2), (C3, kc3), w2a.heap.size) _ ⟨w2a.alloc (.cells #[.int .i64 m.f0, .int .i64 m.f1, .int .u8 m.f2, .int .i64 m.f3] 52), H2.out.below ((Below.refl _ w2a).alloc (Nat.le_refl _) _), hkb2, hb3, hR3, (hb3.block _ (by simp)).trans (heap_alloc_new w2a _), fun e => by obtain ⟨i, ho⟩ := Kd.R_own hR3; have := own_base ho w2a.heap.size e.symm; simp at this; omega⟩)
   skip
   refine value_ (w1 := ?_) (v := ?_) (by rfl) rfl ?_ ?_
   rotate_left 2
   ·go_simp
    constructor
    ·rfl
    rfl
   refine hK.out _ _ ⟨(((Hd0.out).below ((Below.refl _ wd).alloc (Nat.le_refl _) (.cells #[.int .i64 m.f0, .int .i64 m.f1, .int .u8 m.f2, .int .i64 m.f3] 52)))).cell (List.mem_cons_of_mem _ List.mem_cons_self) 0 rfl, (((Hd0.out).below ((Below.refl _ wd).alloc (Nat.le_refl _) (.cells #[.int .i64 m.f0, .int .i64 m.f1, .int .u8 m.f2, .int .i64 m.f3] 52)))).cell (List.mem_cons_of_mem _ List.mem_cons_self) 1 rfl, (((Hd0.out).below ((Below.refl _ wd).alloc (Nat.le_refl _) (.cells #[.int .i64 m.f0, .int .i64 m.f1, .int .u8 m.f2, .int .i64 m.f3] 52)))).cell (List.mem_cons_of_mem _ List.mem_cons_self) 2 rfl, (((Hd0.out).below ((Below.refl _ wd).alloc (Nat.le_refl _) (.cells #[.int .i64 m.f0, .int .i64 m.f1, .int .u8 m.f2, .int .i64 m.f3] 52)))).cell (List.mem_cons_of_mem _ List.mem_cons_self) 3 rfl, (((Hd0.out).below ((Below.refl _ wd).alloc (Nat.le_refl _) (.cells #[.int .i64 m.f0, .int .i64 m.f1, .int .u8 m.f2, .int .i64 m.f3] 52)))).cell List.mem_cons_self 0 rfl, (((Hd0.out).below ((Below.refl _ wd).alloc (Nat.le_refl _) (.cells #[.int .i64 m.f0, .int .i64 m.f1, .int .u8 m.f2, .int .i64 m.f3] 52)))).cell List.mem_cons_self 1 rfl, (((Hd0.out).below ((Below.refl _ wd).alloc (Nat.le_refl _) (.cells #[.int .i64 m.f0, .int .i64 m.f1, .int .u8 m.f2, .int .i64 m.f3] 52)))).cell List.mem_cons_self 2 rfl, (((Hd0.out).below ((Below.refl _ wd).alloc (Nat.le_refl _) (.cells #[.int .i64 m.f0, .int .i64 m.f1, .int .u8 m.f2, .int .i64 m.f3] 52)))).cell List.mem_cons_self 3 rfl⟩ (fun hHeld => ?_)
   clear hK K
   refine norm_ (a' := ?_) ?_ ?_
   rotate_left
   ·show Act.put _ (some 36) _ = _
    simp only [Act.put, sn1, sn2, sn3, i64_w]
    rfl
   refine one_ (i := 1) (N := some 32) #[tt,tt,tt,ff,tt,tt,ff,ff,ff,ff,ff,ff,ff] rfl rfl (by kernel_rfl) (by decide) (fun K hK => ?_)
   refine goes_ Tryz.func16 (by kernel_rfl) rfl #[.agg #[.slice A ids.length c, .bool rc, .int .i64 rn, .bool jb]] (by rfl) rfl rfl (by simp only [List.map_toArray, List.map_cons, List.map_nil]; rfl) ?_
   with_reducible refine (((Hd0.out.new #[.int .i64 m.f0, .int .i64 m.f1, .int .u8 m.f2, .int .i64 m.f3] 52)).copyA rc rn jb List.mem_cons_self hlc ht8.out).mono ?_
   rintro e w2a ⟨B2, kb2, rfl, hkb2, h2⟩
   refine ⟨_, rfl, ?_⟩
   have hwd2 : w2a.heap[wd.heap.size]? = some (.cells #[.int .i64 m.f0, .int .i64 m.f1, .int .u8 m.f2, .int .i64 m.f3] 52 (0, 0)) := h2.g _ List.mem_cons_self
   have hsd2 : wd.heap.size < w2a.heap.size := blk_lt hwd2
   have H2 := Aside0.mk h2.popg
   clear h2
   refine hK.out _ _ ⟨(H2.out).cell (List.mem_cons_of_mem _ List.mem_cons_self) 0 rfl, (H2.out).cell (List.mem_cons_of_mem _ List.mem_cons_self) 1 rfl, (H2.out).cell (List.mem_cons_of_mem _ List.mem_cons_self) 2 rfl, (H2.out).cell (List.mem_cons_of_mem _ List.mem_cons_self) 3 rfl, (H2.out).cell List.mem_cons_self 0 rfl, (H2.out).cell List.mem_cons_self 1 rfl, (H2.out).cell List.mem_cons_self 2 rfl, (H2.out).cell List.mem_cons_self 3 rfl⟩ (fun hHeld => ?_)
   clear hK K
   refine norm_ (a' := ?_) ?_ ?_
   rotate_left
   ·show Act.put _ (some 32) _ = _
    simp only [Act.put, sn1, sn2, sn3, i64_w]
    rfl
   refine one_ (i := 3) (N := some 34) #[tt,tt,tt,tt,tt,tt,ff,ff,ff,ff,ff,ff,ff] rfl rfl (by kernel_rfl) (by decide) (fun K hK => ?_)
   refine goes_ Tryz.func17 (by kernel_rfl) rfl #[.slice A1 l.length c1] (by rfl) rfl rfl (by simp only [List.map_toArray, List.map_cons, List.map_nil]; rfl) ?_
   with_reducible refine (riposteref05_Copy.calls A1 c1 l l _ ((H2.out).y _ (List.mem_cons_of_mem _ (List.mem_cons_of_mem _ List.mem_cons_self))) hlc1 (copyW_f l hlx)).mono ?_
   rintro e w3a ⟨v3, rfl, hR3, hb3⟩
   refine ⟨_, rfl, ?_⟩
   obtain ⟨C3, kc3, rfl⟩ := Kd.R_slice hR3
   have H3 := Aside0.mk ((H2.out).below hb3)
   refine hK.out _ _ ⟨(H3.out).cell (List.mem_cons_of_mem _ List.mem_cons_self) 0 rfl, (H3.out).cell (List.mem_cons_of_mem _ List.mem_cons_self) 1 rfl, (H3.out).cell (List.mem_cons_of_mem _ List.mem_cons_self) 2 rfl, (H3.out).cell (List.mem_cons_of_mem _ List.mem_cons_self) 3 rfl, (H3.out).cell List.mem_cons_self 0 rfl, (H3.out).cell List.mem_cons_self 1 rfl, (H3.out).cell List.mem_cons_self 2 rfl, (H3.out).cell List.mem_cons_self 3 rfl⟩ (fun hHeld => ?_)
   clear hK K
   refine norm_ (a' := ?_) ?_ ?_
   rotate_left
   ·show Act.put _ (some 34) _ = _
    simp only [Act.put, sn1, sn2, sn3, i64_w]
    rfl
   exact norm_ (by simp only [putAll, Act.put, sn1, sn2, sn3]) (hCont ((B2, kb2), (C3, kc3), wd.heap.size) _ ⟨w2a, H2.out, hkb2, hb3, hR3, (hb3.block _ hsd2).trans hwd2, fun e => by obtain ⟨i, ho⟩ := Kd.R_own hR3; have := own_base ho wd.heap.size e.symm; omega⟩)
  rintro ⟨⟨B2, kb2⟩, ⟨C3, kc3⟩, sb⟩ w3b ⟨u, hU, hkb2, hBU, hRW, hSB, hNE⟩
  have HU := Aside0.mk hU
  have HBU := Aside0.mk hBU
  have HRW := Aside0.mk hRW
  have HSB := Aside0.mk hSB
  have HNE := Aside0.mk hNE
  clear hU hBU hRW hSB hNE
  have HUB := Aside0.mk (HU.out.below HBU.out)
  have hHeld : w3b.cell? ⟨w.heap.size, 0, none⟩ = some (.slice A ids.length c) ∧ w3b.cell? ⟨w.heap.size, 1, none⟩ = some (.bool rc) ∧ w3b.cell? ⟨w.heap.size, 2, none⟩ = some (.int .i64 rn) ∧ w3b.cell? ⟨w.heap.size, 3, none⟩ = some (.bool jb) ∧ w3b.cell? ⟨w.heap.size + 1, 0, none⟩ = some (.int .i64 m.f0) ∧ w3b.cell? ⟨w.heap.size + 1, 1, none⟩ = some (.int .i64 m.f1) ∧ w3b.cell? ⟨w.heap.size + 1, 2, none⟩ = some (.int .u8 m.f2) ∧ w3b.cell? ⟨w.heap.size + 1, 3, none⟩ = some (.int .i64 m.f3) := ⟨(HUB.out).cell (List.mem_cons_of_mem _ List.mem_cons_self) 0 rfl, (HUB.out).cell (List.mem_cons_of_mem _ List.mem_cons_self) 1 rfl, (HUB.out).cell (List.mem_cons_of_mem _ List.mem_cons_self) 2 rfl, (HUB.out).cell (List.mem_cons_of_mem _ List.mem_cons_self) 3 rfl, (HUB.out).cell List.mem_cons_self 0 rfl, (HUB.out).cell List.mem_cons_self 1 rfl, (HUB.out).cell List.mem_cons_self 2 rfl, (HUB.out).cell List.mem_cons_self 3 rfl⟩
  refine norm_ (a' := ?_) ?_ ?_
  rotate_left
  ·simp only [putAll, Act.put, sn1, sn2, sn3]
   rfl
  refine one_ (i := 6) (N := some 37) #[tt,tt,tt,tt,tt,tt,tt,ff,ff,ff,ff,ff,ff] rfl rfl (by kernel_rfl) (by decide) (fun K hK => ?_)
  refine app_at k52 u.heap.size (by rfl) rfl (.tmp 34) (.tmp 36) 28 52 (.agg #[(.int .i64 0), (.int .i64 0), (.int .u8 0), (.int .i64 0)]) 32 rfl Tryz.underlying28 info52 rfl (by decide) (by omega) (.slice C3 l.length kc3) l m [.int .i64 m.f0, .int .i64 m.f1, .int .u8 m.f2, .int .i64 m.f3] sb rfl rfl HSB.out (k52_mkM _ _ _ m) HRW.out HBU.out.size (by omega) ?_
  intro v5 w5a hR5 hG5 hat5
  obtain ⟨C5, kc5, rfl⟩ := Kd.R_slice hR5
  have H6 := Aside0.mk (HU.out.below (RM_app HRW.out HBU.out HBU.out.size hG5))
  have hC5 := (Kd.R_reads' hR5)
  have H7 := Aside0.mk (H6.out.addy hC5.2.2)
  have hkc5 := hC5.2.1
  refine hK.out _ _ ⟨(H7.out).cell (List.mem_cons_of_mem _ List.mem_cons_self) 0 rfl, (H7.out).cell (List.mem_cons_of_mem _ List.mem_cons_self) 1 rfl, (H7.out).cell (List.mem_cons_of_mem _ List.mem_cons_self) 2 rfl, (H7.out).cell (List.mem_cons_of_mem _ List.mem_cons_self) 3 rfl, (H7.out).cell List.mem_cons_self 0 rfl, (H7.out).cell List.mem_cons_self 1 rfl, (H7.out).cell List.mem_cons_self 2 rfl, (H7.out).cell List.mem_cons_self 3 rfl⟩ (fun hHeld => ?_)
  clear hK K
  refine norm_ (a' := ?_) ?_ ?_
  rotate_left
  ·show Act.put _ (some 37) _ = _
   simp only [Act.put, sn1, sn2, sn3, i64_w]
   rfl
  refine one_ (i := 7) (N := some 38) #[tt,tt,tt,tt,tt,tt,tt,tt,ff,ff,ff,ff,ff] rfl rfl (by kernel_rfl) (by decide) (fun K hK => ?_)
  refine goes_ Tryz.func18 (by kernel_rfl) rfl #[.agg #[.slice B2 ids.length kb2, .bool rc, .int .i64 rn, .bool jb], .slice C5 (l ++ [m]).length kc5] (by rfl) rfl rfl (by simp only [List.map_toArray, List.map_cons, List.map_nil]; rfl) ?_
  with_reducible refine (H7.out.check rc rn jb List.mem_cons_self List.mem_cons_self (by simp; omega)).mono ?_
  rintro e w8 ⟨rfl, h8⟩
  refine ⟨_, rfl, ?_⟩
  have H8 := Aside0.mk h8
  clear h8
  refine hK.out _ _ ⟨(H8.out).cell (List.mem_cons_of_mem _ List.mem_cons_self) 0 rfl, (H8.out).cell (List.mem_cons_of_mem _ List.mem_cons_self) 1 rfl, (H8.out).cell (List.mem_cons_of_mem _ List.mem_cons_self) 2 rfl, (H8.out).cell (List.mem_cons_of_mem _ List.mem_cons_self) 3 rfl, (H8.out).cell List.mem_cons_self 0 rfl, (H8.out).cell List.mem_cons_self 1 rfl, (H8.out).cell List.mem_cons_self 2 rfl, (H8.out).cell List.mem_cons_self 3 rfl⟩ (fun hHeld => ?_)
  clear hK K
  refine norm_ (a' := ?_) ?_ ?_
  rotate_left
  ·show Act.put _ (some 38) _ = _
   simp only [Act.put, sn1, sn2, sn3, i64_w]
   rfl
  refine pure_ (i := 8) (N := some 30) (v := ?_) (a' := ?_) #[tt,tt,tt,tt,tt,tt,tt,tt,tt,ff,ff,ff,ff] rfl rfl (by kernel_rfl) (fun _ _ _ h => h) (Or.inl ⟨by rfl, ?_⟩) ?_ ?_
  rotate_left
  ·intro w'
   go_simp
   with_reducible rfl
  rotate_left
  ·simp only [Act.put, sn1, sn2, sn3, i64_w]
   rfl
  refine pure_ (i := 9) (N := some 39) (v := ?_) (a' := ?_) #[tt,tt,tt,tt,tt,tt,tt,tt,tt,tt,ff,ff,ff] rfl rfl (by kernel_rfl) (fun _ _ _ h => h) (Or.inl ⟨by rfl, ?_⟩) ?_ ?_
  rotate_left
  ·intro w'
   go_simp
   with_reducible rfl
  rotate_left
  ·simp only [Act.put, sn1, sn2, sn3, i64_w]
   rfl
  refine pure_ (i := 10) (N := some 40) (v := ?_) (a' := ?_) #[tt,tt,tt,tt,tt,tt,tt,tt,tt,tt,tt,ff,ff] rfl rfl (by kernel_rfl) (fun _ _ _ h => h) (Or.inl ⟨by rfl, ?_⟩) ?_ ?_
  rotate_left
  ·intro w'
   go_simp
   with_reducible rfl
  rotate_left
  ·simp only [Act.put, sn1, sn2, sn3, i64_w]
   rfl
  refine pure_ (i := 11) (N := some 9) (v := ?_) (a' := ?_) #[tt,tt,tt,tt,tt,tt,tt,tt,tt,tt,tt,tt,ff] rfl rfl (by kernel_rfl) (fun _ _ _ h => h) (Or.inl ⟨by rfl, ?_⟩) ?_ ?_
  rotate_left
  ·intro w'
   go_simp
   with_reducible rfl
  rotate_left
  ·simp only [Act.put, sn1, sn2, sn3, i64_w]
   rfl
  refine pure_ (i := 12) (N := some 10) (v := ?_) (a' := ?_) #[tt,tt,tt,tt,tt,tt,tt,tt,tt,tt,tt,tt,tt] rfl rfl (by kernel_rfl) (fun _ _ _ h => h) (Or.inl ⟨by rfl, ?_⟩) ?_ ?_
  rotate_left
  ·intro w'
   go_simp
   with_reducible rfl
  rotate_left
  ·simp only [Act.put, sn1, sn2, sn3, i64_w]
   rfl
  refine done_ (by kernel_rfl) ?_
  have hg8 : w.heap.size < w8.heap.size := blk_lt (H8.out.g _ (List.mem_cons_of_mem _ List.mem_cons_self))
  have hgm8 : w.heap.size + 1 < w8.heap.size := blk_lt (H8.out.g _ List.mem_cons_self)
  have m0 : w8.cell? ⟨w.heap.size + 1, 0, none⟩ = some (.int .i64 m.f0) := H8.out.cell List.mem_cons_self 0 rfl; have m1 : w8.cell? ⟨w.heap.size + 1, 1, none⟩ = some (.int .i64 m.f1) := H8.out.cell List.mem_cons_self 1 rfl; have m2 : w8.cell? ⟨w.heap.size + 1, 2, none⟩ = some (.int .u8 m.f2) := H8.out.cell List.mem_cons_self 2 rfl; have m3 : w8.cell? ⟨w.heap.size + 1, 3, none⟩ = some (.int .i64 m.f3) := H8.out.cell List.mem_cons_self 3 rfl
  obtain ⟨z, hz9⟩ : ∃ z, fidx (fun x => eqM x m) nx = z := ⟨_, rfl⟩
  have HFD := H8.out.find (List.mem_cons_of_mem _ List.mem_cons_self) hk5 (by omega) m
  rw [hz9] at HFD HFN
  have HFD := Aside0.mk HFD
  clear hz9
  have hsn := HSN.out
  cases hmay : (talkL ids rc rn jb l).may ids rc rn jb m with
  | true =>
   rw [hmay, if_pos rfl, if_pos rfl] at hsn
   have hzp : (0 : Int) ≤ z := HFN.out.2 hmay
   have cbz : decide ((0 : Int) ≤ z) = true := decide_eq_true hzp
   rw [hsn.1, hsn.2]
   clear hsn hmay
   go_wp2_with (first
    | (go_at_call 33; refine HFD.out.mono ?_; rintro e w9 ⟨rfl, h9⟩; have H9 := Aside0.mk h9; clear h9)
    | (go_at_call 15; refine H9.out.awake.mono ?_; rintro e w10 ⟨rfl, h10⟩))
   go_ret
   exact ⟨rfl, h10.b⟩
  | false =>
   rw [hmay, if_neg Bool.false_ne_true, if_neg Bool.false_ne_true] at hsn
   have hzp : ¬ (0 : Int) ≤ z := fun h => by have := HFN.out.1 h; rw [hmay] at this; cases this
   have cbz : decide ((0 : Int) ≤ z) = false := decide_eq_false hzp
   rw [hsn.1, hsn.2]
   clear hsn hmay
   go_wp2_with (first
    | (go_at_call 33; refine HFD.out.mono ?_; rintro e w9 ⟨rfl, h9⟩; have H9 := Aside0.mk h9; clear h9)
    | (go_at_call 15; refine H9.out.awake.mono ?_; rintro e w10 ⟨rfl, h10⟩))
   go_ret
   exact ⟨rfl, h10.b⟩
end Go.Proofs.YtjgocihflhljeaaGreat.P
namespace Go.Proofs.YtjgocihflhljeaaGreat.P
open Go Go.RowKit Go.ChangeShapes Go.WideShapes Go.Proofs.YtjgocihflhljeaaGreatW.PrintWords Go.Proofs.YtjgocihflhljeaaGreatW.PrintLast Go.Proofs.YtjgocihflhljeaaGreatW.PrintMore
set_option maxRecDepth 100000
section
variable {H : Type} {enc : TypeId × Value → H} {W : World} {base : Nat} {sp : Nat → Bool} {held : Bool} {fuel : Nat} {cs : List Value} {x : DataW H × List MemPlace}
theorem opens_slice {α : Type} (d : Kd α) {t e : TypeId} (ht : Tryz.prog.underlying t = some (.slice e)) (hsz : Tryz.prog.cellsOf e = d.sz)
  (he : ∀ (n : Nat) (c : List Value) (y : DataW H × List MemPlace), DataW.trod enc Tryz.prog W base sp held n e c = some y → ∃ a, d.K W a c)
  (h : DataW.trod enc Tryz.prog W base sp held fuel t cs = some x) : ∃ A c xs, cs = [.slice A xs.length c] ∧ xs.length ≤ c ∧ d.C W A xs.length xs := by
 rcases Go.Deep.open_slice ht h with ⟨rfl, _⟩ | ⟨a, len, cap, m, n, D, Pl, rfl, hb, hl, hm, hmm, _, hx⟩
 ·exact ⟨none, 0, [], rfl, Nat.le_refl _, rfl, by simp, fun h => absurd h (by simp)⟩
 have hlm : len ≤ m := by rw [hmm]; split <;> omega
 have hex : ∀ i, i < len → ∃ p : α × List Value, W.cells? base (a.add (i * Tryz.prog.cellsOf e)) (Tryz.prog.cellsOf e) = some p.2 ∧ d.K W p.1 p.2 := fun i hi => by
  obtain ⟨c, h1, h2⟩ := hx i (by omega)
  obtain ⟨p, hp⟩ := he _ _ _ h2
  exact ⟨(p, c), h1, hp⟩
 rcases Nat.eq_zero_or_pos len with rfl | hpos
 ·exact ⟨some a, cap, [], rfl, Nat.zero_le _, rfl, by simp, fun h => absurd h (by simp)⟩
 have : Inhabited (α × List Value) := ⟨Classical.choose (hex 0 hpos)⟩
 obtain ⟨V, hV⟩ := Go.Deep.choose_lt hex
 have hlen : ((List.range len).map fun i => (V i).1).length = len := by simp
 refine ⟨some a, cap, (List.range len).map fun i => (V i).1, by rw [hlen], by rw [hlen]; exact hl, rfl, by rw [hlen]; simp only [maxLen] at hm; omega, fun _ => ⟨a, rfl, ?_⟩⟩
 intro j p hj
 obtain ⟨hjl, rfl⟩ := List.getElem?_eq_some_iff.1 hj
 rw [hlen] at hjl
 obtain ⟨h1, h2⟩ := hV j hjl
 rw [hsz] at h1
 obtain ⟨_, h3, h4⟩ := World.cells?_some h1
 refine ⟨(V j).2, h3, by simpa using h2, fun i u hu => ?_⟩
 have hi : i < d.sz := by rw [← h3]; exact (List.getElem?_eq_some_iff.1 hu).1
 have h5 := h4 i hi
 rw [Go.Deep.add_add] at h5
 rw [h5, hu]
theorem cells3 : Tryz.prog.cellsOf 3 = 1 := by kernel_rfl
theorem cells4 : Tryz.prog.cellsOf 4 = 1 := by kernel_rfl
theorem cells5 : Tryz.prog.cellsOf 5 = 1 := by kernel_rfl
theorem cells22 : Tryz.prog.cellsOf 22 = 1 := by kernel_rfl
theorem cells66 : Tryz.prog.cellsOf 66 = 1 := by kernel_rfl
theorem cellsB : Tryz.prog.cellsOf 24 = 2 := by kernel_rfl
theorem cellsT : Tryz.prog.cellsOf 68 = 3 := by kernel_rfl
theorem cellsM : Tryz.prog.cellsOf 52 = 4 := by kernel_rfl
theorem cellsA : Tryz.prog.cellsOf 26 = 4 := by kernel_rfl
theorem opens24 (h : DataW.trod enc Tryz.prog W base sp held fuel 24 cs = some x) : ∃ a : S24, cs = [.bool a.f0, .int .i64 a.f1] := by
 obtain ⟨y0, y1, n, _, hl, h0, h1⟩ := trod_struct2 Tryz.underlying24 h
 rw [cellsB] at hl
 match cs, hl with
 | [a, b], _ =>
  simp only [cells3, cells4, cells5, cells22, cells66, cellsB, List.drop_zero, List.drop_succ_cons, List.take_succ_cons, List.take_zero] at h0 h1
  have ha : DataW.trod enc Tryz.prog W base sp held n 4 [a] = some y0 := h0
  have hb : DataW.trod enc Tryz.prog W base sp held n 3 [b] = some y1 := h1
  obtain ⟨b0, e0, _⟩ := DataW.trod_bool Tryz.underlying4 ha
  obtain ⟨b1, e1, _⟩ := DataW.trod_int Tryz.underlying3 hb
  cases e0
  cases e1
  exact ⟨⟨b0, b1⟩, rfl⟩
theorem opens68 (h : DataW.trod enc Tryz.prog W base sp held fuel 68 cs = some x) : ∃ a : S68, k68.K W a cs := by
 obtain ⟨y0, y1, n, _, hl, h0, h1⟩ := trod_struct2 Tryz.underlying68 h
 rw [cellsT] at hl
 match cs, hl with
 | [a, b, c], _ =>
  simp only [cells3, cells4, cells5, cells22, cells66, cellsB, List.drop_zero, List.drop_succ_cons, List.take_succ_cons, List.take_zero] at h0 h1
  have ha : DataW.trod enc Tryz.prog W base sp held n 66 [a] = some y0 := h0
  have hb : DataW.trod enc Tryz.prog W base sp held n 24 [b, c] = some y1 := h1
  obtain ⟨A, cp, xs, e0, hle, hC⟩ := opens_slice k24 Tryz.underlying66 (cellsB) (fun n c y hy => by obtain ⟨p, rfl⟩ := opens24 hy; exact ⟨p, k24_mk W p⟩) ha
  obtain ⟨p, e1⟩ := opens24 hb
  cases e0
  cases e1
  exact ⟨⟨xs, p⟩, k68_mk W ⟨xs, p⟩ hle hC⟩
theorem opens52 (h : DataW.trod enc Tryz.prog W base sp held fuel 52 cs = some x) : ∃ a : S52, k52.K W a cs := by
 obtain ⟨y0, y1, y2, y3, n, _, hl, h0, h1, h2, h3⟩ := Go.Joins.trod_struct4 Tryz.underlying52 h
 rw [cellsM] at hl
 match cs, hl with
 | [a, b, c, d], _ =>
  simp only [cells3, cells4, cells5, cells22, cells66, cellsB, List.drop_zero, List.drop_succ_cons, List.take_succ_cons, List.take_zero] at h0 h1 h2 h3
  have ha : DataW.trod enc Tryz.prog W base sp held n 3 [a] = some y0 := h0
  have hb : DataW.trod enc Tryz.prog W base sp held n 3 [b] = some y1 := h1
  have hd : DataW.trod enc Tryz.prog W base sp held n 5 [c] = some y2 := h2
  have he : DataW.trod enc Tryz.prog W base sp held n 3 [d] = some y3 := h3
  obtain ⟨b0, e0, _⟩ := DataW.trod_int Tryz.underlying3 ha
  obtain ⟨b1, e1, _⟩ := DataW.trod_int Tryz.underlying3 hb
  obtain ⟨b2, e2, _⟩ := DataW.trod_int Tryz.underlying5 hd
  obtain ⟨b3, e3, _⟩ := DataW.trod_int Tryz.underlying3 he
  cases e0
  cases e1
  cases e2
  cases e3
  exact ⟨⟨b0, b1, b2, b3⟩, k52_mk W _⟩
theorem opens_arena {r : Reach} {b0 : Nat} {v : Value} {d : DataW H} {p : List MemPlace} (hv : Value.okWide Tryz.prog W r b0 26 v) (h : DataW.Trod enc Tryz.prog W base sp held 26 v d p) :
  ∃ A c ids rc rn jb, v = .agg #[.slice A ids.length c, .bool rc, .int .i64 rn, .bool jb] ∧ ids.length ≤ c ∧ k68.C W A ids.length ids := by
 obtain ⟨cs, rfl, hsz⟩ := okWide_struct Tryz.underlying26 hv
 obtain ⟨fuel, hf⟩ := h
 obtain ⟨y0, y1, y2, n, _, hl, h0, h1, h2⟩ := Go.Deep.trod_struct3 Tryz.underlying26 hf
 rw [cellsA] at hl
 have e : (Value.agg cs).cells.toList = cs.toList := rfl
 rw [e] at hl h0 h1 h2
 obtain ⟨l⟩ := cs
 match l, hl with
 | [a, b, c, g], _ =>
  simp only [cells3, cells4, cells5, cells22, cells66, cellsB, List.drop_zero, List.drop_succ_cons, List.take_succ_cons, List.take_zero] at h0 h1 h2
  have ha : DataW.trod enc Tryz.prog W base sp held n 22 [a] = some y0 := h0
  have hb : DataW.trod enc Tryz.prog W base sp held n 24 [b, c] = some y1 := h1
  have hg : DataW.trod enc Tryz.prog W base sp held n 4 [g] = some y2 := h2
  obtain ⟨A, cp, xs, e0, hle, hC⟩ := opens_slice k68 Tryz.underlying22 cellsT (fun n c y hy => opens68 hy) ha
  obtain ⟨p, e1⟩ := opens24 hb
  obtain ⟨b0, e2, _⟩ := DataW.trod_bool Tryz.underlying4 hg
  cases e0
  cases e1
  cases e2
  exact ⟨A, cp, xs, p.f0, p.f1, b0, rfl, hle, hC⟩
theorem opens_word {r : Reach} {b0 : Nat} {v : Value} {d : DataW H} {p : List MemPlace} (hv : Value.okWide Tryz.prog W r b0 28 v) (h : DataW.Trod enc Tryz.prog W base sp held 28 v d p) :
  ∃ A c l, v = .slice A l.length c ∧ l.length ≤ c ∧ k52.C W A l.length l := by
 obtain ⟨a, n, c, rfl⟩ := okWide_slice Tryz.underlying28 hv
 obtain ⟨fuel, hf⟩ := h
 obtain ⟨A, cp, xs, e0, hle, hC⟩ := opens_slice k52 Tryz.underlying28 cellsM (fun n c y hy => opens52 hy) hf
 have e : (Value.slice a n c).cells.toList = [.slice a n c] := rfl
 rw [e] at e0
 cases e0
 exact ⟨_, _, xs, rfl, hle, hC⟩
end
end Go.Proofs.YtjgocihflhljeaaGreat.P
namespace Go.Proofs.YtjgocihflhljeaaGreat.P
open Go Go.RowKit Go.ChangeShapes Go.WideShapes Go.Proofs.YtjgocihflhljeaaGreatW.PrintWords Go.Proofs.YtjgocihflhljeaaGreatW.PrintLast Go.Proofs.YtjgocihflhljeaaGreatW.PrintMore
section
variable {H : Type} {enc : TypeId × Value → H} {W : World} {base : Nat} {sp : Nat → Bool} {held : Bool}
set_option maxRecDepth 100000 in
theorem opens_move {r : Reach} {b0 : Nat} {v : Value} {d : DataW H} {p : List MemPlace} (hv : Value.okWide Tryz.prog W r b0 52 v) (h : DataW.Trod enc Tryz.prog W base sp held 52 v d p) :
  ∃ m : S52, v = .agg #[.int .i64 m.f0, .int .i64 m.f1, .int .u8 m.f2, .int .i64 m.f3] := by
 obtain ⟨cs, rfl, hsz⟩ := okWide_struct Tryz.underlying52 hv
 obtain ⟨fuel, hf⟩ := h
 obtain ⟨m, hm⟩ := opens52 hf
 have e : (Value.agg cs).cells.toList = cs.toList := rfl
 rw [e] at hm
 have h1 := k52_open hm
 obtain ⟨l⟩ := cs
 cases h1
 exact ⟨m, rfl⟩
end
end Go.Proofs.YtjgocihflhljeaaGreat.P
