/- What the claim's law needs, many texts in one (Uh Vd Ui Uj Uk Db Dc Dd P11 Vg Ve Ul Vf Um Un Vh Uo Di Vi Dj Dk Vj Vk). No conditions of its own. -/
import Derived.Test.YtjgocihflhljeaaGreatZi18
import Derived.Test.YtjgocihflhljeaaGreatZi20
import Derived.Test.YtjgocihflhljeaaGreatZi12
import Derived.Test.YtjgocihflhljeaaGreatZi9
import Derived.Test.YtjgocihflhljeaaGreatZi14
import Derived.Test.YtjgocihflhljeaaGreatZi10
import Derived.Test.YtjgocihflhljeaaGreatZi17
import Derived.Test.YtjgocihflhljeaaGreatZi2
set_option linter.unusedVariables false
set_option linter.unusedSimpArgs false
namespace Go.Proofs.YtjgocihflhljeaaGreat.P
open Go.RowKit Go.Shelf Go.Proofs.YtjgocihflhljeaaGreatW.PrintWords Go.Proofs.YtjgocihflhljeaaGreatW.PrintLast Go.Proofs.YtjgocihflhljeaaGreatW.PrintMore
attribute [local go_sem] Oper.semAt_some
structure Takes (t : Tk) (m : Mv) : Prop where
 i : 0 ≤ m.f0 ∧ 0 ≤ m.f1 ∧ (m.f0 = 0 → m.f1 = 0)
 k : askB m = !isAns m
 o : isAns m = true → t.opn ≠ []
 p : isAns m = false → 0 < m.f1 → t.opn ≠ []
theorem rTakeZ_any {base : Nat} {w : World} {g : Nat} {A : Option Addr} {c : Nat} {ids : List S68} {rc : Bool} {rn : Int} {jb : Bool} {t : Tk} {vw vo vp vj : Value} (h : Wlk base w g A c ids rc rn jb t vw vo vp vj) (hL : t.Legal ids rc rn jb) (m : Mv) (hm : Takes t m) (hw : t.word.length < 1048576) :
  Calls Tryz.prog 85 #[.pointer (some ⟨g, 0, none⟩), .agg #[.int .i64 m.f0, .int .i64 m.f1, .int .u8 m.f2, .int .i64 m.f3]] w fun e w' => e = .returned (.tuple #[]) ∧ SK base 86 w w' ∧ (∀ bz cs, Boxy w g bz → w.heap[bz]? = some (.cells cs 52 (0, 0)) → w'.heap[bz]? = some (.cells cs 52 (0, 0))) ∧ ∃ vw vo vp vj, Wlk base w' g A c ids rc rn jb (t.say m) vw vo vp vj := by
 have hk := hm.k
 cases ha : isAns m with
 | true =>
  rw [ha] at hk
  exact take_ans h m hw hk ha (hm.o ha) hL.fo.symm hL.dp
 | false =>
  rw [ha] at hk
  refine take_ask h m hw hk ha (hm.p ha) ?_
  have hi := hm.i
  unfold Tk.justOf isIdent isPar
  rw [ha]
  by_cases h1 : 0 < m.f1
  ·have h0 : 0 < m.f0 := by have := hi.2.2; omega
   have h2 : (m.f1 == 0) = false := by simp; omega
   simp [h1, h0, h2]
  have h2 : m.f1 = 0 := by omega
  by_cases h0 : 0 < m.f0
  ·simp [h1, h0, h2]
  simp [h1, h0, h2]
theorem rTake_any {base : Nat} {w : World} {g : Nat} {A : Option Addr} {c : Nat} {ids : List S68} {rc : Bool} {rn : Int} {jb : Bool} {t : Tk} {vw vo vp vj : Value} (h : Wlk base w g A c ids rc rn jb t vw vo vp vj) (hL : t.Legal ids rc rn jb) (m : Mv) (hm : Takes t m) (hw : t.word.length < 1048576) :
  Calls Tryz.prog 85 #[.pointer (some ⟨g, 0, none⟩), .agg #[.int .i64 m.f0, .int .i64 m.f1, .int .u8 m.f2, .int .i64 m.f3]] w fun e w' => e = .returned (.tuple #[]) ∧ SK base 86 w w' ∧ ∃ vw vo vp vj, Wlk base w' g A c ids rc rn jb (t.say m) vw vo vp vj := by
 refine (rTakeZ_any h hL m hm hw).mono ?_
 rintro e w' ⟨h1, h2, _, h3⟩
 exact ⟨h1, h2, h3⟩
theorem may_takes {ids : List S68} {rc : Bool} {rn : Int} {jb : Bool} {t : Tk} {m : Mv} (hm : hasR ids rc rn jb m = true) (hc : t.can jb m = true) : Takes t m := by
 have hk := hasR_ok hm
 refine ⟨hk.i, ?_, Tk.can_ans hc, ?_⟩
 ·have h1 := hk.k
  unfold askB isAns
  rcases h1 with h | h | h <;> rw [h] <;> rfl
 intro ha h1 hn
 unfold Tk.can Tk.top at hc
 rw [hn] at hc
 simp only [List.getLast?_nil] at hc
 unfold atB at hc
 simp only [Bool.and_eq_true, beq_iff_eq] at hc
 omega
set_option maxHeartbeats 2000000 in
theorem rRun_any (A : Option Addr) (c : Nat) (ids : List S68) (rc : Bool) (rn : Int) (jb : Bool) (A1 : Option Addr) (c1 : Nat) (l : List Mv) (w : World) (hr : Kd.C k68 w A ids.length ids) (hlc : ids.length ≤ c) (hr1 : Kd.C k52 w A1 l.length l) (hl : l.length ≤ 1000000) (hok : checkE ids rn = 0) :
  Calls Tryz.prog 97 #[.agg #[.slice A ids.length c, .bool rc, .int .i64 rn, .bool jb], .slice A1 l.length c1] w fun e w' => e = .returned (.tuple #[.pointer (some ⟨w.heap.size + 1, 0, none⟩), .int .i64 (talkL ids rc rn jb l).word.length]) ∧ Below w.heap.size w w' ∧ ∃ vw vo vp vj, Wlk w.heap.size w' (w.heap.size + 1) A c ids rc rn jb (talkL ids rc rn jb l) vw vo vp vj := by
 have HRI := am hr
 have HR1 := am hr1
 clear hr hr1
 go_enter Tryz.func97, Tryz.ntmps97
 go_wp2
 have hT0 : Wlk w.heap.size ((w.alloc (.cells #[.slice A ids.length c, .bool rc, .int .i64 rn, .bool jb] 26)).alloc (.cells #[.slice A ids.length c, .bool rc, .int .i64 rn, .bool jb, .slice none 0 0, .slice none 0 0, .slice none 0 0, .slice none 0 0, .bool false, .int .i64 0] 86)) (w.heap.size + 1) A c ids rc rn jb Tk.empty (.slice none 0 0) (.slice none 0 0) (.slice none 0 0) (.slice none 0 0) :=
  ⟨(two w _ _).2, ⟨Kd.R_nil _ _ _ _ _, Kd.R_nil _ _ _ _ _, Kd.R_nil _ _ _ _ _, Kd.R_nil _ _ _ _ _, Kd.R_nil _ _ _ _ _, Ap.none _, Ap.none _, Ap.none _⟩, by omega, Tk.Ok.empty⟩
 go_loopg [7] l.length (fun gg s7 wr => ∃ (kk : Nat) (t : Tk), kk ≤ l.length ∧ l.length - kk ≤ gg ∧ s7 = .int .i64 kk ∧ t.word.length = kk ∧ Aside0 (walkL ids rc rn jb Tk.empty l = walkL ids rc rn jb t (l.drop kk)) ∧ Aside0 (Below w.heap.size w wr) ∧ w.heap.size ≤ wr.heap.size ∧ Aside0 (t.Legal ids rc rn jb) ∧ Aside0 (∃ vw vo vp vj, Wlk w.heap.size wr (w.heap.size + 1) A c ids rc rn jb t vw vo vp vj))
 case atStart => exact ⟨0, Tk.empty, Nat.zero_le _, by omega, rfl, rfl, ⟨rfl⟩, ⟨((Below.refl _ w).alloc (Nat.le_refl _) _).alloc (by simp) _⟩, by simp; omega, ⟨Tk.Legal.empty ids rc rn jb⟩, ⟨_, _, _, _, hT0⟩⟩
 case round =>
  obtain ⟨kk, t, hkk, hg, rfl, hwl, HE, BW, hsw, HL, HT⟩ := hrel
  clear hT0
  by_cases hlt : kk < l.length
  ·have hltz : (kk : Int) < (l.length : Int) := by omega
   obtain ⟨ad, e0, a0, a1, a2, a3⟩ := at_T52 HR1.out (kk : Int) (by omega) hltz
   cases e0
   rw [Int.toNat_natCast] at a0 a1 a2 a3
   have cb : decide ((kk : Int) < (l.length : Int)) = true := decide_eq_true hltz
   replace a0 := (BW.out.cell (World.block_lt_of_cell? w _ a0)).trans a0
   replace a1 := (BW.out.cell (World.block_lt_of_cell? w _ a1)).trans a1
   replace a2 := (BW.out.cell (World.block_lt_of_cell? w _ a2)).trans a2
   replace a3 := (BW.out.cell (World.block_lt_of_cell? w _ a3)).trans a3
   have HQ : Aside0 (l.drop kk = rd_T52 l (kk : Int) :: l.drop (kk + 1)) := ⟨by rw [List.drop_eq_getElem_cons hlt, rd_T52, Int.toNat_natCast, ← getD_get l z52 kk hlt]⟩
   generalize rd_T52 l (kk : Int) = m at *
   obtain ⟨vw, vo, vp, vj, hT⟩ := HT.out
   have HCAN := am (rCan_any hT m (Kd.C_below HRI.out BW.out) hlc hok)
   have HT := am hT
   clear hT
   cases hm : (hasR ids rc rn jb m && canR t jb m) with
   | false =>
    rw [hm] at HCAN
    have HF := am (show t.may ids rc rn jb m = false by
     unfold Tk.may
     cases hh : hasR ids rc rn jb m with
     | false => simp
     | true => rw [hh, Bool.true_and, canR_eq HL.out hh] at hm; rw [hm]; simp)
    clear hm
    go_wp2_with (go_at_call 87; refine HCAN.out.mono ?_; rintro e w1 ⟨rfl, hb1⟩)
    go_ret2
    have e : walkL ids rc rn jb Tk.empty l = t := by rw [HE.out, HQ.out, walkL, if_neg (by rw [HF.out]; decide)]
    refine ⟨by rw [show (talkL ids rc rn jb l) = t from e, hwl]; rfl, BW.out.trans (hb1.mono hsw), vw, vo, vp, vj, ?_⟩
    rw [show (talkL ids rc rn jb l) = t from e]
    exact HT.out.below hb1
   | true =>
    rw [hm] at HCAN
    have hh : hasR ids rc rn jb m = true := by
     cases hh : hasR ids rc rn jb m with
     | false => rw [hh] at hm; cases hm
     | true => rfl
    have hcn : t.can jb m = true := by rw [hh, Bool.true_and, canR_eq HL.out hh] at hm; exact hm
    have HF := am (show t.may ids rc rn jb m = true by unfold Tk.may; rw [hok, hh, hcn]; rfl)
    have HTK := am (may_takes hh hcn)
    have HLS := am (HL.out.say m (may_takes hh hcn).i (fun _ => hh) (by omega))
    clear hm hh hcn
    go_wp2_with (first
     | (go_at_call 87; refine HCAN.out.mono ?_; rintro e w1 ⟨rfl, hb1⟩; have HT1 := am (HT.out.below hb1); have HB1 := am (BW.out.trans (hb1.mono hsw)); have hs1 := hb1.size; have c0 := pw_cell_below hb1 a0; have c1 := pw_cell_below hb1 a1; have c2 := pw_cell_below hb1 a2; have c3 := pw_cell_below hb1 a3)
     | (go_at_call 85; refine (rTake_any HT1.out HL.out m HTK.out (by omega)).mono ?_; rintro e w2 ⟨rfl, hk2, hT2⟩))
    go_roundg (l.length - (kk + 1))
    case measure => omega
    case rel => exact ⟨kk + 1, t.say m, by omega, by omega, by go_num, by simp [Tk.say]; omega, ⟨by rw [HE.out, HQ.out, walkL, if_pos HF.out]⟩, ⟨hk2.below HB1.out (by omega)⟩, by have := hk2.1.2.2.2; omega, HLS, ⟨hT2⟩⟩
  have cb : decide ((kk : Int) < (l.length : Int)) = false := decide_eq_false (by omega)
  have e : walkL ids rc rn jb Tk.empty l = t := by rw [HE.out, List.drop_eq_nil_of_le (by omega), walkL]
  have EE := am e
  have HKL := am (show (t.word.length : Int) = (l.length : Int) by omega)
  clear e
  go_wp2
  go_ret2
  refine ⟨by rw [show (talkL ids rc rn jb l) = t from EE.out, HKL.out]; rfl, BW.out, ?_⟩
  rw [show (talkL ids rc rn jb l) = t from EE.out]
  exact HT.out
end Go.Proofs.YtjgocihflhljeaaGreat.P
namespace Go.Proofs.YtjgocihflhljeaaGreat.P
open Go.RowKit Go.Shelf Go.Proofs.YtjgocihflhljeaaGreatW.PrintWords Go.Proofs.YtjgocihflhljeaaGreatW.PrintLast Go.Proofs.YtjgocihflhljeaaGreatW.PrintMore
theorem isBase_f (b : Bool) (n : Int) : riposteref04_IsBase.f b n = some (isBaseB n) := by
 rw [riposteref04_IsBase.f, inF_eq, Option.bind_some]
 rfl
theorem isType_l0 (ps : List S24) (b : Bool) (n : Int) (hp : ps.length ≤ 5) : ∀ (d i k : Nat), ps.length - i = d → i ≤ ps.length → d < k → riposteref04_IsType.l0 k (i : Int) ps b n = some ((ps.drop i).all (fun x => isBaseB x.f1) && (isBaseB n && (decide (ps.length = 0) || !b))) := by
 intro d
 induction d with
 | zero =>
  intro i k hd hi hk
  obtain ⟨k, rfl⟩ : ∃ k', k = k' + 1 := ⟨k - 1, by omega⟩
  rw [riposteref04_IsType.l0, if_neg (by omega), isBase_f, Option.bind_some, List.drop_eq_nil_of_le (by omega)]
  simp only [List.all_nil, Bool.true_and]
  cases isBaseB n with
  | false => simp
  | true =>
   by_cases h : ps.length = 0
   ·simp [h]
   have : ¬ ((ps.length : Int) = 0) := by omega
   simp only [if_true, if_neg this, decide_eq_false h, Bool.false_or, Bool.true_and]
 | succ d ih =>
  intro i k hd hi hk
  obtain ⟨k, rfl⟩ : ∃ k', k = k' + 1 := ⟨k - 1, by omega⟩
  have hlt : i < ps.length := by omega
  have hr : rd_T24 ps (i : Int) = ps[i] := by
   unfold rd_T24
   rw [Int.toNat_natCast]
   exact getD_get ps z24 i hlt
  have hw : wrap64 ((i : Int) + 1) = ((i + 1 : Nat) : Int) := by
   rw [wrap_in (by omega) (by omega)]
   simp
  rw [riposteref04_IsType.l0, if_pos (by omega), if_pos (by omega), hr, isBase_f, Option.bind_some, hw, List.drop_eq_getElem_cons hlt, List.all_cons]
  cases hb : isBaseB ps[i].f1 with
  | false => simp
  | true => rw [if_pos rfl, Bool.true_and, ih (i + 1) k (by omega) (by omega) (by omega)]
theorem isType_f (k : Nat) (hk : 6 ≤ k) (x : S68) (hp : x.f0.length ≤ 5) : riposteref04_IsType.f k x.f0 x.f1.f0 x.f1.f1 = some (isTypeB x) := by
 have := isType_l0 x.f0 x.f1.f0 x.f1.f1 hp x.f0.length 0 k rfl (Nat.zero_le _) (by omega)
 rw [riposteref04_IsType.f]
 rw [show ((0 : Nat) : Int) = 0 from rfl] at this
 rw [this, List.drop_zero]
 congr 1
 unfold isTypeB
 have e : (!x.f0.any fun b => !isBaseB b.f1) = x.f0.all (fun b => isBaseB b.f1) := by
  rw [Bool.eq_iff_iff]
  simp
 rw [e, ← Bool.and_assoc, Bool.and_comm (x.f0.all _)]
theorem check_l1 (ids : List S68) (rc : Bool) (rn : Int) (j : Bool) (hl : ids.length ≤ 8) (hp : ∀ x ∈ ids, x.f0.length ≤ 5) : ∀ (d i k : Nat), ids.length - i = d → i ≤ ids.length → d + 6 < k → riposteref04_Check.l1 k (i : Int) ids rc rn j = some (if isBaseB rn = false ∨ ((ids.drop i).any fun x => !isTypeB x) = true then 4 else 0) := by
 intro d
 induction d with
 | zero =>
  intro i k hd hi hk
  obtain ⟨k, rfl⟩ : ∃ k', k = k' + 1 := ⟨k - 1, by omega⟩
  rw [riposteref04_Check.l1, if_neg (by omega), isBase_f, Option.bind_some, List.drop_eq_nil_of_le (by omega)]
  cases isBaseB rn <;> simp
 | succ d ih =>
  intro i k hd hi hk
  obtain ⟨k, rfl⟩ : ∃ k', k = k' + 1 := ⟨k - 1, by omega⟩
  have hlt : i < ids.length := by omega
  have hr : rd_T68 ids (i : Int) = ids[i] := by
   unfold rd_T68
   rw [Int.toNat_natCast]
   exact getD_get ids z68 i hlt
  have hw : wrap64 ((i : Int) + 1) = ((i + 1 : Nat) : Int) := by
   rw [wrap_in (by omega) (by omega)]
   simp
  rw [riposteref04_Check.l1, if_pos (by omega), if_pos (by omega), hr, isType_f k (by omega) ids[i] (hp _ (List.getElem_mem _)), Option.bind_some, hw, List.drop_eq_getElem_cons hlt, List.any_cons]
  cases hb : isTypeB ids[i] with
  | false => simp
  | true => rw [if_pos rfl, ih (i + 1) k (by omega) (by omega) (by omega)]; simp
theorem check_l0 (ids : List S68) (rc : Bool) (rn : Int) (j : Bool) (hl : ids.length ≤ 8) : ∀ (d i k : Nat), ids.length - i = d → i ≤ ids.length → d + 20 < k → (∀ m, m < i → ∀ h : m < ids.length, longB ids[m] = false) → riposteref04_Check.l0 k (i : Int) ids rc rn j = some (checkE ids rn) := by
 intro d
 induction d with
 | zero =>
  intro i k hd hi hk hn
  obtain ⟨k, rfl⟩ : ∃ k', k = k' + 1 := ⟨k - 1, by omega⟩
  have ha : ids.any longB = false := by
   rw [List.any_eq_false]
   intro x hx
   obtain ⟨m, hm, rfl⟩ := List.getElem_of_mem hx
   simp [hn m (by omega) hm]
  have hp : ∀ x ∈ ids, x.f0.length ≤ 5 := by
   intro x hx
   have := List.any_eq_false.1 ha x hx
   unfold longB at this
   simpa using this
  have h1 := check_l1 ids rc rn j hl hp ids.length 0 k rfl (Nat.zero_le _) (by omega)
  rw [show ((0 : Nat) : Int) = 0 from rfl, List.drop_zero] at h1
  rw [riposteref04_Check.l0, if_neg (by omega), h1]
  unfold checkE
  rw [if_neg (show ¬ (8 < ids.length ∨ ids.any longB = true) by rw [ha]; simp; omega)]
 | succ d ih =>
  intro i k hd hi hk hn
  obtain ⟨k, rfl⟩ : ∃ k', k = k' + 1 := ⟨k - 1, by omega⟩
  have hlt : i < ids.length := by omega
  have hr : rd_T68 ids (i : Int) = ids[i] := by
   unfold rd_T68
   rw [Int.toNat_natCast]
   exact getD_get ids z68 i hlt
  have hw : wrap64 ((i : Int) + 1) = ((i + 1 : Nat) : Int) := by
   rw [wrap_in (by omega) (by omega)]
   simp
  rw [riposteref04_Check.l0, if_pos (by omega), if_pos (by omega), hr, hw]
  by_cases h5 : ((ids[i].f0.length : Nat) : Int) > 5
  ·rw [if_pos h5]
   unfold checkE
   rw [if_pos (.inr (List.any_eq_true.2 ⟨ids[i], List.getElem_mem _, by unfold longB; simp; omega⟩))]
  rw [if_neg h5]
  refine ih (i + 1) k (by omega) (by omega) (by omega) (fun m hm h => ?_)
  by_cases e : m = i
  ·subst e
   unfold longB
   simp
   omega
  exact hn m (by omega) h
theorem check_f (k : Nat) (hk : 60 ≤ k) (ids : List S68) (rc : Bool) (rn : Int) (j : Bool) : riposteref04_Check.f k ids rc rn j = some (checkE ids rn) := by
 rw [riposteref04_Check.f]
 by_cases h : (ids.length : Int) > 8
 ·rw [if_pos h]
  unfold checkE
  rw [if_pos (.inl (by omega))]
 rw [if_neg h]
 have := check_l0 ids rc rn j (by omega) ids.length 0 k rfl (Nat.zero_le _) (by omega) (fun m hm => absurd hm (Nat.not_lt_zero _))
 rw [show ((0 : Nat) : Int) = 0 from rfl] at this
 exact this
end Go.Proofs.YtjgocihflhljeaaGreat.P
namespace Go.Proofs.YtjgocihflhljeaaGreat.P
open Go.RowKit Go.Shelf Go.Proofs.YtjgocihflhljeaaGreatW.PrintWords Go.Proofs.YtjgocihflhljeaaGreatW.PrintLast Go.Proofs.YtjgocihflhljeaaGreatW.PrintMore
attribute [local go_sem] Oper.semAt_some
theorem rArena_any (A : Option Addr) (c : Nat) (ids : List S68) (rc : Bool) (rn : Int) (jb : Bool) (w : World) (hr : Kd.C k68 w A ids.length ids) (hlc : ids.length ≤ c) :
  Calls Tryz.prog 96 #[.agg #[.slice A ids.length c, .bool rc, .int .i64 rn, .bool jb]] w fun e w' => e = .returned (.int .i64 (checkE ids rn)) ∧ Below w.heap.size w w' :=
 riposteref04_Check.calls 60 A c ids rc rn jb _ w hr hlc (check_f 60 (Nat.le_refl _) ids rc rn jb)
def BeginPost (A : Option Addr) (c : Nat) (ids : List S68) (rc : Bool) (rn : Int) (jb : Bool) (l : List Mv) (w : World) (e : Ending) (w' : World) : Prop :=
 Below w.heap.size w w' ∧ ((tellE ids rc rn jb l ≠ 0 ∧ e = .returned (.tuple #[.pointer none, .int .i64 (tellAt ids rc rn jb l), .int .i64 (tellE ids rc rn jb l)])) ∨
  (tellE ids rc rn jb l = 0 ∧ ∃ g, e = .returned (.tuple #[.pointer (some ⟨g, 0, none⟩), .int .i64 0, .int .i64 0]) ∧ ∃ vw vo vp vj, Wlk w.heap.size w' g A c ids rc rn jb (talkL ids rc rn jb l) vw vo vp vj))
set_option maxHeartbeats 2000000 in
theorem rBegin_any (A : Option Addr) (c : Nat) (ids : List S68) (rc : Bool) (rn : Int) (jb : Bool) (A1 : Option Addr) (c1 : Nat) (l : List Mv) (w : World) (hr : Kd.C k68 w A ids.length ids) (hlc : ids.length ≤ c) (hr1 : Kd.C k52 w A1 l.length l) (hl : l.length ≤ 1000000) : Calls Tryz.prog 60 #[.agg #[.slice A ids.length c, .bool rc, .int .i64 rn, .bool jb], .slice A1 l.length c1] w (BeginPost A c ids rc rn jb l w) := by
 have HB := am ((Below.refl _ w).alloc (Nat.le_refl _) (.cells #[.slice A ids.length c, .bool rc, .int .i64 rn, .bool jb] 26))
 have HC := am (fun (V : World) (hb : Below w.heap.size w V) => rArena_any A c ids rc rn jb V (Kd.C_below hr hb) hlc)
 have HKA := am (heap_alloc_new w (.cells #[.slice A ids.length c, .bool rc, .int .i64 rn, .bool jb] 26))
 by_cases h1 : checkE ids rn ≠ 0
 ·have HE := am (tellE_err (rc := rc) (jb := jb) (l := l) h1)
  have HA := am (show tellAt ids rc rn jb l = 0 by rw [tellAt, HE.out, if_neg (by have := checkE_or ids rn; omega)])
  have hb : (checkE ids rn != 0) = true := by simpa using h1
  clear hr hr1
  go_enter Tryz.func60, Tryz.ntmps60
  go_wp2_with (go_at_call 96; refine (HC.out _ HB.out).mono ?_; rintro e w1 ⟨rfl, hb1⟩; have HB1 := am (HB.out.trans (hb1.mono (by simp))); have hs1 : w.heap.size + 1 ≤ w1.heap.size := (by have := hb1.size; simpa using this); have HK1 := am ((hb1.block _ (by simp)).trans HKA.out); have k0 : w1.cell? ⟨w.heap.size, 0, none⟩ = some (.slice A ids.length c) := (blk_cell HK1.out 0).trans rfl; have k1 : w1.cell? ⟨w.heap.size, 1, none⟩ = some (.bool rc) := (blk_cell HK1.out 1).trans rfl; have k2 : w1.cell? ⟨w.heap.size, 2, none⟩ = some (.int .i64 rn) := (blk_cell HK1.out 2).trans rfl; have k3 : w1.cell? ⟨w.heap.size, 3, none⟩ = some (.bool jb) := (blk_cell HK1.out 3).trans rfl)
  go_ret3
  exact ⟨HB1.out, Or.inl ⟨by rw [HE.out]; exact h1, by rw [HE.out, HA.out]; rfl⟩⟩
 have h1' : checkE ids rn = 0 := by omega
 by_cases h2 : 400 < l.length
 ·have HE := am (tellE_long (rc := rc) (jb := jb) (l := l) h1' h2)
  have HA := am (show tellAt ids rc rn jb l = 0 by rw [tellAt, HE.out, if_neg (by omega)])
  have hz : (400 : Int) < (l.length : Int) := by omega
  clear hr hr1
  go_enter Tryz.func60, Tryz.ntmps60
  go_wp2_with (go_at_call 96; refine (HC.out _ HB.out).mono ?_; rw [h1']; rintro e w1 ⟨rfl, hb1⟩; have HB1 := am (HB.out.trans (hb1.mono (by simp))); have hs1 : w.heap.size + 1 ≤ w1.heap.size := (by have := hb1.size; simpa using this); have HK1 := am ((hb1.block _ (by simp)).trans HKA.out); have k0 : w1.cell? ⟨w.heap.size, 0, none⟩ = some (.slice A ids.length c) := (blk_cell HK1.out 0).trans rfl; have k1 : w1.cell? ⟨w.heap.size, 1, none⟩ = some (.bool rc) := (blk_cell HK1.out 1).trans rfl; have k2 : w1.cell? ⟨w.heap.size, 2, none⟩ = some (.int .i64 rn) := (blk_cell HK1.out 2).trans rfl; have k3 : w1.cell? ⟨w.heap.size, 3, none⟩ = some (.bool jb) := (blk_cell HK1.out 3).trans rfl)
  go_ret3
  exact ⟨HB1.out, Or.inl ⟨by rw [HE.out]; decide, by rw [HE.out, HA.out]; rfl⟩⟩
 have h2' : l.length ≤ 400 := by omega
 have hz2 : decide ((400 : Int) < (l.length : Int)) = false := decide_eq_false (by omega)
 have HR := am (fun (V : World) (hb : Below w.heap.size w V) => rRun_any A c ids rc rn jb A1 c1 l V (Kd.C_below hr hb) hlc (Kd.C_below hr1 hb) hl h1')
 clear hr hr1
 by_cases h3 : (talkL ids rc rn jb l).word.length < l.length
 ·have HE := am (tellE_odd h1' h2' h3)
  have HA := am (show tellAt ids rc rn jb l = (talkL ids rc rn jb l).word.length by rw [tellAt, HE.out, if_pos rfl])
  have hzb : decide (((talkL ids rc rn jb l).word.length : Int) < (l.length : Int)) = true := decide_eq_true (by omega)
  go_enter Tryz.func60, Tryz.ntmps60
  go_wp2_with (first
   | (go_at_call 96; refine (HC.out _ HB.out).mono ?_; rw [h1']; rintro e w1 ⟨rfl, hb1⟩; have HB1 := am (HB.out.trans (hb1.mono (by simp))); have hs1 : w.heap.size + 1 ≤ w1.heap.size := (by have := hb1.size; simpa using this); have HK1 := am ((hb1.block _ (by simp)).trans HKA.out); have k0 : w1.cell? ⟨w.heap.size, 0, none⟩ = some (.slice A ids.length c) := (blk_cell HK1.out 0).trans rfl; have k1 : w1.cell? ⟨w.heap.size, 1, none⟩ = some (.bool rc) := (blk_cell HK1.out 1).trans rfl; have k2 : w1.cell? ⟨w.heap.size, 2, none⟩ = some (.int .i64 rn) := (blk_cell HK1.out 2).trans rfl; have k3 : w1.cell? ⟨w.heap.size, 3, none⟩ = some (.bool jb) := (blk_cell HK1.out 3).trans rfl)
   | (go_at_call 97; refine (HR.out _ HB1.out).mono ?_; rintro e w2 ⟨rfl, hb2, vw, vo, vp, vj, hT⟩))
  go_ret3
  exact ⟨HB1.out.trans (hb2.mono (by omega)), Or.inl ⟨by rw [HE.out]; decide, by rw [HE.out, HA.out]; rfl⟩⟩
 have HE := am (tellE_ok h1' h2' h3)
 have hzb : decide (((talkL ids rc rn jb l).word.length : Int) < (l.length : Int)) = false := decide_eq_false (by omega)
 go_enter Tryz.func60, Tryz.ntmps60
 go_wp2_with (first
  | (go_at_call 96; refine (HC.out _ HB.out).mono ?_; rw [h1']; rintro e w1 ⟨rfl, hb1⟩; have HB1 := am (HB.out.trans (hb1.mono (by simp))); have hs1 : w.heap.size + 1 ≤ w1.heap.size := (by have := hb1.size; simpa using this); have HK1 := am ((hb1.block _ (by simp)).trans HKA.out); have k0 : w1.cell? ⟨w.heap.size, 0, none⟩ = some (.slice A ids.length c) := (blk_cell HK1.out 0).trans rfl; have k1 : w1.cell? ⟨w.heap.size, 1, none⟩ = some (.bool rc) := (blk_cell HK1.out 1).trans rfl; have k2 : w1.cell? ⟨w.heap.size, 2, none⟩ = some (.int .i64 rn) := (blk_cell HK1.out 2).trans rfl; have k3 : w1.cell? ⟨w.heap.size, 3, none⟩ = some (.bool jb) := (blk_cell HK1.out 3).trans rfl)
  | (go_at_call 97; refine (HR.out _ HB1.out).mono ?_; rintro e w2 ⟨rfl, hb2, vw, vo, vp, vj, hT⟩))
 go_ret3
 exact ⟨HB1.out.trans (hb2.mono (by omega)), Or.inr ⟨HE.out, _, rfl, _, _, _, _, hT.lower (by omega)⟩⟩
theorem tellAt_ok {ids : List S68} {rc : Bool} {rn : Int} {jb : Bool} {l : List Mv} (h : tellE ids rc rn jb l = 0) : tellAt ids rc rn jb l = 0 := by rw [tellAt, if_neg (by omega)]
section
variable {A : Option Addr} {c : Nat} {ids : List S68} {rc : Bool} {rn : Int} {jb : Bool} {l : List Mv} {w : World} {e : Ending} {w' : World}
theorem BeginPost.both (h : BeginPost A c ids rc rn jb l w e w') : ∃ p, e = .returned (.tuple #[.pointer p, .int .i64 (tellAt ids rc rn jb l), .int .i64 (tellE ids rc rn jb l)]) ∧ Below w.heap.size w w' := by
 obtain ⟨hb, ⟨h0, rfl⟩ | ⟨h0, g, rfl, _⟩⟩ := h
 ·exact ⟨_, rfl, hb⟩
 exact ⟨some ⟨g, 0, none⟩, by rw [tellAt_ok h0, h0], hb⟩
end
theorem rCheck_any (A : Option Addr) (c : Nat) (ids : List S68) (rc : Bool) (rn : Int) (jb : Bool) (A1 : Option Addr) (c1 : Nat) (l : List Mv) (w : World) (hr : Kd.C k68 w A ids.length ids) (hlc : ids.length ≤ c) (hr1 : Kd.C k52 w A1 l.length l) (hl : l.length ≤ 1000000) : Calls Tryz.prog 20 #[.agg #[.slice A ids.length c, .bool rc, .int .i64 rn, .bool jb], .slice A1 l.length c1] w fun e w' => e = .returned (.tuple #[.int .i64 (tellAt ids rc rn jb l), .int .i64 (tellE ids rc rn jb l)]) ∧ Below w.heap.size w w' := by
 have HB := am ((Below.refl _ w).alloc (Nat.le_refl _) (.cells #[.slice A ids.length c, .bool rc, .int .i64 rn, .bool jb] 26))
 have HO := am (fun (V : World) (hb : Below w.heap.size w V) => rBegin_any A c ids rc rn jb A1 c1 l V (Kd.C_below hr hb) hlc (Kd.C_below hr1 hb) hl)
 clear hr hr1
 go_enter Tryz.func20, Tryz.ntmps20
 go_wp2_with (go_at_call 60; refine (HO.out _ HB.out).mono ?_; rintro e w1 hp; obtain ⟨p, rfl, hb1⟩ := hp.both)
 go_ret2
 exact ⟨rfl, HB.out.trans (hb1.mono (by simp))⟩
end Go.Proofs.YtjgocihflhljeaaGreat.P
namespace Go.Proofs.YtjgocihflhljeaaGreat.P
open Go.RowKit Go.Shelf Go.Proofs.YtjgocihflhljeaaGreatW.PrintWords Go.Proofs.YtjgocihflhljeaaGreatW.PrintLast Go.Proofs.YtjgocihflhljeaaGreatW.PrintMore
attribute [local go_sem] Oper.semAt_some
structure Lw (w W : World) (I : List (Option Addr × List S68)) (Y : List (Option Addr × List Mv)) (X : List (Option Addr × List Int)) (G : List (Nat × Array Value × TypeId)) : Prop where
 b : Below w.heap.size w W
 i : ∀ p ∈ I, Kd.C k68 W p.1 p.2.length p.2
 y : ∀ p ∈ Y, Kd.C k52 W p.1 p.2.length p.2
 x : ∀ p ∈ X, Kd.C (Kd.int .i64) W p.1 p.2.length p.2
 g : ∀ p ∈ G, W.heap[p.1]? = some (.cells p.2.1 p.2.2 (0, 0))
section
variable {w W W' : World} {I : List (Option Addr × List S68)} {Y : List (Option Addr × List Mv)} {X : List (Option Addr × List Int)} {G : List (Nat × Array Value × TypeId)}
theorem Lw.below (h : Lw w W I Y X G) (hb : Below W.heap.size W W') : Lw w W' I Y X G :=
 ⟨h.b.trans (hb.mono h.b.size), fun p hp => Kd.C_below (h.i p hp) hb, fun p hp => Kd.C_below (h.y p hp) hb, fun p hp => Kd.C_below (h.x p hp) hb, fun p hp => (hb.block _ (blk_lt (h.g p hp))).trans (h.g p hp)⟩
theorem Lw.addi (h : Lw w W I Y X G) {B : Option Addr} {xs : List S68} (hx : Kd.C k68 W B xs.length xs) : Lw w W ((B, xs) :: I) Y X G :=
 ⟨h.b, fun p hp => by rcases List.mem_cons.1 hp with rfl | hp <;> first | exact hx | exact h.i p hp, h.y, h.x, h.g⟩
theorem Lw.addy (h : Lw w W I Y X G) {B : Option Addr} {xs : List Mv} (hx : Kd.C k52 W B xs.length xs) : Lw w W I ((B, xs) :: Y) X G :=
 ⟨h.b, h.i, fun p hp => by rcases List.mem_cons.1 hp with rfl | hp <;> first | exact hx | exact h.y p hp, h.x, h.g⟩
theorem Lw.addx (h : Lw w W I Y X G) {B : Option Addr} {xs : List Int} (hx : Kd.C (Kd.int .i64) W B xs.length xs) : Lw w W I Y ((B, xs) :: X) G :=
 ⟨h.b, h.i, h.y, fun p hp => by rcases List.mem_cons.1 hp with rfl | hp <;> first | exact hx | exact h.x p hp, h.g⟩
theorem Lw.addg (h : Lw w W I Y X G) {b : Nat} {cs : Array Value} {t : TypeId} (hx : W.heap[b]? = some (.cells cs t (0, 0))) : Lw w W I Y X ((b, cs, t) :: G) :=
 ⟨h.b, h.i, h.y, h.x, fun p hp => by rcases List.mem_cons.1 hp with rfl | hp <;> first | exact hx | exact h.g p hp⟩
theorem Lw.new (h : Lw w W I Y X G) (cs : Array Value) (t : TypeId) : Lw w (W.alloc (.cells cs t)) I Y X ((W.heap.size, cs, t) :: G) :=
 (h.below ((Below.refl _ W).alloc (Nat.le_refl _) _)).addg (heap_alloc_new W _)
theorem Lw.cell (h : Lw w W I Y X G) {b : Nat} {cs : Array Value} {t : TypeId} (hg : (b, cs, t) ∈ G) (i : Nat) {v : Value} (hv : cs[i]? = some v) : W.cell? ⟨b, i, none⟩ = some v := (blk_cell (h.g _ hg) i).trans hv
theorem Lw.awake (h : Lw w W I Y X G) : Calls Tryz.prog 15 #[] W fun e w' => e = .returned (.bool true) ∧ Lw w w' I Y X G :=
 (awake_any W).mono (by rintro e w' ⟨rfl, hb⟩; exact ⟨rfl, h.below hb⟩)
theorem Lw.copyA (h : Lw w W I Y X G) {A : Option Addr} {c : Nat} {ids : List S68} (rc : Bool) (rn : Int) (jb : Bool) (hi : (A, ids) ∈ I) (hc : ids.length ≤ c) (ht : ids.length ≤ 12 ∧ ∀ x ∈ ids, x.f0.length ≤ 8) :
  Calls Tryz.prog 16 #[.agg #[.slice A ids.length c, .bool rc, .int .i64 rn, .bool jb]] W fun e w' => ∃ B k, e = .returned (.agg #[.slice B ids.length k, .bool rc, .int .i64 rn, .bool jb]) ∧ ids.length ≤ k ∧ Lw w w' ((B, ids) :: I) Y X G :=
 (riposteref04_Copy.calls 20 A c ids rc rn jb _ _ _ _ W (h.i _ hi) hc (copy_f ids rc rn jb ht.1 ht.2)).mono (by
  rintro e w' ⟨v, rfl, hR, hb⟩
  obtain ⟨B, k, rfl, hk, hC⟩ := Kd.S_reads hR
  exact ⟨B, k, rfl, hk, (h.below hb).addi hC⟩)
end
section
variable {w W W' : World} {I : List (Option Addr × List S68)} {Y : List (Option Addr × List Mv)} {X : List (Option Addr × List Int)} {G : List (Nat × Array Value × TypeId)}
variable (h : Lw w W I Y X G) {A A1 : Option Addr} {c c1 : Nat} {ids : List S68} {l : List Mv} (rc : Bool) (rn : Int) (jb : Bool) (hi : (A, ids) ∈ I) (hy : (A1, l) ∈ Y) (hl : l.length ≤ 1000000)
include h hi hy hl
theorem Lw.rcheck (hc : ids.length ≤ c) : Calls Tryz.prog 20 #[.agg #[.slice A ids.length c, .bool rc, .int .i64 rn, .bool jb], .slice A1 l.length c1] W fun e w' => e = .returned (.tuple #[.int .i64 (tellAt ids rc rn jb l), .int .i64 (tellE ids rc rn jb l)]) ∧ Lw w w' I Y X G :=
 (rCheck_any A c ids rc rn jb A1 c1 l W (h.i _ hi) hc (h.y _ hy) hl).mono (by rintro e w' ⟨rfl, hb⟩; exact ⟨rfl, h.below hb⟩)
theorem Lw.stand : Calls Tryz.prog 19 #[.agg #[.slice A ids.length c, .bool rc, .int .i64 rn, .bool jb], .slice A1 l.length c1] W fun e w' => ∃ B k, e = .returned (.tuple #[standV (okN (tellE ids rc rn jb l) (talkL ids rc rn jb l).turn) (.slice B (okL (tellE ids rc rn jb l) (talkL ids rc rn jb l).opn).length k) (okB (tellE ids rc rn jb l) (talkL ids rc rn jb l).force) (okB (tellE ids rc rn jb l) (talkL ids rc rn jb l).lost), .int .i64 (tellE ids rc rn jb l)]) ∧ (okL (tellE ids rc rn jb l) (talkL ids rc rn jb l).opn).length ≤ k ∧ Lw w w' I Y ((B, okL (tellE ids rc rn jb l) (talkL ids rc rn jb l).opn) :: X) G :=
 (pStand_any A c ids rc rn jb A1 c1 l W (h.i _ hi) (h.y _ hy) hl).mono (by
  rintro e w' ⟨r, rfl, B, n, k, rfl, hR, hb⟩
  obtain ⟨rfl, hk, hC⟩ := Kd.R_reads' hR
  exact ⟨B, k, rfl, hk, (h.below hb).addx hC⟩)
end
theorem Lw.start {w : World} {A A1 : Option Addr} {ids : List S68} {l : List Mv} (hr : Kd.C k68 w A ids.length ids) (hr1 : Kd.C k52 w A1 l.length l) : Lw w w [(A, ids)] [(A1, l)] [] [] := by
 refine ⟨Below.refl _ _, ?_, ?_, ?_, ?_⟩ <;> intro p hp
 ·rw [List.mem_singleton] at hp
  subst hp
  exact hr
 ·rw [List.mem_singleton] at hp
  subst hp
  exact hr1
 ·cases hp
 cases hp
end Go.Proofs.YtjgocihflhljeaaGreat.P
namespace Go.Proofs.YtjgocihflhljeaaGreat.P
open Go.RowKit Go.Shelf Go.Proofs.YtjgocihflhljeaaGreatW.PrintWords Go.Proofs.YtjgocihflhljeaaGreatW.PrintLast Go.Proofs.YtjgocihflhljeaaGreatW.PrintMore
section
variable {w W W' : World} {I : List (Option Addr × List S68)} {Y : List (Option Addr × List Mv)} {X : List (Option Addr × List Int)} {G : List (Nat × Array Value × TypeId)}
theorem Lw.popi {p : Option Addr × List S68} (h : Lw w W (p :: I) Y X G) : Lw w W I Y X G := ⟨h.b, fun q hq => h.i q (List.mem_cons_of_mem _ hq), h.y, h.x, h.g⟩
theorem Lw.popy {p : Option Addr × List Mv} (h : Lw w W I (p :: Y) X G) : Lw w W I Y X G := ⟨h.b, h.i, fun q hq => h.y q (List.mem_cons_of_mem _ hq), h.x, h.g⟩
variable (h : Lw w W I Y X G) {A A1 : Option Addr} {c c1 : Nat} {ids : List S68} {l : List Mv} (rc : Bool) (rn : Int) (jb : Bool) (hi : (A, ids) ∈ I) (hy : (A1, l) ∈ Y) (hl : l.length ≤ 1000000)
include h hi hy hl
end
end Go.Proofs.YtjgocihflhljeaaGreat.P
namespace Go.Proofs.YtjgocihflhljeaaGreat.P
open Go.RowKit Go.Proofs.YtjgocihflhljeaaGreatW.PrintWords Go.Proofs.YtjgocihflhljeaaGreatW.PrintLast Go.Proofs.YtjgocihflhljeaaGreatW.PrintMore
attribute [local go_sem] max2_int max_two
mutual
def riposteref04_All.l0 : Nat → List (S52) → Int → List (S68) → Bool → Int → Bool → Option ((List (S52)))
 | 0, _, _, _, _, _, _ => none
 | k + 1, x3, x4, x369000, x369001, x369002, x369003 => if x4 ≤ (x369000.length : Int) then (riposteref04_All.l1 k x3 x4 0 x369000 x369001 x369002 x369003) else (some x3)
def riposteref04_All.l1 : Nat → List (S52) → Int → Int → List (S68) → Bool → Int → Bool → Option ((List (S52)))
 | 0, _, _, _, _, _, _, _ => none
 | k + 1, x3, x4, x5, x369000, x369001, x369002, x369003 => if x5 ≤ 5 then ((riposteref04_Questions.f k x369000 x369001 x369002 x369003 x4 x5).bind fun t369 => (if x3.length + t369.length < 4398046511104 then ((some (x3 ++ t369 : List (S52))).bind fun y372 => ((riposteref04_Told.f k x369000 x369001 x369002 x369003 x4 x5 1).bind fun t375 => (if y372.length + t375.length < 4398046511104 then (riposteref04_All.l1 k (y372 ++ t375) x4 (wrap64 (x5 + 1)) x369000 x369001 x369002 x369003) else (none)))) else (none))) else (riposteref04_All.l0 k x3 (wrap64 (x4 + 1)) x369000 x369001 x369002 x369003)
end
def riposteref04_All.f (k : Nat) (l0_0 : List (S68)) (a0_1 : Bool) (a0_2 : Int) (a0_3 : Bool) : Option ((List (S52))) := riposteref04_All.l0 k ([] : List (S52)) 0 l0_0 a0_1 a0_2 a0_3
def riposteref04_All.T8 : Bool × List (List Nat × List Nat) := (true, [([], []), ([], []), ([], []), ([], []), ([1, 2, 3], [1, 2, 3]), ([0, 4, 4], [0, 4]), ([], []), ([], []), ([], []), ([6, 7, 8, 5], [6, 7, 8]), ([5, 9, 9], [5, 9]), ([10, 10, 0, 1, 2, 3, 4, 5, 6, 7, 8, 9, 10], [0, 10])])
def riposteref04_All.B8 : List Nat := [0, 0, 0, 0, 14, 31, 0, 0, 0, 511, 1023, 2047]
theorem riposteref04_All.tab8 : rtab .any (opsOf Tryz.f31 8) = riposteref04_All.T8 := by kernel_rfl
theorem riposteref04_All.bits8 : waitsOk riposteref04_All.T8.2 riposteref04_All.B8 = true := by kernel_rfl
set_option maxHeartbeats 8000000 in
set_option maxRecDepth 100000 in
theorem riposteref04_All.calls (k : Nat) (A0_0 : Option Addr) (c0_0 : Nat) (l0_0 : List (S68)) (a0_1 : Bool) (a0_2 : Int) (a0_3 : Bool) (r : List (S52)) (w : World) (hr0_0 : Kd.C k68 w A0_0 l0_0.length l0_0) (hc0_0 : l0_0.length ≤ c0_0) (h : riposteref04_All.f k l0_0 a0_1 a0_2 a0_3 = some r) :
  Calls Tryz.prog 31 #[.agg #[.slice A0_0 l0_0.length c0_0, .bool a0_1, .int .i64 a0_2, .bool a0_3]] w fun e w' => ∃ v0_ : Value, e = .returned (v0_) ∧ Kd.R k52 52 w' w.heap.size (fun _ => True) v0_ r ∧ Below w.heap.size w w' := by
 have hu26 := Tryz.underlying26
 have HR0_0 := am hr0_0
 have HC0_0 := am hc0_0
 clear hr0_0 hc0_0
 have HB := am (Below.refl w.heap.size w)
 have H : (riposteref04_All.l0 k ([] : List (S52)) 0 l0_0 a0_1 a0_2 a0_3) = some r := h
 clear h
 have H' := am H
 clear H
 go_enter Tryz.func31, Tryz.ntmps31
 go_wp2_with (first | ((with_reducible refine gate_dst (N := 1) rfl ?_); refine box_event ?hg (N := 1) ?hd (cs := #[.slice A0_0 l0_0.length c0_0, .bool a0_1, .int .i64 a0_2, .bool a0_3]) (t := 26) ?hr ?_; (case hd => rfl); (case hg => rfl); (case hr => go_simp); intro gb368 hg w2 hbox hb; have n0_ := am (below_step HB.out hb); have n1_ := am (hbox); have n2_ := am ((by rw [hg]; exact (below_size HB.out) : w.heap.size ≤ gb368)); have n3_ := am ((by rw [hg]; exact (below_size HB.out) : w.heap.size ≤ gb368)); clear HB; have HB := n0_; have BK368 := n1_; have GW368 := n2_; have GE368 := n3_; clear n0_ n1_ n2_ n3_; clear hb hbox hg))
 go_loopg [3, 4] k (fun kq v3 v4 w' => ∃ (x3_1 : List (S52)) (x4_1 : Int), v4 = .int .i64 x4_1 ∧ Aside0 (riposteref04_All.l0 kq x3_1 x4_1 l0_0 a0_1 a0_2 a0_3 = some r) ∧ Aside0 (kq ≤ k) ∧ Aside0 (Kd.R k52 52 w' w.heap.size (fun _ => True) v3 x3_1) ∧ Aside0 (w'.heap[gb368]? = some (.cells #[(.slice A0_0 l0_0.length c0_0), .bool a0_1, .int .i64 a0_2, .bool a0_3] 26 (0, 0))) ∧ Aside0 (Below w.heap.size w w'))
 case atStart => exact ⟨(([] : List (S52))), (0), (by first | rfl), H', ⟨Nat.le_refl _⟩, ⟨by first | exact Kd.R_nil _ _ _ _ _⟩, ⟨by exact BK368.out⟩, ⟨by exact HB.out⟩⟩
 case round =>
  clear H'
  try clear p2
  obtain ⟨x3_1, x4_1, rfl, HA, HK1, HO_3, BK368, HB⟩ := hrel
  cases gk with
  | zero => exact absurd HA.out (by simp [riposteref04_All.l0])
  | succ k1 =>
   have H := HA.out
   clear HA
   simp only [riposteref04_All.l0] at H
   by_cases c3 : x4_1 ≤ (l0_0.length : Int)
   ·rw [if_pos c3] at H
    have c3b0 : decide (x4_1 ≤ (l0_0.length : Int)) = true := decide_eq_true c3
    clear c3
    have H' := am H
    clear H
    have hcz4_0 : wr.cell? ⟨gb368, 0, none⟩ = some (.slice A0_0 l0_0.length c0_0) := (blk_cell BK368.out 0).trans rfl
    have hcz4_1 : wr.cell? ⟨gb368, 1, none⟩ = some (.bool a0_1) := (blk_cell BK368.out 1).trans rfl
    have hcz4_2 : wr.cell? ⟨gb368, 2, none⟩ = some (.int .i64 a0_2) := (blk_cell BK368.out 2).trans rfl
    have hcz4_3 : wr.cell? ⟨gb368, 3, none⟩ = some (.bool a0_3) := (blk_cell BK368.out 3).trans rfl
    have hfz4_0 := blk_frozen BK368.out 0
    have hfz4_1 := blk_frozen BK368.out 1
    have hfz4_2 := blk_frozen BK368.out 2
    have hfz4_3 := blk_frozen BK368.out 3
    go_wp2
    go_loopg [3, 5] k1 (fun kq v3 v5 w' => ∃ (x3_2 : List (S52)) (x5_2 : Int), v5 = .int .i64 x5_2 ∧ Aside0 (riposteref04_All.l1 kq x3_2 x4_1 x5_2 l0_0 a0_1 a0_2 a0_3 = some r) ∧ Aside0 (kq ≤ k1) ∧ Aside0 (Kd.R k52 52 w' w.heap.size (fun _ => True) v3 x3_2) ∧ Aside0 (w'.heap[gb368]? = some (.cells #[(.slice A0_0 l0_0.length c0_0), .bool a0_1, .int .i64 a0_2, .bool a0_3] 26 (0, 0))) ∧ Aside0 (Below w.heap.size w w'))
    case atStart => exact ⟨(x3_1), (0), (by first | rfl), H', ⟨Nat.le_refl _⟩, ⟨by exact HO_3.out⟩, ⟨by exact BK368.out⟩, ⟨by exact HB.out⟩⟩
    case round =>
     clear H'
     try clear p2
     try clear c3
     try clear c3b0
     try clear hcz4_0
     try clear hcz4_1
     try clear hcz4_2
     try clear hcz4_3
     try clear hfz4_0
     try clear hfz4_1
     try clear hfz4_2
     try clear hfz4_3
     try clear p2
     obtain ⟨x3_2, x5_2, rfl, HA, HK2, HO_3, BK368, HB⟩ := hrel
     cases gk with
     | zero => exact absurd HA.out (by simp [riposteref04_All.l1])
     | succ k2 =>
      have H := HA.out
      clear HA
      simp only [riposteref04_All.l1] at H
      by_cases c5 : x5_2 ≤ 5
      ·rw [if_pos c5] at H
       have c5b0 : decide (x5_2 ≤ 5) = true := decide_eq_true c5
       clear c5
       replace H := Option.bind_eq_some_iff.mp H
       obtain ⟨t369, A60, H⟩ := H
       replace H : (if x3_2.length + t369.length < 4398046511104 then ((some (x3_2 ++ t369 : List (S52))).bind fun y372 => ((riposteref04_Told.f k2 l0_0 a0_1 a0_2 a0_3 x4_1 x5_2 1).bind fun t375 => (if y372.length + t375.length < 4398046511104 then (riposteref04_All.l1 k2 (y372 ++ t375) x4_1 (wrap64 (x5_2 + 1)) l0_0 a0_1 a0_2 a0_3) else (none)))) else (none)) = some r := H
       have A6 := am A60
       clear A60
       by_cases c7 : x3_2.length + t369.length < 4398046511104
       ·rw [if_pos c7] at H
        have LMc7 := am c7
        clear c7
        obtain ⟨y372, hy372⟩ : ∃ y_ : List (S52), y_ = (x3_2 ++ t369) := ⟨_, rfl⟩
        replace H : ((riposteref04_Told.f k2 l0_0 a0_1 a0_2 a0_3 x4_1 x5_2 1).bind fun t375 => (if y372.length + t375.length < 4398046511104 then (riposteref04_All.l1 k2 (y372 ++ t375) x4_1 (wrap64 (x5_2 + 1)) l0_0 a0_1 a0_2 a0_3) else (none))) = some r := by first | (have H2_ := (Option.bind_some _ _).symm.trans H; rw [hy372]; with_reducible exact H2_)
        have Ny372 := am hy372
        clear hy372
        replace H := Option.bind_eq_some_iff.mp H
        obtain ⟨t375, A80, H⟩ := H
        replace H : (if y372.length + t375.length < 4398046511104 then (riposteref04_All.l1 k2 (y372 ++ t375) x4_1 (wrap64 (x5_2 + 1)) l0_0 a0_1 a0_2 a0_3) else (none)) = some r := H
        have A8 := am A80
        clear A80
        by_cases c9 : y372.length + t375.length < 4398046511104
        ·rw [if_pos c9] at H
         have LMc9 := am c9
         clear c9
         obtain ⟨y378, hy378⟩ : ∃ y_ : List (S52), y_ = (y372 ++ t375) := ⟨_, rfl⟩
         replace H : (riposteref04_All.l1 k2 y378 x4_1 (wrap64 (x5_2 + 1)) l0_0 a0_1 a0_2 a0_3) = some r := by first | (rw [hy378]; with_reducible exact H)
         have Ny378 := am hy378
         clear hy378
         have H' := am H
         clear H
         try go_wp2
         have n0_ := am (Kd.R_drew HO_3.out)
         have n1_ := am (blk_drew BK368.out)
         have n2_ := am (below_drew1 HB.out)
         clear HO_3
         clear BK368
         clear HB
         have HO_3 := n0_
         have BK368 := n1_
         have HB := n2_
         clear n0_ n1_ n2_
         refine start_ (n := 12) (S := fun w' => w'.cell? ⟨gb368, 0, none⟩ = some (.slice A0_0 l0_0.length c0_0) ∧ w'.cell? ⟨gb368, 1, none⟩ = some (.bool a0_1) ∧ w'.cell? ⟨gb368, 2, none⟩ = some (.int .i64 a0_2) ∧ w'.cell? ⟨gb368, 3, none⟩ = some (.bool a0_3)) (ds := []) #[Z,Z,Z,Z,Z,Z,Z,Z,Z,Z,Z,Z] (by kernel_rfl) rfl rfl ⟨(blk_cell BK368.out 0).trans rfl, (blk_cell BK368.out 1).trans rfl, (blk_cell BK368.out 2).trans rfl, (blk_cell BK368.out 3).trans rfl⟩ (fun hHeld => ?_); refine with_tabW riposteref04_All.tab8 riposteref04_All.bits8 (fun HT_ HW_ => ?_)
         generalize wr.drew = w10 at HO_3 BK368 HB hHeld ⊢
         refine pure_ (i := 0) (N := some 17) (v := ?_) (a' := ?_) #[Y,Z,Z,Z,Z,Z,Z,Z,Z,Z,Z,Z] rfl rfl (any_of HT_.out (by kernel_rfl)) (fun _ _ _ h => h) (Or.inl ⟨by rfl, ?_⟩) ?_ ?_;rotate_left;(intro w';go_simp;with_reducible rfl);rotate_left;(simp only [Act.put, sn1, sn2, sn3, i64_w];rfl)
         refine pure_ (i := 2) (N := some 19) (v := ?_) (a' := ?_) #[Y,Z,Y,Z,Z,Z,Z,Z,Z,Z,Z,Z] rfl rfl (any_of HT_.out (by kernel_rfl)) (fun _ _ _ h => h) (Or.inl ⟨by rfl, ?_⟩) ?_ ?_;rotate_left;(intro w';go_simp;with_reducible rfl);rotate_left;(simp only [Act.put, sn1, sn2, sn3, i64_w];rfl)
         refine pure_ (i := 3) (N := some 20) (v := ?_) (a' := ?_) #[Y,Z,Y,Y,Z,Z,Z,Z,Z,Z,Z,Z] rfl rfl (any_of HT_.out (by kernel_rfl)) (fun _ _ _ h => h) (Or.inl ⟨by rfl, ?_⟩) ?_ ?_;rotate_left;(intro w';go_simp;with_reducible rfl);rotate_left;(simp only [Act.put, sn1, sn2, sn3, i64_w];rfl)
         refine pure_ (i := 7) (N := some 24) (v := ?_) (a' := ?_) #[Y,Z,Y,Y,Z,Z,Z,Y,Z,Z,Z,Z] rfl rfl (any_of HT_.out (by kernel_rfl)) (fun _ _ _ h => h) (Or.inl ⟨by rfl, ?_⟩) ?_ ?_;rotate_left;(intro w';go_simp;with_reducible rfl);rotate_left;(simp only [Act.put, sn1, sn2, sn3, i64_w];rfl)
         refine pure_ (i := 8) (N := some 25) (v := ?_) (a' := ?_) #[Y,Z,Y,Y,Z,Z,Z,Y,Y,Z,Z,Z] rfl rfl (any_of HT_.out (by kernel_rfl)) (fun _ _ _ h => h) (Or.inl ⟨by rfl, ?_⟩) ?_ ?_;rotate_left;(intro w';go_simp;with_reducible rfl);rotate_left;(simp only [Act.put, sn1, sn2, sn3, i64_w];rfl)
         refine take_ (i := 1) (N := some 18) (v := ?_) (a' := ?_) #[Y,Y,Y,Y,Z,Z,Z,Y,Y,Z,Z,Z] rfl rfl (take_ofW HT_.out HW_.out (by kernel_rfl)) (fun _ _ _ h => h) (Or.inl ⟨by rfl, ?_⟩) hHeld ?_ ?_
         rotate_left
         ·rintro w' ⟨s0, s1, s2, s3⟩
          go_simp
          with_reducible rfl
         rotate_left
         ·simp only [Act.put, sn1, sn2, sn3, i64_w]
          rfl
         refine take_ (i := 6) (N := some 23) (v := ?_) (a' := ?_) #[Y,Y,Y,Y,Z,Z,Y,Y,Y,Z,Z,Z] rfl rfl (take_ofW HT_.out HW_.out (by kernel_rfl)) (fun _ _ _ h => h) (Or.inl ⟨by rfl, ?_⟩) hHeld ?_ ?_
         rotate_left
         ·rintro w' ⟨s0, s1, s2, s3⟩
          go_simp
          with_reducible rfl
         rotate_left
         ·simp only [Act.put, sn1, sn2, sn3, i64_w]
          rfl
         refine one_ (i := 4) (N := some 21) #[Y,Y,Y,Y,Y,Z,Y,Y,Y,Z,Z,Z] rfl rfl (one_of HT_.out (by kernel_rfl)) (by decide) (fun K hK => ?_)
         refine goes_ Tryz.func72 (by kernel_rfl) rfl #[.agg #[.slice A0_0 l0_0.length c0_0, .bool a0_1, .int .i64 a0_2, .bool a0_3], .int .i64 x4_1, .int .i64 x5_2] (by rfl) rfl rfl (by (try simp only [List.map_toArray, List.map_cons, List.map_nil]); first | rfl) ?_
         with_reducible refine (riposteref04_Questions.calls k2 _ _ l0_0 a0_1 a0_2 a0_3 x4_1 x5_2 t369 _ ?side1 ?side2 A6.out).mono ?_
         (case side1 => repeat (first | exact (Kd.C_below HR0_0.out HB.out)))
         (case side2 => exact HC0_0.out)
         rintro e w11 ⟨v370, rfl, ho0, hb⟩
         refine ⟨_, rfl, ?_⟩
         have n0_ := am (Kd.R_elder' HO_3.out (Kd.R_base ho0) hb)
         have n1_ := am (Kd.R_lower (Kd.R_new' ho0 (Kd.R_lt HO_3.out)) (below_size HB.out))
         have n2_ := am (blk_below (g := gb368) (o := .cells #[.slice A0_0 l0_0.length c0_0, .bool a0_1, .int .i64 a0_2, .bool a0_3] 26 (0, 0)) BK368.out hb)
         have n3_ := am (below_step HB.out hb)
         clear HO_3
         clear BK368
         clear HB
         have HO_3 := n0_
         have HO371 := n1_
         have BK368 := n2_
         have HB := n3_
         clear n0_ n1_ n2_ n3_
         (try clear hb)
         (try clear hb2)
         (try clear hk)
         (try clear hi)
         (try clear ho0)
         obtain ⟨Ao13, co13, eo13⟩ := Kd.R_slice HO371.out
         (first | subst eo13)
         refine hK.out _ _ ⟨(blk_cell BK368.out 0).trans rfl, (blk_cell BK368.out 1).trans rfl, (blk_cell BK368.out 2).trans rfl, (blk_cell BK368.out 3).trans rfl⟩ (fun hHeld => ?_)
         clear hK K
         refine norm_ (a' := ?_) ?_ ?_
         rotate_left
         ·show Act.put _ (some 21) _ = _
          simp only [Act.put, sn1, sn2, sn3, i64_w]
          rfl
         refine one_ (i := 5) (N := some 22) #[Y,Y,Y,Y,Y,Y,Y,Y,Y,Z,Z,Z] rfl rfl (one_of HT_.out (by kernel_rfl)) (by decide) (fun K hK => ?_)
         refine Kd.R_append_rows_step k52 (w0 := w) w.heap.size (by rfl) (.tmp 17) (.tmp 21) 27 52 (.agg #[(.int .i64 0), (.int .i64 0), (.int .u8 0), (.int .i64 0)]) 32 rfl Tryz.underlying27 info52 rfl (by decide) (by omega) u3 x3_2 t369 _ _ _ (fun k_ => some k_ ≠ (.slice Ao13 t369.length co13 : Value).ownBlock) (fun _ => False) rfl rfl ?aO ?aR (fun _ _ h => h) (fun _ h => h.elim) ?aF ?aB ?aS ?aL ?_
         (case aR => repeat (first | exact (Kd.R_reads' HO371.out).2.2))
         (case aB => exact HB.out)
         (case aF => exact (fun k_ hk => Kd.fresh' (Kd.R_lt HO371.out) k_ hk))
         (case aO => exact (by exact Kd.R_mono HO_3.out (fun _ hk => hk.2)))
         (case aS => exact (below_size HB.out))
         (case aL => have := LMc7.out; omega)
         intro v373 w12 ho hb hg hat
         rw [← Ny372.out] at ho
         have n0_ := am (blk_grown (g := gb368) (o := .cells #[.slice A0_0 l0_0.length c0_0, .bool a0_1, .int .i64 a0_2, .bool a0_3] 26 (0, 0)) BK368.out hg (Kd.R_ne HO_3.out BK368.out (by decide)))
         have n1_ := am (Kd.R_after (ok := (fun _ => True)) HO371.out hg hat)
         have n2_ := am (hb)
         have n3_ := am (ho)
         clear BK368
         clear HO371
         clear HB
         clear HO_3
         have BK368 := n0_
         have HO371 := n1_
         have HB := n2_
         have HO374 := n3_
         clear n0_ n1_ n2_ n3_
         clear ho hb hg hat
         refine hK.out _ _ ⟨(blk_cell BK368.out 0).trans rfl, (blk_cell BK368.out 1).trans rfl, (blk_cell BK368.out 2).trans rfl, (blk_cell BK368.out 3).trans rfl⟩ (fun hHeld => ?_)
         clear hK K
         refine norm_ (a' := ?_) ?_ ?_
         rotate_left
         ·show Act.put _ (some 22) _ = _
          simp only [Act.put, sn1, sn2, sn3, i64_w]
          rfl
         refine one_ (i := 9) (N := some 26) #[Y,Y,Y,Y,Y,Y,Y,Y,Y,Y,Z,Z] rfl rfl (one_of HT_.out (by kernel_rfl)) (by decide) (fun K hK => ?_)
         refine goes_ Tryz.func73 (by kernel_rfl) rfl #[.agg #[.slice A0_0 l0_0.length c0_0, .bool a0_1, .int .i64 a0_2, .bool a0_3], .int .i64 x4_1, .int .i64 x5_2, .int .u8 1] (by rfl) rfl rfl (by (try simp only [List.map_toArray, List.map_cons, List.map_nil]); first | rfl) ?_
         with_reducible refine (riposteref04_Told.calls k2 _ _ l0_0 a0_1 a0_2 a0_3 x4_1 x5_2 1 t375 _ ?side1 ?side2 A8.out).mono ?_
         (case side1 => repeat (first | exact (Kd.C_below HR0_0.out HB.out)))
         (case side2 => exact HC0_0.out)
         rintro e w14 ⟨v376, rfl, ho0, hb⟩
         refine ⟨_, rfl, ?_⟩
         have n0_ := am (Kd.R_elder' HO371.out (Kd.R_base ho0) hb)
         have n1_ := am (Kd.R_elder' HO374.out (Kd.R_base ho0) hb)
         have n2_ := am (Kd.R_lower (Kd.R_new' (Kd.R_new' ho0 (Kd.R_lt HO371.out)) (Kd.R_lt HO374.out)) (below_size HB.out))
         have n3_ := am (blk_below (g := gb368) (o := .cells #[.slice A0_0 l0_0.length c0_0, .bool a0_1, .int .i64 a0_2, .bool a0_3] 26 (0, 0)) BK368.out hb)
         have n4_ := am (below_step HB.out hb)
         clear HO371
         clear HO374
         clear BK368
         clear HB
         have HO371 := n0_
         have HO374 := n1_
         have HO377 := n2_
         have BK368 := n3_
         have HB := n4_
         clear n0_ n1_ n2_ n3_ n4_
         (try clear hb)
         (try clear hb2)
         (try clear hk)
         (try clear hi)
         (try clear ho0)
         obtain ⟨Ao16, co16, eo16⟩ := Kd.R_slice HO377.out
         (first | subst eo16)
         refine hK.out _ _ ⟨(blk_cell BK368.out 0).trans rfl, (blk_cell BK368.out 1).trans rfl, (blk_cell BK368.out 2).trans rfl, (blk_cell BK368.out 3).trans rfl⟩ (fun hHeld => ?_)
         clear hK K
         refine norm_ (a' := ?_) ?_ ?_
         rotate_left
         ·show Act.put _ (some 26) _ = _
          simp only [Act.put, sn1, sn2, sn3, i64_w]
          rfl
         refine one_ (i := 10) (N := some 27) #[Y,Y,Y,Y,Y,Y,Y,Y,Y,Y,Y,Z] rfl rfl (one_of HT_.out (by kernel_rfl)) (by decide) (fun K hK => ?_)
         refine Kd.R_append_rows_step k52 (w0 := w) w.heap.size (by rfl) (.tmp 22) (.tmp 26) 27 52 (.agg #[(.int .i64 0), (.int .i64 0), (.int .u8 0), (.int .i64 0)]) 32 rfl Tryz.underlying27 info52 rfl (by decide) (by omega) v373 y372 t375 _ _ _ (fun k_ => some k_ ≠ (.slice Ao13 t369.length co13 : Value).ownBlock ∧ some k_ ≠ (.slice Ao16 t375.length co16 : Value).ownBlock) (fun _ => False) rfl rfl ?aO ?aR (fun _ _ h => h) (fun _ h => h.elim) ?aF ?aB ?aS ?aL ?_
         (case aR => repeat (first | exact (Kd.R_reads' HO377.out).2.2))
         (case aB => exact HB.out)
         (case aF => exact (fun k_ hk => ⟨Kd.fresh' (Kd.R_lt HO371.out) k_ hk, Kd.fresh' (Kd.R_lt HO377.out) k_ hk⟩))
         (case aO => exact HO374.out)
         (case aS => exact (below_size HB.out))
         (case aL => have := LMc9.out; omega)
         intro v379 w15 ho hb hg hat
         rw [← Ny378.out] at ho
         have n0_ := am (blk_grown (g := gb368) (o := .cells #[.slice A0_0 l0_0.length c0_0, .bool a0_1, .int .i64 a0_2, .bool a0_3] 26 (0, 0)) BK368.out hg (Kd.R_ne HO374.out BK368.out (by decide)))
         have n1_ := am (Kd.R_after (ok := (fun k_ => some k_ ≠ (.slice Ao16 t375.length co16 : Value).ownBlock)) (by exact Kd.R_mono HO371.out (fun _ hk => ⟨hk.2, hk.1.2⟩)) hg hat)
         have n2_ := am (Kd.R_after (ok := (fun k_ => some k_ ≠ (.slice Ao13 t369.length co13 : Value).ownBlock)) (by exact Kd.R_mono HO377.out (fun _ hk => ⟨hk.1.2, hk.2⟩)) hg hat)
         have n3_ := am (hb)
         have n4_ := am (ho)
         clear BK368
         clear HO371
         clear HO377
         clear HB
         clear HO374
         have BK368 := n0_
         have HO371 := n1_
         have HO377 := n2_
         have HB := n3_
         have HO380 := n4_
         clear n0_ n1_ n2_ n3_ n4_
         clear ho hb hg hat
         refine hK.out _ _ ⟨(blk_cell BK368.out 0).trans rfl, (blk_cell BK368.out 1).trans rfl, (blk_cell BK368.out 2).trans rfl, (blk_cell BK368.out 3).trans rfl⟩ (fun hHeld => ?_)
         clear hK K
         refine norm_ (a' := ?_) ?_ ?_
         rotate_left
         ·show Act.put _ (some 27) _ = _
          simp only [Act.put, sn1, sn2, sn3, i64_w]
          rfl
         refine pure_ (i := 11) (N := some 3) (v := ?_) (a' := ?_) #[Y,Y,Y,Y,Y,Y,Y,Y,Y,Y,Y,Y] rfl rfl (any_of HT_.out (by kernel_rfl)) (fun _ _ _ h => h) (Or.inl ⟨by rfl, ?_⟩) ?_ ?_;rotate_left;(intro w';go_simp;with_reducible rfl);rotate_left;(simp only [Act.put, sn1, sn2, sn3, i64_w];rfl)
         refine done_ (done_of HT_.out (by kernel_rfl)) ?_
         try go_wp2
         go_roundg k2
         case measure => have := HK1.out; have := HK2.out; omega
         case rel => exact ⟨(y378), (wrap64 (x5_2 + 1)), (by first | rfl), H', ⟨by have := HK1.out; have := HK2.out; omega⟩, ⟨by exact Kd.R_mono HO380.out (fun _ hk => trivial)⟩, ⟨by exact BK368.out⟩, ⟨by exact HB.out⟩⟩
        rw [if_neg c9] at H
        exact absurd H (by simp)
       rw [if_neg c7] at H
       exact absurd H (by simp)
      rw [if_neg c5] at H
      have c5b0 : decide (x5_2 ≤ 5) = false := decide_eq_false c5
      clear c5
      have H' := am H
      clear H
      go_wp2
      go_roundg k2
      case measure => have := HK1.out; have := HK2.out; omega
      case rel => exact ⟨(x3_2), (wrap64 (x4_1 + 1)), (by first | rfl), H', ⟨by have := HK1.out; have := HK2.out; omega⟩, ⟨by exact HO_3.out⟩, ⟨by exact BK368.out⟩, ⟨by exact HB.out⟩⟩
   rw [if_neg c3] at H
   have c3b0 : decide (x4_1 ≤ (l0_0.length : Int)) = false := decide_eq_false c3
   clear c3
   obtain rfl := Option.some.inj H
   have hcz17_0 : wr.cell? ⟨gb368, 0, none⟩ = some (.slice A0_0 l0_0.length c0_0) := (blk_cell BK368.out 0).trans rfl
   have hcz17_1 : wr.cell? ⟨gb368, 1, none⟩ = some (.bool a0_1) := (blk_cell BK368.out 1).trans rfl
   have hcz17_2 : wr.cell? ⟨gb368, 2, none⟩ = some (.int .i64 a0_2) := (blk_cell BK368.out 2).trans rfl
   have hcz17_3 : wr.cell? ⟨gb368, 3, none⟩ = some (.bool a0_3) := (blk_cell BK368.out 3).trans rfl
   have hfz17_0 := blk_frozen BK368.out 0
   have hfz17_1 := blk_frozen BK368.out 1
   have hfz17_2 := blk_frozen BK368.out 2
   have hfz17_3 := blk_frozen BK368.out 3
   go_wp2
   go_ret
   exact ⟨_, by first | rfl, by exact HO_3.out, by exact HB.out⟩
end Go.Proofs.YtjgocihflhljeaaGreat.P
namespace Go.Proofs.YtjgocihflhljeaaGreat.P
open Go.RowKit Go.Shelf Go.Proofs.YtjgocihflhljeaaGreatW.PrintWords Go.Proofs.YtjgocihflhljeaaGreatW.PrintLast Go.Proofs.YtjgocihflhljeaaGreatW.PrintMore
def cellL (ids : List S68) (rc : Bool) (rn : Int) (j : Bool) (id arg : Nat) : List S52 := match spotAt ids rc rn j id arg with
 | none => []
 | some p => movesL p
def rowL (ids : List S68) (rc : Bool) (rn : Int) (j : Bool) (id : Nat) : List S52 := (List.range 6).flatMap fun a => cellL ids rc rn j id a
theorem cellL_len {ids : List S68} {rn : Int} (h : checkE ids rn = 0) (rc j : Bool) (id arg : Nat) : (cellL ids rc rn j id arg).length ≤ 130 := by
 unfold cellL
 cases hs : spotAt ids rc rn j id arg with
 | none => simp
 | some p =>
  rw [← find_spots] at hs
  exact movesL_len p (spotsL_n h rc j p (List.mem_of_find?_eq_some hs)).2
theorem up_nat {n : Nat} (h : n ≤ 1000) : wrap64 ((n : Int) + 1) = ((n + 1 : Nat) : Int) := by
 rw [wrap_in (by omega) (by omega)]
 simp
theorem all_l1 {ids : List S68} {rn : Int} (hc : checkE ids rn = 0) (rc j : Bool) (id : Nat) (hid : id ≤ 8) : ∀ (d a k : Nat) (acc : List S52), a + d = 6 → acc.length + d * 130 ≤ 10000 → 80 ≤ k →
  riposteref04_All.l1 (k + d + 1) acc id a ids rc rn j = riposteref04_All.l0 k (acc ++ (List.range d).flatMap fun i => cellL ids rc rn j id (a + i)) ((id + 1 : Nat) : Int) ids rc rn j := by
 obtain ⟨hl, hp, _, _⟩ := checkE_ok hc
 intro d
 induction d with
 | zero =>
  intro a k acc ha hacc hk
  rw [riposteref04_All.l1, if_neg (by omega), up_nat (by omega)]
  simp
 | succ d ih =>
  intro a k acc ha hacc hk
  have hn : ∀ p, spotAt ids rc rn j id a = some p → 1 ≤ p.n ∧ p.n ≤ 64 := by
   intro p hs
   rw [← find_spots] at hs
   exact spotsL_n hc rc j p (List.mem_of_find?_eq_some hs)
  have hq := questions_f (k + d + 1) (by omega) ids rc rn j id a hl hp hn (fun p hs => spotAt_id hs)
  have ht := told_f (k + d + 1) (by omega) ids rc rn j id a hl hp hn
  obtain ⟨Q, B, hQ, hB, hcell⟩ : ∃ Q B, riposteref04_Questions.f (k + d + 1) ids rc rn j id a = some Q ∧ riposteref04_Told.f (k + d + 1) ids rc rn j id a 1 = some B ∧ cellL ids rc rn j id a = Q ++ B := by
   cases hs : spotAt ids rc rn j id a with
   | none => rw [hs] at hq ht; exact ⟨_, _, hq, ht, by unfold cellL; rw [hs]; rfl⟩
   | some p => rw [hs] at hq ht; exact ⟨_, _, hq, ht, by unfold cellL; rw [hs]; rfl⟩
  have hlen2 := cellL_len hc rc j id a
  rw [hcell, List.length_append] at hlen2
  rw [show k + (d + 1) + 1 = (k + d + 1) + 1 by omega, riposteref04_All.l1, if_pos (by omega), hQ, Option.bind_some, hB, up_nat (by omega)]
  have e : (List.range (d + 1)).flatMap (fun i => cellL ids rc rn j id (a + i)) = cellL ids rc rn j id a ++ (List.range d).flatMap (fun i => cellL ids rc rn j id (a + 1 + i)) := by
   rw [List.range_succ_eq_map, List.flatMap_cons, List.flatMap_map]
   simp [Nat.add_comm, Nat.add_left_comm]
  rw [e, ← List.append_assoc, hcell, ← List.append_assoc]
  rw [if_pos (by omega), Option.bind_some, Option.bind_some, if_pos (by rw [List.length_append]; omega)]
  exact ih (a + 1) k (acc ++ Q ++ B) (by omega) (by rw [List.length_append, List.length_append]; omega) hk
theorem rowL_len {ids : List S68} {rn : Int} (h : checkE ids rn = 0) (rc j : Bool) (id : Nat) : (rowL ids rc rn j id).length ≤ 780 := by
 have := flat_len (L := List.range 6) (f := fun a => cellL ids rc rn j id a) (m := 130) (fun a _ => cellL_len h rc j id a)
 unfold rowL
 simp only [List.length_range] at this
 omega
theorem all_l0 {ids : List S68} {rn : Int} (hc : checkE ids rn = 0) (rc j : Bool) : ∀ (d id k : Nat) (acc : List S52), id + d = ids.length + 1 → acc.length ≤ 780 * id → 80 ≤ k →
  riposteref04_All.l0 (k + d * 8 + 1) acc id ids rc rn j = some (acc ++ (List.range d).flatMap fun i => rowL ids rc rn j (id + i)) := by
 obtain ⟨hl, hp, _, _⟩ := checkE_ok hc
 intro d
 induction d with
 | zero =>
  intro id k acc ha hacc hk
  rw [riposteref04_All.l0, if_neg (by omega)]
  simp
 | succ d ih =>
  intro id k acc ha hacc hk
  rw [riposteref04_All.l0, if_pos (by omega)]
  have hb : acc.length + 6 * 130 ≤ 10000 := by omega
  have hk2 : 80 ≤ k + d * 8 + 1 := by omega
  have hid : id ≤ 8 := by omega
  have e2 : k + (d + 1) * 8 = k + d * 8 + 1 + 6 + 1 := by omega
  have h1 : riposteref04_All.l1 (k + d * 8 + 1 + 6 + 1) acc id ((0 : Nat) : Int) ids rc rn j = _ := all_l1 hc rc j id hid 6 0 (k + d * 8 + 1) acc (Nat.zero_add 6) hb hk2
  rw [show ((0 : Nat) : Int) = 0 from rfl] at h1
  have h2 : (List.range 6).flatMap (fun i => cellL ids rc rn j id (0 + i)) = rowL ids rc rn j id := by unfold rowL; simp
  have h3 : (List.range (d + 1)).flatMap (fun i => rowL ids rc rn j (id + i)) = rowL ids rc rn j id ++ (List.range d).flatMap (fun i => rowL ids rc rn j (id + 1 + i)) := by
   rw [List.range_succ_eq_map, List.flatMap_cons, List.flatMap_map]
   simp [Nat.add_comm, Nat.add_left_comm]
  rw [e2, h1, h2, h3]
  have hlen := rowL_len hc rc j id
  obtain ⟨R, hR⟩ : ∃ R, rowL ids rc rn j id = R := ⟨_, rfl⟩
  rw [hR] at hlen ⊢
  clear h1 h2 h3 hR
  rw [ih (id + 1) k (acc ++ R) (by omega) (by rw [List.length_append]; omega) hk, List.append_assoc]
theorem param_moves (i : Nat) : ∀ (bs : List S24) (k : Nat), (paramSpots i k bs).flatMap movesL = (List.range bs.length).flatMap fun a => movesL ⟨(i : Int) + 1, ((k + a : Nat) : Int) + 1, (bs.getD a z24).f0, (bs.getD a z24).f1, true⟩ := by
 intro bs
 induction bs with
 | nil => intro k; rfl
 | cons b bs ih =>
  intro k
  rw [paramSpots, List.flatMap_cons, ih (k + 1), List.length_cons, List.range_succ_eq_map, List.flatMap_cons, List.flatMap_map]
  congr 1
  congr 1
  funext a
  rw [List.getD_cons_succ, show k + 1 + a = k + (a + 1) by omega]
theorem range_add {α : Type} (n m : Nat) (f : Nat → List α) (h : ∀ a, n ≤ a → f a = []) : (List.range (n + m)).flatMap f = (List.range n).flatMap f := by
 induction m with
 | zero => rfl
 | succ m ih =>
  rw [← Nat.add_assoc, List.range_succ, List.flatMap_append, ih]
  simp [h (n + m) (by omega)]
theorem flatMap_same {α β : Type} {l : List α} {f g : α → List β} (h : ∀ a ∈ l, f a = g a) : l.flatMap f = l.flatMap g := by
 rw [List.flatMap_def, List.flatMap_def, List.map_congr_left h]
theorem row_id {ids : List S68} (rc : Bool) (rn : Int) (j : Bool) (hp : ∀ x ∈ ids, x.f0.length ≤ 5) (i : Nat) (hi : i < ids.length) :
  rowL ids rc rn j (i + 1) = movesL ⟨(i : Int) + 1, 0, (ids.getD i z68).f1.f0, (ids.getD i z68).f1.f1, j || decide (0 < (ids.getD i z68).f0.length)⟩ ++ (paramSpots i 0 (ids.getD i z68).f0).flatMap movesL := by
 have hx : (ids.getD i z68).f0.length ≤ 5 := hp _ (by rw [getD_get _ _ _ hi]; exact List.getElem_mem hi)
 have e0 : ((i + 1 : Nat) : Int) - 1 = (i : Int) := by omega
 have hc : ∀ a : Nat, cellL ids rc rn j (i + 1) a = if a = 0 then movesL ⟨(i : Int) + 1, 0, (ids.getD i z68).f1.f0, (ids.getD i z68).f1.f1, j || decide (0 < (ids.getD i z68).f0.length)⟩ else if a ≤ (ids.getD i z68).f0.length then movesL ⟨(i : Int) + 1, a, ((ids.getD i z68).f0.getD (a - 1) z24).f0, ((ids.getD i z68).f0.getD (a - 1) z24).f1, true⟩ else [] := by
  intro a
  unfold cellL spotAt
  rw [if_neg (by omega), if_pos (by omega), idAt, e0]
  simp only [Int.toNat_natCast]
  by_cases h0 : a = 0
  ·rw [if_pos (by omega), if_pos h0]
   simp
  rw [if_neg (by omega), if_neg h0]
  by_cases h1 : a ≤ (ids.getD i z68).f0.length
  ·rw [if_pos (by omega), if_pos h1]
   have e1 : ((a : Int) - 1).toNat = a - 1 := by omega
   simp [e1]
  rw [if_neg (by omega), if_neg h1]
 unfold rowL
 rw [List.range_succ_eq_map, List.flatMap_cons, List.flatMap_map, hc 0, if_pos rfl, param_moves]
 congr 1
 obtain ⟨m, hm⟩ : ∃ m, 5 = (ids.getD i z68).f0.length + m := ⟨5 - (ids.getD i z68).f0.length, by omega⟩
 rw [hm, range_add]
 ·refine flatMap_same fun a ha => ?_
  rw [List.mem_range] at ha
  rw [hc (a + 1), if_neg (by omega), if_pos (by omega), show a + 1 - 1 = a by omega]
  simp
 intro a ha
 rw [hc (a + 1), if_neg (by omega), if_neg (by omega)]
theorem ids_moves (ids : List S68) (rc : Bool) (rn : Int) (j : Bool) (hp : ∀ x ∈ ids, x.f0.length ≤ 5) : ∀ (l : List S68) (i : Nat), ids.drop i = l → (idsSpots j i l).flatMap movesL = (List.range l.length).flatMap fun a => rowL ids rc rn j (i + a + 1) := by
 intro l
 induction l with
 | nil => intro i _; rfl
 | cons x xs ih =>
  intro i hd
  have hi : i < ids.length := by
   rcases Nat.lt_or_ge i ids.length with h | h
   ·exact h
   rw [List.drop_eq_nil_of_le h] at hd; cases hd
  have hx : ids.getD i z68 = x := by
   have := List.drop_eq_getElem_cons hi
   rw [this] at hd
   injection hd with h1 h2
   rw [getD_get _ _ _ hi, h1]
  have ht : ids.drop (i + 1) = xs := by
   have := List.drop_eq_getElem_cons hi
   rw [this] at hd
   injection hd
  rw [idsSpots, List.flatMap_cons, List.flatMap_append, ih (i + 1) ht, List.length_cons, List.range_succ_eq_map, List.flatMap_cons, List.flatMap_map, ← List.append_assoc]
  have hr := row_id rc rn j hp i hi
  rw [hx] at hr
  rw [← hr]
  congr 1
  congr 1
  funext a
  rw [show i + 1 + a + 1 = i + (a + 1) + 1 by omega]
theorem movesA_rows {ids : List S68} {rn : Int} (hc : checkE ids rn = 0) (rc j : Bool) : (List.range (ids.length + 1)).flatMap (fun i => rowL ids rc rn j (0 + i)) = movesA ids rc rn j := by
 obtain ⟨hl, hp, _, _⟩ := checkE_ok hc
 rw [List.range_succ_eq_map, List.flatMap_cons, List.flatMap_map]
 unfold movesA spotsL
 rw [List.flatMap_cons, ids_moves ids rc rn j hp ids 0 rfl]
 congr 1
 have e : rowL ids rc rn j (0 + 0) = movesL ⟨0, 0, rc, rn, j⟩ := by
  have hcell : ∀ a : Nat, cellL ids rc rn j 0 a = if a = 0 then movesL ⟨0, 0, rc, rn, j⟩ else [] := by
   intro a
   unfold cellL spotAt
   by_cases h0 : a = 0
   ·subst h0; rfl
   rw [if_neg (by omega), if_neg (by omega), if_neg h0]
  unfold rowL
  rw [range_add 1 5 _ (fun a ha => by rw [hcell a, if_neg (by omega)])]
  simp [hcell]
 rw [e]
 first
  | done
  | congr 1
theorem all_f {ids : List S68} {rn : Int} (hc : checkE ids rn = 0) (rc j : Bool) : riposteref04_All.f 200 ids rc rn j = some (movesA ids rc rn j) := by
 obtain ⟨hl, hp, _, _⟩ := checkE_ok hc
 rw [riposteref04_All.f]
 have h := all_l0 hc rc j (ids.length + 1) 0 (200 - (ids.length + 1) * 8 - 1) [] (by omega) (by simp) (by omega)
 rw [show ((0 : Nat) : Int) = 0 from rfl] at h
 rw [show 200 - (ids.length + 1) * 8 - 1 + (ids.length + 1) * 8 + 1 = 200 by omega] at h
 rw [h, List.nil_append, movesA_rows hc rc j]
theorem mem_movesA {ids : List S68} {rn : Int} (hc : checkE ids rn = 0) {rc j : Bool} {m : S52} (h : m ∈ movesA ids rc rn j) : ∃ (id a : Nat) (p : Spot), spotAt ids rc rn j id a = some p ∧ m ∈ movesL p := by
 rw [← movesA_rows hc] at h
 obtain ⟨i, _, h1⟩ := List.mem_flatMap.1 h
 unfold rowL at h1
 obtain ⟨a, _, h2⟩ := List.mem_flatMap.1 h1
 unfold cellL at h2
 cases hs : spotAt ids rc rn j ((0 + i : Nat) : Int) a with
 | none => rw [hs] at h2; cases h2
 | some p => rw [hs] at h2; exact ⟨0 + i, a, p, hs, h2⟩
def isOB (m : Mv) : Bool := isIdent m != askB m
theorem ask_ans {m : Mv} (h : MvOk m) : askB m = !isAns m := by
 unfold askB isAns
 rcases h.k with h | h | h <;> rw [h] <;> rfl
theorem par_ident {m : Mv} (h : isPar m = true) : isIdent m = false := by
 unfold isPar at h
 unfold isIdent
 simp only [Bool.and_eq_true, decide_eq_true_eq] at h
 have : (m.f1 == 0) = false := by simp; omega
 rw [this, Bool.and_false]
inductive Way (t : Tk) (jb : Bool) (m : Mv) : Prop where
 | root (h0 : t.word.length = 0) (ht : t.opn = []) (ha : isAns m = false) (h1 : m.f0 = 0) (h2 : m.f1 = 0) : Way t jb m
 | ident (q : Int) (ht : t.top = some q) (hq : isIdent (t.mv q) = false) (ha : isAns m = false) (hi : isIdent m = true) (hf : t.force = false) (hl : t.lost = false) : Way t jb m
 | param (q : Int) (ht : t.top = some q) (hq : isIdent (t.mv q) = true) (ha : isAns m = false) (hp : isPar m = true) (h0 : m.f0 = (t.mv q).f0) (hf : t.force = false) (hl : t.lost = false) : Way t jb m
 | answer (q : Int) (ht : t.top = some q) (ha : isAns m = true) (h0 : m.f0 = (t.mv q).f0) (h1 : m.f1 = (t.mv q).f1) (hn : t.answers jb (t.mv q) m = true) : Way t jb m
theorem way_of {t : Tk} {jb : Bool} {m : Mv} (ho : t.opn.length ≤ t.word.length) (h : t.can jb m = true) : Way t jb m := by
 unfold Tk.can at h
 cases ht : t.top with
 | none =>
  rw [ht] at h
  unfold atB at h
  simp only [Bool.and_eq_true, beq_iff_eq] at h
  obtain ⟨⟨h0, h1, h2⟩, h3⟩ := h
  exact .root (by omega) (List.getLast?_eq_none_iff.1 ht) (by simpa using h3) h1 h2
 | some q =>
  rw [ht] at h
  simp only at h
  have hn : t.opn ≠ [] := by
   intro hn
   rw [Tk.top, hn] at ht
   cases ht
  have hp := List.length_pos_iff.2 hn
  cases ha : isAns m with
  | true =>
   rw [ha, if_pos rfl] at h
   unfold atB at h
   simp only [Bool.and_eq_true, beq_iff_eq] at h
   obtain ⟨⟨h1, h2⟩, h3⟩ := h
   exact .answer q ht ha h1 h2 h3
  | false =>
   rw [ha, if_neg (by decide)] at h
   cases hf : (t.force || t.lost) with
   | true => rw [hf, if_pos rfl] at h; cases h
   | false =>
    rw [hf, if_neg (by decide)] at h
    rw [Bool.or_eq_false_iff] at hf
    have hov : t.over = false := by
     unfold Tk.over
     have : ((t.opn.length : Int) == 0) = false := by simp; omega
     rw [this, Bool.and_false]
    have htu : t.turn = if isIdent (t.mv q) then 1 else 2 := by
     unfold Tk.turn
     rw [hov, if_neg (by decide), ht]
    cases hq : isIdent (t.mv q) with
    | false =>
     rw [htu, hq, if_pos (by rfl)] at h
     exact .ident q ht hq ha h hf.1 hf.2
    | true =>
     rw [htu, hq, if_neg (by decide)] at h
     simp only [Bool.and_eq_true, beq_iff_eq] at h
     exact .param q ht hq ha h.1 h.2 hf.1 hf.2
theorem top_get {t : Tk} {q : Int} (h : t.top = some q) : 0 < t.opn.length ∧ t.opn.getD (t.opn.length - 1) 0 = q := by
 unfold Tk.top at h
 rw [List.getLast?_eq_getElem?] at h
 have hl : t.opn.length - 1 < t.opn.length := by
  rcases Nat.lt_or_ge (t.opn.length - 1) t.opn.length with hh | hh
  ·exact hh
  rw [List.getElem?_eq_none hh] at h; cases h
 rw [List.getD_eq_getElem?_getD, h]
 exact ⟨by omega, rfl⟩
theorem getD_snoc {α : Type} (l : List α) (x z : α) (k : Nat) : (l ++ [x]).getD k z = if k < l.length then l.getD k z else if k = l.length then x else z := by
 rw [List.getD_eq_getElem?_getD, List.getD_eq_getElem?_getD]
 split
 ·rw [List.getElem?_append_left (by assumption)]
 rw [List.getElem?_append_right (by omega)]
 split
 ·subst k; simp
 have : 1 ≤ k - l.length := by omega
 rw [List.getElem?_eq_none (by simpa using this)]
 rfl
theorem getD_dropLast {α : Type} (l : List α) (z : α) (k : Nat) (h : k + 1 < l.length) : l.dropLast.getD k z = l.getD k z := by
 rw [List.getD_eq_getElem?_getD, List.getD_eq_getElem?_getD, List.getElem?_dropLast, if_pos (by omega)]
theorem say_len (t : Tk) (m : Mv) : (t.say m).word.length = t.word.length + 1 := by simp [Tk.say]
theorem say_mv (t : Tk) (m : Mv) (n : Int) (h0 : 0 ≤ n) (h1 : n ≤ t.word.length) : (t.say m).mv n = if n = t.word.length then m else t.mv n := by
 split
 ·rename_i h; rw [h, say_mv_new]
 exact say_mv_old h0 (by omega)
theorem say_opn_ans {t : Tk} {m : Mv} (h : isAns m = true) : (t.say m).opn = t.opn.dropLast := by
 show t.opn' m = _
 rw [Tk.opn', if_pos h]
theorem say_opn_ask {t : Tk} {m : Mv} (h : isAns m = false) : (t.say m).opn = t.opn ++ [(t.word.length : Int)] := by
 show t.opn' m = _
 rw [Tk.opn', if_neg (by rw [h]; decide)]
structure Tk.InvA (t : Tk) : Prop where
 par : (t.word.length + t.opn.length) % 2 = 0
 lo : ∀ k, k < t.opn.length → 0 ≤ t.opn.getD k 0 ∧ t.opn.getD k 0 < t.word.length
 asc : ∀ k, k + 1 < t.opn.length → t.opn.getD k 0 < t.opn.getD (k + 1) 0
 alt : ∀ k, k < t.opn.length → isIdent (t.mv (t.opn.getD k 0)) = decide (k % 2 = 1)
 ask : ∀ k, k < t.opn.length → isAns (t.mv (t.opn.getD k 0)) = false
 pty : ∀ k, k < t.opn.length → (t.opn.getD k 0) % 2 = (k : Int) % 2
 oth : ∀ i : Nat, i < t.word.length → isOB (t.mv i) = decide (i % 2 = 0)
 root : ∀ i : Nat, i < t.word.length → isAns (t.mv i) = false → (t.mv i).f0 = 0 → i = 0
 mvs : ∀ i : Nat, i < t.word.length → MvOk (t.mv i)
theorem Tk.InvA.empty : Tk.empty.InvA := ⟨rfl, fun k h => by simp [Tk.empty] at h, fun k h => by simp [Tk.empty] at h, fun k h => by simp [Tk.empty] at h, fun k h => by simp [Tk.empty] at h, fun k h => by simp [Tk.empty] at h, fun k h => by simp [Tk.empty] at h, fun k h => by simp [Tk.empty] at h, fun k h => by simp [Tk.empty] at h⟩
theorem Tk.InvA.top {t : Tk} (h : t.InvA) {q : Int} (ht : t.top = some q) : 0 ≤ q ∧ q < t.word.length ∧ isAns (t.mv q) = false ∧ isIdent (t.mv q) = decide (t.opn.length % 2 = 0) ∧ 0 < t.opn.length := by
 obtain ⟨h0, hq⟩ := top_get ht
 have h1 := h.lo (t.opn.length - 1) (by omega)
 have h2 := h.ask (t.opn.length - 1) (by omega)
 have h3 := h.alt (t.opn.length - 1) (by omega)
 rw [hq] at h1 h2 h3
 refine ⟨h1.1, h1.2, h2, ?_, h0⟩
 rw [h3, decide_eq_decide]
 omega
theorem way_oth {t : Tk} {jb : Bool} {m : Mv} (h : t.InvA) (hm : MvOk m) (hw : Way t jb m) : isOB m = decide (t.word.length % 2 = 0) := by
 have hpar := h.par
 unfold isOB
 rw [ask_ans hm]
 cases hw with
 | root h0 ht ha h1 h2 =>
  have : isIdent m = false := by simp [isIdent, h1]
  rw [this, ha, h0]
  rfl
 | ident q ht hq ha hi hf hl =>
  have h3 := (h.top ht).2.2.2.1
  rw [hq] at h3
  have h4 := of_decide_eq_false h3.symm
  rw [hi, ha, decide_eq_false (by omega)]
  rfl
 | param q ht hq ha hp h0 hf hl =>
  have h3 := (h.top ht).2.2.2.1
  rw [hq] at h3
  have h4 := of_decide_eq_true h3.symm
  rw [par_ident hp, ha, decide_eq_true (by omega)]
  rfl
 | answer q ht ha h0 h1 hn =>
  have h3 := (h.top ht).2.2.2.1
  have e : isIdent m = isIdent (t.mv q) := by unfold isIdent; rw [h0, h1]
  rw [e, h3, ha]
  by_cases hp : t.opn.length % 2 = 0
  ·rw [decide_eq_true hp, decide_eq_true (by omega)]; rfl
  rw [decide_eq_false hp, decide_eq_false (by omega)]; rfl
theorem Tk.InvA.say {t : Tk} {jb : Bool} {m : Mv} (h : t.InvA) (hm : MvOk m) (hw : Way t jb m) : (t.say m).InvA := by
 have hoth := way_oth h hm hw
 have hol : t.opn.length ≤ t.word.length ∨ True := .inr trivial
 have hpar := h.par
 have oth : ∀ i : Nat, i < (t.say m).word.length → isOB ((t.say m).mv i) = decide (i % 2 = 0) := by
  intro i hi
  rw [say_len] at hi
  rw [say_mv _ _ _ (by omega) (by omega)]
  split
  ·have : i = t.word.length := by omega
   rw [hoth, this]
  exact h.oth i (by omega)
 have mvs : ∀ i : Nat, i < (t.say m).word.length → MvOk ((t.say m).mv i) := by
  intro i hi
  rw [say_len] at hi
  rw [say_mv _ _ _ (by omega) (by omega)]
  split
  ·exact hm
  exact h.mvs i (by omega)
 cases ha : isAns m with
 | true =>
  have eo := say_opn_ans (t := t) ha
  have hlen : (t.say m).opn.length = t.opn.length - 1 := by rw [eo]; simp
  have hpos : 0 < t.opn.length := by
   cases hw with
   | root _ _ ha' _ _ => rw [ha] at ha'; cases ha'
   | ident _ _ _ ha' _ _ _ => rw [ha] at ha'; cases ha'
   | param _ _ _ ha' _ _ _ _ => rw [ha] at ha'; cases ha'
   | answer q ht _ _ _ _ => exact (h.top ht).2.2.2.2
  have hg : ∀ k, k < (t.say m).opn.length → (t.say m).opn.getD k 0 = t.opn.getD k 0 := by
   intro k hk
   rw [eo]
   exact getD_dropLast _ _ _ (by omega)
  have hmv : ∀ k, k < (t.say m).opn.length → (t.say m).mv (t.opn.getD k 0) = t.mv (t.opn.getD k 0) := fun k hk => say_mv_old (h.lo k (by omega)).1 (h.lo k (by omega)).2
  refine ⟨?_, ?_, ?_, ?_, ?_, ?_, oth, ?_, mvs⟩
  ·rw [say_len, hlen]; omega
  ·intro k hk
   rw [hg k hk, say_len]
   have := h.lo k (by omega)
   omega
  ·intro k hk
   rw [hg k (by omega), hg (k + 1) hk]
   exact h.asc k (by omega)
  ·intro k hk
   rw [hg k hk, hmv k hk]
   exact h.alt k (by omega)
  ·intro k hk
   rw [hg k hk, hmv k hk]
   exact h.ask k (by omega)
  ·intro k hk
   rw [hg k hk]
   exact h.pty k (by omega)
  intro i hi hai h0
  rw [say_len] at hi
  rw [say_mv _ _ _ (by omega) (by omega)] at hai h0
  split at hai
  ·rw [ha] at hai; cases hai
  rename_i hne
  rw [if_neg hne] at h0
  exact h.root i (by omega) hai h0
 | false =>
  have eo := say_opn_ask (t := t) ha
  have hlen : (t.say m).opn.length = t.opn.length + 1 := by rw [eo]; simp
  have hg : ∀ k, (t.say m).opn.getD k 0 = if k < t.opn.length then t.opn.getD k 0 else if k = t.opn.length then (t.word.length : Int) else 0 := by
   intro k
   rw [eo]
   exact getD_snoc _ _ _ _
  have hid : isIdent m = decide (t.opn.length % 2 = 1) := by
   cases hw with
   | root h0 ht _ h1 h2 => rw [ht]; simp [isIdent, h1]
   | ident q ht hq _ hi hf hl =>
    have h3 := (h.top ht).2.2.2.1
    rw [hq] at h3
    have h4 := of_decide_eq_false h3.symm
    rw [hi, decide_eq_true (by omega)]
   | param q ht hq _ hp h0 hf hl =>
    have h3 := (h.top ht).2.2.2.1
    rw [hq] at h3
    have h4 := of_decide_eq_true h3.symm
    rw [par_ident hp, decide_eq_false (by omega)]
   | answer q ht ha' _ _ _ => rw [ha] at ha'; cases ha'
  refine ⟨?_, ?_, ?_, ?_, ?_, ?_, oth, ?_, mvs⟩
  ·rw [say_len, hlen]; omega
  ·intro k hk
   rw [hg k, say_len]
   split
   ·have := h.lo k (by assumption)
    omega
   rw [if_pos (by omega)]
   omega
  ·intro k hk
   rw [hg k, hg (k + 1), if_pos (by omega)]
   split
   ·exact h.asc k (by omega)
   rw [if_pos (by omega)]
   exact (h.lo k (by omega)).2
  ·intro k hk
   rw [hg k]
   split
   ·rename_i hk2
    rw [say_mv_old (h.lo k hk2).1 (h.lo k hk2).2]
    exact h.alt k hk2
   have : k = t.opn.length := by omega
   rw [if_pos this, say_mv_new, hid, this]
  ·intro k hk
   rw [hg k]
   split
   ·rename_i hk2
    rw [say_mv_old (h.lo k hk2).1 (h.lo k hk2).2]
    exact h.ask k hk2
   have : k = t.opn.length := by omega
   rw [if_pos this, say_mv_new, ha]
  ·intro k hk
   rw [hg k]
   split
   ·rename_i hk2
    exact h.pty k hk2
   have : k = t.opn.length := by omega
   rw [if_pos this]
   omega
  intro i hi hai h0
  rw [say_len] at hi
  rw [say_mv _ _ _ (by omega) (by omega)] at hai h0
  split at hai
  ·rename_i he
   rw [if_pos he] at h0
   cases hw with
   | root hz _ _ _ _ => omega
   | ident q ht hq _ hi' hf hl => simp [isIdent, h0] at hi'
   | param q ht hq _ hp h0' hf hl => simp [isPar, h0] at hp
   | answer q ht ha' _ _ _ => rw [ha] at ha'; cases ha'
  rename_i hne
  rw [if_neg hne] at h0
  exact h.root i (by omega) hai h0
end Go.Proofs.YtjgocihflhljeaaGreat.P
namespace Go.Proofs.YtjgocihflhljeaaGreat.P
open Go.RowKit Go.Shelf Go.Proofs.YtjgocihflhljeaaGreatW.PrintWords Go.Proofs.YtjgocihflhljeaaGreatW.PrintLast Go.Proofs.YtjgocihflhljeaaGreatW.PrintMore
attribute [local go_sem] Oper.semAt_some
end Go.Proofs.YtjgocihflhljeaaGreat.P
namespace Go.Proofs.YtjgocihflhljeaaGreat.P
open Go.RowKit Go.Shelf Go.Proofs.YtjgocihflhljeaaGreatW.PrintWords Go.Proofs.YtjgocihflhljeaaGreatW.PrintLast Go.Proofs.YtjgocihflhljeaaGreatW.PrintMore
def Tk.prt (t : Tk) (i : Nat) : Int := t.part.getD i 0
def Tk.jus (t : Tk) (i : Nat) : Int := t.just.getD i 0
def Tk.frd (t : Tk) (i : Nat) : Bool := t.forc.getD i false
structure Tk.InvC (t : Tk) : Prop where
 ans : ∀ i : Nat, i < t.word.length → isAns (t.mv i) = true → ∃ j : Nat, j < i ∧ t.prt i = j ∧ t.jus i = j ∧ isAns (t.mv j) = false ∧ (t.mv j).f0 = (t.mv i).f0 ∧ (t.mv j).f1 = (t.mv i).f1
 idn : ∀ i : Nat, i < t.word.length → isAns (t.mv i) = false → isIdent (t.mv i) = true → t.jus i = 0 ∧ 0 < i
 par : ∀ i : Nat, i < t.word.length → isAns (t.mv i) = false → isPar (t.mv i) = true → ∃ j : Nat, j < i ∧ t.jus i = j ∧ isAns (t.mv j) = false ∧ isIdent (t.mv j) = true ∧ (t.mv j).f0 = (t.mv i).f0
 rot : ∀ i : Nat, i < t.word.length → isAns (t.mv i) = false → (t.mv i).f0 = 0 → t.jus i = -1
 frc : ∀ i : Nat, i < t.word.length → t.frd i = (decide (0 < i) && isEscB (t.mv ((i : Int) - 1)) && decide (0 < (t.mv ((i : Int) - 1)).f1))
 fes : ∀ i : Nat, i < t.word.length → t.frd i = true → isEscB (t.mv i) = true
 zer : 0 < t.word.length → (t.mv 0).f0 = 0
theorem Tk.InvC.empty : Tk.empty.InvC := ⟨fun k h => by simp [Tk.empty] at h, fun k h => by simp [Tk.empty] at h, fun k h => by simp [Tk.empty] at h, fun k h => by simp [Tk.empty] at h, fun k h => by simp [Tk.empty] at h, fun k h => by simp [Tk.empty] at h, fun h => by simp [Tk.empty] at h⟩
theorem say_prt (t : Tk) (m : Mv) (ho : t.Ok) (i : Nat) (hi : i ≤ t.word.length) : (t.say m).prt i = if i = t.word.length then (if isAns m then t.topI else -1) else if isAns m = true ∧ t.topI.toNat = i then t.word.length else t.prt i := by
 have hp := ho.hp
 show ((if isAns m then t.part.set t.topI.toNat t.word.length else t.part) ++ [if isAns m then t.topI else -1]).getD i 0 = _
 have hl : (if isAns m then t.part.set t.topI.toNat t.word.length else t.part).length = t.word.length := by
  split <;> simp [hp]
 rw [getD_snoc, hl]
 by_cases h : i = t.word.length
 ·rw [if_neg (by omega), if_pos h, if_pos h]
 rw [if_pos (by omega), if_neg h]
 cases ha : isAns m with
 | true =>
  rw [if_pos rfl]
  by_cases h2 : t.topI.toNat = i
  ·rw [if_pos ⟨rfl, h2⟩, h2, List.getD_eq_getElem?_getD, List.getElem?_set_self (by omega)]
   rfl
  rw [if_neg (by simpa using h2), List.getD_eq_getElem?_getD, List.getElem?_set_ne h2]
  exact (List.getD_eq_getElem?_getD ..).symm
 | false =>
  rw [if_neg (by decide), if_neg (by simp)]
  rfl
theorem say_jus (t : Tk) (m : Mv) (ho : t.Ok) (i : Nat) (hi : i ≤ t.word.length) : (t.say m).jus i = if i = t.word.length then t.justOf m else t.jus i := by
 have hp := ho.hj
 show (t.just ++ [t.justOf m]).getD i 0 = _
 rw [getD_snoc, hp]
 by_cases h : i = t.word.length
 ·rw [if_neg (by omega), if_pos h, if_pos h]
 rw [if_pos (by omega), if_neg h]
 rfl
theorem say_frd (t : Tk) (m : Mv) (ho : t.Ok) (i : Nat) (hi : i ≤ t.word.length) : (t.say m).frd i = if i = t.word.length then t.force else t.frd i := by
 have hp := ho.hf
 show (t.forc ++ [t.force]).getD i false = _
 rw [getD_snoc, hp]
 by_cases h : i = t.word.length
 ·rw [if_neg (by omega), if_pos h, if_pos h]
 rw [if_pos (by omega), if_neg h]
 rfl
theorem say_mvN (t : Tk) (m : Mv) (i : Nat) (h : i < t.word.length) : (t.say m).mv (i : Int) = t.mv i := say_mv_old (by omega) (by omega)
theorem topI_of {t : Tk} {q : Int} (h : t.top = some q) : t.topI = q := by rw [Tk.topI, h]; rfl
theorem answers_esc {t : Tk} {jb : Bool} {q m : Mv} (h : t.answers jb q m = true) (hf : t.force = true ∨ t.lost = true) : isEscB m = true := by
 unfold Tk.answers at h
 have : (t.force || t.lost) = true := by rcases hf with h | h <;> simp [h]
 rw [this, if_pos rfl] at h
 exact h
theorem Tk.InvC.say {t : Tk} {jb : Bool} {m : Mv} (h : t.InvC) (hA : t.InvA) (ho : t.Ok) (hfo : t.force = (decide (0 < t.word.length) && isEscB (t.mv ((t.word.length : Int) - 1)) && decide (0 < (t.mv ((t.word.length : Int) - 1)).f1))) (hm : MvOk m) (hw : Way t jb m) : (t.say m).InvC := by
 have hl := say_len t m
 have htop : ∀ q, t.top = some q → ∃ j : Nat, (j : Int) = q ∧ j < t.word.length ∧ isAns (t.mv j) = false := by
  intro q hq
  have h1 := hA.top hq
  exact ⟨q.toNat, by omega, by omega, by rw [Int.toNat_of_nonneg h1.1]; exact h1.2.2.1⟩
 refine ⟨?_, ?_, ?_, ?_, ?_, ?_, ?_⟩
 ·intro i hi ha
  rw [hl] at hi
  by_cases hin : i = t.word.length
  ·subst hin
   rw [say_mv_new] at ha ⊢
   cases hw with
   | root _ _ ha' _ _ => rw [ha] at ha'; cases ha'
   | ident _ _ _ ha' _ _ _ => rw [ha] at ha'; cases ha'
   | param _ _ _ ha' _ _ _ _ => rw [ha] at ha'; cases ha'
   | answer q ht _ h0 h1 hn =>
    obtain ⟨j, hj, hjl, hja⟩ := htop q ht
    refine ⟨j, hjl, ?_, ?_, ?_, ?_, ?_⟩
    ·rw [say_prt _ _ ho _ (Nat.le_refl _), if_pos rfl, if_pos ha, topI_of ht, hj]
    ·rw [say_jus _ _ ho _ (Nat.le_refl _), if_pos rfl, Tk.justOf, if_pos ha, topI_of ht, hj]
    ·rw [say_mvN _ _ _ hjl]; exact hja
    ·rw [say_mvN _ _ _ hjl, hj, h0]
    rw [say_mvN _ _ _ hjl, hj, h1]
  have hi' : i < t.word.length := by omega
  rw [say_mvN _ _ _ hi'] at ha ⊢
  obtain ⟨j, hj, h1, h2, h3, h4, h5⟩ := h.ans i hi' ha
  refine ⟨j, hj, ?_, ?_, ?_, ?_, ?_⟩
  ·rw [say_prt _ _ ho _ (by omega), if_neg hin, if_neg, h1]
   rintro ⟨ham, hti⟩
   cases hw with
   | root _ _ ha' _ _ => rw [ham] at ha'; cases ha'
   | ident _ _ _ ha' _ _ _ => rw [ham] at ha'; cases ha'
   | param _ _ _ ha' _ _ _ _ => rw [ham] at ha'; cases ha'
   | answer q ht _ _ _ _ =>
    obtain ⟨k, hk, hkl, hka⟩ := htop q ht
    rw [topI_of ht, ← hk, Int.toNat_natCast] at hti
    rw [hti, ha] at hka
    cases hka
  ·rw [say_jus _ _ ho _ (by omega), if_neg hin, h2]
  ·rw [say_mvN _ _ _ (by omega)]; exact h3
  ·rw [say_mvN _ _ _ (by omega)]; exact h4
  rw [say_mvN _ _ _ (by omega)]; exact h5
 ·intro i hi ha hid
  rw [hl] at hi
  by_cases hin : i = t.word.length
  ·subst hin
   rw [say_mv_new] at ha hid
   rw [say_jus _ _ ho _ (Nat.le_refl _), if_pos rfl, Tk.justOf, if_neg (by rw [ha]; decide), if_pos hid]
   refine ⟨rfl, ?_⟩
   cases hw with
   | root h0 ht _ h1 h2 => simp [isIdent, h1] at hid
   | ident q ht _ _ _ _ _ => obtain ⟨j, _, hjl, _⟩ := htop q ht; omega
   | param q ht _ _ _ _ _ _ => obtain ⟨j, _, hjl, _⟩ := htop q ht; omega
   | answer q ht _ _ _ _ => obtain ⟨j, _, hjl, _⟩ := htop q ht; omega
  have hi' : i < t.word.length := by omega
  rw [say_mvN _ _ _ hi'] at ha hid
  rw [say_jus _ _ ho _ (by omega), if_neg hin]
  exact h.idn i hi' ha hid
 ·intro i hi ha hp
  rw [hl] at hi
  by_cases hin : i = t.word.length
  ·subst hin
   rw [say_mv_new] at ha hp
   have hid := par_ident hp
   cases hw with
   | root h0 ht _ h1 h2 => simp [isPar, h1] at hp
   | ident _ _ _ _ hi' _ _ => rw [hid] at hi'; cases hi'
   | param q ht hq _ _ h0 _ _ =>
    obtain ⟨j, hj, hjl, hja⟩ := htop q ht
    refine ⟨j, hjl, ?_, ?_, ?_, ?_⟩
    ·rw [say_jus _ _ ho _ (Nat.le_refl _), if_pos rfl, Tk.justOf, if_neg (by rw [ha]; decide), if_neg (by rw [hid]; decide), if_pos hp, topI_of ht, hj]
    ·rw [say_mvN _ _ _ hjl]; exact hja
    ·rw [say_mvN _ _ _ hjl, hj]; exact hq
    rw [say_mvN _ _ _ hjl, hj, say_mv_new, h0]
   | answer _ _ ha' _ _ _ => rw [ha] at ha'; cases ha'
  have hi' : i < t.word.length := by omega
  rw [say_mvN _ _ _ hi'] at ha hp ⊢
  obtain ⟨j, hj, h1, h2, h3, h4⟩ := h.par i hi' ha hp
  refine ⟨j, hj, ?_, ?_, ?_, ?_⟩
  ·rw [say_jus _ _ ho _ (by omega), if_neg hin, h1]
  ·rw [say_mvN _ _ _ (by omega)]; exact h2
  ·rw [say_mvN _ _ _ (by omega)]; exact h3
  rw [say_mvN _ _ _ (by omega)]; exact h4
 ·intro i hi ha h0
  rw [hl] at hi
  by_cases hin : i = t.word.length
  ·subst hin
   rw [say_mv_new] at ha h0
   rw [say_jus _ _ ho _ (Nat.le_refl _), if_pos rfl, Tk.justOf, if_neg (by rw [ha]; decide), if_neg (by simp [isIdent, h0]), if_neg (by simp [isPar, h0])]
  have hi' : i < t.word.length := by omega
  rw [say_mvN _ _ _ hi'] at ha h0
  rw [say_jus _ _ ho _ (by omega), if_neg hin]
  exact h.rot i hi' ha h0
 ·intro i hi
  rw [hl] at hi
  rw [say_frd _ _ ho _ (by omega)]
  by_cases hin : i = t.word.length
  ·subst hin
   rw [if_pos rfl, hfo]
   by_cases h0 : 0 < t.word.length
   ·rw [say_mv_old (by omega) (by omega)]
   rw [decide_eq_false h0]
   rfl
  rw [if_neg hin, h.frc i (by omega)]
  by_cases h0 : 0 < i
  ·rw [say_mv_old (by omega) (by omega)]
  rw [decide_eq_false h0]
  rfl
 ·intro i hi hf
  rw [hl] at hi
  rw [say_frd _ _ ho _ (by omega)] at hf
  by_cases hin : i = t.word.length
  ·subst hin
   rw [if_pos rfl] at hf
   rw [say_mv_new]
   cases hw with
   | root h0 _ _ _ _ => rw [hfo, decide_eq_false (by omega)] at hf; cases hf
   | ident _ _ _ _ _ hff _ => rw [hf] at hff; cases hff
   | param _ _ _ _ _ _ hff _ => rw [hf] at hff; cases hff
   | answer q ht _ _ _ hn => exact answers_esc hn (.inl hf)
  rw [if_neg hin] at hf
  rw [say_mvN _ _ _ (by omega)]
  exact h.fes i (by omega) hf
 intro _
 by_cases h0 : 0 < t.word.length
 ·have := say_mvN t m 0 h0
  rw [show ((0 : Nat) : Int) = 0 from rfl] at this
  rw [this]
  exact h.zer h0
 have e : (t.word.length : Int) = 0 := by omega
 rw [← e, say_mv_new]
 cases hw with
 | root _ _ _ h1 _ => rw [h1, e]
 | ident q ht _ _ _ _ _ => obtain ⟨j, _, hjl, _⟩ := htop q ht; omega
 | param q ht _ _ _ _ _ _ => obtain ⟨j, _, hjl, _⟩ := htop q ht; omega
 | answer q ht _ _ _ _ => obtain ⟨j, _, hjl, _⟩ := htop q ht; omega
structure Tk.Inv (ids : List S68) (rc : Bool) (rn : Int) (jb : Bool) (t : Tk) : Prop where
 l : t.Legal ids rc rn jb
 a : t.InvA
 c : t.InvC
section
variable {ids : List S68} {rc : Bool} {rn : Int} {jb : Bool}
theorem may_way {t : Tk} {m : Mv} (ho : t.Ok) (h : t.may ids rc rn jb m = true) : hasR ids rc rn jb m = true ∧ MvOk m ∧ Way t jb m := by
 unfold Tk.may at h
 simp only [Bool.and_eq_true] at h
 exact ⟨h.1.2, hasR_ok h.1.2, way_of ho.hl h.2⟩
theorem Tk.Inv.empty : Tk.empty.Inv ids rc rn jb := ⟨Tk.Legal.empty _ _ _ _, Tk.InvA.empty, Tk.InvC.empty⟩
theorem Tk.Inv.say {t : Tk} {m : Mv} (h : t.Inv ids rc rn jb) (hm : t.may ids rc rn jb m = true) (hw : t.word.length < 1048576) : (t.say m).Inv ids rc rn jb := by
 obtain ⟨h1, h2, h3⟩ := may_way h.l.ok hm
 exact ⟨h.l.say m h2.i (fun _ => h1) hw, h.a.say h2 h3, h.c.say h.a h.l.ok h.l.fo h2 h3⟩
theorem walkL_inv (l : List Mv) : ∀ t : Tk, t.Inv ids rc rn jb → t.word.length + l.length ≤ 1048576 → (walkL ids rc rn jb t l).Inv ids rc rn jb := by
 induction l with
 | nil => intro t h _; rw [walkL]; exact h
 | cons m ms ih =>
  intro t h hl
  rw [List.length_cons] at hl
  rw [walkL]
  split
  ·rename_i hm
   exact ih _ (h.say hm (by omega)) (by rw [say_len]; omega)
  exact h
end
theorem ident_same {a b : Mv} (h0 : a.f0 = b.f0) (h1 : a.f1 = b.f1) : isIdent a = isIdent b := by unfold isIdent; rw [h0, h1]
end Go.Proofs.YtjgocihflhljeaaGreat.P
namespace Go.Proofs.YtjgocihflhljeaaGreat.P
open Go.RowKit Go.Shelf Go.Proofs.YtjgocihflhljeaaGreatW.PrintWords Go.Proofs.YtjgocihflhljeaaGreatW.PrintLast Go.Proofs.YtjgocihflhljeaaGreatW.PrintMore
attribute [local go_sem] Oper.semAt_some
theorem spotAt_place {ids : List S68} {rc : Bool} {rn : Int} {j : Bool} {id arg : Int} {p : Spot} (h : spotAt ids rc rn j id arg = some p) : p.id = id ∧ p.arg = arg := by
 unfold spotAt at h
 split at h
 ·rename_i h0; cases h; exact ⟨h0.1.symm, h0.2.symm⟩
 split at h
 ·unfold idAt at h
  simp only at h
  split at h
  ·rename_i h0; cases h; exact ⟨rfl, h0.symm⟩
  split at h
  ·cases h; exact ⟨rfl, rfl⟩
  cases h
 cases h
theorem walkL_word (ids : List S68) (rc : Bool) (rn : Int) (jb : Bool) (l : List Mv) : ∀ t : Tk, ∃ n, n ≤ l.length ∧ (walkL ids rc rn jb t l).word = t.word ++ l.take n := by
 induction l with
 | nil => intro t; exact ⟨0, Nat.le_refl _, by rw [walkL]; simp⟩
 | cons m ms ih =>
  intro t
  rw [walkL]
  split
  ·obtain ⟨n, h1, h2⟩ := ih (t.say m)
   refine ⟨n + 1, by simpa using h1, ?_⟩
   rw [h2]
   show (t.word ++ [m]) ++ ms.take n = _
   simp
  exact ⟨0, Nat.zero_le _, by simp⟩
theorem talk_take (ids : List S68) (rc : Bool) (rn : Int) (jb : Bool) (l : List Mv) : (talkL ids rc rn jb l).word = l.take (talkL ids rc rn jb l).word.length := by
 obtain ⟨n, h1, h2⟩ := walkL_word ids rc rn jb l Tk.empty
 have e : Tk.empty.word = [] := rfl
 rw [e, List.nil_append] at h2
 show (walkL ids rc rn jb Tk.empty l).word = l.take (walkL ids rc rn jb Tk.empty l).word.length
 rw [h2, List.length_take]
 congr 1
 omega
theorem talk_all {ids : List S68} {rc : Bool} {rn : Int} {jb : Bool} {l : List Mv} (h : ¬ (talkL ids rc rn jb l).word.length < l.length) : (talkL ids rc rn jb l).word = l := by
 rw [talk_take]
 exact List.take_of_length_le (by omega)
theorem talk_inv (ids : List S68) (rc : Bool) (rn : Int) (jb : Bool) (l : List Mv) (hl : l.length ≤ 1000000) : (talkL ids rc rn jb l).Inv ids rc rn jb :=
 walkL_inv l _ Tk.Inv.empty (by simp [Tk.empty]; omega)
theorem eqM_refl (m : Mv) : eqM m m = true := by unfold eqM; simp
theorem mv_place {p : Spot} {m : Mv} (h : m ∈ movesL p) : m.f0 = p.id ∧ m.f1 = p.arg := by
 rcases mem_moves h with rfl | ⟨k, rfl⟩ | ⟨_, rfl⟩ | ⟨k, _, rfl⟩ <;> exact ⟨rfl, rfl⟩
theorem movesA_has {ids : List S68} {rc : Bool} {rn : Int} {jb : Bool} (hc : checkE ids rn = 0) {m : Mv} (h : m ∈ movesA ids rc rn jb) : hasR ids rc rn jb m = true := by
 obtain ⟨id, a, p, hs, hm⟩ := mem_movesA hc h
 obtain ⟨h1, h2⟩ := spotAt_place hs
 obtain ⟨h3, h4⟩ := mv_place hm
 unfold hasR
 rw [if_pos hc, find_spots, h3, h4, h1, h2, hs]
 exact List.any_eq_true.2 ⟨m, hm, eqM_refl m⟩
end Go.Proofs.YtjgocihflhljeaaGreat.P
namespace Go.Proofs.YtjgocihflhljeaaGreat.P
open Go.RowKit Go.Shelf Go.Proofs.YtjgocihflhljeaaGreatW.PrintWords Go.Proofs.YtjgocihflhljeaaGreatW.PrintLast Go.Proofs.YtjgocihflhljeaaGreatW.PrintMore
theorem topI_mem {t : Tk} (h : t.opn ≠ []) : t.topI ∈ t.opn := by
 unfold Tk.topI
 cases ht : t.top with
 | none => exact absurd (List.getLast?_eq_none_iff.1 ht) h
 | some n => exact List.mem_of_getLast? ht
theorem askM_has {ids : List S68} {rc : Bool} {rn : Int} {jb : Bool} (hc : checkE ids rn = 0) : hasR ids rc rn jb askM = true := by
 unfold hasR
 rw [if_pos hc, find_spots]
 have hs : spotAt ids rc rn jb askM.f0 askM.f1 = some ⟨0, 0, rc, rn, jb⟩ := rfl
 rw [hs]
 exact List.any_eq_true.2 ⟨askM, List.mem_append.2 (.inl (mc)), rfl⟩
end Go.Proofs.YtjgocihflhljeaaGreat.P
namespace Go.Proofs.YtjgocihflhljeaaGreat.P
open Go.RowKit Go.Shelf Go.Proofs.YtjgocihflhljeaaGreatW.PrintWords Go.Proofs.YtjgocihflhljeaaGreatW.PrintLast Go.Proofs.YtjgocihflhljeaaGreatW.PrintMore
attribute [local go_sem] Oper.semAt_some
end Go.Proofs.YtjgocihflhljeaaGreat.P
namespace Go.Proofs.YtjgocihflhljeaaGreat.P
open Go.RowKit Go.Shelf Go.Proofs.YtjgocihflhljeaaGreatW.PrintWords Go.Proofs.YtjgocihflhljeaaGreatW.PrintLast Go.Proofs.YtjgocihflhljeaaGreatW.PrintMore
section
variable {w W W' : World} {I : List (Option Addr × List S68)} {Y : List (Option Addr × List Mv)} {X : List (Option Addr × List Int)} {G : List (Nat × Array Value × TypeId)}
variable (h : Lw w W I Y X G) {A A1 : Option Addr} {c c1 : Nat} {ids : List S68} {l : List Mv} (rc : Bool) (rn : Int) (jb : Bool) (hi : (A, ids) ∈ I) (hy : (A1, l) ∈ Y) (hl : l.length ≤ 1000000)
include h hi hy hl
theorem Lw.next : Calls Tryz.prog 32 #[.agg #[.slice A ids.length c, .bool rc, .int .i64 rn, .bool jb], .slice A1 l.length c1] W fun e w' => ∃ B k, e = .returned (.tuple #[.slice B (okL (tellE ids rc rn jb l) (nextL jb (talkL ids rc rn jb l) (movesA ids rc rn jb))).length k, .int .i64 (tellE ids rc rn jb l)]) ∧ (okL (tellE ids rc rn jb l) (nextL jb (talkL ids rc rn jb l) (movesA ids rc rn jb))).length ≤ k ∧ Lw w w' I ((B, okL (tellE ids rc rn jb l) (nextL jb (talkL ids rc rn jb l) (movesA ids rc rn jb))) :: Y) X G :=
 (pNext_any A c ids rc rn jb A1 c1 l W (h.i _ hi) (h.y _ hy) hl).mono (by
  rintro e w' ⟨r, rfl, hR, hb⟩
  obtain ⟨B, k, rfl, hk, hC⟩ := Kd.R_reads hR
  exact ⟨B, k, rfl, hk, (h.below hb).addy hC⟩)
end
section
variable {ids : List S68} {rc : Bool} {rn : Int} {jb : Bool}
theorem walkL_append (r : List Mv) (l : List Mv) : ∀ t : Tk, walkL ids rc rn jb t (l ++ r) = if (walkL ids rc rn jb t l).word.length = t.word.length + l.length then walkL ids rc rn jb (walkL ids rc rn jb t l) r else walkL ids rc rn jb t l := by
 induction l with
 | nil => intro t; rw [walkL, if_pos (by simp)]; rfl
 | cons m ms ih =>
  intro t
  rw [List.cons_append, walkL, walkL]
  split
  ·rw [ih (t.say m), say_len, List.length_cons]
   have e : t.word.length + 1 + ms.length = t.word.length + (ms.length + 1) := by omega
   rw [e]
  rw [if_neg (by rw [List.length_cons]; omega)]
theorem hasR_mem {m : Mv} (h : hasR ids rc rn jb m = true) : m ∈ movesA ids rc rn jb := by
 obtain ⟨_, p, hp, hm⟩ := hasR_spot h
 rw [← find_spots] at hp
 exact List.mem_flatMap.2 ⟨p, List.mem_of_find?_eq_some hp, hm⟩
theorem mem_next {t : Tk} {m : Mv} (hc : checkE ids rn = 0) : m ∈ nextL jb t (movesA ids rc rn jb) ↔ t.may ids rc rn jb m = true := by
 unfold nextL Tk.may
 rw [List.mem_filter, hc]
 constructor
 ·rintro ⟨h1, h2⟩
  rw [movesA_has hc h1, h2]
  rfl
 intro h
 simp only [Bool.and_eq_true] at h
 exact ⟨hasR_mem h.1.2, h.2⟩
theorem tell_snoc {l : List Mv} {m : Mv} (hE : tellE ids rc rn jb l = 0) (hl : l.length ≤ 80) : tellE ids rc rn jb (l ++ [m]) = (if (talkL ids rc rn jb l).may ids rc rn jb m then 0 else 13) ∧ tellAt ids rc rn jb (l ++ [m]) = if (talkL ids rc rn jb l).may ids rc rn jb m then 0 else (l.length : Int) := by
 obtain ⟨h1, h2, h3⟩ := tellE_zero hE
 have hw := talk_all h3
 have ht : talkL ids rc rn jb (l ++ [m]) = if (talkL ids rc rn jb l).may ids rc rn jb m then (talkL ids rc rn jb l).say m else talkL ids rc rn jb l := by
  show walkL ids rc rn jb Tk.empty (l ++ [m]) = _
  rw [walkL_append, if_pos (by show (talkL ids rc rn jb l).word.length = _; rw [hw]; simp [Tk.empty]), walkL, walkL]
 have hlen : (l ++ [m]).length = l.length + 1 := by simp
 cases hm : (talkL ids rc rn jb l).may ids rc rn jb m with
 | true =>
  rw [hm, if_pos rfl] at ht
  have e : tellE ids rc rn jb (l ++ [m]) = 0 := tellE_ok h1 (by omega) (by rw [ht, say_len, hw, hlen]; omega)
  rw [if_pos rfl, if_pos rfl]
  exact ⟨e, tellAt_ok e⟩
 | false =>
  rw [hm, if_neg Bool.false_ne_true] at ht
  have e : tellE ids rc rn jb (l ++ [m]) = 13 := tellE_odd h1 (by omega) (by rw [ht, hw, hlen]; omega)
  rw [if_neg Bool.false_ne_true, if_neg Bool.false_ne_true]
  exact ⟨e, by rw [tellAt, if_pos e, ht, hw]⟩
end
end Go.Proofs.YtjgocihflhljeaaGreat.P
namespace Go.Proofs.YtjgocihflhljeaaGreat.P
open Go.RowKit Go.Shelf Go.Proofs.YtjgocihflhljeaaGreatW.PrintWords Go.Proofs.YtjgocihflhljeaaGreatW.PrintLast Go.Proofs.YtjgocihflhljeaaGreatW.PrintMore
attribute [local go_sem] Oper.semAt_some
def legalB (ids : List S68) (rc : Bool) (rn : Int) (jb : Bool) (l : List Mv) : Bool := thinA ids && (decide (l.length ≤ 80) && tellE ids rc rn jb l == 0)
theorem legal_of {ids : List S68} {rc : Bool} {rn : Int} {jb : Bool} {l : List Mv} (h : legalB ids rc rn jb l = true) : (ids.length ≤ 12 ∧ ∀ x ∈ ids, x.f0.length ≤ 8) ∧ l.length ≤ 80 ∧ tellE ids rc rn jb l = 0 := by
 unfold legalB at h
 simp only [Bool.and_eq_true, decide_eq_true_eq, beq_iff_eq] at h
 exact ⟨thinA_ids h.1, h.2.1, h.2.2⟩
section
variable {w W W' : World} {I : List (Option Addr × List S68)} {Y : List (Option Addr × List Mv)} {X : List (Option Addr × List Int)} {G : List (Nat × Array Value × TypeId)}
theorem Lw.popg {p : Nat × Array Value × TypeId} (h : Lw w W I Y X (p :: G)) : Lw w W I Y X G := ⟨h.b, h.i, h.y, h.x, fun q hq => h.g q (List.mem_cons_of_mem _ hq)⟩
theorem Lw.thinA (h : Lw w W I Y X G) {A : Option Addr} {c : Nat} {ids : List S68} (rc : Bool) (rn : Int) (jb : Bool) (hi : (A, ids) ∈ I) (hc : ids.length ≤ c) :
  Calls Tryz.prog 53 #[.agg #[.slice A ids.length c, .bool rc, .int .i64 rn, .bool jb]] W fun e w' => e = .returned (.bool (P.thinA ids)) ∧ Lw w w' I Y X G :=
 (ripostelaw04_Thin.calls 20 A c ids rc rn jb _ W (h.i _ hi) hc (thin04_f 20 (by omega) ids rc rn jb)).mono (by rintro e w' ⟨rfl, hb⟩; exact ⟨rfl, h.below hb⟩)
theorem Lw.all (h : Lw w W I Y X G) {A : Option Addr} {c : Nat} {ids : List S68} (rc : Bool) (rn : Int) (jb : Bool) (hi : (A, ids) ∈ I) (hc : ids.length ≤ c) (hok : checkE ids rn = 0) :
  Calls Tryz.prog 31 #[.agg #[.slice A ids.length c, .bool rc, .int .i64 rn, .bool jb]] W fun e w' => ∃ B k, e = .returned (.slice B (movesA ids rc rn jb).length k) ∧ Lw w w' I Y X G :=
 (riposteref04_All.calls 200 A c ids rc rn jb _ W (h.i _ hi) hc (all_f hok rc jb)).mono (by
  rintro e w' ⟨v, rfl, hR, hb⟩
  obtain ⟨B, k, rfl, hk, hC⟩ := Kd.R_reads hR
  exact ⟨B, k, rfl, h.below hb⟩)
set_option maxHeartbeats 2000000 in
theorem Lw.legal (h : Lw w W I Y X G) {A A1 : Option Addr} {c c1 : Nat} {ids : List S68} {l : List Mv} (rc : Bool) (rn : Int) (jb : Bool) (hi : (A, ids) ∈ I) (hy : (A1, l) ∈ Y) (hc : ids.length ≤ c) :
  Calls Tryz.prog 30 #[.agg #[.slice A ids.length c, .bool rc, .int .i64 rn, .bool jb], .slice A1 l.length c1] W fun e w' => e = .returned (.bool (legalB ids rc rn jb l)) ∧ Lw w w' I Y X G := by
 have H0 := am (h.new #[.slice A ids.length c, .bool rc, .int .i64 rn, .bool jb] 26)
 have HI := am hi
 have HY := am hy
 clear h hi hy
 cases ht : P.thinA ids with
 | false =>
  have HT := am ht
  clear ht
  go_enter Tryz.func30, Tryz.ntmps30
  go_wp2_with (go_at_call 53; refine (H0.out.thinA rc rn jb HI.out hc).mono ?_; rw [HT.out]; rintro e w1 ⟨rfl, h1⟩; have H1 := am h1.popg; clear h1)
  go_ret
  exact ⟨by unfold legalB; rw [HT.out]; rfl, H1.out⟩
 | true =>
  have HT := am ht
  clear ht
  by_cases h80 : l.length ≤ 80
  ·have hz : decide ((80 : Int) < (l.length : Int)) = false := decide_eq_false (by omega)
   have hl : l.length ≤ 1000000 := by omega
   have H80 := am h80
   clear h80
   go_enter Tryz.func30, Tryz.ntmps30
   go_wp2_with (first
    | (go_at_call 53; refine (H0.out.thinA rc rn jb HI.out hc).mono ?_; rw [HT.out]; rintro e w1 ⟨rfl, h1⟩; have H1 := am h1; clear h1; have hg1 : W.heap.size < w1.heap.size := blk_lt (H1.out.g _ mc); have a0 : w1.cell? ⟨W.heap.size, 0, none⟩ = some (.slice A ids.length c) := H1.out.cell mc 0 rfl; have a1 : w1.cell? ⟨W.heap.size, 1, none⟩ = some (.bool rc) := H1.out.cell mc 1 rfl; have a2 : w1.cell? ⟨W.heap.size, 2, none⟩ = some (.int .i64 rn) := H1.out.cell mc 2 rfl; have a3 : w1.cell? ⟨W.heap.size, 3, none⟩ = some (.bool jb) := H1.out.cell mc 3 rfl)
    | (go_at_call 20; refine (H1.out.rcheck rc rn jb HI.out HY.out hl hc).mono ?_; rintro e w2 ⟨rfl, h2⟩; have H2 := am h2.popg; clear h2))
   go_ret
   exact ⟨by unfold legalB; rw [HT.out, decide_eq_true H80.out]; rfl, H2.out⟩
  have hz : decide ((80 : Int) < (l.length : Int)) = true := decide_eq_true (by omega)
  have H80 := am h80
  clear h80
  go_enter Tryz.func30, Tryz.ntmps30
  go_wp2_with (go_at_call 53; refine (H0.out.thinA rc rn jb HI.out hc).mono ?_; rw [HT.out]; rintro e w1 ⟨rfl, h1⟩; have H1 := am h1.popg; clear h1)
  go_ret
  exact ⟨by unfold legalB; rw [HT.out, decide_eq_false H80.out]; rfl, H1.out⟩
end
end Go.Proofs.YtjgocihflhljeaaGreat.P
namespace Go.Proofs.YtjgocihflhljeaaGreat.P
open Go.RowKit Go.Shelf Go.Proofs.YtjgocihflhljeaaGreatW.PrintWords Go.Proofs.YtjgocihflhljeaaGreatW.PrintLast Go.Proofs.YtjgocihflhljeaaGreatW.PrintMore
section
variable {ids : List S68} {rc : Bool} {rn : Int} {jb : Bool}
theorem tell_take {l : List Mv} (hE : tellE ids rc rn jb l = 0) (k : Nat) (hk : k ≤ l.length) : tellE ids rc rn jb (l.take k) = 0 ∧ (talkL ids rc rn jb (l.take k)).word = l.take k := by
 obtain ⟨h1, h2, h3⟩ := tellE_zero hE
 have hw := talk_all h3
 have hlk : (l.take k).length = k := by rw [List.length_take]; omega
 have hle : (talkL ids rc rn jb (l.take k)).word.length ≤ k := by rw [talk_take, List.length_take]; omega
 have hs : talkL ids rc rn jb l = if (talkL ids rc rn jb (l.take k)).word.length = k then walkL ids rc rn jb (talkL ids rc rn jb (l.take k)) (l.drop k) else talkL ids rc rn jb (l.take k) := by
  have h := walkL_append (ids := ids) (rc := rc) (rn := rn) (jb := jb) (l.drop k) (l.take k) Tk.empty
  rw [List.take_append_drop, hlk] at h
  have e0 : Tk.empty.word.length = 0 := rfl
  rw [e0, Nat.zero_add] at h
  exact h
 have hk2 : (talkL ids rc rn jb (l.take k)).word.length = k := by
  by_cases h : (talkL ids rc rn jb (l.take k)).word.length = k
  ·exact h
  rw [if_neg h] at hs
  rw [← hs, hw] at hle h
  omega
 have h5 : ¬ (talkL ids rc rn jb (l.take k)).word.length < (l.take k).length := by omega
 exact ⟨tellE_ok h1 (by omega) h5, talk_all h5⟩
theorem may_at {l : List Mv} (hE : tellE ids rc rn jb l = 0) (hl : l.length ≤ 80) (k : Nat) (hk : k < l.length) : (talkL ids rc rn jb (l.take k)).may ids rc rn jb l[k] = true := by
 have h1 := (tell_take hE k (by omega)).1
 have h2 := (tell_take hE (k + 1) (by omega)).1
 rw [List.take_succ_eq_append_getElem hk] at h2
 have h3 := (tell_snoc (m := l[k]) h1 (by rw [List.length_take]; omega)).1
 rw [h2] at h3
 cases hm : (talkL ids rc rn jb (l.take k)).may ids rc rn jb l[k] with
 | true => rfl
 | false => rw [hm, if_neg Bool.false_ne_true] at h3; cases h3
structure Tk.InvE (ids : List S68) (rc : Bool) (rn : Int) (jb : Bool) (t : Tk) : Prop where
 nest : ∀ k, k + 1 < t.opn.length → k % 2 = 1 → (t.mv (t.opn.getD (k + 1) 0)).f0 = (t.mv (t.opn.getD k 0)).f0
 lost : t.lost = true → jb = true
 esc : t.force = true → ∀ q, t.top = some q → ∃ p, spotAt ids rc rn jb (t.mv q).f0 (t.mv q).f1 = some p ∧ p.esc = true
theorem Tk.InvE.empty : Tk.empty.InvE ids rc rn jb := ⟨fun k h => by simp [Tk.empty] at h, fun h => by simp [Tk.empty] at h, fun h => by simp [Tk.empty] at h⟩
theorem spot_jumps {id arg : Int} {p : Spot} (h : spotAt ids rc rn true id arg = some p) : p.esc = true := by
 unfold spotAt at h
 split at h
 ·cases h; rfl
 split at h
 ·unfold idAt at h
  simp only at h
  split at h
  ·cases h; rfl
  split at h
  ·cases h; rfl
  cases h
 cases h
theorem spot_param {id arg : Int} {p : Spot} (h : spotAt ids rc rn jb id arg = some p) (ha : 0 < arg) : ∃ p', spotAt ids rc rn jb id 0 = some p' ∧ p'.esc = true := by
 unfold spotAt at h ⊢
 split at h
 ·omega
 split at h
 ·rename_i h1 h2
  rw [if_neg (by omega), if_pos h2]
  unfold idAt at h ⊢
  simp only at h ⊢
  split at h
  ·omega
  split at h
  ·rename_i h3
   rw [if_pos trivial]
   refine ⟨_, rfl, ?_⟩
   have : 0 < (ids.getD (id - 1).toNat z68).f0.length := by omega
   simp only [decide_eq_true this, Bool.or_true]
  cases h
 cases h
theorem Tk.InvE.say {t : Tk} {m : Mv} (h : t.InvE ids rc rn jb) (hA : t.InvA) (hh : hasR ids rc rn jb m = true) (hw : Way t jb m) : (t.say m).InvE ids rc rn jb := by
 have hm := hasR_ok hh
 have hol : ∀ k, k < t.opn.length → (t.say m).mv (t.opn.getD k 0) = t.mv (t.opn.getD k 0) := fun k hk => say_mv_old (hA.lo k hk).1 (hA.lo k hk).2
 cases ha : isAns m with
 | true =>
  have eo := say_opn_ans (t := t) ha
  have hlen : (t.say m).opn.length = t.opn.length - 1 := by rw [eo]; simp
  have hg : ∀ k, k + 1 < t.opn.length → (t.say m).opn.getD k 0 = t.opn.getD k 0 := fun k hk => by rw [eo]; exact getD_dropLast _ _ _ hk
  obtain ⟨q, ht, h0, h1, hn⟩ : ∃ q, t.top = some q ∧ m.f0 = (t.mv q).f0 ∧ m.f1 = (t.mv q).f1 ∧ t.answers jb (t.mv q) m = true := by
   cases hw with
   | root _ _ ha' _ _ => rw [ha] at ha'; cases ha'
   | ident _ _ _ ha' _ _ _ => rw [ha] at ha'; cases ha'
   | param _ _ _ ha' _ _ _ _ => rw [ha] at ha'; cases ha'
   | answer q ht _ h0 h1 hn => exact ⟨q, ht, h0, h1, hn⟩
  obtain ⟨hp, hq⟩ := top_get ht
  refine ⟨?_, ?_, ?_⟩
  ·intro k hk ho
   rw [hlen] at hk
   rw [hg k (by omega), hg (k + 1) (by omega), hol _ (by omega), hol _ (by omega)]
   exact h.nest k (by omega) ho
  ·intro hl
   have hl' : (t.lost || (isEscB m && isIdent m && !t.force)) = true := hl
   rw [Bool.or_eq_true] at hl'
   rcases hl' with hl' | hl'
   ·exact h.lost hl'
   simp only [Bool.and_eq_true, Bool.not_eq_true'] at hl'
   obtain ⟨⟨he, hi⟩, hf⟩ := hl'
   cases hlo : t.lost with
   | true => exact h.lost hlo
   | false =>
    unfold Tk.answers at hn
    rw [hf, hlo, if_neg (by decide), if_pos he] at hn
    have hi2 : isIdent (t.mv q) = true := by rw [← ident_same h0 h1]; exact hi
    have hp2 : isPar (t.mv q) = false := by
     cases hx : isPar (t.mv q) with
     | false => rfl
     | true => rw [par_ident hx] at hi2; cases hi2
    rw [hp2, hi2] at hn
    simpa using hn
  intro hf q' hq'
  have hf' : (isEscB m && isPar m) = true := hf
  rw [Bool.and_eq_true] at hf'
  have hpm := hf'.2
  have hpq : isPar (t.mv q) = true := by
   unfold isPar at hpm ⊢
   rw [← h0, ← h1]
   exact hpm
  obtain ⟨hp', hq2⟩ := top_get hq'
  rw [hlen] at hp' hq2
  rw [hg _ (by omega)] at hq2
  have hk1 : t.opn.length - 1 - 1 + 1 = t.opn.length - 1 := by omega
  have halt := hA.alt (t.opn.length - 1) (by omega)
  rw [hq, par_ident hpq] at halt
  have hpar := of_decide_eq_false halt.symm
  have hnest := h.nest (t.opn.length - 1 - 1) (by omega) (by omega)
  rw [hk1, hq, hq2] at hnest
  have hali := hA.alt (t.opn.length - 1 - 1) (by omega)
  rw [hq2, decide_eq_true (by omega)] at hali
  obtain ⟨_, p, hs, _⟩ := hasR_spot hh
  have hf1 : 0 < m.f1 := by
   unfold isPar at hpm
   simp only [Bool.and_eq_true, decide_eq_true_eq] at hpm
   exact hpm.2
  obtain ⟨p', hp1, hp2⟩ := spot_param hs hf1
  have hlo2 := hA.lo (t.opn.length - 1 - 1) (by omega)
  rw [hq2] at hlo2
  have e1 : (t.say m).mv q' = t.mv q' := say_mv_old hlo2.1 hlo2.2
  have e2 : (t.mv q').f1 = 0 := by
   unfold isIdent at hali
   simp only [Bool.and_eq_true, beq_iff_eq] at hali
   exact hali.2
  rw [e1, e2, ← hnest, ← h0]
  exact ⟨p', hp1, hp2⟩
 | false =>
  have eo := say_opn_ask (t := t) ha
  have hlen : (t.say m).opn.length = t.opn.length + 1 := by rw [eo]; simp
  have hg : ∀ k, (t.say m).opn.getD k 0 = if k < t.opn.length then t.opn.getD k 0 else if k = t.opn.length then (t.word.length : Int) else 0 := by
   intro k
   rw [eo]
   exact getD_snoc _ _ _ _
  have hes : isEscB m = false := by
   unfold isAns at ha
   unfold isEscB
   rw [ha]
   rfl
  refine ⟨?_, ?_, ?_⟩
  ·intro k hk ho
   rw [hlen] at hk
   have hkl : k < t.opn.length := by omega
   have e1 : (t.say m).mv ((t.say m).opn.getD k 0) = t.mv (t.opn.getD k 0) := by rw [hg k, if_pos hkl, hol _ hkl]
   rw [e1, hg (k + 1)]
   by_cases hk2 : k + 1 < t.opn.length
   ·rw [if_pos hk2, hol _ hk2]
    exact h.nest k hk2 ho
   rw [if_neg hk2, if_pos (by omega), say_mv_new]
   cases hw with
   | root _ ht _ _ _ => rw [ht] at hkl; simp at hkl
   | ident q ht hq _ _ _ _ =>
    have h3 := (hA.top ht).2.2.2.1
    rw [hq] at h3
    have := of_decide_eq_false h3.symm
    omega
   | param q ht hq _ _ h0 _ _ =>
    obtain ⟨hp, hq2⟩ := top_get ht
    have e : t.opn.length - 1 = k := by omega
    rw [e] at hq2
    rw [hq2]
    exact h0
   | answer _ _ ha' _ _ _ => rw [ha] at ha'; cases ha'
  ·intro hl
   have hl' : (t.lost || (isEscB m && isIdent m && !t.force)) = true := hl
   rw [hes, Bool.false_and, Bool.false_and, Bool.or_false] at hl'
   exact h.lost hl'
  intro hf
  have hf' : (isEscB m && isPar m) = true := hf
  rw [hes] at hf'
  cases hf'
theorem walkL_invE (l : List Mv) : ∀ t : Tk, t.Inv ids rc rn jb → t.InvE ids rc rn jb → t.word.length + l.length ≤ 1048576 → (walkL ids rc rn jb t l).InvE ids rc rn jb := by
 induction l with
 | nil => intro t h h' _; rw [walkL]; exact h'
 | cons m ms ih =>
  intro t h h' hl
  rw [List.length_cons] at hl
  rw [walkL]
  split
  ·rename_i hm
   obtain ⟨h1, h2, h3⟩ := may_way h.l.ok hm
   exact ih _ (h.say hm (by omega)) (h'.say h.a h1 h3) (by rw [say_len]; omega)
  exact h'
theorem talk_invE (l : List Mv) (hl : l.length ≤ 1000000) : (talkL ids rc rn jb l).InvE ids rc rn jb :=
 walkL_invE l _ Tk.Inv.empty Tk.InvE.empty (by simp [Tk.empty]; omega)
theorem closeM_may {t : Tk} (hc : checkE ids rn = 0) (h : t.Inv ids rc rn jb) (hE : t.InvE ids rc rn jb) (hn : t.opn ≠ []) : t.may ids rc rn jb t.closeM = true := by
 have hq := (h.l.oq _ (topI_mem hn)).1
 obtain ⟨n, ht⟩ : ∃ n, t.top = some n := by
  cases ht : t.top with
  | none => exact absurd (List.getLast?_eq_none_iff.1 ht) hn
  | some n => exact ⟨n, rfl⟩
 have hti := topI_of ht
 rw [hti] at hq
 obtain ⟨_, p, hs, _⟩ := hasR_spot hq
 obtain ⟨h1, h2⟩ := spotAt_place hs
 have hn1 : 1 ≤ p.n := by
  have hs' := hs
  rw [← find_spots] at hs'
  exact (spotsL_n hc rc jb p (List.mem_of_find?_eq_some hs')).1
 have hcm : t.closeM = ⟨(t.mv n).f0, (t.mv n).f1, 3, if t.force || t.lost then -1 else 0⟩ := by unfold Tk.closeM; rw [hti]
 have hh : hasR ids rc rn jb t.closeM = true := by
  unfold hasR
  rw [if_pos hc, find_spots, hcm]
  simp only
  rw [hs]
  cases hfl : (t.force || t.lost) with
  | false =>
   refine List.any_eq_true.2 ⟨p.tell 0, List.mem_append.2 (.inr (List.mem_append.2 (.inr (List.mem_map.2 ⟨0, List.mem_range.2 (by omega), rfl⟩)))), ?_⟩
   unfold eqM Spot.tell
   rw [h1, h2]
   simp
  | true =>
   have he : p.esc = true := by
    rw [Bool.or_eq_true] at hfl
    rcases hfl with hf | hl
    ·obtain ⟨p', h3, h4⟩ := hE.esc hf n ht
     rw [hs] at h3
     cases h3
     exact h4
    have hj := hE.lost hl
    rw [hj] at hs
    exact spot_jumps hs
   refine List.any_eq_true.2 ⟨p.tell (-1), List.mem_append.2 (.inr (List.mem_append.2 (.inl (by rw [he, if_pos rfl]; exact List.mem_singleton_self _)))), ?_⟩
   unfold eqM Spot.tell
   rw [h1, h2]
   simp
 have hcan : t.can jb t.closeM = true := by
  unfold Tk.can
  rw [ht]
  simp only [closeM_ans, if_true]
  rw [hcm]
  unfold atB Tk.answers
  cases hfl : (t.force || t.lost) with
  | false =>
   simp [isEscB]
  | true =>
   simp [isEscB]
 unfold Tk.may
 rw [hc, hh, hcan]
 rfl
theorem next_nil {t : Tk} (hc : checkE ids rn = 0) (h : t.Inv ids rc rn jb) (hE : t.InvE ids rc rn jb) : nextL jb t (movesA ids rc rn jb) = [] ↔ t.over = true := by
 constructor
 ·intro h0
  have hnm : ∀ m, t.may ids rc rn jb m = true → False := fun m hm => by
   have := (mem_next (t := t) hc).2 hm
   rw [h0] at this
   cases this
  unfold Tk.over
  by_cases hn : t.opn = []
  ·by_cases hw : t.word.length = 0
   ·exfalso
    refine hnm askM ?_
    unfold Tk.may Tk.can Tk.top
    rw [hc, askM_has hc, hn, hw]
    rfl
   rw [hn, decide_eq_true (by omega)]
   rfl
  exact (hnm _ (closeM_may hc h hE hn)).elim
 intro h0
 unfold Tk.over at h0
 simp only [Bool.and_eq_true, decide_eq_true_eq, beq_iff_eq] at h0
 have hn : t.opn = [] := List.length_eq_zero_iff.1 (by omega)
 unfold nextL
 refine List.filter_eq_nil_iff.2 fun m _ hm => ?_
 unfold Tk.can Tk.top at hm
 rw [hn] at hm
 have : ((t.word.length : Int) == 0) = false := beq_false_of_ne (by omega)
 simp [this] at hm
end
def LessM (a b : Mv) : Prop := a.f0 < b.f0 ∨ (a.f0 = b.f0 ∧ (a.f1 < b.f1 ∨ (a.f1 = b.f1 ∧ (a.f2 < b.f2 ∨ (a.f2 = b.f2 ∧ a.f3 < b.f3)))))
theorem asc_moves (p : Spot) : (movesL p).Pairwise LessM := by
 have hr : ∀ n : Nat, (List.range n).Pairwise (· < ·) := fun n => List.pairwise_lt_range
 have hq : (qsL p).Pairwise LessM := by
  unfold qsL
  rw [List.pairwise_cons]
  constructor
  ·intro a ha
   split at ha
   ·obtain ⟨k, _, rfl⟩ := List.mem_map.1 ha
    exact .inr ⟨rfl, .inr ⟨rfl, .inl (show (1 : Int) < 2 by decide)⟩⟩
   cases ha
  split
  ·rw [List.pairwise_map]
   refine (hr _).imp ?_
   intro a b hab
   exact .inr ⟨rfl, .inr ⟨rfl, .inr ⟨rfl, show (a : Int) < b by omega⟩⟩⟩
  exact List.Pairwise.nil
 have ha : (aL p p.n).Pairwise LessM := by
  unfold aL
  rw [List.pairwise_append]
  refine ⟨by split <;> simp, ?_, ?_⟩
  ·rw [List.pairwise_map]
   refine (hr _).imp ?_
   intro a b hab
   exact .inr ⟨rfl, .inr ⟨rfl, .inr ⟨rfl, show (a : Int) < b by omega⟩⟩⟩
  intro a ha b hb
  obtain ⟨k, _, rfl⟩ := List.mem_map.1 hb
  split at ha
  ·rw [List.mem_singleton] at ha
   subst ha
   exact .inr ⟨rfl, .inr ⟨rfl, .inr ⟨rfl, show (-1 : Int) < k by omega⟩⟩⟩
  cases ha
 unfold movesL
 rw [List.pairwise_append]
 refine ⟨hq, ha, ?_⟩
 intro a h1 b h2
 have e2 : b.f0 = p.id ∧ b.f1 = p.arg ∧ b.f2 = 3 := by
  unfold aL at h2
  rw [List.mem_append] at h2
  rcases h2 with h2 | h2
  ·split at h2
   ·rw [List.mem_singleton] at h2; subst h2; exact ⟨rfl, rfl, rfl⟩
   cases h2
  obtain ⟨k, _, rfl⟩ := List.mem_map.1 h2; exact ⟨rfl, rfl, rfl⟩
 have e1 : a.f0 = p.id ∧ a.f1 = p.arg ∧ a.f2 ≤ 2 := by
  unfold qsL at h1
  rw [List.mem_cons] at h1
  rcases h1 with h1 | h1
  ·subst h1; exact ⟨rfl, rfl, show (1 : Int) ≤ 2 by decide⟩
  split at h1
  ·obtain ⟨k, _, rfl⟩ := List.mem_map.1 h1; exact ⟨rfl, rfl, show (2 : Int) ≤ 2 by decide⟩
  cases h1
 unfold LessM
 omega
def LessS (p q : Spot) : Prop := p.id < q.id ∨ (p.id = q.id ∧ p.arg < q.arg)
theorem asc_params (i : Nat) : ∀ (bs : List S24) (k : Nat), (paramSpots i k bs).Pairwise LessS ∧ ∀ p ∈ paramSpots i k bs, p.id = (i : Int) + 1 ∧ (k : Int) + 1 ≤ p.arg := by
 intro bs
 induction bs with
 | nil => intro k; exact ⟨List.Pairwise.nil, fun p hp => by cases hp⟩
 | cons b bs ih =>
  intro k
  obtain ⟨h1, h2⟩ := ih (k + 1)
  rw [paramSpots, List.pairwise_cons]
  refine ⟨⟨fun q hq => ?_, h1⟩, fun q hq => ?_⟩
  ·have := h2 q hq
   refine .inr ⟨this.1.symm, ?_⟩
   show (k : Int) + 1 < q.arg
   omega
  rw [List.mem_cons] at hq
  rcases hq with rfl | hq
  ·exact ⟨rfl, Int.le_refl _⟩
  have := h2 q hq
  omega
theorem asc_ids (j : Bool) : ∀ (l : List S68) (i : Nat), (idsSpots j i l).Pairwise LessS ∧ ∀ p ∈ idsSpots j i l, (i : Int) + 1 ≤ p.id := by
 intro l
 induction l with
 | nil => intro i; exact ⟨List.Pairwise.nil, fun p hp => by cases hp⟩
 | cons x xs ih =>
  intro i
  obtain ⟨h1, h2⟩ := ih (i + 1)
  obtain ⟨h3, h4⟩ := asc_params i x.f0 0
  rw [idsSpots, List.pairwise_cons, List.pairwise_append]
  refine ⟨⟨fun q hq => ?_, h3, h1, fun p hp q hq => ?_⟩, fun q hq => ?_⟩
  ·rw [List.mem_append] at hq
   rcases hq with hq | hq
   ·have := h4 q hq
    exact .inr ⟨this.1.symm, show (0 : Int) < q.arg by omega⟩
   have := h2 q hq
   exact .inl (show (i : Int) + 1 < q.id by omega)
  ·have := h4 p hp
   have := h2 q hq
   exact .inl (by omega)
  rw [List.mem_cons, List.mem_append] at hq
  rcases hq with rfl | hq | hq
  ·exact Int.le_refl _
  ·have := h4 q hq; omega
  have := h2 q hq; omega
theorem asc_movesA (ids : List S68) (rc : Bool) (rn : Int) (j : Bool) : (movesA ids rc rn j).Pairwise LessM := by
 unfold movesA
 rw [List.pairwise_flatMap]
 refine ⟨fun p _ => asc_moves p, ?_⟩
 have hs : (spotsL ids rc rn j).Pairwise LessS := by
  obtain ⟨h1, h2⟩ := asc_ids j ids 0
  unfold spotsL
  rw [List.pairwise_cons]
  exact ⟨fun q hq => .inl (by have := h2 q hq; show (0 : Int) < q.id; omega), h1⟩
 refine hs.imp ?_
 intro p q hpq a ha b hb
 obtain ⟨a0, a1⟩ := mv_place ha
 obtain ⟨b0, b1⟩ := mv_place hb
 unfold LessS at hpq
 unfold LessM
 omega
theorem asc_next (ids : List S68) (rc : Bool) (rn : Int) (jb : Bool) (t : Tk) : (nextL jb t (movesA ids rc rn jb)).Pairwise LessM := (asc_movesA ids rc rn jb).filter _
end Go.Proofs.YtjgocihflhljeaaGreat.P
