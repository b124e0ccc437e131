/- What the claim's law needs, many texts in one (Vb Ue Ug Vc Ub). No conditions of its own. -/
import Derived.Test.YtjgocihflhljeaaGreatZl9
import Derived.Test.YtjgocihflhljeaaGreatZl12
import Derived.Deep.DeepCutAuto
import Derived.Deep.CutBlock
import Derived.StillTailTactics
import Derived.Deep.RegionHeld3
set_option linter.unusedVariables false
set_option linter.unusedSimpArgs false
namespace Go.Proofs.YtjgocihflhljeaaGreat.P
open Go.RowKit Go.Shelf Go.Proofs.YtjgocihflhljeaaGreatW.PrintWords Go.Proofs.YtjgocihflhljeaaGreatW.PrintLast Go.Proofs.YtjgocihflhljeaaGreatW.PrintMore
theorem eqM_eq {a b : Mv} (h : eqM a b = true) : a = b := by
 unfold eqM at h
 simp only [Bool.and_eq_true, beq_iff_eq] at h
 obtain ⟨a0, a1, a2, a3⟩ := a
 obtain ⟨b0, b1, b2, b3⟩ := b
 simp only at h
 obtain ⟨rfl, rfl, rfl, rfl⟩ := h
 rfl
structure MvOk (m : Mv) : Prop where
 k : m.f2 = 1 ∨ m.f2 = 2 ∨ m.f2 = 3
 n : m.f2 = 3 → -1 ≤ m.f3
 i : 0 ≤ m.f0 ∧ 0 ≤ m.f1 ∧ (m.f0 = 0 → m.f1 = 0)
theorem hasR_spot {ids : List S68} {rc : Bool} {rn : Int} {j : Bool} {m : Mv} (h : hasR ids rc rn j m = true) : checkE ids rn = 0 ∧ ∃ p, spotAt ids rc rn j m.f0 m.f1 = some p ∧ m ∈ movesL p := by
 unfold hasR at h
 split at h
 ·rename_i hc
  rw [find_spots] at h
  cases hs : spotAt ids rc rn j m.f0 m.f1 with
  | none => rw [hs] at h; cases h
  | some p =>
   rw [hs] at h
   simp only [hasL] at h
   obtain ⟨x, hx, he⟩ := List.any_eq_true.1 h
   rw [eqM_eq he] at hx
   exact ⟨hc, p, rfl, hx⟩
 cases h
theorem spotAt_ok {ids : List S68} {rc : Bool} {rn : Int} {j : Bool} {id arg : Int} {p : Spot} (h : spotAt ids rc rn j id arg = some p) : 0 ≤ id ∧ 0 ≤ arg ∧ (id = 0 → arg = 0) := by
 unfold spotAt at h
 split at h
 ·omega
 split at h
 ·unfold idAt at h
  simp only at h
  split at h
  ·omega
  split at h
  ·omega
  cases h
 cases h
theorem mem_moves {p : Spot} {m : Mv} (h : m ∈ movesL p) : m = p.ask ∨ (∃ k : Nat, m = p.put k) ∨ (p.esc = true ∧ m = p.tell (-1)) ∨ ∃ k : Nat, (k : Int) < p.n ∧ m = p.tell k := by
 unfold movesL qsL aL at h
 rw [List.mem_append, List.mem_cons, List.mem_append] at h
 rcases h with (h | h) | (h | h)
 ·exact .inl h
 ·split at h
  ·obtain ⟨k, _, rfl⟩ := List.mem_map.1 h
   exact .inr (.inl ⟨k, rfl⟩)
  cases h
 ·split at h
  ·rename_i he
   rw [List.mem_singleton] at h
   exact .inr (.inr (.inl ⟨he, h⟩))
  cases h
 obtain ⟨k, hk, rfl⟩ := List.mem_map.1 h
 rw [List.mem_range] at hk
 exact .inr (.inr (.inr ⟨k, by omega, rfl⟩))
theorem hasR_ok {ids : List S68} {rc : Bool} {rn : Int} {j : Bool} {m : Mv} (h : hasR ids rc rn j m = true) : MvOk m := by
 obtain ⟨_, p, hs, hm⟩ := hasR_spot h
 have hi := spotAt_ok hs
 rcases mem_moves hm with h | ⟨k, h⟩ | ⟨_, h⟩ | ⟨k, _, h⟩ <;> exact ⟨by rw [h]; simp [Spot.ask, Spot.put, Spot.tell], by rw [h]; simp [Spot.ask, Spot.put, Spot.tell]; try omega, hi⟩
structure Tk.Legal (ids : List S68) (rc : Bool) (rn : Int) (jb : Bool) (t : Tk) : Prop where
 ok : t.Ok
 pl : ∀ m ∈ t.word, 0 ≤ m.f0 ∧ 0 ≤ m.f1 ∧ (m.f0 = 0 → m.f1 = 0)
 oq : ∀ n ∈ t.opn, hasR ids rc rn jb (t.mv n) = true ∧ isAns (t.mv n) = false
 fo : t.force = (decide (0 < t.word.length) && isEscB (t.mv ((t.word.length : Int) - 1)) && decide (0 < (t.mv ((t.word.length : Int) - 1)).f1))
 dp : (t.opn.length : Int) ≤ t.deep
theorem say_mv_old {t : Tk} {m : Mv} {n : Int} (h0 : 0 ≤ n) (h1 : n < t.word.length) : (t.say m).mv n = t.mv n := by
 unfold Tk.mv
 have e : (t.say m).word = t.word ++ [m] := rfl
 rw [e, List.getD_eq_getElem?_getD, List.getD_eq_getElem?_getD, List.getElem?_append_left (by omega)]
theorem say_mv_new {t : Tk} {m : Mv} : (t.say m).mv (t.word.length : Int) = m := by
 unfold Tk.mv
 have e : (t.say m).word = t.word ++ [m] := rfl
 rw [e, Int.toNat_natCast, List.getD_eq_getElem?_getD, List.getElem?_append_right (Nat.le_refl _)]
 simp
theorem Tk.Legal.empty (ids : List S68) (rc : Bool) (rn : Int) (jb : Bool) : Tk.empty.Legal ids rc rn jb :=
 ⟨Tk.Ok.empty, fun m hm => by simp [Tk.empty] at hm, fun n hn => by simp [Tk.empty] at hn, rfl, by simp [Tk.empty]⟩
theorem Tk.Legal.say {ids : List S68} {rc : Bool} {rn : Int} {jb : Bool} {t : Tk} (h : t.Legal ids rc rn jb) (m : Mv) (hp : 0 ≤ m.f0 ∧ 0 ≤ m.f1 ∧ (m.f0 = 0 → m.f1 = 0)) (hq : isAns m = false → hasR ids rc rn jb m = true) (hw : t.word.length < 1048576) : (t.say m).Legal ids rc rn jb := by
 refine ⟨h.ok.say m hw, ?_, ?_, ?_, ?_⟩
 ·intro x hx
  have e : (t.say m).word = t.word ++ [m] := rfl
  rw [e, List.mem_append, List.mem_singleton] at hx
  rcases hx with hx | rfl
  ·exact h.pl x hx
  exact hp
 ·intro n hn
  have e : (t.say m).opn = t.opn' m := rfl
  rw [e, Tk.opn'] at hn
  split at hn
  ·have hn' := (List.dropLast_sublist _).mem hn
   have hb := h.ok.ho n hn'
   rw [say_mv_old hb.1 hb.2]
   exact h.oq n hn'
  rename_i ha
  rw [List.mem_append, List.mem_singleton] at hn
  rcases hn with hn | rfl
  ·have hb := h.ok.ho n hn
   rw [say_mv_old hb.1 hb.2]
   exact h.oq n hn
  rw [say_mv_new]
  have ha' : isAns m = false := by simpa using ha
  exact ⟨hq ha', ha'⟩
 ·have e : (((t.say m).word.length : Int) - 1) = (t.word.length : Int) := by simp [Tk.say]
  rw [e, say_mv_new]
  have e2 : decide (0 < (t.say m).word.length) = true := by simp [Tk.say]
  rw [e2, Bool.true_and]
  show (isEscB m && isPar m) = _
  unfold isPar
  by_cases h1 : 0 < m.f1
  ·have : 0 < m.f0 := by
    have := hp.2.2
    omega
   simp [h1, this]
  simp [h1]
 show (((t.say m).opn.length : Nat) : Int) ≤ max t.deep ((t.opn' m).length : Int)
 have e : (t.say m).opn = t.opn' m := rfl
 rw [e]
 omega
end Go.Proofs.YtjgocihflhljeaaGreat.P
namespace Go.Proofs.YtjgocihflhljeaaGreat.P
open Go.RowKit Go.Shelf Go.Proofs.YtjgocihflhljeaaGreatW.PrintWords Go.Proofs.YtjgocihflhljeaaGreatW.PrintLast Go.Proofs.YtjgocihflhljeaaGreatW.PrintMore
attribute [local go_sem] Oper.semAt_some
def Tk.topM (t : Tk) : Mv := if t.opn = [] then z52 else t.mv t.topI
def Tk.isTop (t : Tk) : Bool := decide (t.opn ≠ [])
def mvV (m : Mv) : Value := .agg #[.int .i64 m.f0, .int .i64 m.f1, .int .u8 m.f2, .int .i64 m.f3]
set_option maxRecDepth 8000 in
set_option maxHeartbeats 2000000 in
theorem rTop_any {base : Nat} {w : World} {g : Nat} {A : Option Addr} {c : Nat} {ids : List S68} {rc : Bool} {rn : Int} {jb : Bool} {t : Tk} {vw vo vp vj : Value} (h : Wlk base w g A c ids rc rn jb t vw vo vp vj) : Calls Tryz.prog 86 #[.pointer (some ⟨g, 0, none⟩)] w fun e w' => e = .returned (.tuple #[mvV t.topM, .bool t.isTop]) ∧ Below w.heap.size w w' := by
 have hgw := h.lt
 have hgn : g ≠ w.heap.size := by omega
 have hol := h.ok.hl
 have hwl := h.ok.hw
 have HB := am ((Below.refl _ w).alloc (Nat.le_refl _) (.cells #[.int .i64 0, .int .i64 0, .int .u8 0, .int .i64 0] 52))
 have HK := am (heap_alloc_new w (.cells #[.int .i64 0, .int .i64 0, .int .u8 0, .int .i64 0] 52))
 by_cases hn : t.opn = []
 ·obtain ⟨Ao, co, rfl⟩ := Kd.R_slice h.r.o
  have k5 : w.cell? ⟨g, 5, none⟩ = some (.slice Ao t.opn.length co) := (blk_cell h.b 5).trans rfl
  rw [hn] at k5
  have HE := am (show t.topM = z52 ∧ t.isTop = false by constructor <;> simp [Tk.topM, Tk.isTop, hn])
  clear h hn
  go_enter Tryz.func86, Tryz.ntmps86
  go_wp2
  refine bodyPost_ret (v := .tuple #[mvV z52, .bool false]) ?_ rfl ⟨by rw [HE.out.1, HE.out.2], HB.out⟩
  have c0 := (blk_cell HK.out 0).trans rfl
  have c1 := (blk_cell HK.out 1).trans rfl
  have c2 := (blk_cell HK.out 2).trans rfl
  have c3 := (blk_cell HK.out 3).trans rfl
  simp [results, Tryz.results86, go_sem, c0, c1, c2, c3, mvV, z52]
 have hp := List.length_pos_iff.2 hn
 obtain ⟨k, hk⟩ : ∃ k : Nat, t.opn.length - 1 = k := ⟨_, rfl⟩
 have hkz : ((t.opn.length : Int) - 1) = (k : Int) := by omega
 have hkl : k < t.opn.length := by omega
 have hkw : IntKind.i64.wrap (k : Int) = (k : Int) := IntWalk.i64_in _ (by omega)
 obtain ⟨q, hq⟩ : ∃ q, t.topI = q := ⟨_, rfl⟩
 have hto : t.top = some q := by
  cases ht : t.top with
  | none => exact absurd (List.getLast?_eq_none_iff.1 ht) hn
  | some n => rw [← hq, Tk.topI, ht]; rfl
 obtain ⟨hq0, hq1⟩ := h.ok.topI hto
 have hgl : t.opn.getD k 0 = q := by
  have h1 := getLast_get t.opn hn
  rw [hk, ← List.getD_eq_getElem?_getD] at h1
  rw [← h1, ← hq]
  rfl
 obtain ⟨go, co, hvo, hgo, ao⟩ := h.r.o.get k hkl
 cases hvo
 rw [hgl] at ao
 obtain ⟨gw, cw, mq, hvw, hgw2, hmq, a0, a1, a2, a3⟩ := h.r.w.get q hq0 hq1
 cases hvw
 have k5 : w.cell? ⟨g, 5, none⟩ = some (.slice (some ⟨go, 0, none⟩) t.opn.length co) := (blk_cell h.b 5).trans rfl
 have k4 : w.cell? ⟨g, 4, none⟩ = some (.slice (some ⟨gw, 0, none⟩) t.word.length cw) := (blk_cell h.b 4).trans rfl
 have HE := am (show t.topM = mq ∧ t.isTop = true by
  constructor
  ·rw [Tk.topM, if_neg hn, hq]; exact hmq
  simp [Tk.isTop, hn])
 have hpz : ((t.opn.length : Int) == 0) = false := by simp; omega
 clear h hn hgl hto hmq hq
 go_enter Tryz.func86, Tryz.ntmps86
 go_upto_region 3 with fail
 refine name_world (C := fun x => Code.wp _ _ _ _ x) ?_
 intro wc hwc
 have HBc := am (show Below w.heap.size w wc by rw [hwc]; exact HB.out)
 have HKc := am (show wc.heap[w.heap.size]? = some (.cells #[.int .i64 0, .int .i64 0, .int .u8 0, .int .i64 0] 52 (0, 0)) by rw [hwc]; exact HK.out)
 clear hwc HB HK
 replace k4 := pw_cell_below HBc.out k4
 replace k5 := pw_cell_below HBc.out k5
 replace ao := pw_cell_below HBc.out ao
 replace a0 := pw_cell_below HBc.out a0
 replace a1 := pw_cell_below HBc.out a1
 replace a2 := pw_cell_below HBc.out a2
 replace a3 := pw_cell_below HBc.out a3
 go_still_tail 18, (by kernel_rfl)
 change wpList _ _ _ _ _ wc.drew
 refine name_world (C := fun x => wpList _ _ _ _ _ x) ?_
 intro wd hwd
 have HBd := am (show Below w.heap.size w wd by rw [hwd]; exact HBc.out.drew)
 have HKd := am (show wd.heap[w.heap.size]? = some (.cells #[.int .i64 0, .int .i64 0, .int .u8 0, .int .i64 0] 52 (0, 0)) by rw [hwd]; exact blk_drew HKc.out)
 clear hwd HBc HKc k4 k5 ao a0 a1 a2 a3
 have f0 := blk_frozen HKd.out 0
 have f1 := blk_frozen HKd.out 1
 have f2 := blk_frozen HKd.out 2
 have f3 := blk_frozen HKd.out 3
 have d0 : wd.cell? ⟨w.heap.size, 0, none⟩ = some (.int .i64 0) := (blk_cell HKd.out 0).trans rfl
 have d1 : wd.cell? ⟨w.heap.size, 1, none⟩ = some (.int .i64 0) := (blk_cell HKd.out 1).trans rfl
 have d2 : wd.cell? ⟨w.heap.size, 2, none⟩ = some (.int .u8 0) := (blk_cell HKd.out 2).trans rfl
 have d3 : wd.cell? ⟨w.heap.size, 3, none⟩ = some (.int .i64 0) := (blk_cell HKd.out 3).trans rfl
 go_wp2
 have r := store4 HKd.out (.int .i64 mq.f0) (.int .i64 mq.f1) (.int .u8 mq.f2) (.int .i64 mq.f3)
 refine bodyPost_ret (v := .tuple #[mvV mq, .bool true]) ?_ rfl ⟨by rw [HE.out.1, HE.out.2], below4s HBd.out (Nat.le_refl _) _ _ _ _⟩
 have c0 := (blk_cell r 0).trans rfl
 have c1 := (blk_cell r 1).trans rfl
 have c2 := (blk_cell r 2).trans rfl
 have c3 := (blk_cell r 3).trans rfl
 simp [results, Tryz.results86, go_sem, c0, c1, c2, c3, mvV]
theorem rHas_any (A : Option Addr) (c : Nat) (ids : List S68) (rc : Bool) (rn : Int) (jb : Bool) (m : Mv) (w : World) (hr : Kd.C k68 w A ids.length ids) (hlc : ids.length ≤ c) (hok : checkE ids rn = 0) :
  Calls Tryz.prog 111 #[.agg #[.slice A ids.length c, .bool rc, .int .i64 rn, .bool jb], .agg #[.int .i64 m.f0, .int .i64 m.f1, .int .u8 m.f2, .int .i64 m.f3]] w fun e w' => e = .returned (.bool (hasR ids rc rn jb m)) ∧ Below w.heap.size w w' :=
 riposteref04_Has.calls 200 A c ids rc rn jb m.f0 m.f1 m.f2 m.f3 _ w hr hlc (has_f 200 (Nat.le_refl _) ids rc rn jb m hok)
def answersB (m q : Mv) : Bool := m.f0 == q.f0 && m.f1 == q.f1 && m.f2 == 3 && (q.f2 == 1 || decide (m.f3 ≤ 0))
def canR (t : Tk) (jb : Bool) (m : Mv) : Bool :=
 if t.word.length = 0 then m.f0 == 0 && askB m else if t.isTop = false then false else
  if (t.lost || t.forcedR) = true then answersB m t.topM && isEscB m else
  if askB m = true then (if isIdent t.topM = true then m.f0 == t.topM.f0 && decide (0 < m.f1) else decide (0 < m.f0) && m.f1 == 0) else
  if (isEscB m && t.topM.f1 == 0) = true then answersB m t.topM && decide (0 < t.topM.f0) && jb else answersB m t.topM
set_option maxRecDepth 8000 in
set_option maxHeartbeats 3200000 in
theorem rCan_any {base : Nat} {w : World} {g : Nat} {A : Option Addr} {c : Nat} {ids : List S68} {rc : Bool} {rn : Int} {jb : Bool} {t : Tk} {vw vo vp vj : Value} (h : Wlk base w g A c ids rc rn jb t vw vo vp vj) (m : Mv) (hr : Kd.C k68 w A ids.length ids) (hlc : ids.length ≤ c) (hok : checkE ids rn = 0) :
  Calls Tryz.prog 87 #[.pointer (some ⟨g, 0, none⟩), .agg #[.int .i64 m.f0, .int .i64 m.f1, .int .u8 m.f2, .int .i64 m.f3]] w fun e w' => e = .returned (.bool (hasR ids rc rn jb m && canR t jb m)) ∧ Below w.heap.size w w' := by
 have HT := am h
 have hgw := h.lt
 have hgn : g ≠ w.heap.size := by omega
 have HB := am ((Below.refl _ w).alloc (Nat.le_refl _) (.cells #[.int .i64 m.f0, .int .i64 m.f1, .int .u8 m.f2, .int .i64 m.f3] 52))
 have HK := am (heap_alloc_new w (.cells #[.int .i64 m.f0, .int .i64 m.f1, .int .u8 m.f2, .int .i64 m.f3] 52))
 have HHAS := am (fun (V : World) (hb : Below w.heap.size w V) => rHas_any A c ids rc rn jb m V (Kd.C_below hr hb) hlc hok)
 obtain ⟨Aw, cw, rfl⟩ := Kd.R_slice h.r.w
 clear h hr
 obtain ⟨hs, hhs⟩ : ∃ hs, hasR ids rc rn jb m = hs := ⟨_, rfl⟩
 rw [hhs] at HHAS ⊢
 clear hhs
 go_enter Tryz.func87, Tryz.ntmps87
 go_upto_region 1 with fail
 go_cut [14] (fun x14 wx => x14 = .bool (!hs) ∧ Aside0 (Below w.heap.size w wx) ∧ Aside0 (wx.heap[w.heap.size]? = some (.cells #[.int .i64 m.f0, .int .i64 m.f1, .int .u8 m.f2, .int .i64 m.f3] 52 (0, 0))))
 case first =>
  refine name_world (C := fun x => Code.wp _ _ _ _ x) ?_
  intro wc hwc
  have HBc := am (show Below w.heap.size w wc.drew by rw [hwc]; exact HB.out.drew)
  have HKc := am (show wc.drew.heap[w.heap.size]? = some (.cells #[.int .i64 m.f0, .int .i64 m.f1, .int .u8 m.f2, .int .i64 m.f3] 52 (0, 0)) by rw [hwc]; exact blk_drew HK.out)
  clear hwc HB HK
  have HTc := am (HT.out.below HBc.out)
  refine start_ (n := 7) (S := fun w' => w'.cell? ⟨g, 0, none⟩ = some (.slice A ids.length c) ∧ w'.cell? ⟨g, 1, none⟩ = some (.bool rc) ∧ w'.cell? ⟨g, 2, none⟩ = some (.int .i64 rn) ∧ w'.cell? ⟨g, 3, none⟩ = some (.bool jb) ∧ w'.cell? ⟨w.heap.size, 0, none⟩ = some (.int .i64 m.f0) ∧ w'.cell? ⟨w.heap.size, 1, none⟩ = some (.int .i64 m.f1) ∧ w'.cell? ⟨w.heap.size, 2, none⟩ = some (.int .u8 m.f2) ∧ w'.cell? ⟨w.heap.size, 3, none⟩ = some (.int .i64 m.f3)) (ds := [5]) #[Z,Z,Z,Z,Z,Z,Z] (by kernel_rfl) rfl rfl ⟨(blk_cell HTc.out.b 0).trans rfl, (blk_cell HTc.out.b 1).trans rfl, (blk_cell HTc.out.b 2).trans rfl, (blk_cell HTc.out.b 3).trans rfl, (blk_cell HKc.out 0).trans rfl, (blk_cell HKc.out 1).trans rfl, (blk_cell HKc.out 2).trans rfl, (blk_cell HKc.out 3).trans rfl⟩ (fun hHeld => ?_)
  refine pure_ (i := 0) (N:=some 8) (v:=?_) (a':=?_) #[Y,Z,Z,Z,Z,Z,Z] rfl rfl (by kernel_rfl) (fun _ _ _ h => h) (Or.inl ⟨by rfl, ?_⟩) ?_ ?_;rotate_left;(intro w';go_simp;with_reducible rfl);rotate_left;(simp only [Act.put,sn1,sn2,sn3,i64_w];rfl)
  refine pure_ (i := 1) (N:=some 9) (v:=?_) (a':=?_) #[Y,Y,Z,Z,Z,Z,Z] rfl rfl (by kernel_rfl) (fun _ _ _ h => h) (Or.inl ⟨by rfl, ?_⟩) ?_ ?_;rotate_left;(intro w';go_simp;with_reducible rfl);rotate_left;(simp only [Act.put,sn1,sn2,sn3,i64_w];rfl)
  refine pure_ (i := 2) (N:=some 10) (v:=?_) (a':=?_) #[Y,Y,Y,Z,Z,Z,Z] rfl rfl (by kernel_rfl) (fun _ _ _ h => h) (Or.inl ⟨by rfl, ?_⟩) ?_ ?_;rotate_left;(intro w';go_simp;with_reducible rfl);rotate_left;(simp only [Act.put,sn1,sn2,sn3,i64_w];rfl)
  refine take_ (i := 3) (N:=some 11) (v:=?_) (a':=?_) #[Y,Y,Y,Y,Z,Z,Z] rfl rfl (by kernel_rfl) (fun _ _ _ h => h) (Or.inl ⟨by rfl, ?_⟩) hHeld ?_ ?_
  rotate_left
  ·rintro w' ⟨s0, s1, s2, s3, s4, s5, s6, s7⟩
   go_simp
   with_reducible rfl
  rotate_left
  ·simp only [Act.put,sn1,sn2,sn3,i64_w]
   rfl
  refine take_ (i := 4) (N:=some 12) (v:=?_) (a':=?_) #[Y,Y,Y,Y,Y,Z,Z] rfl rfl (by kernel_rfl) (fun _ _ _ h => h) (Or.inl ⟨by rfl, ?_⟩) hHeld ?_ ?_
  rotate_left
  ·rintro w' ⟨s0, s1, s2, s3, s4, s5, s6, s7⟩
   go_simp
   with_reducible rfl
  rotate_left
  ·simp only [Act.put,sn1,sn2,sn3,i64_w]
   rfl
  refine last_ (i := 5) (N:=some 13) #[Y,Y,Y,Y,Y,Y,Z] rfl rfl (by kernel_rfl) (by decide) (fun K hK => ?_)
  refine goes_ Tryz.func111 (by kernel_rfl) rfl #[.agg #[.slice A ids.length c, .bool rc, .int .i64 rn, .bool jb], .agg #[.int .i64 m.f0, .int .i64 m.f1, .int .u8 m.f2, .int .i64 m.f3]] (by rfl) rfl rfl (by simp only [List.map_toArray, List.map_cons, List.map_nil]; rfl) ?_
  with_reducible refine (HHAS.out _ HBc.out).mono ?_
  rintro e w1 ⟨rfl, hb1⟩
  refine ⟨_, rfl, ?_⟩
  refine hK.out _ _ ?_
  clear hK K
  refine norm_ (a' := ?_) ?_ ?_
  rotate_left
  ·show Act.put _ (some 13) _ = _
   simp only [Act.put,sn1,sn2,sn3,i64_w]
   rfl
  refine pure_ (i := 6) (N:=some 14) (v:=?_) (a':=?_) #[Y,Y,Y,Y,Y,Y,Y] rfl rfl (by kernel_rfl) (fun _ _ _ h => h) (Or.inl ⟨by rfl, ?_⟩) ?_ ?_;rotate_left;(intro w';go_simp;with_reducible rfl);rotate_left;(simp only [Act.put,sn1,sn2,sn3,i64_w];rfl)
  refine done_ (by kernel_rfl) ?_
  go_wp2_with fail
  go_meet
  case rel => exact ⟨rfl, ⟨HBc.out.trans (hb1.mono (by have := HBc.out.size; exact this))⟩, ⟨(hb1.block _ (blk_lt HKc.out)).trans HKc.out⟩⟩
 case rest =>
 obtain ⟨rfl, HB1, HK1⟩ := hcut
 clear HB HK HHAS
 cases hs with
 | false =>
  go_wp2_with fail
  go_ret
  exact ⟨rfl, HB1.out⟩
 | true =>
  have HT1 := am (HT.out.below HB1.out)
  have hs1 : w.heap.size < wc.heap.size := blk_lt HK1.out
  have k4 : wc.cell? ⟨g, 4, none⟩ = some (.slice Aw t.word.length cw) := (blk_cell HT1.out.b 4).trans rfl
  have b0 : wc.cell? ⟨w.heap.size, 0, none⟩ = some (.int .i64 m.f0) := (blk_cell HK1.out 0).trans rfl
  have b1 : wc.cell? ⟨w.heap.size, 1, none⟩ = some (.int .i64 m.f1) := (blk_cell HK1.out 1).trans rfl
  have b2 : wc.cell? ⟨w.heap.size, 2, none⟩ = some (.int .u8 m.f2) := (blk_cell HK1.out 2).trans rfl
  have b3 : wc.cell? ⟨w.heap.size, 3, none⟩ = some (.int .i64 m.f3) := (blk_cell HK1.out 3).trans rfl
  by_cases h0 : t.word.length = 0
  ·have cb : ((t.word.length : Int) == 0) = true := by simp [h0]
   rcases h1 : (m.f0 == 0) with _ | _
   ·have HE := am (show canR t jb m = false by rw [canR, if_pos h0, h1]; rfl)
    go_wp2_with (go_at_call 37; refine (rAsk_any m _).mono ?_; rintro e w2 ⟨rfl, hb2⟩)
    go_ret
    exact ⟨by rw [Bool.true_and, HE.out]; rfl, HB1.out⟩
   have HE := am (show canR t jb m = askB m by rw [canR, if_pos h0, h1, Bool.true_and])
   go_wp2_with (go_at_call 37; refine (rAsk_any m _).mono ?_; rintro e w2 ⟨rfl, hb2⟩)
   go_ret
   exact ⟨by rw [Bool.true_and, HE.out]; rfl, HB1.out.trans (hb2.mono (by omega))⟩
  have cb : ((t.word.length : Int) == 0) = false := by simpa using h0
  have HTOP := am (rTop_any HT1.out)
  have hgc : g < wc.heap.size := by omega
  obtain ⟨q, hq⟩ : ∃ q, t.topM = q := ⟨_, rfl⟩
  obtain ⟨iT, hiT⟩ : ∃ iT, t.isTop = iT := ⟨_, rfl⟩
  rw [hq, hiT] at HTOP
  unfold mvV at HTOP
  cases iT with
  | false =>
   have HE := am (show canR t jb m = false by rw [canR, if_neg h0, if_pos hiT])
   go_wp2_with (go_at_call 86; refine HTOP.out.mono ?_; rintro e w2 ⟨rfl, hb2⟩; have hs2 := hb2.size; have hbx2 : w.heap.size < w2.heap.size := (by omega); have hgx : g < w2.heap.size := (by omega); have hgn2 : g ≠ w2.heap.size := (by omega); have hbn2 : w.heap.size ≠ w2.heap.size := (by omega); have HB2 := am (HB1.out.trans (hb2.mono (by omega))); have HBA := am (HB2.out.alloc (by omega) (.cells #[.int .i64 q.f0, .int .i64 q.f1, .int .u8 q.f2, .int .i64 q.f3] 52)))
   go_ret
   exact ⟨by rw [Bool.true_and, HE.out]; rfl, HBA.out⟩
  | true =>
   have hcr : canR t jb m = (if (t.lost || t.forcedR) = true then answersB m q && isEscB m else
    if askB m = true then (if isIdent q = true then m.f0 == q.f0 && decide (0 < m.f1) else decide (0 < m.f0) && m.f1 == 0) else
    if (isEscB m && q.f1 == 0) = true then answersB m q && decide (0 < q.f0) && jb else answersB m q) := by
    rw [canR, if_neg h0, if_neg (by rw [hiT]; decide), hq]
   have HCR := am hcr
   clear hcr hq hiT
   go_upto_region 8 with (go_at_call 86; refine HTOP.out.mono ?_; rintro e w2 ⟨rfl, hb2⟩; have hs2 := hb2.size; have hbx2 : w.heap.size < w2.heap.size := (by omega); have hgx : g < w2.heap.size := (by omega); have hgn2 : g ≠ w2.heap.size := (by omega); have hbn2 : w.heap.size ≠ w2.heap.size := (by omega); have HB2 := am (HB1.out.trans (hb2.mono (by omega))); have HBA := am (HB2.out.alloc (by omega) (.cells #[.int .i64 q.f0, .int .i64 q.f1, .int .u8 q.f2, .int .i64 q.f3] 52)))
   refine name_world (C := fun x => Code.wp _ _ _ _ x) ?_
   intro w3 hw3
   have HB3 := am (show Below w.heap.size w w3 by rw [hw3]; exact HBA.out)
   have HKQ := am (show w3.heap[w2.heap.size]? = some (.cells #[.int .i64 q.f0, .int .i64 q.f1, .int .u8 q.f2, .int .i64 q.f3] 52 (0, 0)) by rw [hw3]; exact heap_alloc_new w2 _)
   have HKM := am (show w3.heap[w.heap.size]? = some (.cells #[.int .i64 m.f0, .int .i64 m.f1, .int .u8 m.f2, .int .i64 m.f3] 52 (0, 0)) by rw [hw3]; exact blk_alloc ((hb2.block _ hs1).trans HK1.out) _)
   have HT3 := am (HT.out.below HB3.out)
   clear hw3 HB2 HBA HTOP HK1 k4 b0 b1 b2 b3 hb2
   have hq3 : w2.heap.size < w3.heap.size := blk_lt HKQ.out
   have hm3 : w.heap.size < w3.heap.size := blk_lt HKM.out
   go_cut [7] (fun x7 wx => x7 = .bool (answersB m q) ∧ wx = w3)
   case first =>
    have b0 : w3.cell? ⟨w.heap.size, 0, none⟩ = some (.int .i64 m.f0) := (blk_cell HKM.out 0).trans rfl; have b1 : w3.cell? ⟨w.heap.size, 1, none⟩ = some (.int .i64 m.f1) := (blk_cell HKM.out 1).trans rfl; have b2 : w3.cell? ⟨w.heap.size, 2, none⟩ = some (.int .u8 m.f2) := (blk_cell HKM.out 2).trans rfl; have b3 : w3.cell? ⟨w.heap.size, 3, none⟩ = some (.int .i64 m.f3) := (blk_cell HKM.out 3).trans rfl
    have q0 : w3.cell? ⟨w2.heap.size, 0, none⟩ = some (.int .i64 q.f0) := (blk_cell HKQ.out 0).trans rfl; have q1 : w3.cell? ⟨w2.heap.size, 1, none⟩ = some (.int .i64 q.f1) := (blk_cell HKQ.out 1).trans rfl; have q2 : w3.cell? ⟨w2.heap.size, 2, none⟩ = some (.int .u8 q.f2) := (blk_cell HKQ.out 2).trans rfl
    rcases h0 : (m.f0 == q.f0) with _ | _
    ·have HE := am (show answersB m q = false by rw [answersB, h0]; rfl)
     go_wp2_with fail
     go_meet
     case rel => exact ⟨by rw [HE.out], rfl⟩
    rcases h1 : (m.f1 == q.f1) with _ | _
    ·have HE := am (show answersB m q = false by rw [answersB, h0, h1]; rfl)
     go_wp2_with fail
     go_meet
     case rel => exact ⟨by rw [HE.out], rfl⟩
    rcases h2 : (m.f2 == 3) with _ | _
    ·have HE := am (show answersB m q = false by rw [answersB, h0, h1, h2]; rfl)
     go_wp2_with fail
     go_meet
     case rel => exact ⟨by rw [HE.out], rfl⟩
    rcases h3 : (q.f2 == 1) with _ | _
    ·have HE := am (show answersB m q = decide (m.f3 ≤ 0) by rw [answersB, h0, h1, h2, h3]; rfl)
     go_wp2_with fail
     go_meet
     case rel => exact ⟨by rw [HE.out], rfl⟩
    have HE := am (show answersB m q = true by rw [answersB, h0, h1, h2, h3]; rfl)
    go_wp2_with fail
    go_meet
    case rel => exact ⟨by rw [HE.out], rfl⟩
   case rest =>
   obtain ⟨rfl, ewc⟩ := hcut
   rw [ewc]
   clear ewc
   obtain ⟨an, han⟩ : ∃ an, answersB m q = an := ⟨_, rfl⟩
   rw [han] at HCR ⊢
   clear han
   have k8 : w3.cell? ⟨g, 8, none⟩ = some (.bool t.lost) := (blk_cell HT3.out.b 8).trans rfl
   have HFO := am (rForced_any HT3.out)
   have hgw3 : g < w3.heap.size := HT3.out.lt
   obtain ⟨lo, hlo⟩ : ∃ lo, t.lost = lo := ⟨_, rfl⟩
   obtain ⟨fR, hfR⟩ : ∃ fR, t.forcedR = fR := ⟨_, rfl⟩
   rw [hlo] at k8
   rw [hfR] at HFO
   rw [hlo, hfR] at HCR
   clear hlo hfR
   go_upto_region 9 with fail
   go_cut [69] (fun x69 wx => x69 = .bool (lo || fR) ∧ Aside0 (Below w3.heap.size w3 wx))
   case first =>
    rcases lo with _ | _
    ·go_wp2_with (go_at_call 62; refine HFO.out.mono ?_; rintro e w4 ⟨rfl, hb4⟩)
     go_meet
     case rel => exact ⟨rfl, ⟨hb4⟩⟩
    go_wp2_with (go_at_call 62; refine HFO.out.mono ?_; rintro e w4 ⟨rfl, hb4⟩)
    go_meet
    case rel => exact ⟨rfl, ⟨Below.refl _ _⟩⟩
   case rest =>
   obtain ⟨rfl, HBd⟩ := hcut
   have HB4 := am (HB3.out.trans (HBd.out.mono (by omega)))
   have HKM4 := am ((HBd.out.block _ hm3).trans HKM.out)
   have HKQ4 := am ((HBd.out.block _ hq3).trans HKQ.out)
   have HT4 := am (HT3.out.below HBd.out)
   have hs4 : w3.heap.size ≤ wc.heap.size := HBd.out.size
   clear HB3 HKM HKQ HT3 HBd k8 HFO
   have k3 : wc.cell? ⟨g, 3, none⟩ = some (.bool jb) := (blk_cell HT4.out.b 3).trans rfl
   have b0 : wc.cell? ⟨w.heap.size, 0, none⟩ = some (.int .i64 m.f0) := (blk_cell HKM4.out 0).trans rfl; have b1 : wc.cell? ⟨w.heap.size, 1, none⟩ = some (.int .i64 m.f1) := (blk_cell HKM4.out 1).trans rfl; have b2 : wc.cell? ⟨w.heap.size, 2, none⟩ = some (.int .u8 m.f2) := (blk_cell HKM4.out 2).trans rfl; have b3 : wc.cell? ⟨w.heap.size, 3, none⟩ = some (.int .i64 m.f3) := (blk_cell HKM4.out 3).trans rfl
   have q0 : wc.cell? ⟨w2.heap.size, 0, none⟩ = some (.int .i64 q.f0) := (blk_cell HKQ4.out 0).trans rfl; have q1 : wc.cell? ⟨w2.heap.size, 1, none⟩ = some (.int .i64 q.f1) := (blk_cell HKQ4.out 1).trans rfl; have q2 : wc.cell? ⟨w2.heap.size, 2, none⟩ = some (.int .u8 q.f2) := (blk_cell HKQ4.out 2).trans rfl
   rcases hlf : (lo || fR) with _ | _
   ·rw [hlf, if_neg (by decide)] at HCR
    rcases hak : askB m with _ | _
    ·rw [hak, if_neg (by decide)] at HCR
     have HAK := am hak
     rcases hes : isEscB m with _ | _
     ·have HES := am hes
      rw [hes, Bool.false_and, if_neg (by decide)] at HCR
      go_wp2_with (first | (go_at_call 37; refine (rAsk_any m _).mono ?_; rw [HAK.out]; rintro e w5 ⟨rfl, hb5⟩; have HB5 := am (HB4.out.trans (hb5.mono (by omega))); have q05 := pw_cell_below hb5 q0; have q15 := pw_cell_below hb5 q1; have b05 := pw_cell_below hb5 b0; have b15 := pw_cell_below hb5 b1; have b25 := pw_cell_below hb5 b2; have b35 := pw_cell_below hb5 b3; have k35 := pw_cell_below hb5 k3; have hs5 := hb5.size) | (go_at_call 38; refine (rEsc_any m _).mono ?_; rw [HES.out]; rintro e w6 ⟨rfl, hb6⟩; have HB6 := am (HB5.out.trans (hb6.mono (by omega))); have q06 := pw_cell_below hb6 q05; have q16 := pw_cell_below hb6 q15; have k36 := pw_cell_below hb6 k35))
      go_ret
      exact ⟨by rw [Bool.true_and, HCR.out]; rfl, HB6.out⟩
     have HES := am hes
     rw [hes, Bool.true_and] at HCR
     rcases hq1 : (q.f1 == 0) with _ | _
     ·rw [hq1, if_neg (by decide)] at HCR
      go_wp2_with (first | (go_at_call 37; refine (rAsk_any m _).mono ?_; rw [HAK.out]; rintro e w5 ⟨rfl, hb5⟩; have HB5 := am (HB4.out.trans (hb5.mono (by omega))); have q05 := pw_cell_below hb5 q0; have q15 := pw_cell_below hb5 q1; have b05 := pw_cell_below hb5 b0; have b15 := pw_cell_below hb5 b1; have b25 := pw_cell_below hb5 b2; have b35 := pw_cell_below hb5 b3; have k35 := pw_cell_below hb5 k3; have hs5 := hb5.size) | (go_at_call 38; refine (rEsc_any m _).mono ?_; rw [HES.out]; rintro e w6 ⟨rfl, hb6⟩; have HB6 := am (HB5.out.trans (hb6.mono (by omega))); have q06 := pw_cell_below hb6 q05; have q16 := pw_cell_below hb6 q15; have k36 := pw_cell_below hb6 k35))
      go_ret
      exact ⟨by rw [Bool.true_and, HCR.out]; rfl, HB6.out⟩
     rw [hq1, if_pos rfl] at HCR
     cases an with
     | false =>
      go_wp2_with (first | (go_at_call 37; refine (rAsk_any m _).mono ?_; rw [HAK.out]; rintro e w5 ⟨rfl, hb5⟩; have HB5 := am (HB4.out.trans (hb5.mono (by omega))); have q05 := pw_cell_below hb5 q0; have q15 := pw_cell_below hb5 q1; have b05 := pw_cell_below hb5 b0; have b15 := pw_cell_below hb5 b1; have b25 := pw_cell_below hb5 b2; have b35 := pw_cell_below hb5 b3; have k35 := pw_cell_below hb5 k3; have hs5 := hb5.size) | (go_at_call 38; refine (rEsc_any m _).mono ?_; rw [HES.out]; rintro e w6 ⟨rfl, hb6⟩; have HB6 := am (HB5.out.trans (hb6.mono (by omega))); have q06 := pw_cell_below hb6 q05; have q16 := pw_cell_below hb6 q15; have k36 := pw_cell_below hb6 k35))
      go_ret
      exact ⟨by rw [Bool.true_and, HCR.out]; rfl, HB6.out⟩
     | true =>
      rcases hi0 : decide (0 < q.f0) with _ | _
      all_goals
       rw [hi0] at HCR
       go_wp2_with (first | (go_at_call 37; refine (rAsk_any m _).mono ?_; rw [HAK.out]; rintro e w5 ⟨rfl, hb5⟩; have HB5 := am (HB4.out.trans (hb5.mono (by omega))); have q05 := pw_cell_below hb5 q0; have q15 := pw_cell_below hb5 q1; have b05 := pw_cell_below hb5 b0; have b15 := pw_cell_below hb5 b1; have b25 := pw_cell_below hb5 b2; have b35 := pw_cell_below hb5 b3; have k35 := pw_cell_below hb5 k3; have hs5 := hb5.size) | (go_at_call 38; refine (rEsc_any m _).mono ?_; rw [HES.out]; rintro e w6 ⟨rfl, hb6⟩; have HB6 := am (HB5.out.trans (hb6.mono (by omega))); have q06 := pw_cell_below hb6 q05; have q16 := pw_cell_below hb6 q15; have k36 := pw_cell_below hb6 k35))
       go_ret
       exact ⟨by rw [Bool.true_and, HCR.out]; rfl, HB6.out⟩
    have HAK := am hak
    rw [hak, if_pos rfl] at HCR
    rcases hi0 : decide (0 < q.f0) with _ | _
    ·have HI : isIdent q = false := by rw [isIdent, hi0]; rfl
     rw [HI, if_neg (by decide)] at HCR
     rcases hm0 : decide (0 < m.f0) with _ | _
     all_goals
      rw [hm0] at HCR
      go_wp2_with (go_at_call 37; refine (rAsk_any m _).mono ?_; rw [HAK.out]; rintro e w5 ⟨rfl, hb5⟩; have HB5 := am (HB4.out.trans (hb5.mono (by omega))); have q05 := pw_cell_below hb5 q0; have q15 := pw_cell_below hb5 q1; have b05 := pw_cell_below hb5 b0; have b15 := pw_cell_below hb5 b1; have b25 := pw_cell_below hb5 b2; have b35 := pw_cell_below hb5 b3; have k35 := pw_cell_below hb5 k3; have hs5 := hb5.size)
      go_ret
      exact ⟨by rw [Bool.true_and, HCR.out]; rfl, HB5.out⟩
    rcases hq1 : (q.f1 == 0) with _ | _
    ·have HI : isIdent q = false := by rw [isIdent, hi0, hq1]; rfl
     rw [HI, if_neg (by decide)] at HCR
     rcases hm0 : decide (0 < m.f0) with _ | _
     all_goals
      rw [hm0] at HCR
      go_wp2_with (go_at_call 37; refine (rAsk_any m _).mono ?_; rw [HAK.out]; rintro e w5 ⟨rfl, hb5⟩; have HB5 := am (HB4.out.trans (hb5.mono (by omega))); have q05 := pw_cell_below hb5 q0; have q15 := pw_cell_below hb5 q1; have b05 := pw_cell_below hb5 b0; have b15 := pw_cell_below hb5 b1; have b25 := pw_cell_below hb5 b2; have b35 := pw_cell_below hb5 b3; have k35 := pw_cell_below hb5 k3; have hs5 := hb5.size)
      go_ret
      exact ⟨by rw [Bool.true_and, HCR.out]; rfl, HB5.out⟩
    have HI : isIdent q = true := by rw [isIdent, hi0, hq1]; rfl
    rw [HI, if_pos rfl] at HCR
    rcases hm0 : (m.f0 == q.f0) with _ | _
    all_goals
     rw [hm0] at HCR
     go_wp2_with (go_at_call 37; refine (rAsk_any m _).mono ?_; rw [HAK.out]; rintro e w5 ⟨rfl, hb5⟩; have HB5 := am (HB4.out.trans (hb5.mono (by omega))); have q05 := pw_cell_below hb5 q0; have q15 := pw_cell_below hb5 q1; have b05 := pw_cell_below hb5 b0; have b15 := pw_cell_below hb5 b1; have b25 := pw_cell_below hb5 b2; have b35 := pw_cell_below hb5 b3; have k35 := pw_cell_below hb5 k3; have hs5 := hb5.size)
     go_ret
     exact ⟨by rw [Bool.true_and, HCR.out]; rfl, HB5.out⟩
   rw [hlf, if_pos rfl] at HCR
   cases an with
   | false =>
    go_wp2_with fail
    go_ret
    exact ⟨by rw [Bool.true_and, HCR.out]; rfl, HB4.out⟩
   | true =>
    go_wp2_with (go_at_call 38; refine (rEsc_any m _).mono ?_; rintro e w6 ⟨rfl, hb6⟩; have HB6 := am (HB4.out.trans (hb6.mono (by omega))))
    go_ret
    exact ⟨by rw [Bool.true_and, HCR.out]; rfl, HB6.out⟩
end Go.Proofs.YtjgocihflhljeaaGreat.P
namespace Go.Proofs.YtjgocihflhljeaaGreat.P
open Go.RowKit Go.Shelf Go.Proofs.YtjgocihflhljeaaGreatW.PrintWords Go.Proofs.YtjgocihflhljeaaGreatW.PrintLast Go.Proofs.YtjgocihflhljeaaGreatW.PrintMore
theorem can_eq (m q : Mv) (jb fl : Bool) (hm : MvOk m) (hq : MvOk q) :
  (if isAns m then atB m q.f0 q.f1 && (if fl then isEscB m else if isEscB m then isPar q || (isIdent q && jb) else q.f2 == 1 || m.f3 == 0) else if fl then false else if (if isIdent q then (1 : Int) else 2) = 2 then isIdent m else isPar m && (m.f0 == q.f0)) =
  (if fl = true then answersB m q && isEscB m else if askB m = true then (if isIdent q = true then m.f0 == q.f0 && decide (0 < m.f1) else decide (0 < m.f0) && m.f1 == 0) else if (isEscB m && q.f1 == 0) = true then answersB m q && decide (0 < q.f0) && jb else answersB m q) := by
 obtain ⟨m0, m1, m2, m3⟩ := m
 obtain ⟨q0, q1, q2, q3⟩ := q
 obtain ⟨hk, hn, hi⟩ := hm
 obtain ⟨_, _, hqi⟩ := hq
 simp only at hk hn hi hqi
 unfold isAns atB isEscB isPar isIdent answersB askB
 simp only
 rw [Bool.eq_iff_iff]
 rcases hk with rfl | rfl | rfl
 ·cases fl <;> cases jb <;> by_cases h1 : 0 < q0 <;> by_cases h2 : q1 = 0 <;> simp [h1, h2] <;> omega
 ·cases fl <;> cases jb <;> by_cases h1 : 0 < q0 <;> by_cases h2 : q1 = 0 <;> simp [h1, h2] <;> omega
 have hn := hn rfl
 by_cases h3 : m3 = -1
 ·subst h3
  cases fl <;> cases jb <;> by_cases h1 : 0 < q0 <;> by_cases h2 : q1 = 0 <;> simp [h1, h2] <;> omega
 cases fl <;> cases jb <;> by_cases h1 : 0 < q0 <;> by_cases h2 : q1 = 0 <;> simp [h1, h2, h3] <;> omega
theorem canR_eq {ids : List S68} {rc : Bool} {rn : Int} {jb : Bool} {t : Tk} (h : t.Legal ids rc rn jb) {m : Mv} (hm : hasR ids rc rn jb m = true) : canR t jb m = t.can jb m := by
 have hk := hasR_ok hm
 have hl := h.ok.hl
 unfold canR Tk.can
 by_cases h0 : t.word.length = 0
 ·have hn : t.opn = [] := List.length_eq_zero_iff.1 (by omega)
  rw [if_pos h0]
  have ht : t.top = none := by rw [Tk.top, hn]; rfl
  rw [ht]
  simp only [h0]
  obtain ⟨h1, h2, h3⟩ := hk
  obtain ⟨m0, m1, m2, m3⟩ := m
  simp only at h1 h2 h3
  unfold askB atB isAns
  simp only
  rw [Bool.eq_iff_iff]
  rcases h1 with rfl | rfl | rfl <;> simp <;> omega
 rw [if_neg h0]
 cases ht : t.top with
 | none =>
  have hn : t.opn = [] := List.getLast?_eq_none_iff.1 ht
  rw [if_pos (show t.isTop = false by simp [Tk.isTop, hn])]
  have : ((t.word.length : Int) == 0) = false := by simpa using h0
  simp only [this, Bool.false_and]
 | some n =>
  have hn : t.opn ≠ [] := by
   intro hn
   rw [Tk.top, hn] at ht
   cases ht
  have hto : t.topM = t.mv n := by rw [Tk.topM, if_neg hn, Tk.topI, ht]; rfl
  rw [if_neg (show ¬ t.isTop = false by simp [Tk.isTop, hn]), hto]
  have hq := hasR_ok (h.oq n (List.mem_of_getLast? ht)).1
  have hfo : t.forcedR = t.force := h.fo.symm
  have hp := List.length_pos_iff.2 hn
  have hov : t.over = false := by
   unfold Tk.over
   have : ((t.opn.length : Int) == 0) = false := by simp; omega
   rw [this, Bool.and_false]
  have htu : t.turn = if isIdent (t.mv n) then 1 else 2 := by
   unfold Tk.turn
   rw [hov, if_neg (by decide), ht]
  rw [hfo, Bool.or_comm, htu]
  unfold Tk.answers
  exact (can_eq m (t.mv n) jb (t.force || t.lost) hk hq).symm
end Go.Proofs.YtjgocihflhljeaaGreat.P
namespace Go.Proofs.YtjgocihflhljeaaGreat.P
open Go.RowKit Go.Shelf Go.Proofs.YtjgocihflhljeaaGreatW.PrintWords Go.Proofs.YtjgocihflhljeaaGreatW.PrintLast Go.Proofs.YtjgocihflhljeaaGreatW.PrintMore
attribute [local go_sem] Oper.semAt_some max2_int max_two
def Boxy (w : World) (g bz : Nat) : Prop := ∀ cs v, w.heap[g]? = some (.cells cs 86 (0, 0)) → cs[4]? = some v → some bz ≠ v.ownBlock
structure TakeP (base : Nat) (w : World) (g bx : Nat) (A : Option Addr) (c : Nat) (ids : List S68) (rc : Bool) (rn : Int) (jb : Bool) (m : Mv) (bw bp bj bo vw vp vj vo : Value) (word : List Mv) (pt js : List Int) (op : List Int) (lost : Bool) (deep : Int) (W : World) : Prop where
 b : W.heap[g]? = some (.cells #[.slice A ids.length c, .bool rc, .int .i64 rn, .bool jb, bw, bo, bp, bj, .bool lost, .int .i64 deep] 86 (0, 0))
 r : Rws base W vw vp vj (.slice none 0 0) vo word pt js [] op
 k : SK base 86 w W
 x : W.heap[bx]? = some (.cells #[.int .i64 m.f0, .int .i64 m.f1, .int .u8 m.f2, .int .i64 m.f3] 52 (0, 0))
 ne : some bx ≠ vw.ownBlock
 lt : g < bx
 hg : base ≤ g
 hw : base ≤ w.heap.size
 z : ∀ bz cs, Boxy w g bz → w.heap[bz]? = some (.cells cs 52 (0, 0)) → W.heap[bz]? = some (.cells cs 52 (0, 0)) ∧ some bz ≠ vw.ownBlock
abbrev Taking (base : Nat) (w : World) (g bx : Nat) (A : Option Addr) (c : Nat) (ids : List S68) (rc : Bool) (rn : Int) (jb : Bool) (m : Mv) (word : List Mv) (pt js : List Int) (op : List Int) (lost : Bool) (deep : Int) (W : World) : Prop :=
 ∃ vw vp vj vo, TakeP base w g bx A c ids rc rn jb m vw vp vj vo vw vp vj vo word pt js op lost deep W
section
variable {base : Nat} {w : World} {g bx : Nat} {A : Option Addr} {c : Nat} {ids : List S68} {rc : Bool} {rn : Int} {jb : Bool} {m : Mv} {bw bp bj bo vw vp vj vo v1 : Value} {word : List Mv} {pt js : List Int} {fo : List Bool} {op : List Int} {force lost : Bool} {deep : Int} {W w1 : World}
theorem TakeP.below (h : TakeP base w g bx A c ids rc rn jb m bw bp bj bo vw vp vj vo word pt js op lost deep W) (hb : Below W.heap.size W w1) : TakeP base w g bx A c ids rc rn jb m bw bp bj bo vw vp vj vo word pt js op lost deep w1 :=
 ⟨(hb.block _ (blk_lt h.b)).trans h.b, h.r.st (St.of_below (b := 0) hb), h.k.of_below hb, (hb.block _ (blk_lt h.x)).trans h.x, h.ne, h.lt, h.hg, h.hw, fun bz cs hz hm => ⟨(hb.block _ (blk_lt (h.z bz cs hz hm).1)).trans (h.z bz cs hz hm).1, (h.z bz cs hz hm).2⟩⟩
theorem TakeP.size (h : TakeP base w g bx A c ids rc rn jb m bw bp bj bo vw vp vj vo word pt js op lost deep W) : base ≤ W.heap.size := Nat.le_trans h.hw h.k.1.2.2.2
theorem Taking.below (h : Taking base w g bx A c ids rc rn jb m word pt js op lost deep W) (hb : Below W.heap.size W w1) : Taking base w g bx A c ids rc rn jb m word pt js op lost deep w1 := by
 obtain ⟨vw, vp, vj, vo, h⟩ := h
 exact ⟨vw, vp, vj, vo, h.below hb⟩
theorem Taking.drew (h : Taking base w g bx A c ids rc rn jb m word pt js op lost deep W) : Taking base w g bx A c ids rc rn jb m word pt js op lost deep W.drew := h.below ((Below.refl _ _).drew)
theorem TakeP.appP {pt' : List Int} (h : TakeP base w g bx A c ids rc rn jb m bw bp bj bo vw vp vj vo word pt js op lost deep W) (hR : RI w1 base v1 pt') (hg : W.grownBy w1 vp.ownBlock) (hat : v1.ownBlock = vp.ownBlock ∨ ∃ b, v1.ownBlock = some b ∧ W.heap.size ≤ b) : TakeP base w g bx A c ids rc rn jb m bw bp bj bo vw v1 vj vo word pt' js op lost deep w1 :=
 ⟨blk_grown h.b hg (Kd.R_ne h.r.p h.b (by decide)), h.r.setP hR hg hat, h.k.grow h.r.p (.inr (.inl rfl)) hg, blk_grown h.x hg (Kd.R_ne h.r.p h.x (by decide)), h.ne, h.lt, h.hg, h.hw, fun bz cs hz hm => ⟨blk_grown (h.z bz cs hz hm).1 hg (Kd.R_ne h.r.p (h.z bz cs hz hm).1 (by decide)), (h.z bz cs hz hm).2⟩⟩
theorem TakeP.appJ {js' : List Int} (h : TakeP base w g bx A c ids rc rn jb m bw bp bj bo vw vp vj vo word pt js op lost deep W) (hR : RI w1 base v1 js') (hg : W.grownBy w1 vj.ownBlock) (hat : v1.ownBlock = vj.ownBlock ∨ ∃ b, v1.ownBlock = some b ∧ W.heap.size ≤ b) : TakeP base w g bx A c ids rc rn jb m bw bp bj bo vw vp v1 vo word pt js' op lost deep w1 :=
 ⟨blk_grown h.b hg (Kd.R_ne h.r.j h.b (by decide)), h.r.setJ hR hg hat, h.k.grow h.r.j (.inr (.inl rfl)) hg, blk_grown h.x hg (Kd.R_ne h.r.j h.x (by decide)), h.ne, h.lt, h.hg, h.hw, fun bz cs hz hm => ⟨blk_grown (h.z bz cs hz hm).1 hg (Kd.R_ne h.r.j (h.z bz cs hz hm).1 (by decide)), (h.z bz cs hz hm).2⟩⟩
theorem TakeP.appO {op' : List Int} (h : TakeP base w g bx A c ids rc rn jb m bw bp bj bo vw vp vj vo word pt js op lost deep W) (hR : RI w1 base v1 op') (hg : W.grownBy w1 vo.ownBlock) (hat : v1.ownBlock = vo.ownBlock ∨ ∃ b, v1.ownBlock = some b ∧ W.heap.size ≤ b) : TakeP base w g bx A c ids rc rn jb m bw bp bj bo vw vp vj v1 word pt js op' lost deep w1 :=
 ⟨blk_grown h.b hg (Kd.R_ne h.r.o h.b (by decide)), h.r.setO hR hg hat, h.k.grow h.r.o (.inr (.inl rfl)) hg, blk_grown h.x hg (Kd.R_ne h.r.o h.x (by decide)), h.ne, h.lt, h.hg, h.hw, fun bz cs hz hm => ⟨blk_grown (h.z bz cs hz hm).1 hg (Kd.R_ne h.r.o (h.z bz cs hz hm).1 (by decide)), (h.z bz cs hz hm).2⟩⟩
theorem TakeP.appW {word' : List Mv} (h : TakeP base w g bx A c ids rc rn jb m bw bp bj bo vw vp vj vo word pt js op lost deep W) (hR : RM w1 base v1 word') (hg : W.grownBy w1 vw.ownBlock) (hat : v1.ownBlock = vw.ownBlock ∨ ∃ b, v1.ownBlock = some b ∧ W.heap.size ≤ b) : TakeP base w g bx A c ids rc rn jb m bw bp bj bo v1 vp vj vo word' pt js op lost deep w1 :=
 ⟨blk_grown h.b hg (Kd.R_ne h.r.w h.b (by decide)), h.r.setW hR hg, h.k.grow h.r.w (.inl rfl) hg, blk_grown h.x hg h.ne, by
  rcases hat with hat | ⟨b, hb, hle⟩
  ·rw [hat]; exact h.ne
  ·rw [hb]; intro e; injection e with e; have := blk_lt h.x; omega, h.lt, h.hg, h.hw, fun bz cs hz hm => ⟨blk_grown (h.z bz cs hz hm).1 hg (h.z bz cs hz hm).2, by
  rcases hat with hat | ⟨b, hb, hle⟩
  ·rw [hat]; exact (h.z bz cs hz hm).2
  rw [hb]; intro e; injection e with e; have := blk_lt (h.z bz cs hz hm).1; omega⟩⟩
theorem TakeP.put (h : TakeP base w g bx A c ids rc rn jb m bw bp bj bo vw vp vj vo word pt js op lost deep W) (i : Nat) (v : Value) :
  (W.setCell ⟨g, i, none⟩ v).heap[g]? = some (.cells (#[.slice A ids.length c, .bool rc, .int .i64 rn, .bool jb, bw, bo, bp, bj, .bool lost, .int .i64 deep].setIfInBounds i v) 86 (0, 0)) ∧ Rws base (W.setCell ⟨g, i, none⟩ v) vw vp vj (.slice none 0 0) vo word pt js [] op ∧ SK base 86 w (W.setCell ⟨g, i, none⟩ v) ∧
   (W.setCell ⟨g, i, none⟩ v).heap[bx]? = some (.cells #[.int .i64 m.f0, .int .i64 m.f1, .int .u8 m.f2, .int .i64 m.f3] 52 (0, 0)) :=
 ⟨blk_set h.b i v, h.r.set h.b (by decide) i v, h.k.set h.b h.hg i v, (Below.heap_setCell _ _ _ bx (by have := h.lt; simp; omega)).trans h.x⟩
theorem TakeP.putz (h : TakeP base w g bx A c ids rc rn jb m bw bp bj bo vw vp vj vo word pt js op lost deep W) (i : Nat) (v : Value) : ∀ bz cs, Boxy w g bz → w.heap[bz]? = some (.cells cs 52 (0, 0)) → (W.setCell ⟨g, i, none⟩ v).heap[bz]? = some (.cells cs 52 (0, 0)) ∧ some bz ≠ vw.ownBlock := fun bz cs hz hm =>
 ⟨(Below.heap_setCell _ _ _ bz (by
  rintro rfl
  have h1 := (h.z _ cs hz hm).1
  rw [h.b] at h1
  cases h1)).trans (h.z bz cs hz hm).1, (h.z bz cs hz hm).2⟩
theorem TakeP.putW (h : TakeP base w g bx A c ids rc rn jb m bw bp bj bo vw vp vj vo word pt js op lost deep W) (v : Value) : TakeP base w g bx A c ids rc rn jb m v bp bj bo vw vp vj vo word pt js op lost deep (W.setCell ⟨g, 4, none⟩ v) := ⟨(h.put 4 v).1, (h.put 4 v).2.1, (h.put 4 v).2.2.1, (h.put 4 v).2.2.2, h.ne, h.lt, h.hg, h.hw, h.putz 4 v⟩
theorem TakeP.putP (h : TakeP base w g bx A c ids rc rn jb m bw bp bj bo vw vp vj vo word pt js op lost deep W) (v : Value) : TakeP base w g bx A c ids rc rn jb m bw v bj bo vw vp vj vo word pt js op lost deep (W.setCell ⟨g, 6, none⟩ v) := ⟨(h.put 6 v).1, (h.put 6 v).2.1, (h.put 6 v).2.2.1, (h.put 6 v).2.2.2, h.ne, h.lt, h.hg, h.hw, h.putz 6 v⟩
theorem TakeP.putJ (h : TakeP base w g bx A c ids rc rn jb m bw bp bj bo vw vp vj vo word pt js op lost deep W) (v : Value) : TakeP base w g bx A c ids rc rn jb m bw bp v bo vw vp vj vo word pt js op lost deep (W.setCell ⟨g, 7, none⟩ v) := ⟨(h.put 7 v).1, (h.put 7 v).2.1, (h.put 7 v).2.2.1, (h.put 7 v).2.2.2, h.ne, h.lt, h.hg, h.hw, h.putz 7 v⟩
theorem TakeP.putO (h : TakeP base w g bx A c ids rc rn jb m bw bp bj bo vw vp vj vo word pt js op lost deep W) (v : Value) : TakeP base w g bx A c ids rc rn jb m bw bp bj v vw vp vj vo word pt js op lost deep (W.setCell ⟨g, 5, none⟩ v) := ⟨(h.put 5 v).1, (h.put 5 v).2.1, (h.put 5 v).2.2.1, (h.put 5 v).2.2.2, h.ne, h.lt, h.hg, h.hw, h.putz 5 v⟩
theorem TakeP.putLost (h : TakeP base w g bx A c ids rc rn jb m bw bp bj bo vw vp vj vo word pt js op lost deep W) (v : Bool) : TakeP base w g bx A c ids rc rn jb m bw bp bj bo vw vp vj vo word pt js op v deep (W.setCell ⟨g, 8, none⟩ (.bool v)) := ⟨(h.put 8 _).1, (h.put 8 _).2.1, (h.put 8 _).2.2.1, (h.put 8 _).2.2.2, h.ne, h.lt, h.hg, h.hw, h.putz 8 _⟩
theorem TakeP.putDeep (h : TakeP base w g bx A c ids rc rn jb m bw bp bj bo vw vp vj vo word pt js op lost deep W) (v : Int) : TakeP base w g bx A c ids rc rn jb m bw bp bj bo vw vp vj vo word pt js op lost v (W.setCell ⟨g, 9, none⟩ (.int .i64 v)) := ⟨(h.put 9 _).1, (h.put 9 _).2.1, (h.put 9 _).2.2.1, (h.put 9 _).2.2.2, h.ne, h.lt, h.hg, h.hw, h.putz 9 _⟩
theorem TakeP.new_box (h : TakeP base w g bx A c ids rc rn jb m bw bp bj bo vw vp vj vo word pt js op lost deep W) (o : Obj) : TakeP base w g bx A c ids rc rn jb m bw bp bj bo vw vp vj vo word pt js op lost deep (W.alloc o) := h.below ((Below.refl _ W).alloc (Nat.le_refl _) o)
end
end Go.Proofs.YtjgocihflhljeaaGreat.P
