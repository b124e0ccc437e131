/- What the claim's law needs, many texts in one (Td1). No conditions of its own. -/
import Derived.Test.YtjgocihflhljeaaGreatZl7
import Derived.Deep.DeepCutAuto
import Derived.Deep.CutBlock
import Derived.Deep.RegionHeld3
import Derived.StillTailTactics
set_option linter.unusedVariables false
set_option linter.unusedSimpArgs false
namespace Go.Proofs.YtjgocihflhljeaaGreat.P
open Go.RowKit Go.Shelf Go.Proofs.YtjgocihflhljeaaGreatW.PrintWords Go.Proofs.YtjgocihflhljeaaGreatW.PrintLast Go.Proofs.YtjgocihflhljeaaGreatW.PrintMore
attribute [local go_sem] Oper.semAt_some max2_int max_two
structure SayP (base : Nat) (w : World) (g bx : Nat) (A : Option Addr) (c : Nat) (ids : List S68) (rc : Bool) (rn : Int) (jb : Bool) (m : Mv) (bw bp bj bf bo vw vp vj vf vo : Value) (word : List Mv) (pt js : List Int) (fo : List Bool) (op : List Int) (force lost : Bool) (deep : Int) (W : World) : Prop where
 b : W.heap[g]? = some (.cells #[.slice A ids.length c, .bool rc, .int .i64 rn, .bool jb, bw, bp, bj, bf, bo, .bool force, .bool lost, .int .i64 deep] 77 (0, 0))
 r : Rws base W vw vp vj vf vo word pt js fo op
 k : SK base 77 w W
 x : W.heap[bx]? = some (.cells #[.int .i64 m.f0, .int .i64 m.f1, .int .u8 m.f2, .int .i64 m.f3] 52 (0, 0))
 ne : some bx ≠ vw.ownBlock
 lt : g < bx
 hg : base ≤ g
 hw : base ≤ w.heap.size
abbrev Saying (base : Nat) (w : World) (g bx : Nat) (A : Option Addr) (c : Nat) (ids : List S68) (rc : Bool) (rn : Int) (jb : Bool) (m : Mv) (word : List Mv) (pt js : List Int) (fo : List Bool) (op : List Int) (force lost : Bool) (deep : Int) (W : World) : Prop :=
 ∃ vw vp vj vf vo, SayP base w g bx A c ids rc rn jb m vw vp vj vf vo vw vp vj vf vo word pt js fo op force lost deep W
section
variable {base : Nat} {w : World} {g bx : Nat} {A : Option Addr} {c : Nat} {ids : List S68} {rc : Bool} {rn : Int} {jb : Bool} {m : Mv} {bw bp bj bf bo vw vp vj vf vo v1 : Value} {word : List Mv} {pt js : List Int} {fo : List Bool} {op : List Int} {force lost : Bool} {deep : Int} {W w1 : World}
theorem SayP.below (h : SayP base w g bx A c ids rc rn jb m bw bp bj bf bo vw vp vj vf vo word pt js fo op force lost deep W) (hb : Below W.heap.size W w1) : SayP base w g bx A c ids rc rn jb m bw bp bj bf bo vw vp vj vf vo word pt js fo op force lost deep w1 :=
 ⟨(hb.block _ (blk_lt h.b)).trans h.b, h.r.st (St.of_below (b := 0) hb), h.k.of_below hb, (hb.block _ (blk_lt h.x)).trans h.x, h.ne, h.lt, h.hg, h.hw⟩
theorem SayP.below' (h : SayP base w g bx A c ids rc rn jb m bw bp bj bf bo vw vp vj vf vo word pt js fo op force lost deep W) : Below base w W := Keeps.below h.k (Below.refl base w) h.hw
theorem SayP.size (h : SayP base w g bx A c ids rc rn jb m bw bp bj bf bo vw vp vj vf vo word pt js fo op force lost deep W) : base ≤ W.heap.size := Nat.le_trans h.hw h.k.1.2.2.2
theorem Saying.below (h : Saying base w g bx A c ids rc rn jb m word pt js fo op force lost deep W) (hb : Below W.heap.size W w1) : Saying base w g bx A c ids rc rn jb m word pt js fo op force lost deep w1 := by
 obtain ⟨vw, vp, vj, vf, vo, h⟩ := h
 exact ⟨vw, vp, vj, vf, vo, h.below hb⟩
theorem Saying.drew (h : Saying base w g bx A c ids rc rn jb m word pt js fo op force lost deep W) : Saying base w g bx A c ids rc rn jb m word pt js fo op force lost deep W.drew := h.below ((Below.refl _ _).drew)
theorem SayP.appF {fo' : List Bool} (h : SayP base w g bx A c ids rc rn jb m bw bp bj bf bo vw vp vj vf vo word pt js fo op force lost deep W) (hR : RB w1 base v1 fo') (hg : W.grownBy w1 vf.ownBlock) : SayP base w g bx A c ids rc rn jb m bw bp bj bf bo vw vp vj v1 vo word pt js fo' op force lost deep w1 :=
 ⟨blk_grown h.b hg (Kd.R_ne h.r.f h.b (by decide)), h.r.setF hR hg, h.k.grow h.r.f (.inr (.inr rfl)) hg, blk_grown h.x hg (Kd.R_ne h.r.f h.x (by decide)), h.ne, h.lt, h.hg, h.hw⟩
theorem SayP.appP {pt' : List Int} (h : SayP base w g bx A c ids rc rn jb m bw bp bj bf bo vw vp vj vf vo word pt js fo op force lost deep W) (hR : RI w1 base v1 pt') (hg : W.grownBy w1 vp.ownBlock) (hat : v1.ownBlock = vp.ownBlock ∨ ∃ b, v1.ownBlock = some b ∧ W.heap.size ≤ b) : SayP base w g bx A c ids rc rn jb m bw bp bj bf bo vw v1 vj vf vo word pt' js fo op force lost deep w1 :=
 ⟨blk_grown h.b hg (Kd.R_ne h.r.p h.b (by decide)), h.r.setP hR hg hat, h.k.grow h.r.p (.inr (.inl rfl)) hg, blk_grown h.x hg (Kd.R_ne h.r.p h.x (by decide)), h.ne, h.lt, h.hg, h.hw⟩
theorem SayP.appJ {js' : List Int} (h : SayP base w g bx A c ids rc rn jb m bw bp bj bf bo vw vp vj vf vo word pt js fo op force lost deep W) (hR : RI w1 base v1 js') (hg : W.grownBy w1 vj.ownBlock) (hat : v1.ownBlock = vj.ownBlock ∨ ∃ b, v1.ownBlock = some b ∧ W.heap.size ≤ b) : SayP base w g bx A c ids rc rn jb m bw bp bj bf bo vw vp v1 vf vo word pt js' fo op force lost deep w1 :=
 ⟨blk_grown h.b hg (Kd.R_ne h.r.j h.b (by decide)), h.r.setJ hR hg hat, h.k.grow h.r.j (.inr (.inl rfl)) hg, blk_grown h.x hg (Kd.R_ne h.r.j h.x (by decide)), h.ne, h.lt, h.hg, h.hw⟩
theorem SayP.appO {op' : List Int} (h : SayP base w g bx A c ids rc rn jb m bw bp bj bf bo vw vp vj vf vo word pt js fo op force lost deep W) (hR : RI w1 base v1 op') (hg : W.grownBy w1 vo.ownBlock) (hat : v1.ownBlock = vo.ownBlock ∨ ∃ b, v1.ownBlock = some b ∧ W.heap.size ≤ b) : SayP base w g bx A c ids rc rn jb m bw bp bj bf bo vw vp vj vf v1 word pt js fo op' force lost deep w1 :=
 ⟨blk_grown h.b hg (Kd.R_ne h.r.o h.b (by decide)), h.r.setO hR hg hat, h.k.grow h.r.o (.inr (.inl rfl)) hg, blk_grown h.x hg (Kd.R_ne h.r.o h.x (by decide)), h.ne, h.lt, h.hg, h.hw⟩
theorem SayP.appW {word' : List Mv} (h : SayP base w g bx A c ids rc rn jb m bw bp bj bf bo vw vp vj vf vo word pt js fo op force lost deep W) (hR : RM w1 base v1 word') (hg : W.grownBy w1 vw.ownBlock) (hat : v1.ownBlock = vw.ownBlock ∨ ∃ b, v1.ownBlock = some b ∧ W.heap.size ≤ b) : SayP base w g bx A c ids rc rn jb m bw bp bj bf bo v1 vp vj vf vo word' pt js fo op force lost deep w1 :=
 ⟨blk_grown h.b hg (Kd.R_ne h.r.w h.b (by decide)), h.r.setW hR hg, h.k.grow h.r.w (.inl rfl) hg, blk_grown h.x hg h.ne, by
  rcases hat with hat | ⟨b, hb, hle⟩
  ·rw [hat]; exact h.ne
  rw [hb]; intro e; injection e with e; have := blk_lt h.x; omega, h.lt, h.hg, h.hw⟩
theorem SayP.put (h : SayP base w g bx A c ids rc rn jb m bw bp bj bf bo vw vp vj vf vo word pt js fo op force lost deep W) (i : Nat) (v : Value) :
  (W.setCell ⟨g, i, none⟩ v).heap[g]? = some (.cells (#[.slice A ids.length c, .bool rc, .int .i64 rn, .bool jb, bw, bp, bj, bf, bo, .bool force, .bool lost, .int .i64 deep].setIfInBounds i v) 77 (0, 0)) ∧ Rws base (W.setCell ⟨g, i, none⟩ v) vw vp vj vf vo word pt js fo op ∧ SK base 77 w (W.setCell ⟨g, i, none⟩ v) ∧
   (W.setCell ⟨g, i, none⟩ v).heap[bx]? = some (.cells #[.int .i64 m.f0, .int .i64 m.f1, .int .u8 m.f2, .int .i64 m.f3] 52 (0, 0)) :=
 ⟨blk_set h.b i v, h.r.set h.b (by decide) i v, h.k.set h.b h.hg i v, (Below.heap_setCell _ _ _ bx (by have := h.lt; simp; omega)).trans h.x⟩
theorem SayP.putW (h : SayP base w g bx A c ids rc rn jb m bw bp bj bf bo vw vp vj vf vo word pt js fo op force lost deep W) (v : Value) : SayP base w g bx A c ids rc rn jb m v bp bj bf bo vw vp vj vf vo word pt js fo op force lost deep (W.setCell ⟨g, 4, none⟩ v) := ⟨(h.put 4 v).1, (h.put 4 v).2.1, (h.put 4 v).2.2.1, (h.put 4 v).2.2.2, h.ne, h.lt, h.hg, h.hw⟩
theorem SayP.putP (h : SayP base w g bx A c ids rc rn jb m bw bp bj bf bo vw vp vj vf vo word pt js fo op force lost deep W) (v : Value) : SayP base w g bx A c ids rc rn jb m bw v bj bf bo vw vp vj vf vo word pt js fo op force lost deep (W.setCell ⟨g, 5, none⟩ v) := ⟨(h.put 5 v).1, (h.put 5 v).2.1, (h.put 5 v).2.2.1, (h.put 5 v).2.2.2, h.ne, h.lt, h.hg, h.hw⟩
theorem SayP.putJ (h : SayP base w g bx A c ids rc rn jb m bw bp bj bf bo vw vp vj vf vo word pt js fo op force lost deep W) (v : Value) : SayP base w g bx A c ids rc rn jb m bw bp v bf bo vw vp vj vf vo word pt js fo op force lost deep (W.setCell ⟨g, 6, none⟩ v) := ⟨(h.put 6 v).1, (h.put 6 v).2.1, (h.put 6 v).2.2.1, (h.put 6 v).2.2.2, h.ne, h.lt, h.hg, h.hw⟩
theorem SayP.putF (h : SayP base w g bx A c ids rc rn jb m bw bp bj bf bo vw vp vj vf vo word pt js fo op force lost deep W) (v : Value) : SayP base w g bx A c ids rc rn jb m bw bp bj v bo vw vp vj vf vo word pt js fo op force lost deep (W.setCell ⟨g, 7, none⟩ v) := ⟨(h.put 7 v).1, (h.put 7 v).2.1, (h.put 7 v).2.2.1, (h.put 7 v).2.2.2, h.ne, h.lt, h.hg, h.hw⟩
theorem SayP.putO (h : SayP base w g bx A c ids rc rn jb m bw bp bj bf bo vw vp vj vf vo word pt js fo op force lost deep W) (v : Value) : SayP base w g bx A c ids rc rn jb m bw bp bj bf v vw vp vj vf vo word pt js fo op force lost deep (W.setCell ⟨g, 8, none⟩ v) := ⟨(h.put 8 v).1, (h.put 8 v).2.1, (h.put 8 v).2.2.1, (h.put 8 v).2.2.2, h.ne, h.lt, h.hg, h.hw⟩
theorem SayP.putForce (h : SayP base w g bx A c ids rc rn jb m bw bp bj bf bo vw vp vj vf vo word pt js fo op force lost deep W) (v : Bool) : SayP base w g bx A c ids rc rn jb m bw bp bj bf bo vw vp vj vf vo word pt js fo op v lost deep (W.setCell ⟨g, 9, none⟩ (.bool v)) := ⟨(h.put 9 _).1, (h.put 9 _).2.1, (h.put 9 _).2.2.1, (h.put 9 _).2.2.2, h.ne, h.lt, h.hg, h.hw⟩
theorem SayP.putLost (h : SayP base w g bx A c ids rc rn jb m bw bp bj bf bo vw vp vj vf vo word pt js fo op force lost deep W) (v : Bool) : SayP base w g bx A c ids rc rn jb m bw bp bj bf bo vw vp vj vf vo word pt js fo op force v deep (W.setCell ⟨g, 10, none⟩ (.bool v)) := ⟨(h.put 10 _).1, (h.put 10 _).2.1, (h.put 10 _).2.2.1, (h.put 10 _).2.2.2, h.ne, h.lt, h.hg, h.hw⟩
theorem SayP.putDeep (h : SayP base w g bx A c ids rc rn jb m bw bp bj bf bo vw vp vj vf vo word pt js fo op force lost deep W) (v : Int) : SayP base w g bx A c ids rc rn jb m bw bp bj bf bo vw vp vj vf vo word pt js fo op force lost v (W.setCell ⟨g, 11, none⟩ (.int .i64 v)) := ⟨(h.put 11 _).1, (h.put 11 _).2.1, (h.put 11 _).2.2.1, (h.put 11 _).2.2.2, h.ne, h.lt, h.hg, h.hw⟩
theorem SayP.new_box (h : SayP base w g bx A c ids rc rn jb m bw bp bj bf bo vw vp vj vf vo word pt js fo op force lost deep W) (o : Obj) : SayP base w g bx A c ids rc rn jb m bw bp bj bf bo vw vp vj vf vo word pt js fo op force lost deep (W.alloc o) := h.below ((Below.refl _ W).alloc (Nat.le_refl _) o)
end
theorem R_slc {α : Type} {d : Kd α} {e : Nat} {W : World} {base : Nat} {ok : Nat → Prop} {v : Value} {xs : List α} (h : d.R e W base ok v xs) : ∃ A n c, v = .slice A n c := by
 obtain ⟨A, c, rfl⟩ := Kd.R_slice h
 exact ⟨A, _, c, rfl⟩
theorem infoB : (Tryz.prog.info? 4).map (fun i => (i.zero, i.size, i.bytes)) = some (some (.bool false), 1, 1) := by kernel_rfl
theorem Tk.Ok.say {t : Tk} (h : t.Ok) (m : Mv) (hw : t.word.length < 1048576) : (t.say m).Ok := by
 have hop : ∀ n ∈ t.opn' m, 0 ≤ n ∧ n < (t.word.length : Int) + 1 := by
  intro n hn
  unfold Tk.opn' at hn
  split at hn
  ·have := h.ho n ((List.dropLast_sublist _).mem hn)
   omega
  rcases List.mem_append.1 hn with hn | hn
  ·have := h.ho n hn
   omega
  rw [List.mem_singleton.1 hn]
  omega
 have hol : (t.opn' m).length ≤ t.word.length + 1 := by
  have := h.hl
  unfold Tk.opn'
  split
  ·rw [List.length_dropLast]; omega
  rw [List.length_append]; simp; omega
 refine ⟨?_, ?_, ?_, ?_, ?_, ?_, ?_⟩
 ·have := h.hp
  simp only [Tk.say, List.length_append, List.length_singleton]
  split <;> simp [this]
 ·simp [Tk.say, h.hj]
 ·simp [Tk.say, h.hf]
 ·intro n hn
  have := hop n hn
  simp only [Tk.say, List.length_append, List.length_singleton]
  omega
 ·simp only [Tk.say, List.length_append, List.length_singleton]
  exact hol
 ·simp only [Tk.say, List.length_append, List.length_singleton]
  omega
 have := h.hd
 simp only [Tk.say]
 omega
theorem say_end {base : Nat} {w : World} {g bx : Nat} {A : Option Addr} {c : Nat} {ids : List S68} {rc : Bool} {rn : Int} {jb : Bool} {t : Tk} {m : Mv} {vw vp vj vf vo : Value} {pt1 : List Int} {pI jI : Int} {W : World} (v : Int) (hv : max t.deep ((t.opn' m).length : Int) = v) (hok : (t.say m).Ok)
  (h : SayP base w g bx A c ids rc rn jb m vw vp vj vf vo vw vp vj vf vo (t.word ++ [m]) (pt1 ++ [pI]) (t.just ++ [jI]) (t.forc ++ [t.force]) (t.opn' m) (isEscB m && isPar m) (t.lost || (isEscB m && isIdent m && !t.force)) v W)
  (hpt : (if isAns m then t.part.set t.topI.toNat (t.word.length : Int) else t.part) = pt1) (hpi : (if isAns m then t.topI else -1) = pI) (hji : t.justOf m = jI) :
  (Ending.returned (.tuple #[]) : Ending) = .returned (.tuple #[]) ∧ SK base 77 w W ∧ ∃ vw vp vj vf vo, Talk base W g A c ids rc rn jb (t.say m) vw vp vj vf vo := by
 subst hv hpt hpi hji
 exact ⟨rfl, h.k, _, _, _, _, _, ⟨h.b, h.r, h.hg, hok⟩⟩
noncomputable def codeOf (f : Func) : Code := f.body.getD .skip
noncomputable def dropSeq : Nat → Code → Code
 | 0, c => c
 | n + 1, c => match c with
  | .seq _ b => dropSeq n b
  | c => c
theorem wp_drop {P : Program} {fn : Func} {c : Code} {Q : Exit → Act → World → Prop} {a : Act} {w : World} (hb : fn.body = some c) (k : Nat) (h : Code.wp P (dropSeq k c) Q a w) : Code.wp P (dropSeq k (codeOf fn)) Q a w := by
 rw [codeOf, hb]
 exact h
set_option maxRecDepth 8000 in
set_option maxHeartbeats 3200000 in
theorem say_t2 {base : Nat} {w : World} {g : Nat} {A : Option Addr} {c : Nat} {ids : List S68} {rc : Bool} {rn : Int} {jb : Bool} {t : Tk} (hok : t.Ok) (m : Mv) (hw : t.word.length < 1048576) (pt1 op1 : List Int) (pI jI : Int) (hptl : pt1.length = t.word.length) (hopl : op1.length ≤ t.word.length) (hpt : (if isAns m then t.part.set t.topI.toNat (t.word.length : Int) else t.part) = pt1) (hop : (if isAns m then t.opn.dropLast else t.opn) = op1) (hpi : (if isAns m then t.topI else -1) = pI) (hji : t.justOf m = jI) (wc : World)
  (S5 : Aside0 (Saying base w g w.heap.size A c ids rc rn jb m t.word pt1 t.just (t.forc ++ [t.force]) op1 (isEscB m && isPar m) (t.lost || (isEscB m && isIdent m && !t.force)) t.deep wc))
  (u1 u2 u4 u5 u9 u10 u11 u12 u13 u14 u15 u16 u17 u18 u19 u20 u21 u22 u23 u24 u25 u26 u27 u28 u29 u30 u31 u32 u33 u34 u35 u36 u37 u38 u39 u40 u41 u42 u43 u44 u45 u46 u47 u48 u49 u50 u51 u52 u53 u54 u55 u56 u57 u58 u59 u60 u61 u62 u63 u64 u65 u66 u67 u68 u69 u70 u71 u72 u73 u74 u75 u76 u77 u78 u79 u80 u81 u82 u83 u84 u85 u86 u87 u88 u89 u90 u91 u92 u93 u94 u95 u96 u97 u98 u99 u100 u101 u102 u103 u104 u105 u106 u107 u108 u109 u110 u111 u112 u113 u114 u115 u116 u117 u118 u119 u120 u121 u122 u123 u124 u125 u126 u127 u128 u129 u130 u131 u132 u133 u134 u135 u136 u137 u138 u139 u140 u141 u142 u143 u144 u145 u146 u147 u148 u149 u150 u151 u152 u153 u154 : Value) :
  Code.wp Tryz.prog (dropSeq 8 (codeOf Tryz.f78)) (bodyPost Tryz.prog Tryz.f78 fun e w' => e = .returned (.tuple #[]) ∧ SK base 77 w w' ∧ ∃ vw vp vj vf vo, Talk base w' g A c ids rc rn jb (t.say m) vw vp vj vf vo)
   { tmps := #[.pointer (some ⟨g, 0, none⟩), u1, u2, .pointer (some ⟨w.heap.size, 0, none⟩), u4, u5, .int .i64 (t.word.length : Int), .int .i64 pI, .int .i64 jI, u9, u10, u11, u12, u13, u14, u15, u16, u17, u18, u19, u20, u21, u22, u23, u24, u25, u26, u27, u28, u29, u30, u31, u32, u33, u34, u35, u36, u37, u38, u39, u40, u41, u42, u43, u44, u45, u46, u47, u48, u49, u50, u51, u52, u53, u54, u55, u56, u57, u58, u59, u60, u61, u62, u63, u64, u65, u66, u67, u68, u69, u70, u71, u72, u73, u74, u75, u76, u77, u78, u79, u80, u81, u82, u83, u84, u85, u86, u87, u88, u89, u90, u91, u92, u93, u94, u95, u96, u97, u98, u99, u100, u101, u102, u103, u104, u105, u106, u107, u108, u109, u110, u111, u112, u113, u114, u115, u116, u117, u118, u119, u120, u121, u122, u123, u124, u125, u126, u127, u128, u129, u130, u131, u132, u133, u134, u135, u136, u137, u138, u139, u140, u141, u142, u143, u144, u145, u146, u147, u148, u149, u150, u151, u152, u153, u154], defers := [] } wc := by
 have HPT := am hpt
 have HOP := am hop
 have HPI := am hpi
 have HJI := am hji
 have HOK := am hok
 have hfl := hok.hf
 have hjl := hok.hj
 have hol := hok.hl
 clear hpt hop hpi hji hok
 refine wp_drop (fn := Tryz.f78) rfl 8 ?_
 simp only [dropSeq]
 go_upto_region 16 with fail
 go_cut [] (fun wx => Aside0 (Saying base w g w.heap.size A c ids rc rn jb m (t.word ++ [m]) pt1 t.just (t.forc ++ [t.force]) op1 (isEscB m && isPar m) (t.lost || (isEscB m && isIdent m && !t.force)) t.deep wx))
 case first =>
  obtain ⟨vw1, vp1, vj1, vf1, vo1, h1⟩ := S5.out.drew
  have S1d := am h1
  clear h1
  refine start_ (n := 11) (S := fun w' => w'.cell? ⟨g, 4, none⟩ = some vw1 ∧ w'.cell? ⟨w.heap.size, 0, none⟩ = some (.int .i64 m.f0) ∧ w'.cell? ⟨w.heap.size, 1, none⟩ = some (.int .i64 m.f1) ∧ w'.cell? ⟨w.heap.size, 2, none⟩ = some (.int .u8 m.f2) ∧ w'.cell? ⟨w.heap.size, 3, none⟩ = some (.int .i64 m.f3)) (ds := [10]) #[Z,Z,Z,Z,Z,Z,Z,Z,Z,Z,Z] (by kernel_rfl) rfl rfl ⟨(blk_cell S1d.out.b 4).trans rfl, (blk_cell S1d.out.x 0).trans rfl, (blk_cell S1d.out.x 1).trans rfl, (blk_cell S1d.out.x 2).trans rfl, (blk_cell S1d.out.x 3).trans rfl⟩ (fun hHeld => ?_)
  clear S5
  generalize wc.drew = wd at S1d hHeld ⊢
  clear wc
  refine pure_ (i := 0) (N:=some 96) (v:=?_) (a':=?_) #[Y,Z,Z,Z,Z,Z,Z,Z,Z,Z,Z] rfl rfl (by kernel_rfl) (fun _ _ _ h => h) (Or.inl ⟨by rfl, ?_⟩) ?_ ?_;rotate_left;(intro w';go_simp;with_reducible rfl);rotate_left;(simp only [Act.put,sn1,sn2,sn3,i64_w];rfl)
  refine pure_ (i := 1) (N:=some 97) (v:=?_) (a':=?_) #[Y,Y,Z,Z,Z,Z,Z,Z,Z,Z,Z] rfl rfl (by kernel_rfl) (fun _ _ _ h => h) (Or.inl ⟨by rfl, ?_⟩) ?_ ?_;rotate_left;(intro w';go_simp;with_reducible rfl);rotate_left;(simp only [Act.put,sn1,sn2,sn3,i64_w];rfl)
  refine pure_ (i := 2) (N:=some 98) (v:=?_) (a':=?_) #[Y,Y,Y,Z,Z,Z,Z,Z,Z,Z,Z] rfl rfl (by kernel_rfl) (fun _ _ _ h => h) (Or.inl ⟨by rfl, ?_⟩) ?_ ?_;rotate_left;(intro w';go_simp;with_reducible rfl);rotate_left;(simp only [Act.put,sn1,sn2,sn3,i64_w];rfl)
  refine pure_ (i := 3) (N:=some 99) (v:=?_) (a':=?_) #[Y,Y,Y,Y,Z,Z,Z,Z,Z,Z,Z] rfl rfl (by kernel_rfl) (fun _ _ _ h => h) (Or.inl ⟨by rfl, ?_⟩) ?_ ?_;rotate_left;(intro w';go_simp;with_reducible rfl);rotate_left;(simp only [Act.put,sn1,sn2,sn3,i64_w];rfl)
  refine take_ (i := 4) (N:=some 100) (v:=?_) (a':=?_) #[Y,Y,Y,Y,Y,Z,Z,Z,Z,Z,Z] rfl rfl (by kernel_rfl) (fun _ _ _ h => h) (Or.inl ⟨by rfl, ?_⟩) hHeld ?_ ?_
  rotate_left
  ·rintro w' ⟨s0, s1, s2, s3, s4⟩
   go_simp
   with_reducible rfl
  rotate_left
  ·simp only [Act.put,sn1,sn2,sn3,i64_w]
   rfl
  refine take_ (i := 5) (N:=some 101) (v:=?_) (a':=?_) #[Y,Y,Y,Y,Y,Y,Z,Z,Z,Z,Z] rfl rfl (by kernel_rfl) (fun _ _ _ h => h) (Or.inl ⟨by rfl, ?_⟩) hHeld ?_ ?_
  rotate_left
  ·rintro w' ⟨s0, s1, s2, s3, s4⟩
   go_simp
   with_reducible rfl
  rotate_left
  ·simp only [Act.put,sn1,sn2,sn3,i64_w]
   rfl
  refine one_ (i := 6) (N:=some 102) #[Y,Y,Y,Y,Y,Y,Y,Z,Z,Z,Z] rfl rfl (by kernel_rfl) (by decide) (fun K hK => ?_)
  refine value_ (w1 := ?_) (v := ?_) (by rfl) rfl ?_ ?_
  rotate_left 2
  ·go_simp
   constructor
   ·rfl
   rfl
  refine hK.out _ _ ⟨(blk_cell (S1d.out.new_box _).b 4).trans rfl, (blk_cell (S1d.out.new_box _).x 0).trans rfl, (blk_cell (S1d.out.new_box _).x 1).trans rfl, (blk_cell (S1d.out.new_box _).x 2).trans rfl, (blk_cell (S1d.out.new_box _).x 3).trans rfl⟩ (fun hHeld => ?_)
  clear hK K
  refine norm_ (a' := ?_) ?_ ?_
  rotate_left
  ·show Act.put _ (some 102) _ = _
   simp only [Act.put,sn1,sn2,sn3,i64_w]
   rfl
  refine one_ (i := 7) (N:=some 103) #[Y,Y,Y,Y,Y,Y,Y,Y,Z,Z,Z] rfl rfl (by kernel_rfl) (by decide) (fun K hK => ?_)
  refine app_at k52 base (by rfl) rfl (.tmp 100) (.tmp 102) 28 52 (.agg #[(.int .i64 0), (.int .i64 0), (.int .u8 0), (.int .i64 0)]) 32 rfl Tryz.underlying28 info52 rfl (by decide) (by omega) vw1 t.word m [.int .i64 m.f0, .int .i64 m.f1, .int .u8 m.f2, .int .i64 m.f3] wd.heap.size rfl rfl (heap_alloc_new wd _) (k52_mkM _ _ _ m) (S1d.out.new_box _).r.w ((S1d.out.new_box _).size) (by omega) ?_
  intro v1 w1 hR hG hat
  have S2 := am ((S1d.out.new_box _).appW hR hG hat)
  obtain ⟨Af, nf, cf, rfl⟩ := R_slc hR
  have f7 := blk_frozen S2.out.b 4
  refine hK.out _ _ ⟨(blk_cell S2.out.b 4).trans rfl, (blk_cell S2.out.x 0).trans rfl, (blk_cell S2.out.x 1).trans rfl, (blk_cell S2.out.x 2).trans rfl, (blk_cell S2.out.x 3).trans rfl⟩ (fun hHeld => ?_)
  clear hK K
  refine norm_ (a' := ?_) ?_ ?_
  rotate_left
  ·show Act.put _ (some 103) _ = _
   simp only [Act.put,sn1,sn2,sn3,i64_w]
   rfl
  refine pure_ (i := 8) (N:=some 104) (v:=?_) (a':=?_) #[Y,Y,Y,Y,Y,Y,Y,Y,Y,Z,Z] rfl rfl (by kernel_rfl) (fun _ _ _ h => h) (Or.inl ⟨by rfl, ?_⟩) ?_ ?_;rotate_left;(intro w';go_simp;with_reducible rfl);rotate_left;(simp only [Act.put,sn1,sn2,sn3,i64_w];rfl)
  refine pure_ (i := 9) (N:=some 105) (v:=?_) (a':=?_) #[Y,Y,Y,Y,Y,Y,Y,Y,Y,Y,Z] rfl rfl (by kernel_rfl) (fun _ _ _ h => h) (Or.inl ⟨by rfl, ?_⟩) ?_ ?_;rotate_left;(intro w';go_simp;with_reducible rfl);rotate_left;(simp only [Act.put,sn1,sn2,sn3,i64_w];rfl)
  refine last_ (i := 10) (N := none) #[Y,Y,Y,Y,Y,Y,Y,Y,Y,Y,Y] rfl rfl (by kernel_rfl) (by decide) (fun K hK => ?_)
  refine skip_ (w1 := ?_) (by rfl) rfl ?_ ?_
  rotate_left
  ·go_simp
   rfl
  refine hK.out _ _ ?_
  clear hK K
  refine done_ (by kernel_rfl) ?_
  go_wp2_with fail
  go_meet
  case rel => exact ⟨⟨_, _, _, _, _, S2.out.putW _⟩⟩
 case rest =>
 have S6 := hcut
 clear hcut
 clear S5
 go_upto_region 17 with fail
 go_cut [] (fun wx => Aside0 (Saying base w g w.heap.size A c ids rc rn jb m (t.word ++ [m]) (pt1 ++ [pI]) (t.just ++ [jI]) (t.forc ++ [t.force]) op1 (isEscB m && isPar m) (t.lost || (isEscB m && isIdent m && !t.force)) t.deep wx))
 case first =>
  obtain ⟨vw1, vp1, vj1, vf1, vo1, h1⟩ := S6.out.drew
  have S1d := am h1
  clear h1
  refine start_ (n := 22) (S := fun w' => w'.cell? ⟨g, 5, none⟩ = some vp1 ∧ w'.cell? ⟨g, 6, none⟩ = some vj1) (ds := [18, 21]) (Mq [0,22]) (by kernel_rfl) rfl rfl ⟨(blk_cell (S1d.out).b 5).trans rfl, (blk_cell (S1d.out).b 6).trans rfl⟩ (fun hHeld => ?_)
  clear S6
  generalize wc.drew = wd at S1d hHeld ⊢
  clear wc
  refine pure_ (i := 0) (N:=some 106) (v:=?_) (a':=?_) (Mq [1,21]) rfl rfl (by kernel_rfl) (fun _ _ _ h => h) (Or.inl ⟨by rfl, ?_⟩) ?_ ?_;rotate_left;(intro w';go_simp;with_reducible rfl);rotate_left;(simp only [Act.put,sn1,sn2,sn3,i64_w];rfl)
  refine pure_ (i := 1) (N:=some 107) (v:=?_) (a':=?_) (Mq [2,20]) rfl rfl (by kernel_rfl) (fun _ _ _ h => h) (Or.inl ⟨by rfl, ?_⟩) ?_ ?_;rotate_left;(intro w';go_simp;with_reducible rfl);rotate_left;(simp only [Act.put,sn1,sn2,sn3,i64_w];rfl)
  refine pure_ (i := 2) (N:=some 108) (v:=?_) (a':=?_) (Mq [3,19]) rfl rfl (by kernel_rfl) (fun _ _ _ h => h) (Or.inl ⟨by rfl, ?_⟩) ?_ ?_;rotate_left;(intro w';go_simp;with_reducible rfl);rotate_left;(simp only [Act.put,sn1,sn2,sn3,i64_w];rfl)
  refine pure_ (i := 3) (N:=some 109) (v:=?_) (a':=?_) (Mq [4,18]) rfl rfl (by kernel_rfl) (fun _ _ _ h => h) (Or.inl ⟨by rfl, ?_⟩) ?_ ?_;rotate_left;(intro w';go_simp;with_reducible rfl);rotate_left;(simp only [Act.put,sn1,sn2,sn3,i64_w];rfl)
  refine pure_ (i := 4) (N:=some 110) (v:=?_) (a':=?_) (Mq [5,17]) rfl rfl (by kernel_rfl) (fun _ _ _ h => h) (Or.inl ⟨by rfl, ?_⟩) ?_ ?_;rotate_left;(intro w';go_simp;with_reducible rfl);rotate_left;(simp only [Act.put,sn1,sn2,sn3,i64_w];rfl)
  refine pure_ (i := 6) (N:=some 112) (v:=?_) (a':=?_) (Mq [5,1,1,15]) rfl rfl (by kernel_rfl) (fun _ _ _ h => h) (Or.inl ⟨by rfl, ?_⟩) ?_ ?_;rotate_left;(intro w';go_simp;with_reducible rfl);rotate_left;(simp only [Act.put,sn1,sn2,sn3,i64_w];rfl)
  refine pure_ (i := 9) (N:=some 115) (v:=?_) (a':=?_) (Mq [5,1,1,2,1,12]) rfl rfl (by kernel_rfl) (fun _ _ _ h => h) (Or.inl ⟨by rfl, ?_⟩) ?_ ?_;rotate_left;(intro w';go_simp;with_reducible rfl);rotate_left;(simp only [Act.put,sn1,sn2,sn3,i64_w];rfl)
  refine pure_ (i := 10) (N:=some 116) (v:=?_) (a':=?_) (Mq [5,1,1,2,2,11]) rfl rfl (by kernel_rfl) (fun _ _ _ h => h) (Or.inl ⟨by rfl, ?_⟩) ?_ ?_;rotate_left;(intro w';go_simp;with_reducible rfl);rotate_left;(simp only [Act.put,sn1,sn2,sn3,i64_w];rfl)
  refine pure_ (i := 11) (N:=some 117) (v:=?_) (a':=?_) (Mq [5,1,1,2,3,10]) rfl rfl (by kernel_rfl) (fun _ _ _ h => h) (Or.inl ⟨by rfl, ?_⟩) ?_ ?_;rotate_left;(intro w';go_simp;with_reducible rfl);rotate_left;(simp only [Act.put,sn1,sn2,sn3,i64_w];rfl)
  refine pure_ (i := 13) (N:=some 119) (v:=?_) (a':=?_) (Mq [5,1,1,2,3,1,1,8]) rfl rfl (by kernel_rfl) (fun _ _ _ h => h) (Or.inl ⟨by rfl, ?_⟩) ?_ ?_;rotate_left;(intro w';go_simp;with_reducible rfl);rotate_left;(simp only [Act.put,sn1,sn2,sn3,i64_w];rfl)
  refine take_ (i := 5) (N:=some 111) (v:=?_) (a':=?_) (Mq [7,2,3,1,1,8]) rfl rfl (by kernel_rfl) (fun _ _ _ h => h) (Or.inl ⟨by rfl, ?_⟩) hHeld ?_ ?_
  rotate_left
  ·rintro w' ⟨s0, s1⟩
   go_simp
   with_reducible rfl
  rotate_left
  ·simp only [Act.put,sn1,sn2,sn3,i64_w]
   rfl
  refine take_ (i := 12) (N:=some 118) (v:=?_) (a':=?_) (Mq [7,2,5,8]) rfl rfl (by kernel_rfl) (fun _ _ _ h => h) (Or.inl ⟨by rfl, ?_⟩) hHeld ?_ ?_
  rotate_left
  ·rintro w' ⟨s0, s1⟩
   go_simp
   with_reducible rfl
  rotate_left
  ·simp only [Act.put,sn1,sn2,sn3,i64_w]
   rfl
  refine join_ (σ := Value × Value × Value) 7 (Mq [15,7]) (fun s => [(113, s.1), (114, s.2.1), (120, s.2.2)]) (fun s w' => SayP base w g w.heap.size A c ids rc rn jb m vw1 vp1 vj1 vf1 vo1 vw1 s.2.1 vj1 vf1 vo1 (t.word ++ [m]) (pt1 ++ [pI]) t.just (t.forc ++ [t.force]) op1 (isEscB m && isPar m) (t.lost || (isEscB m && isIdent m && !t.force)) t.deep w' ∧ ∃ bj, s.2.2 = .slice (some ⟨bj, 0, none⟩) 1 1 ∧ w'.heap[bj]? = some (.cells #[.int .i64 jI] 3 (0, 0)) ∧ ∃ A n c, s.2.1 = .slice A n c) ?_ ?_
  rotate_left
  ·intro hCont
   refine two_ (i := 7) (j := 14) (Ni := some 113) (Nj := some 120) (Mq [8,1,5,8]) (Mq [7,2,6,7]) rfl rfl rfl rfl (by kernel_rfl) (by decide) (by decide) (fun K hK => ?_) (fun K hK => ?_)
   ·skip
    refine value_ (w1 := ?_) (v := ?_) (by rfl) rfl ?_ ?_
    rotate_left 2
    ·go_simp
     constructor
     ·rfl
     rfl
    refine hK.out _ _ ⟨(blk_cell ((S1d.out).new_box _).b 5).trans rfl, (blk_cell ((S1d.out).new_box _).b 6).trans rfl⟩ (fun hHeld => ?_)
    clear hK K
    refine norm_ (a' := ?_) ?_ ?_
    rotate_left
    ·show Act.put _ (some 113) _ = _
     simp only [Act.put,sn1,sn2,sn3,i64_w]
     rfl
    refine two_ (i := 8) (j := 14) (Ni := some 114) (Nj := some 120) (Mq [14,8]) (Mq [8,1,6,7]) rfl rfl rfl rfl (by kernel_rfl) (by decide) (by decide) (fun K hK => ?_) (fun K hK => ?_)
    ·skip
     refine app_at (Kd.int .i64) base (by rfl) rfl (.tmp 111) (.tmp 113) 36 3 (.int .i64 0) 8 rfl Tryz.underlying36 info3 rfl (by decide) (by omega) vp1 pt1 pI [.int .i64 pI] wd.heap.size rfl rfl (heap_alloc_new wd _) rfl (S1d.out.new_box _).r.p ((S1d.out.new_box _).size) (by omega) ?_
     intro v1 w1 hR hG hat
     have S2 := am ((S1d.out.new_box _).appP hR hG hat)
     obtain ⟨Af, nf, cf, rfl⟩ := R_slc hR
     refine hK.out _ _ ⟨(blk_cell (S2.out).b 5).trans rfl, (blk_cell (S2.out).b 6).trans rfl⟩ (fun hHeld => ?_)
     clear hK K
     refine norm_ (a' := ?_) ?_ ?_
     rotate_left
     ·show Act.put _ (some 114) _ = _
      simp only [Act.put,sn1,sn2,sn3,i64_w]
      rfl
     refine one_ (i := 14) (N:=some 120) (Mq [15,7]) rfl rfl (by kernel_rfl) (by decide) (fun K hK => ?_)
     refine value_ (w1 := ?_) (v := ?_) (by rfl) rfl ?_ ?_
     rotate_left 2
     ·go_simp
      constructor
      ·rfl
      rfl
     refine hK.out _ _ ⟨(blk_cell ((S2.out).new_box _).b 5).trans rfl, (blk_cell ((S2.out).new_box _).b 6).trans rfl⟩ (fun hHeld => ?_)
     clear hK K
     refine norm_ (a' := ?_) ?_ ?_
     rotate_left
     ·show Act.put _ (some 120) _ = _
      simp only [Act.put,sn1,sn2,sn3,i64_w]
      rfl
     exact norm_ (by simp only [putAll, Act.put, sn1, sn2, sn3]) (hCont (.slice (some ⟨wd.heap.size, 0, none⟩) 1 1, .slice Af nf cf, .slice (some ⟨w1.heap.size, 0, none⟩) 1 1) _ ⟨(S2.out).new_box _, _, rfl, heap_alloc_new w1 _, _, _, _, rfl⟩)
    skip
    refine value_ (w1 := ?_) (v := ?_) (by rfl) rfl ?_ ?_
    rotate_left 2
    ·go_simp
     constructor
     ·rfl
     rfl
    refine hK.out _ _ ⟨(blk_cell (((S1d.out).new_box _).new_box _).b 5).trans rfl, (blk_cell (((S1d.out).new_box _).new_box _).b 6).trans rfl⟩ (fun hHeld => ?_)
    clear hK K
    refine norm_ (a' := ?_) ?_ ?_
    rotate_left
    ·show Act.put _ (some 120) _ = _
     simp only [Act.put,sn1,sn2,sn3,i64_w]
     rfl
    refine one_ (i := 8) (N:=some 114) (Mq [15,7]) rfl rfl (by kernel_rfl) (by decide) (fun K hK => ?_)
    refine app_at (Kd.int .i64) base (by rfl) rfl (.tmp 111) (.tmp 113) 36 3 (.int .i64 0) 8 rfl Tryz.underlying36 info3 rfl (by decide) (by omega) vp1 pt1 pI [.int .i64 pI] wd.heap.size rfl rfl (blk_alloc (heap_alloc_new wd _) _) rfl ((S1d.out.new_box _).new_box _).r.p (((S1d.out.new_box _).new_box _).size) (by omega) ?_
    intro v1 w1 hR hG hat
    have S2 := am (((S1d.out.new_box _).new_box _).appP hR hG hat)
    obtain ⟨Af, nf, cf, rfl⟩ := R_slc hR
    refine hK.out _ _ ⟨(blk_cell (S2.out).b 5).trans rfl, (blk_cell (S2.out).b 6).trans rfl⟩ (fun hHeld => ?_)
    clear hK K
    refine norm_ (a' := ?_) ?_ ?_
    rotate_left
    ·show Act.put _ (some 114) _ = _
     simp only [Act.put,sn1,sn2,sn3,i64_w]
     rfl
    exact norm_ (by simp only [putAll, Act.put, sn1, sn2, sn3]) (hCont (.slice (some ⟨wd.heap.size, 0, none⟩) 1 1, .slice Af nf cf, .slice (some ⟨wd.heap.size + 1, 0, none⟩) 1 1) _ ⟨S2.out, _, rfl, blk_grown (by simpa using heap_alloc_new (wd.alloc _) _) hG (by intro e; have := S1d.out.r.p.lt _ e.symm; omega), _, _, _, rfl⟩)
   skip
   refine value_ (w1 := ?_) (v := ?_) (by rfl) rfl ?_ ?_
   rotate_left 2
   ·go_simp
    constructor
    ·rfl
    rfl
   refine hK.out _ _ ⟨(blk_cell ((S1d.out).new_box _).b 5).trans rfl, (blk_cell ((S1d.out).new_box _).b 6).trans rfl⟩ (fun hHeld => ?_)
   clear hK K
   refine norm_ (a' := ?_) ?_ ?_
   rotate_left
   ·show Act.put _ (some 120) _ = _
    simp only [Act.put,sn1,sn2,sn3,i64_w]
    rfl
   refine one_ (i := 7) (N:=some 113) (Mq [8,1,6,7]) rfl rfl (by kernel_rfl) (by decide) (fun K hK => ?_)
   refine value_ (w1 := ?_) (v := ?_) (by rfl) rfl ?_ ?_
   rotate_left 2
   ·go_simp
    constructor
    ·rfl
    rfl
   refine hK.out _ _ ⟨(blk_cell (((S1d.out).new_box _).new_box _).b 5).trans rfl, (blk_cell (((S1d.out).new_box _).new_box _).b 6).trans rfl⟩ (fun hHeld => ?_)
   clear hK K
   refine norm_ (a' := ?_) ?_ ?_
   rotate_left
   ·show Act.put _ (some 113) _ = _
    simp only [Act.put,sn1,sn2,sn3,i64_w]
    rfl
   refine one_ (i := 8) (N:=some 114) (Mq [15,7]) rfl rfl (by kernel_rfl) (by decide) (fun K hK => ?_)
   refine app_at (Kd.int .i64) base (by rfl) rfl (.tmp 111) (.tmp 113) 36 3 (.int .i64 0) 8 rfl Tryz.underlying36 info3 rfl (by decide) (by omega) vp1 pt1 pI [.int .i64 pI] (wd.heap.size + 1) rfl rfl (by simpa using heap_alloc_new (wd.alloc _) _) rfl ((S1d.out.new_box _).new_box _).r.p (((S1d.out.new_box _).new_box _).size) (by omega) ?_
   intro v1 w1 hR hG hat
   have S2 := am (((S1d.out.new_box _).new_box _).appP hR hG hat)
   obtain ⟨Af, nf, cf, rfl⟩ := R_slc hR
   refine hK.out _ _ ⟨(blk_cell (S2.out).b 5).trans rfl, (blk_cell (S2.out).b 6).trans rfl⟩ (fun hHeld => ?_)
   clear hK K
   refine norm_ (a' := ?_) ?_ ?_
   rotate_left
   ·show Act.put _ (some 114) _ = _
    simp only [Act.put,sn1,sn2,sn3,i64_w]
    rfl
   exact norm_ (by simp only [putAll, Act.put, sn1, sn2, sn3]) (hCont (.slice (some ⟨wd.heap.size + 1, 0, none⟩) 1 1, .slice Af nf cf, .slice (some ⟨wd.heap.size, 0, none⟩) 1 1) _ ⟨S2.out, _, rfl, blk_grown (blk_alloc (heap_alloc_new wd _) _) hG (by intro e; have := S1d.out.r.p.lt _ e.symm; omega), _, _, _, rfl⟩)
  rintro ⟨u1, v1, u2⟩ w2 ⟨hS2, bj, rfl, hbj, Af, nf, cf, rfl⟩
  have S2 := am hS2
  clear hS2
  have hHeld : w2.cell? ⟨g, 5, none⟩ = some vp1 ∧ w2.cell? ⟨g, 6, none⟩ = some vj1 := ⟨(blk_cell S2.out.b 5).trans rfl, (blk_cell S2.out.b 6).trans rfl⟩
  refine norm_ (a' := ?_) ?_ ?_
  rotate_left
  ·simp only [putAll, Act.put, sn1, sn2, sn3]
   rfl
  refine one_ (i := 15) (N:=some 121) (Mq [16,6]) rfl rfl (by kernel_rfl) (by decide) (fun K hK => ?_)
  refine app_at (Kd.int .i64) base (by rfl) rfl (.tmp 118) (.tmp 120) 36 3 (.int .i64 0) 8 rfl Tryz.underlying36 info3 rfl (by decide) (by omega) vj1 t.just jI [.int .i64 jI] bj rfl rfl hbj rfl S2.out.r.j S2.out.size (by omega) ?_
  intro v3 w3 hR3 hG3 hat3
  have S3 := am (S2.out.appJ hR3 hG3 hat3)
  obtain ⟨A3, n3, c3, rfl⟩ := R_slc hR3
  have f5 := blk_frozen S3.out.b 5
  have f6 := blk_frozen (S3.out.putP (.slice Af nf cf)).b 6
  have c6 := blk_cell (S3.out.putP (.slice Af nf cf)).b 6
  refine hK.out _ _ ⟨(blk_cell (S3.out).b 5).trans rfl, (blk_cell (S3.out).b 6).trans rfl⟩ (fun hHeld => ?_)
  clear hK K
  refine norm_ (a' := ?_) ?_ ?_
  rotate_left
  ·show Act.put _ (some 121) _ = _
   simp only [Act.put,sn1,sn2,sn3,i64_w]
   rfl
  refine pure_ (i := 16) (N:=some 122) (v:=?_) (a':=?_) (Mq [17,5]) rfl rfl (by kernel_rfl) (fun _ _ _ h => h) (Or.inl ⟨by rfl, ?_⟩) ?_ ?_;rotate_left;(intro w';go_simp;with_reducible rfl);rotate_left;(simp only [Act.put,sn1,sn2,sn3,i64_w];rfl)
  refine pure_ (i := 17) (N:=some 123) (v:=?_) (a':=?_) (Mq [18,4]) rfl rfl (by kernel_rfl) (fun _ _ _ h => h) (Or.inl ⟨by rfl, ?_⟩) ?_ ?_;rotate_left;(intro w';go_simp;with_reducible rfl);rotate_left;(simp only [Act.put,sn1,sn2,sn3,i64_w];rfl)
  refine last_ (i := 18) (N := none) (Mq [19,3]) rfl rfl (by kernel_rfl) (by decide) (fun K hK => ?_)
  refine skip_ (w1 := ?_) (by rfl) rfl ?_ ?_
  rotate_left
  ·go_simp
   rfl
  refine hK.out _ _ ?_
  clear hK K
  refine pure_ (i := 19) (N:=some 124) (v:=?_) (a':=?_) (Mq [20,2]) rfl rfl (by kernel_rfl) (fun _ _ _ h => h) (Or.inl ⟨by rfl, ?_⟩) ?_ ?_;rotate_left;(intro w';go_simp;with_reducible rfl);rotate_left;(simp only [Act.put,sn1,sn2,sn3,i64_w];rfl)
  refine pure_ (i := 20) (N:=some 125) (v:=?_) (a':=?_) (Mq [21,1]) rfl rfl (by kernel_rfl) (fun _ _ _ h => h) (Or.inl ⟨by rfl, ?_⟩) ?_ ?_;rotate_left;(intro w';go_simp;with_reducible rfl);rotate_left;(simp only [Act.put,sn1,sn2,sn3,i64_w];rfl)
  refine last_ (i := 21) (N := none) (Mq [22]) rfl rfl (by kernel_rfl) (by decide) (fun K hK => ?_)
  refine skip_ (w1 := ?_) (by rfl) rfl ?_ ?_
  rotate_left
  ·go_simp
   rfl
  refine hK.out _ _ ?_
  clear hK K
  refine done_ (by kernel_rfl) ?_
  go_wp2_with fail
  go_meet
  case rel => exact ⟨⟨_, _, _, _, _, (S3.out.putP _).putJ _⟩⟩
 case rest =>
 have S7 := hcut
 clear hcut
 clear S6
 go_upto_region 18 with fail
 go_cut [128] (fun x128 wx => x128 = .bool (!isAns m) ∧ Aside0 (Saying base w g w.heap.size A c ids rc rn jb m (t.word ++ [m]) (pt1 ++ [pI]) (t.just ++ [jI]) (t.forc ++ [t.force]) op1 (isEscB m && isPar m) (t.lost || (isEscB m && isIdent m && !t.force)) t.deep wx))
 case first =>
  obtain ⟨vw1, vp1, vj1, vf1, vo1, h1⟩ := S7.out
  have S1 := am h1
  have b0 : wc.cell? ⟨w.heap.size, 0, none⟩ = some (.int .i64 m.f0) := (blk_cell h1.x 0).trans rfl
  have b1 : wc.cell? ⟨w.heap.size, 1, none⟩ = some (.int .i64 m.f1) := (blk_cell h1.x 1).trans rfl
  have b2 : wc.cell? ⟨w.heap.size, 2, none⟩ = some (.int .u8 m.f2) := (blk_cell h1.x 2).trans rfl
  have b3 : wc.cell? ⟨w.heap.size, 3, none⟩ = some (.int .i64 m.f3) := (blk_cell h1.x 3).trans rfl
  clear h1 S7
  go_wp2_with (go_at_call 102; refine (isAnswer_any m _).mono ?_; rintro e w2 ⟨rfl, hb2⟩)
  go_meet
  case rel => exact ⟨rfl, ⟨_, _, _, _, _, S1.out.below hb2⟩⟩
 case rest =>
 obtain ⟨rfl, S8⟩ := hcut
 clear S7
 go_upto_if 128 with fail
 go_cut [] (fun wx => Aside0 (Saying base w g w.heap.size A c ids rc rn jb m (t.word ++ [m]) (pt1 ++ [pI]) (t.just ++ [jI]) (t.forc ++ [t.force]) (t.opn' m) (isEscB m && isPar m) (t.lost || (isEscB m && isIdent m && !t.force)) t.deep wx))
 case first =>
  obtain ⟨vw1, vp1, vj1, vf1, vo1, h1⟩ := S8.out
  have S1 := am h1
  have c8 : wc.cell? ⟨g, 8, none⟩ = some vo1 := (blk_cell h1.b 8).trans rfl
  clear h1 S8
  rcases ha : isAns m with _ | _
  ·have HM := am ha
   have hop : op1 = t.opn := by rw [← HOP.out, ha]; rfl
   subst hop
   go_wp2_with ((with_reducible refine gate_dst (N := 137) rfl ?_); (refine Kd.R_append (Kd.int .i64) (w0 := w) base rfl (.tmp 134) (.tmp 136) 36 3 (.int .i64 0) 8 rfl Tryz.underlying36 info3 rfl (by decide) (by omega) vo1 t.opn (t.word.length : Int) [.int .i64 (t.word.length : Int)] (fun _ => True) (fun _ => False) rfl ?aX rfl (fun _ hk => hk.elim) (fun _ _ => trivial) S1.out.r.o S1.out.below' S1.out.size (by omega) ?_; (case aX => rfl)); intro v1 w1 hR hB hG hat; have S2 := am (S1.out.appO hR hG hat); obtain ⟨Af, nf, cf, rfl⟩ := R_slc hR; have f8 := blk_frozen S2.out.b 8; have c81 : w1.cell? ⟨g, 8, none⟩ = some vo1 := (blk_cell S2.out.b 8).trans rfl; obtain ⟨A8, n8, c8', rfl⟩ := R_slc S1.out.r.o)
   go_meet
   case rel => exact ⟨⟨_, _, _, _, _, by rw [Tk.opn', HM.out]; exact S2.out.putO _⟩⟩
  have HM := am ha
  have hop : op1 = t.opn.dropLast := by rw [← HOP.out, ha]; rfl
  go_wp2_with fail
  go_meet
  case rel => exact ⟨⟨_, _, _, _, _, by rw [Tk.opn', HM.out, if_pos rfl, ← hop]; exact S1.out⟩⟩
 case rest =>
 have S9 := hcut
 clear hcut
 clear S8
 go_upto_region 20 with fail
 obtain ⟨vw1, vp1, vj1, vf1, vo1, h1⟩ := S9.out.drew
 obtain ⟨A8, c8, rfl⟩ := Kd.R_slice h1.r.o
 have S1d := am h1
 have hd := HOK.out.hd
 have hsay := am (HOK.out.say m hw)
 clear h1
 refine start_ (n := 15) (S := fun w' => w'.cell? ⟨g, 11, none⟩ = some (.int .i64 t.deep) ∧ w'.cell? ⟨g, 8, none⟩ = some (.slice A8 (t.opn' m).length c8)) (ds := [14]) (Mq [0,15]) (by kernel_rfl) rfl rfl ⟨(blk_cell S1d.out.b 11).trans rfl, (blk_cell S1d.out.b 8).trans rfl⟩ (fun hHeld => ?_)
 clear S9
 generalize wc.drew = wd at S1d hHeld ⊢
 clear wc
 have f11 := blk_frozen S1d.out.b 11
 have c11 : wd.cell? ⟨g, 11, none⟩ = some (.int .i64 t.deep) := (blk_cell S1d.out.b 11).trans rfl
 refine pure_ (i := 0) (N:=some 141) (v:=?_) (a':=?_) (Mq [1,14]) rfl rfl (by kernel_rfl) (fun _ _ _ h => h) (Or.inl ⟨by rfl, ?_⟩) ?_ ?_;rotate_left;(intro w';go_simp;with_reducible rfl);rotate_left;(simp only [Act.put,sn1,sn2,sn3,i64_w];rfl)
 refine pure_ (i := 1) (N:=some 142) (v:=?_) (a':=?_) (Mq [2,13]) rfl rfl (by kernel_rfl) (fun _ _ _ h => h) (Or.inl ⟨by rfl, ?_⟩) ?_ ?_;rotate_left;(intro w';go_simp;with_reducible rfl);rotate_left;(simp only [Act.put,sn1,sn2,sn3,i64_w];rfl)
 refine pure_ (i := 2) (N:=some 143) (v:=?_) (a':=?_) (Mq [3,12]) rfl rfl (by kernel_rfl) (fun _ _ _ h => h) (Or.inl ⟨by rfl, ?_⟩) ?_ ?_;rotate_left;(intro w';go_simp;with_reducible rfl);rotate_left;(simp only [Act.put,sn1,sn2,sn3,i64_w];rfl)
 refine pure_ (i := 3) (N:=some 144) (v:=?_) (a':=?_) (Mq [4,11]) rfl rfl (by kernel_rfl) (fun _ _ _ h => h) (Or.inl ⟨by rfl, ?_⟩) ?_ ?_;rotate_left;(intro w';go_simp;with_reducible rfl);rotate_left;(simp only [Act.put,sn1,sn2,sn3,i64_w];rfl)
 refine pure_ (i := 5) (N:=some 146) (v:=?_) (a':=?_) (Mq [4,1,1,9]) rfl rfl (by kernel_rfl) (fun _ _ _ h => h) (Or.inl ⟨by rfl, ?_⟩) ?_ ?_;rotate_left;(intro w';go_simp;with_reducible rfl);rotate_left;(simp only [Act.put,sn1,sn2,sn3,i64_w];rfl)
 refine pure_ (i := 6) (N:=some 147) (v:=?_) (a':=?_) (Mq [4,1,2,8]) rfl rfl (by kernel_rfl) (fun _ _ _ h => h) (Or.inl ⟨by rfl, ?_⟩) ?_ ?_;rotate_left;(intro w';go_simp;with_reducible rfl);rotate_left;(simp only [Act.put,sn1,sn2,sn3,i64_w];rfl)
 refine pure_ (i := 7) (N:=some 148) (v:=?_) (a':=?_) (Mq [4,1,3,7]) rfl rfl (by kernel_rfl) (fun _ _ _ h => h) (Or.inl ⟨by rfl, ?_⟩) ?_ ?_;rotate_left;(intro w';go_simp;with_reducible rfl);rotate_left;(simp only [Act.put,sn1,sn2,sn3,i64_w];rfl)
 refine pure_ (i := 8) (N:=some 149) (v:=?_) (a':=?_) (Mq [4,1,4,6]) rfl rfl (by kernel_rfl) (fun _ _ _ h => h) (Or.inl ⟨by rfl, ?_⟩) ?_ ?_;rotate_left;(intro w';go_simp;with_reducible rfl);rotate_left;(simp only [Act.put,sn1,sn2,sn3,i64_w];rfl)
 refine take_ (i := 4) (N:=some 145) (v:=?_) (a':=?_) (Mq [9,6]) rfl rfl (by kernel_rfl) (fun _ _ _ h => h) (Or.inl ⟨by rfl, ?_⟩) hHeld ?_ ?_
 rotate_left
 ·rintro w' ⟨s0, s1⟩
  go_simp
  with_reducible rfl
 rotate_left
 ·simp only [Act.put,sn1,sn2,sn3,i64_w]
  rfl
 refine take_ (i := 9) (N:=some 150) (v:=?_) (a':=?_) (Mq [10,5]) rfl rfl (by kernel_rfl) (fun _ _ _ h => h) (Or.inl ⟨by rfl, ?_⟩) hHeld ?_ ?_
 rotate_left
 ·rintro w' ⟨s0, s1⟩
  go_simp
  with_reducible rfl
 rotate_left
 ·simp only [Act.put,sn1,sn2,sn3,i64_w]
  rfl
 refine pure_ (i := 10) (N:=some 151) (v:=?_) (a':=?_) (Mq [11,4]) rfl rfl (by kernel_rfl) (fun _ _ _ h => h) (Or.inl ⟨by rfl, ?_⟩) ?_ ?_;rotate_left;(intro w';go_simp;with_reducible rfl);rotate_left;(simp only [Act.put,sn1,sn2,sn3,i64_w];rfl)
 refine pure_ (i := 11) (N:=some 152) (v:=?_) (a':=?_) (Mq [12,3]) rfl rfl (by kernel_rfl) (fun _ _ _ h => h) (Or.inl ⟨by rfl, ?_⟩) ?_ ?_;rotate_left;(intro w';go_simp;with_reducible rfl);rotate_left;(simp only [Act.put,sn1,sn2,sn3,i64_w];rfl)
 refine pure_ (i := 12) (N:=some 153) (v:=?_) (a':=?_) (Mq [13,2]) rfl rfl (by kernel_rfl) (fun _ _ _ h => h) (Or.inl ⟨by rfl, ?_⟩) ?_ ?_;rotate_left;(intro w';go_simp;with_reducible rfl);rotate_left;(simp only [Act.put,sn1,sn2,sn3,i64_w];rfl)
 refine pure_ (i := 13) (N:=some 154) (v:=?_) (a':=?_) (Mq [14,1]) rfl rfl (by kernel_rfl) (fun _ _ _ h => h) (Or.inl ⟨by rfl, ?_⟩) ?_ ?_;rotate_left;(intro w';go_simp;with_reducible rfl);rotate_left;(simp only [Act.put,sn1,sn2,sn3,i64_w];rfl)
 refine last_ (i := 14) (N := none) (Mq [15]) rfl rfl (by kernel_rfl) (by decide) (fun K hK => ?_)
 refine skip_ (w1 := ?_) (by rfl) rfl ?_ ?_
 rotate_left
 ·go_simp
  rfl
 refine hK.out _ _ ?_
 clear hK K
 refine done_ (by kernel_rfl) ?_
 go_wp2_with fail
 all_goals
  go_end0
  refine say_end _ ?_ hsay.out (S1d.out.putDeep _) HPT.out HPI.out HJI.out
  first | omega | (simp only [Tk.say]; omega)
end Go.Proofs.YtjgocihflhljeaaGreat.P
