/- What the claim's law needs, many texts in one (P0 Hr Ha Hb). No conditions of its own. -/
import Derived.Test.YtjgocihflhljeaaGreatProg
import Derived.Below
import Derived.Deep.Draws
import Derived.Deep.AppendLies
import Derived.Maps.AppendAt
import Derived.OwnWalk
import Derived.Laws.BytesArg
import Derived.Laws.MakeOwn
import Derived.Laws.OwnMore
import Derived.Deep.OwnRows
import Derived.Tactics
import Derived.Lib.ConvBytes
import Derived.Laws.Slices
import Derived.WalkKit
import Derived.KernelRfl
import Derived.RowKit3
import Derived.Deep.LoopGhost
import Derived.Deep.QuietTactic
import Derived.BigQuiet
import Derived.WideLaws
import Derived.Deep.DeepCutAuto
import Derived.Deep.CutBlock
import Derived.Deep.RegionHeld3
import Derived.Laws.Rows
import Derived.Lib.AppendStr
import Derived.ArgAppend
import Derived.Laws.IdiomCopy
import Derived.OrdersHeld
import Derived.Laws.BitsLemmas
import Derived.RowKit
import Derived.Test.YtjgocihflhljeaaGreatZl1
import Derived.RangeFuncNested
import Derived.RangeFuncBound
import Derived.RangeFuncCalls
import Derived.RangeFuncLeaves
import Derived.Shelf.Abstract
import Derived.OwnWalkIn
import Derived.TacticsInMore
import Derived.LoopNIn
import Derived.LoopIn
import Derived.Outline
set_option linter.unusedVariables false
set_option linter.unusedSimpArgs false
namespace Go.Proofs.YtjgocihflhljeaaGreat.P
open Go.RowKit Go.Proofs.YtjgocihflhljeaaGreatW.PrintWords Go.Proofs.YtjgocihflhljeaaGreatW.PrintLast Go.Proofs.YtjgocihflhljeaaGreatW.PrintMore
def rlq : Bool → List Nat → List Bool
 | _, [] => []
 | x, n :: r => List.replicate n x ++ rlq (!x) r
abbrev Mq (l : List Nat) : Array Bool := (rlq true l).toArray
abbrev Y : Bool := true
abbrev Z : Bool := false
theorem am {p : Prop} (h : p) : Aside0 p := ⟨h⟩
theorem mc {α : Type} {a : α} {l : List α} : a ∈ a :: l := List.mem_cons_self
theorem sn1 {α : Type} (a : α) (l : List α) (i : Nat) : l.toArray.setIfInBounds i a = (l.set i a).toArray := List.setIfInBounds_toArray l i a
theorem sn2 {α : Type} (a b : α) (l : List α) : (a :: l).set 0 b = b :: l := rfl
theorem sn3 {α : Type} (a b : α) (l : List α) (n : Nat) : (a :: l).set (n + 1) b = a :: l.set n b := rfl
attribute [local go_sem] max2_int max_two
set_option linter.unusedVariables false
set_option linter.unusedSimpArgs false
theorem info3 : (Tryz.prog.info? 3).map (fun i => (i.zero, i.size, i.bytes)) = some (some (.int .i64 0), 1, 8) := by kernel_rfl
theorem info9 : (Tryz.prog.info? 9).map (fun i => (i.zero, i.size, i.bytes)) = some (some (.string ⟨#[]⟩), 1, 16) := by kernel_rfl
theorem info24 : (Tryz.prog.info? 24).map (fun i => (i.zero, i.size, i.bytes)) = some (some (.agg #[(.bool false), (.int .i64 0)]), 2, 16) := by kernel_rfl
theorem info52 : (Tryz.prog.info? 52).map (fun i => (i.zero, i.size, i.bytes)) = some (some (.agg #[(.int .i64 0), (.int .i64 0), (.int .u8 0), (.int .i64 0)]), 4, 32) := by kernel_rfl
theorem info68 : (Tryz.prog.info? 68).map (fun i => (i.zero, i.size, i.bytes)) = some (some (.agg #[(.slice none 0 0), (.bool false), (.int .i64 0)]), 3, 40) := by kernel_rfl
structure S24 where
 f0 : Bool
 f1 : Int
def z24 : S24 := ⟨false, (0 : Int)⟩
def k24 : Kd S24 := Kd.iso (Kd.pair Kd.bool (Kd.int .i64)) (fun x : S24 => (x.f0, x.f1))
theorem k24_open {w : World} {x : S24} {cs : List Value} (h : k24.K w x cs) : cs = [.bool x.f0, .int .i64 x.f1] := by
 obtain ⟨_, _, rfl, rfl, rfl⟩ := h
 exact rfl
theorem k24_mk (w : World) (x : S24)  : k24.K w x [.bool x.f0, .int .i64 x.f1] := ⟨[.bool x.f0], [.int .i64 x.f1], rfl, rfl, rfl⟩
theorem k24_mkM (w : World) (base : Nat) (ok : Nat → Prop) (x : S24)  : k24.M w base ok x [.bool x.f0, .int .i64 x.f1] := ⟨[.bool x.f0], [.int .i64 x.f1], rfl, rfl, rfl⟩
def rd_T24 (xs : List S24) (i : Int) : S24 := xs.getD i.toNat z24
theorem at_T24 {w : World} {A : Option Addr} {n : Nat} {xs : List S24} (h : Kd.C k24 w A n xs) (i : Int) (h0 : 0 ≤ i) (h1 : i < n) : ∃ ad , A = some ad ∧ w.cell? (ad.add (i.toNat * 2)) = some (.bool (rd_T24 xs i).f0) ∧ w.cell? ⟨(ad.add (i.toNat * 2)).block, (ad.add (i.toNat * 2)).off + 1, none⟩ = some (.int .i64 (rd_T24 xs i).f1) := by
 obtain ⟨ad, c, e, _, hK, hc0⟩ := Kd.C_get h z24 i h0 h1
 have hc : ∀ j u, c[j]? = some u → w.cell? (ad.add (i.toNat * 2 + j)) = some u := hc0
 obtain rfl := k24_open hK
 exact ⟨ad, e, hc 0 _ rfl, by rw [← add_field _ _ 1 (by omega)]; exact hc 1 _ rfl⟩
structure S68 where
 f0 : (List S24)
 f1 : S24
def z68 : S68 := ⟨([] : List S24), z24⟩
def k68 : Kd S68 := Kd.iso (Kd.pair (Kd.slice 24 k24) k24) (fun x : S68 => (x.f0, x.f1))
theorem k68_open {w : World} {x : S68} {cs : List Value} (h : k68.K w x cs) : ∃ A0 c0, cs = [.slice A0 x.f0.length c0, .bool x.f1.f0, .int .i64 x.f1.f1] ∧ x.f0.length ≤ c0 ∧ k24.C w A0 x.f0.length x.f0 := by
 obtain ⟨_, _, rfl, ⟨A0, c0, rfl, l0, g0⟩, s1⟩ := h
 obtain rfl := k24_open s1
 exact ⟨A0, c0, rfl, l0, g0⟩
theorem k68_mk (w : World) (x : S68) {A0 : Option Addr} {c0 : Nat} (l0 : x.f0.length ≤ c0) (g0 : k24.C w A0 x.f0.length x.f0) : k68.K w x [.slice A0 x.f0.length c0, .bool x.f1.f0, .int .i64 x.f1.f1] := ⟨[.slice A0 x.f0.length c0], [.bool x.f1.f0, .int .i64 x.f1.f1], rfl, ⟨A0, c0, rfl, l0, g0⟩, (k24_mk w x.f1 )⟩
theorem k68_mkM (w : World) (base : Nat) (ok : Nat → Prop) (x : S68) {v0 : Value} (g0 : k24.R 24 w base ok v0 x.f0) : k68.M w base ok x [v0, .bool x.f1.f0, .int .i64 x.f1.f1] := ⟨[v0], [.bool x.f1.f0, .int .i64 x.f1.f1], rfl, ⟨v0, rfl, g0⟩, (k24_mkM w base ok x.f1 )⟩
theorem k68_mkF (W : World) (ok : Nat → Prop) (x : S68) {A0 : Option Addr} {c0 : Nat} (l0 : x.f0.length ≤ c0) (g0 : Kd.F k24 W ok A0 x.f0.length x.f0) : Kd.FK k68 W ok x [.slice A0 x.f0.length c0, .bool x.f1.f0, .int .i64 x.f1.f1] := fun W2 hW => k68_mk W2 x l0 (g0 W2 hW)
def rd_T68 (xs : List S68) (i : Int) : S68 := xs.getD i.toNat z68
theorem at_T68 {w : World} {A : Option Addr} {n : Nat} {xs : List S68} (h : Kd.C k68 w A n xs) (i : Int) (h0 : 0 ≤ i) (h1 : i < n) : ∃ ad A0 c0, A = some ad ∧ w.cell? (ad.add (i.toNat * 3)) = some (.slice A0 (rd_T68 xs i).f0.length c0) ∧ w.cell? ⟨(ad.add (i.toNat * 3)).block, (ad.add (i.toNat * 3)).off + 1, none⟩ = some (.bool (rd_T68 xs i).f1.f0) ∧ w.cell? ⟨(ad.add (i.toNat * 3)).block, (ad.add (i.toNat * 3)).off + 2, none⟩ = some (.int .i64 (rd_T68 xs i).f1.f1) ∧ (rd_T68 xs i).f0.length ≤ c0 ∧ k24.C w A0 (rd_T68 xs i).f0.length (rd_T68 xs i).f0 := by
 obtain ⟨ad, c, e, _, hK, hc0⟩ := Kd.C_get h z68 i h0 h1
 have hc : ∀ j u, c[j]? = some u → w.cell? (ad.add (i.toNat * 3 + j)) = some u := hc0
 obtain ⟨A0, c0, rfl, l0, g0⟩ := k68_open hK
 exact ⟨ad, A0, c0, e, hc 0 _ rfl, by rw [← add_field _ _ 1 (by omega)]; exact hc 1 _ rfl, by rw [← add_field _ _ 2 (by omega)]; exact hc 2 _ rfl, l0, g0⟩
structure S52 where
 f0 : Int
 f1 : Int
 f2 : Int
 f3 : Int
def z52 : S52 := ⟨(0 : Int), (0 : Int), (0 : Int), (0 : Int)⟩
def k52 : Kd S52 := Kd.iso (Kd.pair (Kd.int .i64) (Kd.pair (Kd.int .i64) (Kd.pair (Kd.int .u8) (Kd.int .i64)))) (fun x : S52 => (x.f0, x.f1, x.f2, x.f3))
theorem k52_open {w : World} {x : S52} {cs : List Value} (h : k52.K w x cs) : cs = [.int .i64 x.f0, .int .i64 x.f1, .int .u8 x.f2, .int .i64 x.f3] := by
 obtain ⟨_, _, rfl, rfl, ⟨_, _, rfl, rfl, ⟨_, _, rfl, rfl, rfl⟩⟩⟩ := h
 exact rfl
theorem k52_mk (w : World) (x : S52)  : k52.K w x [.int .i64 x.f0, .int .i64 x.f1, .int .u8 x.f2, .int .i64 x.f3] := ⟨[.int .i64 x.f0], [.int .i64 x.f1, .int .u8 x.f2, .int .i64 x.f3], rfl, rfl, ⟨[.int .i64 x.f1], [.int .u8 x.f2, .int .i64 x.f3], rfl, rfl, ⟨[.int .u8 x.f2], [.int .i64 x.f3], rfl, rfl, rfl⟩⟩⟩
theorem k52_mkM (w : World) (base : Nat) (ok : Nat → Prop) (x : S52)  : k52.M w base ok x [.int .i64 x.f0, .int .i64 x.f1, .int .u8 x.f2, .int .i64 x.f3] := ⟨[.int .i64 x.f0], [.int .i64 x.f1, .int .u8 x.f2, .int .i64 x.f3], rfl, rfl, ⟨[.int .i64 x.f1], [.int .u8 x.f2, .int .i64 x.f3], rfl, rfl, ⟨[.int .u8 x.f2], [.int .i64 x.f3], rfl, rfl, rfl⟩⟩⟩
def rd_T52 (xs : List S52) (i : Int) : S52 := xs.getD i.toNat z52
theorem at_T52 {w : World} {A : Option Addr} {n : Nat} {xs : List S52} (h : Kd.C k52 w A n xs) (i : Int) (h0 : 0 ≤ i) (h1 : i < n) : ∃ ad , A = some ad ∧ w.cell? (ad.add (i.toNat * 4)) = some (.int .i64 (rd_T52 xs i).f0) ∧ w.cell? ⟨(ad.add (i.toNat * 4)).block, (ad.add (i.toNat * 4)).off + 1, none⟩ = some (.int .i64 (rd_T52 xs i).f1) ∧ w.cell? ⟨(ad.add (i.toNat * 4)).block, (ad.add (i.toNat * 4)).off + 2, none⟩ = some (.int .u8 (rd_T52 xs i).f2) ∧ w.cell? ⟨(ad.add (i.toNat * 4)).block, (ad.add (i.toNat * 4)).off + 3, none⟩ = some (.int .i64 (rd_T52 xs i).f3) := by
 obtain ⟨ad, c, e, _, hK, hc0⟩ := Kd.C_get h z52 i h0 h1
 have hc : ∀ j u, c[j]? = some u → w.cell? (ad.add (i.toNat * 4 + j)) = some u := hc0
 obtain rfl := k52_open hK
 exact ⟨ad, e, hc 0 _ rfl, by rw [← add_field _ _ 1 (by omega)]; exact hc 1 _ rfl, by rw [← add_field _ _ 2 (by omega)]; exact hc 2 _ rfl, by rw [← add_field _ _ 3 (by omega)]; exact hc 3 _ rfl⟩
end Go.Proofs.YtjgocihflhljeaaGreat.P
namespace Go.Proofs.YtjgocihflhljeaaGreat.P
open Go.RowKit Go.Shelf
abbrev FW (rd : Option Nat) : Fence := { fn := fun _ => True, depth := none, alive := false, round := rd }
def VCall (P : Program) (y : Value) (args : Array Value) (W : World) (R : Value → World → Prop) : Prop :=
 ∀ (rd : Option Nat) (n : Nat) (o : Oper) (a : Act) (next : Act → World → Prop) (Q : Exit → Act → World → Prop) (c : Call) (s : Operand), o.op = .call c → c.callee = .value s → a.eval s = y → c.args.map a.eval = args →
  (∀ v W', R v W' → next (a.put o.dst v) W') → Oper.wpIn (FW rd) n P o a W next Q
theorem VCall.mono {P : Program} {y : Value} {args : Array Value} {W : World} {R R' : Value → World → Prop} (h : VCall P y args W R) (hr : ∀ v W', R v W' → R' v W') : VCall P y args W R' :=
 fun rd n o a next Q c s h1 h2 h3 h4 h5 => h rd n o a next Q c s h1 h2 h3 h4 (fun v W' hv => h5 v W' (hr v W' hv))
theorem VCall.of_calls {P : Program} {g : Nat} {bs lb args : Array Value} {W : World} {R : Value → World → Prop} (eg : ∀ args w, (callFunc g args).run P w = .ok (.enter g args) w)
  (h : Calls P g (bs ++ args ++ lb) W fun e W' => ∃ v, e = .returned v ∧ R v W') : VCall P (.func (.func g) bs lb) args W R := by
 intro rd n o a next Q c s h1 h2 h3 h4 h5
 refine ⟨fun _ _ => trivial, ?_⟩
 have hc : ∀ x, o.op ≠ .defer x := by rw [h1]; intro x e; cases e
 rw [Oper.semAt_eq _ _ _ hc]
 have hr : (resolve a.eval c o.type).run P W = .ok { target := .fn (.func g) lb, args := bs ++ args } W := by
  simp only [resolve, h2, h3, h4]
  simp [go_sem, Deferred.ofValue]
 have hx : (execOp a.eval o).run P W = .ok (.enter g (bs ++ args ++ lb)) W := by
  simp only [execOp, h1]
  rw [Sem.run_bind, hr]
  simp only [Result.andThen, invoke]
  exact eg _ _
 rw [hx]
 refine ⟨fun h => by simp at h, ?_⟩
 have hw : CallsIn (FW none) (n - 1) P g (bs ++ args ++ lb) W fun e W' => ∃ v, e = .returned v ∧ R v W' := callsIn_wide.2 h
 refine CallsIn.mono (R := fun e W' => ∃ v, e = .returned v ∧ R v W') ?_ ?_
 ·cases rd with
  | none => exact hw
  | some l => exact CallsIn.inRound l hw
 rintro e W' ⟨v, rfl, hv⟩
 exact h5 v W' hv
theorem VCall.of_yield {P : Program} {l : Nat} {args : Array Value} {W : World} {R : Value → World → Prop}
  (h : ∀ rd n, ∃ fn tmps assign body, (Instr.yield l args).run P W = .ok (.round l fn tmps assign body) W ∧ RoundIn (FW rd) n P l fn tmps assign body W fun e W' => ∃ v, e = .returned v ∧ R v W') : VCall P (.func (.yield l) #[] #[]) args W R := by
 intro rd n o a next Q c s h1 h2 h3 h4 h5
 obtain ⟨fn, tmps, assign, body, hy, hR⟩ := h rd (n - 1)
 refine ⟨fun _ _ => trivial, ?_⟩
 have hc : ∀ x, o.op ≠ .defer x := by rw [h1]; intro x e; cases e
 rw [Oper.semAt_eq _ _ _ hc]
 have hr : (resolve a.eval c o.type).run P W = .ok { target := .fn (.yield l) #[], args := args } W := by
  simp only [resolve, h2, h3, h4]
  simp [go_sem, Deferred.ofValue]
 have hx : (execOp a.eval o).run P W = .ok (.round l fn tmps assign body) W := by
  simp only [execOp, h1]
  rw [Sem.run_bind, hr]
  simp only [Result.andThen, invoke]
  exact hy
 rw [hx]
 refine ⟨fun h => by simp at h, ?_⟩
 refine hR.mono ?_
 rintro e W' ⟨v, rfl, hv⟩
 exact h5 v W' hv
theorem wpListIn_vcall {rd : Option Nat} {n : Nat} {P : Program} {ops : Array Oper} {Q : Exit → Act → World → Prop} {rest : List Oper} {o : Oper} {a : Act} {w : World}
  (y : Value) (args : Array Value) (R : Value → World → Prop) (c : Call) (s : Operand) (hw : Region.wanted o (yielded ops a.tmps) = true) (ho : o.op = .call c) (hc : c.callee = .value s) (hs : a.eval s = y) (hargs : c.args.toList.map a.eval = args.toList)
  (hv : VCall P y args w R) (h : ∀ v w', R v w' → wpListIn (FW rd) n P ops Q rest (a.put o.dst v) w') : wpListIn (FW rd) n P ops Q (o :: rest) a w := by
 simp only [wpListIn, hw, if_true]
 exact hv rd n o a _ Q c s ho hc hs (Array.toList_inj.1 (by rw [Array.toList_map]; exact hargs)) h
theorem gateIn {F : Fence} {n : Nat} {P : Program} {ops : Array Oper} {Q : Exit → Act → World → Prop} {rest : List Oper} {o : Oper} {a : Act} {w : World} {N : Tmp} (_hN : o.dst = some N) (h : wpListIn F n P ops Q (o :: rest) a w) : wpListIn F n P ops Q (o :: rest) a w := h
def St (b : Nat) (ex : Nat → Prop) (W W' : World) : Prop := (W'.os = W.os ∧ W'.tape = W.tape ∧ W'.output = W.output ∧ W.heap.size ≤ W'.heap.size) ∧ ∀ k o, W.heap[k]? = some o → ¬ ex k → (k < b ∨ o.isCells = true) → W'.heap[k]? = some o
def Keeps (n₀ b : Nat) (ex : Nat → Prop) (ty : TypeId → Prop) (W W' : World) : Prop := (W'.os = W.os ∧ W'.tape = W.tape ∧ W'.output = W.output ∧ W.heap.size ≤ W'.heap.size) ∧ ∀ k o, W.heap[k]? = some o → (k < n₀ ∨ ex k ∨ (b ≤ k ∧ ∀ cs t f, o = .cells cs t f → ty t)) → W'.heap[k]? = some o
section
variable {n n' b b' : Nat} {ex : Nat → Prop} {ty : TypeId → Prop} {A B C W : World}
theorem St.mono (hb : b ≤ b') (h : St b' ex A B) : St b ex A B := ⟨h.1, fun i o hi hx ho => h.2 i o hi hx (ho.imp (fun h => by omega) id)⟩
theorem St.of_below (h : Below A.heap.size A B) : St b ex A B := ⟨⟨h.os, h.tape, h.output, h.size⟩, fun i _ hi _ _ => (h.block i (Array.getElem?_eq_some_iff.1 hi).1).trans hi⟩
theorem Keeps.refl (n b : Nat) (ex : Nat → Prop) (ty : TypeId → Prop) (W : World) : Keeps n b ex ty W W := ⟨⟨rfl, rfl, rfl, Nat.le_refl _⟩, fun _ _ h _ => h⟩
theorem Keeps.trans (h : Keeps n b ex ty A B) (k : Keeps n b ex ty B C) : Keeps n b ex ty A C := ⟨⟨k.1.1.trans h.1.1, k.1.2.1.trans h.1.2.1, k.1.2.2.1.trans h.1.2.2.1, Nat.le_trans h.1.2.2.2 k.1.2.2.2⟩, fun i o hi ho => k.2 i o (h.2 i o hi ho) ho⟩
theorem Keeps.of_below (h : Below A.heap.size A B) : Keeps n b ex ty A B := ⟨⟨h.os, h.tape, h.output, h.size⟩, fun i _ hi _ => (h.block i (Array.getElem?_eq_some_iff.1 hi).1).trans hi⟩
theorem St.putObj {r : Nat} {o : Obj} (o' : Obj) (h : W.heap[r]? = some o) (hc : o.isCells = false) (hb : b ≤ r) : St b ex W (W.putObj r o') := by
 refine ⟨⟨rfl, rfl, rfl, by simp⟩, fun k x hk _ ho => ?_⟩
 by_cases e : k = r
 ·subst e
  rw [h] at hk
  cases hk
  rcases ho with ho | ho
  ·omega
  rw [hc] at ho; cases ho
 exact (World.putObj_heap_other e).trans hk
theorem Keeps.putObj {r : Nat} (o' : Obj) (hn : n ≤ r) (hb : r < b) (hx : ¬ ex r) : Keeps n b ex ty W (W.putObj r o') := by
 refine ⟨⟨rfl, rfl, rfl, by simp⟩, fun k x hk ho => ?_⟩
 by_cases e : k = r
 ·subst e
  rcases ho with ho | ho | ho
  ·omega
  ·exact (hx ho).elim
  omega
 exact (World.putObj_heap_other e).trans hk
end
theorem St.below {n b : Nat} {ex : Nat → Prop} {w0 A B : World} (h : St b ex A B) (hb : Below n w0 A) (hn : n ≤ b) (hx : ∀ k, ex k → n ≤ k) (hs : n ≤ A.heap.size) : Below n w0 B :=
 hb.trans ⟨h.1.1, h.1.2.1, h.1.2.2.1, h.1.2.2.2, fun k hk => by
  have hlt : k < A.heap.size := by omega
  exact (h.2 k _ (Array.getElem?_eq_getElem hlt) (fun hx' => by have := hx k hx'; omega) (.inl (by omega))).trans (Array.getElem?_eq_getElem hlt).symm⟩
theorem Keeps.below {n b : Nat} {ex : Nat → Prop} {ty : TypeId → Prop} {w0 A B : World} (h : Keeps n b ex ty A B) (hb : Below n w0 A) (hs : n ≤ A.heap.size) : Below n w0 B :=
 hb.trans ⟨h.1.1, h.1.2.1, h.1.2.2.1, h.1.2.2.2, fun k hk => by
  have hlt : k < A.heap.size := by omega
  exact (h.2 k _ (Array.getElem?_eq_getElem hlt) (.inl hk)).trans (Array.getElem?_eq_getElem hlt).symm⟩
theorem Keeps.setCell {n b : Nat} {own : Nat → Prop} {ty : TypeId → Prop} {A W : World} {g j : Nat} (h : Keeps n b own ty A W) (v : Value) (hn : n ≤ g) (hb : g < b) (hx : ¬ own g) : Keeps n b own ty A (W.setCell ⟨g, j, none⟩ v) :=
 h.trans ⟨⟨rfl, rfl, rfl, by simp [World.setCell]⟩, fun k o hk ho => by
  have hne : k ≠ g := by
   rintro rfl
   rcases ho with ho | ho | ho
   ·omega
   ·exact hx ho
   omega
  exact (Below.heap_setCell W ⟨g, j, none⟩ v k hne).trans hk⟩
theorem Keeps.weaken {n b b' : Nat} {ex ex' : Nat → Prop} {ty ty' : TypeId → Prop} {A B : World} (h : Keeps n b ex ty A B) (hb : b ≤ b') (ht : ∀ t, ty' t → ty t) (hx : ∀ k o, A.heap[k]? = some o → ex' k → k < n ∨ ex k ∨ (b ≤ k ∧ ∀ cs t f, o = .cells cs t f → ty t)) : Keeps n b' ex' ty' A B :=
 ⟨h.1, fun k o hk ho => h.2 k o hk (by
  rcases ho with ho | ho | ⟨h1, h2⟩
  ·exact .inl ho
  ·exact hx k o hk ho
  exact .inr (.inr ⟨by omega, fun cs t f e => ht t (h2 cs t f e)⟩))⟩
theorem Keeps.st {n b b' : Nat} {own : Nat → Prop} {ty : TypeId → Prop} {V A B : World} (h : Keeps n b' own ty V A) (hs : St b (fun _ => False) A B) (hb : V.heap.size ≤ b) : Keeps n b' own ty V B :=
 ⟨⟨hs.1.1.trans h.1.1, hs.1.2.1.trans h.1.2.1, hs.1.2.2.1.trans h.1.2.2.1, Nat.le_trans h.1.2.2.2 hs.1.2.2.2⟩, fun k o hk ho => hs.2 k o (h.2 k o hk ho) (fun h => h) (.inl (by have := (Array.getElem?_eq_some_iff.1 hk).1; omega))⟩
theorem St.blk {b g : Nat} {ex : Nat → Prop} {A B : World} {cs : Array Value} {t : TypeId} {f : Nat × Nat} (h : St b ex A B) (hg : A.heap[g]? = some (.cells cs t f)) (hx : ¬ ex g) : B.heap[g]? = some (.cells cs t f) := h.2 g _ hg hx (.inr rfl)
theorem Keeps.blk {n b g : Nat} {ex : Nat → Prop} {ty : TypeId → Prop} {A B : World} {cs : Array Value} {t : TypeId} {f : Nat × Nat} (h : Keeps n b ex ty A B) (hg : A.heap[g]? = some (.cells cs t f)) (hb : b ≤ g) (ht : ty t) : B.heap[g]? = some (.cells cs t f) :=
 h.2 g _ hg (.inr (.inr ⟨hb, fun _ _ _ e => by cases e; exact ht⟩))
def Gives (P : Program) (gf : Nat) (args : Value → Array Value) {α : Type} (encs : α → Array Value) (L : List α) (n₀ : Nat) (w0 : World) (wr own : Nat → Prop) (ty : TypeId → Prop) (Pre : World → Prop) : Prop :=
 ∀ (y : Value) (J Jx : Nat → World → Prop) (W : World), (∃ fn bs lb, y = .func fn bs lb) → Below n₀ w0 W → n₀ ≤ W.heap.size → Pre W →
  (∀ i W1 W2, J i W1 → St W.heap.size wr W1 W2 → J i W2) → (∀ i W1 W2, Jx i W1 → St W.heap.size wr W1 W2 → Jx i W2) →
  (∀ i x W1, L[i]? = some x → J i W1 → W.heap.size ≤ W1.heap.size → VCall P y (encs x) W1 fun v W' => (v = .bool true ∧ J (i + 1) W' ∧ Keeps n₀ W.heap.size own ty W1 W') ∨ (v = .bool false ∧ Jx i W' ∧ Keeps n₀ W.heap.size own ty W1 W')) →
  J 0 W → Calls P gf (args y) W fun e W' => (∃ v, e = .returned v) ∧ W.heap.size ≤ W'.heap.size ∧ (J L.length W' ∨ ∃ i, i < L.length ∧ Jx i W')
theorem Gives.vcall {P : Program} {gf : Nat} {A : Value → Array Value} {α : Type} {encs : α → Array Value} {L : List α} {n₀ : Nat} {w0 : World} {wr own : Nat → Prop} {ty : TypeId → Prop} {Pre : World → Prop}
  (hG : Gives P gf A encs L n₀ w0 wr own ty Pre) (eg : ∀ args w, (callFunc gf args).run P w = .ok (.enter gf args) w) (y : Value) (J Jx : Nat → World → Prop) (W : World) {bs lb args : Array Value} (hA : A y = bs ++ args ++ lb)
  (hy : ∃ fn bs lb, y = .func fn bs lb) (hb : Below n₀ w0 W) (hs : n₀ ≤ W.heap.size) (hp : Pre W)
  (hJ : ∀ i W1 W2, J i W1 → St W.heap.size wr W1 W2 → J i W2) (hJx : ∀ i W1 W2, Jx i W1 → St W.heap.size wr W1 W2 → Jx i W2)
  (hbody : ∀ i x W1, L[i]? = some x → J i W1 → W.heap.size ≤ W1.heap.size → VCall P y (encs x) W1 fun v W' => (v = .bool true ∧ J (i + 1) W' ∧ Keeps n₀ W.heap.size own ty W1 W') ∨ (v = .bool false ∧ Jx i W' ∧ Keeps n₀ W.heap.size own ty W1 W'))
  (h0 : J 0 W) : VCall P (.func (.func gf) bs lb) args W fun _ W' => W.heap.size ≤ W'.heap.size ∧ (J L.length W' ∨ ∃ i, i < L.length ∧ Jx i W') := by
 refine VCall.of_calls eg ?_
 rw [← hA]
 refine (hG y J Jx W hy hb hs hp hJ hJx hbody h0).mono ?_
 rintro e W' ⟨⟨v, rfl⟩, h⟩
 exact ⟨v, rfl, h⟩
def rPost (n₀ b : Nat) (own : Nat → Prop) (ty : TypeId → Prop) (I : Nat → World → Prop) (Ix : Code → Nat → World → Prop) (i : Nat) (W : World) : Exit → Act → World → Prop
 | .normal, _, W' => Keeps n₀ b own ty W W' ∧ I (i + 1) W'
 | .ret, _, W' => Keeps n₀ b own ty W W' ∧ Ix .ret i W'
 | .exit id, _, W' => Keeps n₀ b own ty W W' ∧ Ix (.exit id) i W'
 | .goto t, _, W' => Keeps n₀ b own ty W W' ∧ Ix (.goto t) i W'
 | .panic _, _, _ => False
 | .outgrown, _, _ => False
theorem wp_range {P : Program} {α : Type} {g : Operand} {ps : Array Tmp} {assign body : Code} {Q : Exit → Act → World → Prop} {a : Act} {w : World} {n : Nat}
  {gf : Nat} {bs lb : Array Value} (hg : a.eval g = .func (.func gf) bs lb) (eg : ∀ args w, (callFunc gf args).run P w = .ok (.enter gf args) w)
  {encs : α → Array Value} {L : List α} {n₀ : Nat} {w0 : World} {wr own : Nat → Prop} {ty : TypeId → Prop} {Pre : World → Prop}
  (hG : Gives P gf (fun y => bs ++ #[y] ++ lb) encs L n₀ w0 wr own ty Pre) (hb0 : Below n₀ w0 w) (hn : n₀ ≤ w.heap.size) (hwr : ∀ k, wr k → k < w.heap.size) (hown : ∀ k, own k → k < w.heap.size)
  (hPre : ∀ W, Below w.heap.size w W → Pre W) (hps : ∀ x, (encs x).size = ps.size)
  (I : Nat → World → Prop) (Ix : Code → Nat → World → Prop) (hI : ∀ i W1 W2, I i W1 → St w.heap.size wr W1 W2 → I i W2) (hIx : ∀ c i W1 W2, Ix c i W1 → St w.heap.size wr W1 W2 → Ix c i W2) (h0 : I 0 w)
  (Ax : Nat → Act → World → Prop) (hAx : ∀ i a₁ W1 W2, Ax i a₁ W1 → St w.heap.size wr W1 W2 → Ax i a₁ W2)
  (hassign : ∀ (n l i : Nat) (x : α) (W : World) (K : Act → World → Prop), L[i]? = some x → I i W → w.heap.size ≤ W.heap.size → (∀ a₁ W₁, Below W.heap.size W W₁ → Ax i a₁ W₁ → K a₁ W₁) →
   assign.wpIn (FW (some l)) n P (Exit.then K (fun _ _ _ => False)) { tmps := (ps.zip (encs x)).foldl (fun t (p, v) => t.setIfInBounds p v) a.tmps, defers := [] } W)
  (hbody : ∀ (n l i : Nat) (x : α) (a₁ : Act) (W : World), L[i]? = some x → I i W → Ax i a₁ W → w.heap.size ≤ W.heap.size → body.wpIn (FW (some l)) n P (rPost n₀ w.heap.size own ty I Ix i W) a₁ W)
  (hdone : ∀ (D : Nat) (W : World), w.heap.size ≤ W.heap.size → I L.length W → W.heap[D]? = some (.deferred (some [])) → w.heap.size ≤ D → Q .normal { a with defers := { target := .collected D, args := #[] } :: a.defers } W)
  (hstop : ∀ (D : Nat) (c : Code) (i : Nat) (W : World), w.heap.size ≤ W.heap.size → i < L.length → Ix c i W → W.heap[D]? = some (.deferred (some [])) → w.heap.size ≤ D → c.wpIn (FW none) n P Q { a with defers := { target := .collected D, args := #[] } :: a.defers } W) :
  (Code.rangeFunc g ps assign body).wpIn (FW none) n P Q a w := by
 refine wpIn_rangeFunc ?_
 intro fn hfn
 obtain ⟨rec, hrec⟩ : ∃ rec : LoopState → Option Code → Loop, rec = fun st pe => { state := st, pending := pe, fn, tmps := a.tmps, params := ps, assign, body, defers := w.heap.size } := ⟨_, rfl⟩
 obtain ⟨W1, hW1⟩ : ∃ W1, (w.alloc (.deferred (some []))).alloc (.loop (rec .ready none)) = W1 := ⟨_, rfl⟩
 have hb1w : Below w.heap.size w W1 := by rw [← hW1]; exact ((Below.refl _ w).alloc (Nat.le_refl _) _).alloc (by simp) _
 have hL1 : W1.heap[w.heap.size + 1]? = some (.loop (rec .ready none)) := by
  rw [← hW1]; have := World.alloc_heap_new (w.alloc (.deferred (some []))) (.loop (rec .ready none)); rwa [World.size_alloc] at this
 have hK1 : W1.heap[w.heap.size]? = some (.deferred (some [])) := by
  rw [← hW1]; exact (Below.heap_alloc _ _ _ (by simp)).trans (World.alloc_heap_new w _)
 have hsz1 : W1.heap.size = w.heap.size + 2 := by rw [← hW1]; simp
 have hI1 : I 0 W1 := hI 0 _ _ h0 (St.of_below hb1w)
 refine ⟨w.heap.size + 1, [{ target := .collected w.heap.size, args := #[] }], W1, { target := .fn (.func gf) lb, args := bs ++ #[.func (.yield (w.heap.size + 1)) #[] #[]] }, W1, gf,
  bs ++ #[.func (.yield (w.heap.size + 1)) #[] #[]] ++ lb, W1, ?_, ?_, fun _ _ => trivial, ?_, fun h => by simp at h, ?_⟩
 ·rw [← hW1, hrec]; exact run_enterLoop_outer _ _ _ _ _
 ·simp only [resolve, hg]
  simp [go_sem, Deferred.ofValue]
 ·simp only [invoke]; exact eg _ _
 have hcall := hG (.func (.yield (w.heap.size + 1)) #[] #[])
  (fun i W => I i W ∧ W.heap[w.heap.size + 1]? = some (.loop (rec .ready none)) ∧ W.heap[w.heap.size]? = some (.deferred (some [])))
  (fun i W => ∃ c, Ix c i W ∧ W.heap[w.heap.size + 1]? = some (.loop (rec .done (some c))) ∧ W.heap[w.heap.size]? = some (.deferred (some [])))
  W1 ⟨_, _, _, rfl⟩ (hb0.trans (hb1w.mono hn)) (by omega) (hPre _ hb1w)
  (fun i A B h hs => ⟨hI i A B h.1 (hs.mono (by omega)), hs.2 _ _ h.2.1 (fun h => by have := hwr _ h; omega) (.inl (by omega)), hs.2 _ _ h.2.2 (fun h => by have := hwr _ h; omega) (.inl (by omega))⟩)
  (fun i A B h hs => by
   obtain ⟨c, h1, h2, h3⟩ := h
   exact ⟨c, hIx c i A B h1 (hs.mono (by omega)), hs.2 _ _ h2 (fun h => by have := hwr _ h; omega) (.inl (by omega)), hs.2 _ _ h3 (fun h => by have := hwr _ h; omega) (.inl (by omega))⟩)
  ?_ ⟨hI1, hL1, hK1⟩
 ·refine (CallsIn.mono (callsIn_wide (n := n - 1).2 hcall) ?_ : CallsIn (FW none) (n - 1) P gf _ W1 _)
  rintro e W2 ⟨⟨v, rfl⟩, hsz, (⟨hi, hl, hk⟩ | ⟨i, hlt, c, hi, hl, hk⟩)⟩
  ·have hl' : w.heap.size + 1 < W2.heap.size := (Array.getElem?_eq_some_iff.1 hl).1
   refine ⟨none, _, by have := run_endLoop (P := P) hl (by rw [hrec]; simp); rw [hrec] at this; exact this, ?_⟩
   exact hdone _ _ (by simp; omega) (hI _ _ _ hi (St.putObj _ hl rfl (by omega))) ((World.putObj_heap_other (by omega)).trans hk) (Nat.le_refl _)
  have hl' : w.heap.size + 1 < W2.heap.size := (Array.getElem?_eq_some_iff.1 hl).1
  refine ⟨some c, _, by have := run_endLoop (P := P) hl (by rw [hrec]; simp); rw [hrec] at this; exact this, ?_⟩
  exact hstop _ c i _ (by simp; omega) hlt (hIx _ _ _ _ hi (St.putObj _ hl rfl (by omega))) ((World.putObj_heap_other (by omega)).trans hk) (Nat.le_refl _)
 ·
  rintro i x W hx ⟨hi, hl, hk⟩ hle
  refine VCall.of_yield (fun rd n' => ?_)
  have hlt : w.heap.size + 1 < W.heap.size := (Array.getElem?_eq_some_iff.1 hl).1
  have hy := run_yield (P := P) (args := encs x) hl (by rw [hrec]; exact hps x)
  rw [hrec] at hy
  refine ⟨fn, _, assign, body, hy, roundIn_of_wpIn (F := FW rd) trivial ?_⟩
  refine hassign n' (w.heap.size + 1) i x W _ hx hi (by omega) ?_
  intro a₁ Wa hba hax
  have hla : Wa.heap[w.heap.size + 1]? = some (.loop (rec .ready none)) := (hba.block _ hlt).trans hl
  have hka : Wa.heap[w.heap.size]? = some (.deferred (some [])) := (hba.block _ (by omega)).trans hk
  refine ⟨_, run_beginRound hla (by rw [hrec]), ?_⟩
  have hxl : ¬ own (w.heap.size + 1) := fun h => by have := hown _ h; omega
  have hl2 : (Wa.putObj (w.heap.size + 1) (.loop { rec .ready none with state := .busy })).heap[w.heap.size + 1]? = some (.loop { rec .ready none with state := .busy }) := World.putObj_heap_same (Array.getElem?_eq_some_iff.1 hla).1
  have hk2 : (Wa.putObj (w.heap.size + 1) (.loop { rec .ready none with state := .busy })).heap[w.heap.size]? = some (.deferred (some [])) := (World.putObj_heap_other (by omega)).trans hka
  have hst2 : St w.heap.size wr Wa (Wa.putObj (w.heap.size + 1) (.loop { rec .ready none with state := .busy })) := St.putObj _ hla rfl (by omega)
  have hsa : W.heap.size ≤ Wa.heap.size := hba.size
  have hkeep : ∀ o' : Obj, ∀ W3 : World, Keeps n₀ w.heap.size own ty (Wa.putObj (w.heap.size + 1) (.loop { rec .ready none with state := .busy })) W3 → Keeps n₀ W1.heap.size own ty W (W3.putObj (w.heap.size + 1) o') := by
   intro o' W3 h3
   have s1 : Keeps n₀ W1.heap.size own ty W Wa := Keeps.of_below hba
   have s2 : Keeps n₀ W1.heap.size own ty Wa (Wa.putObj (w.heap.size + 1) (.loop { rec .ready none with state := .busy })) := Keeps.putObj _ (by omega) (by omega) hxl
   have s4 : Keeps n₀ W1.heap.size own ty W3 (W3.putObj (w.heap.size + 1) o') := Keeps.putObj _ (by omega) (by omega) hxl
   exact s1.trans (s2.trans (Keeps.trans ⟨h3.1, fun k o hk ho => h3.2 k o hk (ho.imp id (Or.imp id (And.imp (fun h => by omega) id)))⟩ s4))
  refine wpIn_mono (hbody n' (w.heap.size + 1) i x a₁ _ hx (hI _ _ _ (hI _ _ _ hi (St.of_below hba)) hst2) (hAx _ _ _ _ hax hst2) (by simp; omega)) ?_
  have fin : ∀ (jump : Option Code) (W3 : World), Keeps n₀ w.heap.size own ty (Wa.putObj (w.heap.size + 1) (.loop { rec .ready none with state := .busy })) W3 →
    (Instr.endRound (w.heap.size + 1) jump).run P W3 = .ok (.bool jump.isNone) (W3.putObj (w.heap.size + 1) (.loop (rec (if jump.isNone then .ready else .done) jump))) ∧
    W3.heap[w.heap.size + 1]? = some (.loop { rec .ready none with state := .busy }) ∧
    (W3.putObj (w.heap.size + 1) (.loop (rec (if jump.isNone then .ready else .done) jump))).heap[w.heap.size + 1]? = some (.loop (rec (if jump.isNone then .ready else .done) jump)) ∧
    (W3.putObj (w.heap.size + 1) (.loop (rec (if jump.isNone then .ready else .done) jump))).heap[w.heap.size]? = some (.deferred (some [])) := fun jump W3 hk3 => by
   have hl3 := hk3.2 _ _ hl2 (.inr (.inr ⟨by omega, by intro _ _ _ e; cases e⟩))
   have hd3 := hk3.2 _ _ hk2 (.inr (.inr ⟨by omega, by intro _ _ _ e; cases e⟩))
   have := run_endRound (P := P) jump hl3
   rw [hrec] at this ⊢
   exact ⟨this, by rw [hrec] at hl3; exact hl3, World.putObj_heap_same (Array.getElem?_eq_some_iff.1 hl3).1, (World.putObj_heap_other (by omega)).trans hd3⟩
  rintro e a3 W3 hp
  cases e with
  | normal =>
   obtain ⟨hk3, hi3⟩ := hp
   obtain ⟨hr, hl3, hl4, hk4⟩ := fin none W3 hk3
   exact ⟨_, _, hr, _, rfl, .inl ⟨rfl, ⟨hI _ _ _ hi3 (St.putObj _ hl3 rfl (by omega)), hl4, hk4⟩, hkeep _ _ hk3⟩⟩
  | ret =>
   obtain ⟨hk3, hi3⟩ := hp
   obtain ⟨hr, hl3, hl4, hk4⟩ := fin (some .ret) W3 hk3
   exact ⟨_, _, hr, _, rfl, .inr ⟨rfl, ⟨.ret, hIx _ _ _ _ hi3 (St.putObj _ hl3 rfl (by omega)), hl4, hk4⟩, hkeep _ _ hk3⟩⟩
  | exit id =>
   obtain ⟨hk3, hi3⟩ := hp
   obtain ⟨hr, hl3, hl4, hk4⟩ := fin (some (.exit id)) W3 hk3
   exact ⟨_, _, hr, _, rfl, .inr ⟨rfl, ⟨.exit id, hIx _ _ _ _ hi3 (St.putObj _ hl3 rfl (by omega)), hl4, hk4⟩, hkeep _ _ hk3⟩⟩
  | goto t =>
   obtain ⟨hk3, hi3⟩ := hp
   obtain ⟨hr, hl3, hl4, hk4⟩ := fin (some (.goto t)) W3 hk3
   exact ⟨_, _, hr, _, rfl, .inr ⟨rfl, ⟨.goto t, hIx _ _ _ _ hi3 (St.putObj _ hl3 rfl (by omega)), hl4, hk4⟩, hkeep _ _ hk3⟩⟩
  | panic ch => exact hp.elim
  | outgrown => exact hp.elim
theorem leavesM1 {F : Fence} {n : Nat} {P : Program} {fn : Func} {tmps : Array Value} {R : Ending → World → Prop} {w : World} {v : Value} {D : Nat} (hD : w.heap[D]? = some (.deferred (some [])))
  (hr : (results fn tmps).run P (w.putObj D (.deferred none)) = .ok v (w.putObj D (.deferred none))) (h : R (.returned v) (w.putObj D (.deferred none))) :
  LeavesInM F n P fn tmps R [{ target := .collected D, args := #[] }] .returning w := ⟨by simp, .inl ⟨_, _, rfl, run_takeDeferred hD, ⟨v, hr, h⟩⟩⟩
theorem leavesM2 {F : Fence} {n : Nat} {P : Program} {fn : Func} {tmps : Array Value} {R : Ending → World → Prop} {w : World} {v : Value} {D E : Nat} (hD : w.heap[D]? = some (.deferred (some []))) (hE : w.heap[E]? = some (.deferred (some []))) (hne : E ≠ D)
  (hr : (results fn tmps).run P ((w.putObj D (.deferred none)).putObj E (.deferred none)) = .ok v ((w.putObj D (.deferred none)).putObj E (.deferred none))) (h : R (.returned v) ((w.putObj D (.deferred none)).putObj E (.deferred none))) :
  LeavesInM F n P fn tmps R [{ target := .collected D, args := #[] }, { target := .collected E, args := #[] }] .returning w :=
 ⟨by simp, .inl ⟨_, _, rfl, run_takeDeferred hD, leavesM1 ((World.putObj_heap_other hne).trans hE) hr h⟩⟩
end Go.Proofs.YtjgocihflhljeaaGreat.P
namespace Go.Proofs.YtjgocihflhljeaaGreat.P
open Go.RowKit Go.Shelf Go.Proofs.YtjgocihflhljeaaGreatW.PrintWords Go.Proofs.YtjgocihflhljeaaGreatW.PrintLast Go.Proofs.YtjgocihflhljeaaGreatW.PrintMore
theorem getD_get {α : Type} (xs : List α) (z : α) (k : Nat) (h : k < xs.length) : xs.getD k z = xs[k] := by simp [List.getD, List.getElem?_eq_getElem h]
def fidx {α : Type} (p : α → Bool) (xs : List α) : Int := if xs.any p then (xs.findIdx p : Int) else -1
theorem fidx_hit {α : Type} (p : α → Bool) (xs : List α) (z : α) (k : Nat) (hk : k < xs.length) (h : p (xs.getD k z) = true) (hn : ∀ j, j < k → p (xs.getD j z) = false) : fidx p xs = (k : Int) := by
 have e : xs.findIdx p = k := by
  rw [List.findIdx_eq hk]
  refine ⟨by rw [← getD_get xs z k hk]; exact h, fun j hj => ?_⟩
  have := hn j hj
  rw [getD_get xs z j (by omega)] at this
  exact this
 have a : xs.any p = true := by
  rw [List.any_eq_true]
  exact ⟨xs[k], List.getElem_mem hk, by rw [← getD_get xs z k hk]; exact h⟩
 unfold fidx
 rw [a, e]; rfl
theorem fidx_miss {α : Type} (p : α → Bool) (xs : List α) (z : α) (hn : ∀ j, j < xs.length → p (xs.getD j z) = false) : fidx p xs = -1 := by
 have a : xs.any p = false := by
  rw [List.any_eq_false]
  intro x hx
  obtain ⟨i, hi, rfl⟩ := List.getElem_of_mem hx
  have := hn i hi
  rw [getD_get xs z i hi] at this
  simp [this]
 unfold fidx
 rw [a]; rfl
theorem fidx_nonneg {α : Type} (p : α → Bool) (xs : List α) : decide (0 ≤ fidx p xs) = xs.any p := by
 unfold fidx
 cases xs.any p <;> simp
def isBaseB (n : Int) : Bool := decide (1 ≤ n) && decide (n ≤ 64)
def isTypeB (x : S68) : Bool := isBaseB x.f1.f1 && !(x.f0.any fun b => !isBaseB b.f1) && (decide (x.f0.length = 0) || !x.f1.f0)
theorem isBase_any (b : Bool) (n : Int) (w : World) :
  Calls Tryz.prog 119 #[.agg #[.bool b, .int .i64 n]] w fun e w' => e = .returned (.bool (isBaseB n)) ∧ Below w.heap.size w w' := by
 by_cases h1 : 1 ≤ n
 ·have g1 : decide (1 ≤ n) = true := decide_eq_true h1
  by_cases h2 : n ≤ 64
  ·have g2 : decide (n ≤ 64) = true := decide_eq_true h2
   go_enter Tryz.func119, Tryz.ntmps119
   go_wp2
   go_ret
   exact ⟨by simp [isBaseB, g1, g2], (Below.refl _ w).alloc (Nat.le_refl _) _⟩
  have g2 : decide (n ≤ 64) = false := decide_eq_false h2
  go_enter Tryz.func119, Tryz.ntmps119
  go_wp2
  go_ret
  exact ⟨by simp [isBaseB, g1, g2], (Below.refl _ w).alloc (Nat.le_refl _) _⟩
 have g1 : decide (1 ≤ n) = false := decide_eq_false h1
 go_enter Tryz.func119, Tryz.ntmps119
 go_wp2
 go_ret
 exact ⟨by simp [isBaseB, g1], (Below.refl _ w).alloc (Nat.le_refl _) _⟩
set_option maxHeartbeats 2000000 in
theorem IndexFuncT_any (A : Option Addr) (c : Nat) (xs : List S68) (g : Nat) (lb : Array Value) (eg : ∀ args w, (callFunc g args).run Tryz.prog w = .ok (.enter g args) w) (p : S68 → Bool) (w : World)
  (hr : Kd.C k68 w A xs.length xs) (hbig : xs.length ≤ 9223372036854775807)
  (hp : ∀ (W : World) (x : S68) (A0 : Option Addr) (c0 : Nat), x ∈ xs → Below w.heap.size w W → x.f0.length ≤ c0 → k24.C w A0 x.f0.length x.f0 → Calls Tryz.prog g (#[.agg #[.slice A0 x.f0.length c0, .bool x.f1.f0, .int .i64 x.f1.f1]] ++ lb) W fun e w' => e = .returned (.bool (p x)) ∧ Below w.heap.size w w') :
  Calls Tryz.prog 139 #[.slice A xs.length c, .func (.func g) #[] lb] w fun e w' => e = .returned (.int .i64 (fidx p xs)) ∧ Below w.heap.size w w' := by
 have HR := am hr
 have HP := am hp
 clear hr hp
 go_enter Tryz.func139, Tryz.ntmps139
 go_wp2
 go_loopg [5, 8] xs.length (fun gg _ s8 wr => ∃ kk : Nat, kk ≤ xs.length ∧ xs.length - kk ≤ gg ∧ s8 = .int .i64 kk ∧ Aside0 (Below w.heap.size w wr) ∧ Aside0 (∀ j, j < kk → p (xs.getD j z68) = false))
 case atStart => exact ⟨0, Nat.zero_le _, by omega, rfl, ⟨Below.refl _ w⟩, ⟨fun j hj => absurd hj (Nat.not_lt_zero _)⟩⟩
 case round =>
  obtain ⟨kk, hkk, hg, rfl, BW, NN⟩ := hrel
  by_cases hlt : kk < xs.length
  ·have hltz : (kk : Int) < (xs.length : Int) := by omega
   obtain ⟨ad, A0, c0, e0, hx0, hx1, hx2, hl, hi⟩ := at_T68 HR.out (kk : Int) (by omega) hltz
   cases e0
   rw [Int.toNat_natCast] at hx0 hx1 hx2
   have cb : decide ((kk : Int) < (xs.length : Int)) = true := decide_eq_true hltz
   replace hx0 := (BW.out.cell (World.block_lt_of_cell? w _ hx0)).trans hx0
   replace hx1 := (BW.out.cell (World.block_lt_of_cell? w _ hx1)).trans hx1
   replace hx2 := (BW.out.cell (World.block_lt_of_cell? w _ hx2)).trans hx2
   have hcall := HP.out wr (rd_T68 xs kk) A0 c0 (by have := getD_get xs z68 kk hlt; simp only [rd_T68, Int.toNat_natCast]; rw [this]; exact List.getElem_mem hlt) BW.out hl hi
   have HQ : Aside0 (xs.getD kk z68 = rd_T68 xs (kk : Int)) := ⟨by simp [rd_T68]⟩
   generalize rd_T68 xs (kk : Int) = y at *
   have HL := am hl
   have HI := am hi
   clear hl hi
   cases hq : p y with
   | true =>
    rw [hq] at hcall
    go_wp2_with (go_at_fn g; refine hcall.mono ?_; rintro e w' ⟨rfl, hb'⟩)
    go_ret
    refine ⟨?_, hb'⟩
    rw [fidx_hit p xs z68 kk hlt (by rw [HQ.out]; exact hq) NN.out]; rfl
   | false =>
    rw [hq] at hcall
    go_wp2_with (go_at_fn g; refine hcall.mono ?_; rintro e w' ⟨rfl, hb'⟩)
    go_roundg (xs.length - (kk + 1))
    case measure => omega
    case rel =>
     refine ⟨kk + 1, by omega, by omega, by go_num, ⟨hb'⟩, ⟨fun j hj => ?_⟩⟩
     by_cases e : j = kk
     ·subst e
      rw [HQ.out]; exact hq
     exact NN.out j (by omega)
  have cb : decide ((kk : Int) < (xs.length : Int)) = false := decide_eq_false (by omega)
  have cb2 : decide (kk < xs.length) = false := decide_eq_false hlt
  go_wp2
  go_ret
  refine ⟨?_, BW.out⟩
  rw [fidx_miss p xs z68 (fun j hj => NN.out j (by omega))]; rfl
set_option maxHeartbeats 2000000 in
theorem IndexFuncB_any (A : Option Addr) (c : Nat) (xs : List S24) (g : Nat) (lb : Array Value) (eg : ∀ args w, (callFunc g args).run Tryz.prog w = .ok (.enter g args) w) (p : S24 → Bool) (w : World)
  (hr : Kd.C k24 w A xs.length xs) (hbig : xs.length ≤ 9223372036854775807)
  (hp : ∀ (W : World) (x : S24), Below w.heap.size w W → Calls Tryz.prog g (#[.agg #[.bool x.f0, .int .i64 x.f1]] ++ lb) W fun e w' => e = .returned (.bool (p x)) ∧ Below w.heap.size w w') :
  Calls Tryz.prog 146 #[.slice A xs.length c, .func (.func g) #[] lb] w fun e w' => e = .returned (.int .i64 (fidx p xs)) ∧ Below w.heap.size w w' := by
 have HR := am hr
 have HP := am hp
 clear hr hp
 go_enter Tryz.func146, Tryz.ntmps146
 go_wp2
 go_loopg [5, 8] xs.length (fun gg _ s8 wr => ∃ kk : Nat, kk ≤ xs.length ∧ xs.length - kk ≤ gg ∧ s8 = .int .i64 kk ∧ Aside0 (Below w.heap.size w wr) ∧ Aside0 (∀ j, j < kk → p (xs.getD j z24) = false))
 case atStart => exact ⟨0, Nat.zero_le _, by omega, rfl, ⟨Below.refl _ w⟩, ⟨fun j hj => absurd hj (Nat.not_lt_zero _)⟩⟩
 case round =>
  obtain ⟨kk, hkk, hg, rfl, BW, NN⟩ := hrel
  by_cases hlt : kk < xs.length
  ·have hltz : (kk : Int) < (xs.length : Int) := by omega
   obtain ⟨ad, e0, hx0, hx1⟩ := at_T24 HR.out (kk : Int) (by omega) hltz
   cases e0
   rw [Int.toNat_natCast] at hx0 hx1
   have cb : decide ((kk : Int) < (xs.length : Int)) = true := decide_eq_true hltz
   replace hx0 := (BW.out.cell (World.block_lt_of_cell? w _ hx0)).trans hx0
   replace hx1 := (BW.out.cell (World.block_lt_of_cell? w _ hx1)).trans hx1
   have hcall := HP.out wr (rd_T24 xs kk) BW.out
   have HQ : Aside0 (xs.getD kk z24 = rd_T24 xs (kk : Int)) := ⟨by simp [rd_T24]⟩
   generalize rd_T24 xs (kk : Int) = y at *
   cases hq : p y with
   | true =>
    rw [hq] at hcall
    go_wp2_with (go_at_fn g; refine hcall.mono ?_; rintro e w' ⟨rfl, hb'⟩)
    go_ret
    refine ⟨?_, hb'⟩
    rw [fidx_hit p xs z24 kk hlt (by rw [HQ.out]; exact hq) NN.out]; rfl
   | false =>
    rw [hq] at hcall
    go_wp2_with (go_at_fn g; refine hcall.mono ?_; rintro e w' ⟨rfl, hb'⟩)
    go_roundg (xs.length - (kk + 1))
    case measure => omega
    case rel =>
     refine ⟨kk + 1, by omega, by omega, by go_num, ⟨hb'⟩, ⟨fun j hj => ?_⟩⟩
     by_cases e : j = kk
     ·subst e
      rw [HQ.out]; exact hq
     exact NN.out j (by omega)
  have cb : decide ((kk : Int) < (xs.length : Int)) = false := decide_eq_false (by omega)
  have cb2 : decide (kk < xs.length) = false := decide_eq_false hlt
  go_wp2
  go_ret
  refine ⟨?_, BW.out⟩
  rw [fidx_miss p xs z24 (fun j hj => NN.out j (by omega))]; rfl
theorem ContainsFuncT_any (A : Option Addr) (c : Nat) (xs : List S68) (g : Nat) (lb : Array Value) (eg : ∀ args w, (callFunc g args).run Tryz.prog w = .ok (.enter g args) w) (p : S68 → Bool) (w : World)
  (hr : Kd.C k68 w A xs.length xs) (hbig : xs.length ≤ 9223372036854775807)
  (hp : ∀ (W : World) (x : S68) (A0 : Option Addr) (c0 : Nat), x ∈ xs → Below w.heap.size w W → x.f0.length ≤ c0 → k24.C w A0 x.f0.length x.f0 → Calls Tryz.prog g (#[.agg #[.slice A0 x.f0.length c0, .bool x.f1.f0, .int .i64 x.f1.f1]] ++ lb) W fun e w' => e = .returned (.bool (p x)) ∧ Below w.heap.size w w') :
  Calls Tryz.prog 118 #[.slice A xs.length c, .func (.func g) #[] lb] w fun e w' => e = .returned (.bool (xs.any p)) ∧ Below w.heap.size w w' := by
 rw [← fidx_nonneg p xs]
 have hcall := IndexFuncT_any A c xs g lb eg p w hr hbig hp
 clear hr hp
 go_enter Tryz.func118, Tryz.ntmps118
 go_wp2_with (go_at_call 139; refine hcall.mono ?_; rintro e w' ⟨rfl, hb'⟩)
 go_ret
 exact ⟨rfl, hb'⟩
theorem ContainsFuncB_any (A : Option Addr) (c : Nat) (xs : List S24) (g : Nat) (lb : Array Value) (eg : ∀ args w, (callFunc g args).run Tryz.prog w = .ok (.enter g args) w) (p : S24 → Bool) (w : World)
  (hr : Kd.C k24 w A xs.length xs) (hbig : xs.length ≤ 9223372036854775807)
  (hp : ∀ (W : World) (x : S24), Below w.heap.size w W → Calls Tryz.prog g (#[.agg #[.bool x.f0, .int .i64 x.f1]] ++ lb) W fun e w' => e = .returned (.bool (p x)) ∧ Below w.heap.size w w') :
  Calls Tryz.prog 138 #[.slice A xs.length c, .func (.func g) #[] lb] w fun e w' => e = .returned (.bool (xs.any p)) ∧ Below w.heap.size w w' := by
 rw [← fidx_nonneg p xs]
 have hcall := IndexFuncB_any A c xs g lb eg p w hr hbig hp
 clear hr hp
 go_enter Tryz.func138, Tryz.ntmps138
 go_wp2_with (go_at_call 146; refine hcall.mono ?_; rintro e w' ⟨rfl, hb'⟩)
 go_ret
 exact ⟨rfl, hb'⟩
theorem isType1_any (b : Bool) (n : Int) (w : World) :
  Calls Tryz.prog 137 #[.agg #[.bool b, .int .i64 n]] w fun e w' => e = .returned (.bool (!isBaseB n)) ∧ Below w.heap.size w w' := by
 go_enter Tryz.func137, Tryz.ntmps137
 go_wp2_with (go_at_call 119; refine (isBase_any _ _ _).mono ?_; rintro e w' ⟨rfl, hb'⟩)
 go_ret
 exact ⟨rfl, (((Below.refl _ w).alloc (Nat.le_refl _) _).trans (hb'.mono (by simp)))⟩
theorem enters_isType1 : ∀ args w, (callFunc 137 args).run Tryz.prog w = .ok (.enter 137 args) w := enters_of Tryz.func137 (by kernel_rfl) rfl
theorem bcell {W w1 : World} (hb : Below W.heap.size W w1) : (∀ b o, b < W.heap.size → w1.cell? ⟨b, o, none⟩ = W.cell? ⟨b, o, none⟩) ∧ (∀ b o, b < W.heap.size → w1.frozen? ⟨b, o, none⟩ = W.frozen? ⟨b, o, none⟩) :=
 ⟨fun b o h => hb.cell (p := ⟨b, o, none⟩) h, fun b o h => hb.frozen (p := ⟨b, o, none⟩) h⟩
set_option maxHeartbeats 1000000 in
theorem isType_any (A : Option Addr) (c : Nat) (x : S68) (w : World) (hr : Kd.C k24 w A x.f0.length x.f0) (hbig : x.f0.length ≤ 9223372036854775807) :
  Calls Tryz.prog 117 #[.agg #[.slice A x.f0.length c, .bool x.f1.f0, .int .i64 x.f1.f1]] w fun e w' => e = .returned (.bool (isTypeB x)) ∧ Below w.heap.size w w' := by
 have HR := am hr
 clear hr
 have hb0 := (Below.refl _ w).alloc (Nat.le_refl _) (.cells #[.slice A x.f0.length c, .bool x.f1.f0, .int .i64 x.f1.f1] 68)
 have BB := am hb0
 clear hb0
 cases h1 : isBaseB x.f1.f1 with
 | false =>
  have hcall := isBase_any x.f1.f0 x.f1.f1 (w.alloc (.cells #[.slice A x.f0.length c, .bool x.f1.f0, .int .i64 x.f1.f1] 68))
  rw [h1] at hcall
  have H1 := am h1
  clear h1
  go_enter Tryz.func117, Tryz.ntmps117
  go_wp2_with (go_at_call 119; refine hcall.mono ?_; rintro e w' ⟨rfl, hb'⟩)
  go_ret
  exact ⟨by simp [isTypeB, H1.out], BB.out.trans (hb'.mono (by simp))⟩
 | true =>
  have hcall := isBase_any x.f1.f0 x.f1.f1 (w.alloc (.cells #[.slice A x.f0.length c, .bool x.f1.f0, .int .i64 x.f1.f1] 68))
  rw [h1] at hcall
  have H1 := am h1
  clear h1
  cases h2 : x.f0.any fun b => !isBaseB b.f1 with
  | true =>
   have H2 := am h2
   clear h2
   go_enter Tryz.func117, Tryz.ntmps117
   go_wp2_with (first | (go_at_call 119; refine hcall.mono ?_; rintro e w1 ⟨rfl, hb1⟩; have C1 := am (Kd.C_below HR.out (BB.out.trans (hb1.mono (by simp)))); obtain ⟨hc, hf⟩ := bcell hb1; have hz : w.heap.size < w1.heap.size := by have := hb1.size; simp at this; omega) | (go_at_call 138; refine (ContainsFuncB_any A c x.f0 137 #[] enters_isType1 (fun b => !isBaseB b.f1) _ C1.out hbig (fun W y hb => (isType1_any _ _ _).mono (fun e w' h => ⟨h.1, hb.trans (h.2.mono hb.size)⟩))).mono ?_; rw [H2.out]; rintro e w2 ⟨rfl, hb2⟩; obtain ⟨hc2, hf2⟩ := bcell hb2))
   go_ret
   exact ⟨by simp [isTypeB, H1.out, H2.out], BB.out.trans ((hb1.mono (by simp)).trans (hb2.mono (by omega)))⟩
  | false =>
   have H2 := am h2
   clear h2
   by_cases h3 : x.f0.length = 0
   ·have h3b : ((x.f0.length : Int) == 0) = true := by simpa using h3
    have H3 := am h3
    clear h3
    go_enter Tryz.func117, Tryz.ntmps117
    go_wp2_with (first | (go_at_call 119; refine hcall.mono ?_; rintro e w1 ⟨rfl, hb1⟩; have C1 := am (Kd.C_below HR.out (BB.out.trans (hb1.mono (by simp)))); obtain ⟨hc, hf⟩ := bcell hb1; have hz : w.heap.size < w1.heap.size := by have := hb1.size; simp at this; omega) | (go_at_call 138; refine (ContainsFuncB_any A c x.f0 137 #[] enters_isType1 (fun b => !isBaseB b.f1) _ C1.out hbig (fun W y hb => (isType1_any _ _ _).mono (fun e w' h => ⟨h.1, hb.trans (h.2.mono hb.size)⟩))).mono ?_; rw [H2.out]; rintro e w2 ⟨rfl, hb2⟩; obtain ⟨hc2, hf2⟩ := bcell hb2))
    go_ret
    exact ⟨by simp [isTypeB, H1.out, H2.out, H3.out], BB.out.trans ((hb1.mono (by simp)).trans (hb2.mono (by omega)))⟩
   have h3b : ((x.f0.length : Int) == 0) = false := by simpa using h3
   have H3 := am h3
   clear h3
   go_enter Tryz.func117, Tryz.ntmps117
   go_wp2_with (first | (go_at_call 119; refine hcall.mono ?_; rintro e w1 ⟨rfl, hb1⟩; have C1 := am (Kd.C_below HR.out (BB.out.trans (hb1.mono (by simp)))); obtain ⟨hc, hf⟩ := bcell hb1; have hz : w.heap.size < w1.heap.size := by have := hb1.size; simp at this; omega) | (go_at_call 138; refine (ContainsFuncB_any A c x.f0 137 #[] enters_isType1 (fun b => !isBaseB b.f1) _ C1.out hbig (fun W y hb => (isType1_any _ _ _).mono (fun e w' h => ⟨h.1, hb.trans (h.2.mono hb.size)⟩))).mono ?_; rw [H2.out]; rintro e w2 ⟨rfl, hb2⟩; obtain ⟨hc2, hf2⟩ := bcell hb2))
   go_ret
   exact ⟨by simp [isTypeB, H1.out, H2.out, H3.out], BB.out.trans ((hb1.mono (by simp)).trans (hb2.mono (by omega)))⟩
def longB (x : S68) : Bool := decide (5 < x.f0.length)
def checkE (ids : List S68) (n : Int) : Int :=
 if 8 < ids.length ∨ ids.any longB = true then 5 else if isBaseB n = false ∨ (ids.any fun x => !isTypeB x) = true then 4 else 0
theorem Check1_any (A : Option Addr) (c : Nat) (x : S68) (w : World) :
  Calls Tryz.prog 115 #[.agg #[.slice A x.f0.length c, .bool x.f1.f0, .int .i64 x.f1.f1]] w fun e w' => e = .returned (.bool (longB x)) ∧ Below w.heap.size w w' := by
 have hb0 := am ((Below.refl _ w).alloc (Nat.le_refl _) (.cells #[.slice A x.f0.length c, .bool x.f1.f0, .int .i64 x.f1.f1] 68))
 by_cases h : 5 < x.f0.length
 ·have h1 : decide (5 < x.f0.length) = true := decide_eq_true h
  have h2 : decide (5 < (x.f0.length : Int)) = true := decide_eq_true (by omega)
  go_enter Tryz.func115, Tryz.ntmps115
  go_wp2
  go_ret
  exact ⟨by simp [longB, h], hb0.out⟩
 have h1 : decide (5 < x.f0.length) = false := decide_eq_false h
 have h2 : decide (5 < (x.f0.length : Int)) = false := decide_eq_false (by omega)
 go_enter Tryz.func115, Tryz.ntmps115
 go_wp2
 go_ret
 exact ⟨by simp [longB, h], hb0.out⟩
theorem Check2_any (A : Option Addr) (c : Nat) (x : S68) (w : World) (hr : Kd.C k24 w A x.f0.length x.f0) (hbig : x.f0.length ≤ 9223372036854775807) :
  Calls Tryz.prog 116 #[.agg #[.slice A x.f0.length c, .bool x.f1.f0, .int .i64 x.f1.f1]] w fun e w' => e = .returned (.bool (!isTypeB x)) ∧ Below w.heap.size w w' := by
 have BB := am ((Below.refl _ w).alloc (Nat.le_refl _) (.cells #[.slice A x.f0.length c, .bool x.f1.f0, .int .i64 x.f1.f1] 68))
 have HR := am (Kd.C_below hr BB.out)
 clear hr
 go_enter Tryz.func116, Tryz.ntmps116
 go_wp2_with (go_at_call 117; refine (isType_any A c x _ HR.out hbig).mono ?_; rintro e w1 ⟨rfl, hb1⟩)
 go_ret
 exact ⟨rfl, BB.out.trans (hb1.mono (by simp))⟩
theorem enters_Check1 : ∀ args w, (callFunc 115 args).run Tryz.prog w = .ok (.enter 115 args) w := enters_of Tryz.func115 (by kernel_rfl) rfl
theorem enters_Check2 : ∀ args w, (callFunc 116 args).run Tryz.prog w = .ok (.enter 116 args) w := enters_of Tryz.func116 (by kernel_rfl) rfl
theorem notLong {xs : List S68} (h : xs.any longB = false) {x : S68} (hx : x ∈ xs) : x.f0.length ≤ 5 := by
 have := List.any_eq_false.1 h x hx
 simp [longB] at this
 omega
set_option maxHeartbeats 2000000 in
theorem Check_any (A : Option Addr) (c : Nat) (ids : List S68) (b : Bool) (n : Int) (j : Bool) (w : World) (hr : Kd.C k68 w A ids.length ids) :
  Calls Tryz.prog 92 #[.agg #[.slice A ids.length c, .bool b, .int .i64 n, .bool j]] w fun e w' => e = .returned (.int .i64 (checkE ids n)) ∧ Below w.heap.size w w' := by
 have BB := am ((Below.refl _ w).alloc (Nat.le_refl _) (.cells #[.slice A ids.length c, .bool b, .int .i64 n, .bool j] 26))
 have HR := am (Kd.C_below hr BB.out)
 clear hr
 by_cases h1 : 8 < ids.length
 ·have g1 : decide (8 < ids.length) = true := decide_eq_true h1
  have g2 : decide (8 < (ids.length : Int)) = true := decide_eq_true (by omega)
  go_enter Tryz.func92, Tryz.ntmps92
  go_wp2
  go_ret
  exact ⟨by simp [checkE, h1], BB.out⟩
 have g1 : decide (8 < ids.length) = false := decide_eq_false h1
 have g2 : decide (8 < (ids.length : Int)) = false := decide_eq_false (by omega)
 have H1 := am h1
 have hbig : ids.length ≤ 9223372036854775807 := by omega
 clear h1
 have call1 := ContainsFuncT_any A c ids 115 #[] enters_Check1 longB (w.alloc (.cells #[.slice A ids.length c, .bool b, .int .i64 n, .bool j] 26)) HR.out hbig (fun W y A0 c0 _ hb _ _ => (Check1_any A0 c0 y W).mono (fun e w' h => ⟨h.1, hb.trans (h.2.mono hb.size)⟩))
 cases h2 : ids.any longB with
 | true =>
  rw [h2] at call1
  have H2 := am h2
  clear h2
  go_enter Tryz.func92, Tryz.ntmps92
  go_wp2_with (go_at_call 118; refine call1.mono ?_; rintro e w1 ⟨rfl, hb1⟩)
  go_ret
  exact ⟨by simp [checkE, H2.out], BB.out.trans (hb1.mono (by simp))⟩
 | false =>
  rw [h2] at call1
  have H2 := am h2
  clear h2
  cases h3 : isBaseB n with
  | false =>
   have H3 := am h3
   clear h3
   go_enter Tryz.func92, Tryz.ntmps92
   go_wp2_with (first | (go_at_call 118; refine call1.mono ?_; rintro e w1 ⟨rfl, hb1⟩; obtain ⟨hc, hf⟩ := bcell hb1; have hz : w.heap.size < w1.heap.size := by have := hb1.size; simp at this; omega) | (go_at_call 119; refine (isBase_any _ _ _).mono ?_; rw [H3.out]; rintro e w2 ⟨rfl, hb2⟩; obtain ⟨hc2, hf2⟩ := bcell hb2))
   go_ret
   exact ⟨by have h8 := H1.out; simp [checkE, H2.out, H3.out, h8], BB.out.trans ((hb1.mono (by simp)).trans (hb2.mono (by omega)))⟩
  | true =>
   have H3 := am h3
   clear h3
   have call2 := fun W (hb : Below w.heap.size w W) (hr : Kd.C k68 W A ids.length ids) => ContainsFuncT_any A c ids 116 #[] enters_Check2 (fun x => !isTypeB x) W hr hbig (fun W' y A0 c0 hy hb hl hi => (Check2_any A0 c0 y W' (Kd.C_below hi hb) (by have := notLong H2.out hy; omega)).mono (fun e w' h => ⟨h.1, hb.trans (h.2.mono hb.size)⟩))
   cases h4 : (ids.any fun x => !isTypeB x) with
   | true =>
    have H4 := am h4
    clear h4
    go_enter Tryz.func92, Tryz.ntmps92
    go_wp2_with (first | (go_at_call 118; refine call1.mono ?_; clear call1; rintro e w1 ⟨rfl, hb1⟩; obtain ⟨hc, hf⟩ := bcell hb1; have hz : w.heap.size < w1.heap.size := by have := hb1.size; simp at this; omega) | (go_at_call 119; refine (isBase_any _ _ _).mono ?_; rw [H3.out]; rintro e w2 ⟨rfl, hb2⟩; obtain ⟨hc2, hf2⟩ := bcell hb2; have hz2 : w.heap.size < w2.heap.size := by have := hb2.size; omega) | (go_at_call 118; refine (call2 _ (BB.out.trans ((hb1.mono (by simp)).trans (hb2.mono (by omega)))) (Kd.C_below (Kd.C_below HR.out hb1) hb2)).mono ?_; rw [H4.out]; rintro e w3 ⟨rfl, hb3⟩))
    go_ret
    exact ⟨by have h8 := H1.out; simp [checkE, H2.out, H3.out, H4.out, h8], BB.out.trans ((hb1.mono (by simp)).trans ((hb2.mono (by omega)).trans (hb3.mono (by omega))))⟩
   | false =>
    have H4 := am h4
    clear h4
    go_enter Tryz.func92, Tryz.ntmps92
    go_wp2_with (first | (go_at_call 118; refine call1.mono ?_; clear call1; rintro e w1 ⟨rfl, hb1⟩; obtain ⟨hc, hf⟩ := bcell hb1; have hz : w.heap.size < w1.heap.size := by have := hb1.size; simp at this; omega) | (go_at_call 119; refine (isBase_any _ _ _).mono ?_; rw [H3.out]; rintro e w2 ⟨rfl, hb2⟩; obtain ⟨hc2, hf2⟩ := bcell hb2; have hz2 : w.heap.size < w2.heap.size := by have := hb2.size; omega) | (go_at_call 118; refine (call2 _ (BB.out.trans ((hb1.mono (by simp)).trans (hb2.mono (by omega)))) (Kd.C_below (Kd.C_below HR.out hb1) hb2)).mono ?_; rw [H4.out]; rintro e w3 ⟨rfl, hb3⟩))
    go_ret
    exact ⟨by have h8 := H1.out; simp [checkE, H2.out, H3.out, H4.out, h8], BB.out.trans ((hb1.mono (by simp)).trans ((hb2.mono (by omega)).trans (hb3.mono (by omega))))⟩
end Go.Proofs.YtjgocihflhljeaaGreat.P
namespace Go.Proofs.YtjgocihflhljeaaGreat.P
open Go.RowKit Go.Shelf Go.Proofs.YtjgocihflhljeaaGreatW.PrintWords Go.Proofs.YtjgocihflhljeaaGreatW.PrintLast Go.Proofs.YtjgocihflhljeaaGreatW.PrintMore
attribute [local go_sem] Oper.semAt_some
structure Spot where
 id : Int
 arg : Int
 cell : Bool
 n : Int
 esc : Bool
def Spot.val (p : Spot) : Value := .agg #[.int .i64 p.id, .int .i64 p.arg, .bool p.cell, .int .i64 p.n, .bool p.esc]
def mval (m : S52) : Value := .agg #[.int .i64 m.f0, .int .i64 m.f1, .int .u8 m.f2, .int .i64 m.f3]
def Spot.ask (p : Spot) : S52 := ⟨p.id, p.arg, 1, 0⟩
def Spot.put (p : Spot) (n : Int) : S52 := ⟨p.id, p.arg, 2, n⟩
def Spot.tell (p : Spot) (n : Int) : S52 := ⟨p.id, p.arg, 3, n⟩
theorem ask_any (p : Spot) (w : World) : Calls Tryz.prog 148 #[.agg #[.int .i64 p.id, .int .i64 p.arg, .bool p.cell, .int .i64 p.n, .bool p.esc]] w fun e w' => e = .returned (.agg #[.int .i64 p.id, .int .i64 p.arg, .int .u8 1, .int .i64 0]) ∧ Below w.heap.size w w' := by
 go_enter Tryz.func148, Tryz.ntmps148
 go_wp2
 exact bodyPost_ret (v := .agg #[.int .i64 p.id, .int .i64 p.arg, .int .u8 1, .int .i64 0]) (by simp [results, Tryz.results148, go_sem]) rfl ⟨rfl, ((Below.refl _ w).alloc (Nat.le_refl _) _).alloc (by simp) _⟩
theorem put_any (p : Spot) (n : Int) (w : World) : Calls Tryz.prog 149 #[.agg #[.int .i64 p.id, .int .i64 p.arg, .bool p.cell, .int .i64 p.n, .bool p.esc], .int .i64 n] w fun e w' => e = .returned (.agg #[.int .i64 p.id, .int .i64 p.arg, .int .u8 2, .int .i64 n]) ∧ Below w.heap.size w w' := by
 go_enter Tryz.func149, Tryz.ntmps149
 go_wp2
 exact bodyPost_ret (v := .agg #[.int .i64 p.id, .int .i64 p.arg, .int .u8 2, .int .i64 n]) (by simp [results, Tryz.results149, go_sem]) rfl ⟨rfl, ((Below.refl _ w).alloc (Nat.le_refl _) _).alloc (by simp) _⟩
theorem tell_any (p : Spot) (n : Int) (w : World) : Calls Tryz.prog 151 #[.agg #[.int .i64 p.id, .int .i64 p.arg, .bool p.cell, .int .i64 p.n, .bool p.esc], .int .i64 n] w fun e w' => e = .returned (.agg #[.int .i64 p.id, .int .i64 p.arg, .int .u8 3, .int .i64 n]) ∧ Below w.heap.size w w' := by
 go_enter Tryz.func151, Tryz.ntmps151
 go_wp2
 exact bodyPost_ret (v := .agg #[.int .i64 p.id, .int .i64 p.arg, .int .u8 3, .int .i64 n]) (by simp [results, Tryz.results151, go_sem]) rfl ⟨rfl, ((Below.refl _ w).alloc (Nat.le_refl _) _).alloc (by simp) _⟩
def qsL (p : Spot) : List S52 := p.ask :: if p.cell then (List.range p.n.toNat).map (fun (k : Nat) => p.put (k : Int)) else []
def encM (m : S52) : Array Value := #[mval m]
set_option maxHeartbeats 2000000 in
theorem questions_gives (p : Spot) (n₀ : Nat) (w0 : World) (hn : p.n ≤ 9223372036854775807) :
  Gives Tryz.prog 143 (fun y => #[p.val] ++ #[y] ++ #[]) encM (qsL p) n₀ w0 (fun _ => False) (fun _ => False) (fun t => t = 141) (fun _ => True) := by
 intro y J Jx W _ hB hn0 _ hJ hJx hY h0
 obtain ⟨id, arg, cell, n, esc⟩ := p
 refine (callsIn_wide (n := 9)).1 ?_
 show CallsIn (FW none) 9 Tryz.prog 143 #[.agg #[.int .i64 id, .int .i64 arg, .bool cell, .int .i64 n, .bool esc], y] W _
 have HJ := am hJ
 have HJx := am hJx
 have HY := am hY
 have H0 := am h0
 have BB := am ((Below.refl _ W).alloc (Nat.le_refl _) (.cells #[.int .i64 id, .int .i64 arg, .bool cell, .int .i64 n, .bool esc] 141))
 have BK0 := am (heap_alloc_new W (.cells #[.int .i64 id, .int .i64 arg, .bool cell, .int .i64 n, .bool esc] 141))
 clear hJ hJx hY h0 hB
 cases cell with
 | false =>
  gi_enter Tryz.func143, Tryz.ntmps143
  gi_wp2_with (first | (gi_at_call 148; refine CallsIn.mono (callsIn_wide.2 (ask_any ⟨id, arg, false, n, esc⟩ _)) ?_; rintro e w1 ⟨rfl, hb1⟩) | ((with_reducible refine gateIn (N := 8) rfl ?_); refine wpListIn_vcall y (encM (Spot.ask ⟨id, arg, false, n, esc⟩)) _ _ _ rfl rfl rfl rfl rfl (HY.out 0 _ _ rfl (HJ.out 0 _ _ H0.out (St.of_below (BB.out.trans (hb1.mono (by simp))))) (by have := hb1.size; simp at this; omega)) ?_))
  rintro v w2 (⟨rfl, hj2, hk2⟩ | ⟨rfl, hj2, hs2⟩)
  ·have BK := am (hk2.blk ((hb1.block _ (by simp)).trans BK0.out) (Nat.le_refl _) rfl)
   have hc2 : w2.cell? ⟨W.heap.size, 2, none⟩ = some (.bool false) := (blk_cell BK.out 2).trans rfl
   have hs := Nat.le_trans hb1.size hk2.1.2.2.2
   gi_wp2
   refine bodyPost_ret (results_none rfl _ _ _) rfl ?_
   exact ⟨⟨_, rfl⟩, by simp at hs; omega, .inl hj2⟩
  have hs := Nat.le_trans hb1.size hs2.1.2.2.2
  gi_wp2
  refine bodyPost_ret (results_none rfl _ _ _) rfl ?_
  exact ⟨⟨_, rfl⟩, by simp at hs; omega, .inr ⟨0, by simp [qsL], hj2⟩⟩
 | true =>
  gi_enter Tryz.func143, Tryz.ntmps143
  gi_wp2_with (first | (gi_at_call 148; refine CallsIn.mono (callsIn_wide.2 (ask_any ⟨id, arg, true, n, esc⟩ _)) ?_; rintro e w1 ⟨rfl, hb1⟩) | ((with_reducible refine gateIn (N := 8) rfl ?_); refine wpListIn_vcall y (encM (Spot.ask ⟨id, arg, true, n, esc⟩)) _ _ _ rfl rfl rfl rfl rfl (HY.out 0 _ _ rfl (HJ.out 0 _ _ H0.out (St.of_below (BB.out.trans (hb1.mono (by simp))))) (by have := hb1.size; simp at this; omega)) ?_))
  rintro v w2 (⟨rfl, hj2, hk2⟩ | ⟨rfl, hj2, hs2⟩)
  ·have BK := am (hk2.blk ((hb1.block _ (by simp)).trans BK0.out) (Nat.le_refl _) rfl)
   have hc2 : w2.cell? ⟨W.heap.size, 2, none⟩ = some (.bool true) := (blk_cell BK.out 2).trans rfl
   have hc3 : w2.cell? ⟨W.heap.size, 3, none⟩ = some (.int .i64 n) := (blk_cell BK.out 3).trans rfl
   have hs := am (show W.heap.size ≤ w2.heap.size by have := Nat.le_trans hb1.size hk2.1.2.2.2; simp at this; omega)
   have HJ2 := am hj2
   clear hj2 hk2 hb1
   gi_wp2
   gi_loopw [19] (fun s wr => ∃ k : Nat, k ≤ n.toNat ∧ s = .int .i64 k ∧ Aside0 (J (1 + k) wr) ∧ Aside0 (wr.heap[W.heap.size]? = some (.cells #[.int .i64 id, .int .i64 arg, .bool true, .int .i64 n, .bool esc] 141 (0, 0))) ∧ Aside0 (W.heap.size ≤ wr.heap.size)) (fun s _ => n.toNat - (intOf s).toNat)
   case atStart => exact ⟨0, by omega, rfl, HJ2, BK, hs⟩
   case round =>
    obtain ⟨k, hk, rfl, HJk, BKk, HS⟩ := hrel
    by_cases hlt : (k : Int) < n
    ·have cb : decide ((k : Int) < n) = true := decide_eq_true hlt
     have hc0 : wr.cell? ⟨W.heap.size, 0, none⟩ = some (.int .i64 id) := (blk_cell BKk.out 0).trans rfl
     have hc1 : wr.cell? ⟨W.heap.size, 1, none⟩ = some (.int .i64 arg) := (blk_cell BKk.out 1).trans rfl
     have hc2 : wr.cell? ⟨W.heap.size, 2, none⟩ = some (.bool true) := (blk_cell BKk.out 2).trans rfl
     have hc3 : wr.cell? ⟨W.heap.size, 3, none⟩ = some (.int .i64 n) := (blk_cell BKk.out 3).trans rfl
     have hc4 : wr.cell? ⟨W.heap.size, 4, none⟩ = some (.bool esc) := (blk_cell BKk.out 4).trans rfl
     have HL := am (show (qsL ⟨id, arg, true, n, esc⟩)[1 + k]? = some (Spot.put ⟨id, arg, true, n, esc⟩ k) by
      have hk' : k < n.toNat := by omega
      rw [Nat.add_comm]; simp [qsL, hk', List.getElem?_range])
     gi_wp2_with (first | (gi_at_call 149; refine CallsIn.mono (callsIn_wide.2 (put_any ⟨id, arg, true, n, esc⟩ (k : Int) _)) ?_; rintro e w3 ⟨rfl, hb3⟩) | ((with_reducible refine gateIn (N := 26) rfl ?_); refine wpListIn_vcall y (encM (Spot.put ⟨id, arg, true, n, esc⟩ k)) _ _ _ rfl rfl rfl rfl rfl (HY.out (1 + k) _ _ HL.out (HJ.out _ _ _ HJk.out (St.of_below hb3)) (by have := hb3.size; have := HS.out; omega)) ?_))
     rintro v w4 (⟨rfl, hj4, hk4⟩ | ⟨rfl, hj4, hs4⟩)
     ·have HJ4 := am hj4
      have BK4 := am (hk4.blk ((hb3.block _ (blk_lt BKk.out)).trans BKk.out) (Nat.le_refl _) rfl)
      have HS4 := am (Nat.le_trans HS.out (Nat.le_trans hb3.size hk4.1.2.2.2))
      clear hj4 hk4 hb3
      gi_wp2
      go_roundw
      case rel => exact ⟨k + 1, by omega, by go_num, by rw [← Nat.add_assoc]; exact HJ4, BK4, HS4⟩
      case measure => simp [intOf]; omega
     have hs := Nat.le_trans HS.out (Nat.le_trans hb3.size hs4.1.2.2.2)
     have hk' : 1 + k < (qsL ⟨id, arg, true, n, esc⟩).length := (List.getElem?_eq_some_iff.1 HL.out).1
     gi_wp2
     refine bodyPost_ret (results_none rfl _ _ _) rfl ?_
     exact ⟨⟨_, rfl⟩, hs, .inr ⟨1 + k, hk', hj4⟩⟩
    have cb : decide ((k : Int) < n) = false := decide_eq_false hlt
    have e : 1 + k = (qsL ⟨id, arg, true, n, esc⟩).length := by simp [qsL]; omega
    have E := am e
    clear e
    gi_wp2
    go_end0
    exact ⟨⟨_, rfl⟩, HS.out, .inl (by rw [← E.out]; exact HJk.out)⟩
  have hs := Nat.le_trans hb1.size hs2.1.2.2.2
  gi_wp2
  refine bodyPost_ret (results_none rfl _ _ _) rfl ?_
  exact ⟨⟨_, rfl⟩, by simp at hs; omega, .inr ⟨0, by simp [qsL], hj2⟩⟩
def aL (p : Spot) (n : Int) : List S52 := (if p.esc then [p.tell (-1)] else []) ++ (List.range n.toNat).map (fun (k : Nat) => p.tell (k : Int))
set_option maxHeartbeats 2000000 in
theorem answers1_gives (p : Spot) (n : Int) (b1 b2 n₀ : Nat) (w0 : World) (hn : n ≤ 9223372036854775807) :
  Gives Tryz.prog 150 (fun y => #[] ++ #[y] ++ #[.pointer (some ⟨b1, 0, none⟩), .pointer (some ⟨b2, 0, none⟩)]) encM (aL p n) n₀ w0 (fun _ => False) (fun k => k = b1 ∨ k = b2) (fun _ => False)
   (fun W => W.heap[b1]? = some (.cells #[.int .i64 p.id, .int .i64 p.arg, .bool p.cell, .int .i64 p.n, .bool p.esc] 141 (0, 0)) ∧ W.heap[b2]? = some (.cells #[.int .i64 n] 3 (0, 0))) := by
 intro y J Jx W _ hB hn0 hpre hJ hJx hY h0
 obtain ⟨id, arg, cell, pn, esc⟩ := p
 refine (callsIn_wide (n := 9)).1 ?_
 show CallsIn (FW none) 9 Tryz.prog 150 #[y, .pointer (some ⟨b1, 0, none⟩), .pointer (some ⟨b2, 0, none⟩)] W _
 have HJ := am hJ
 have HJx := am hJx
 have HY := am hY
 have H0 := am h0
 have BK0 := am hpre.1
 have BM0 := am hpre.2
 clear hJ hJx hY h0 hB hpre
 cases esc with
 | false =>
  have hc4 : W.cell? ⟨b1, 4, none⟩ = some (.bool false) := (blk_cell BK0.out 4).trans rfl
  have hd0 : W.cell? ⟨b2, 0, none⟩ = some (.int .i64 n) := (blk_cell BM0.out 0).trans rfl
  gi_enter Tryz.func150, Tryz.ntmps150
  gi_wp2
  have HJ2 := H0
  have BL2 := BK0
  have HS2 := am (Nat.le_refl W.heap.size)
  gi_loopw [15] (fun s wr => ∃ k : Nat, k ≤ n.toNat ∧ s = .int .i64 k ∧ Aside0 (J (k) wr) ∧ Aside0 (wr.heap[b1]? = some (.cells #[.int .i64 id, .int .i64 arg, .bool cell, .int .i64 pn, .bool false] 141 (0, 0))) ∧ Aside0 (W.heap.size ≤ wr.heap.size)) (fun s _ => n.toNat - (intOf s).toNat)
  case atStart => exact ⟨0, by omega, rfl, HJ2, BL2, HS2⟩
  case round =>
   obtain ⟨k, hk, rfl, HJk, BKk, HS⟩ := hrel
   by_cases hlt : (k : Int) < n
   ·have cb : decide ((k : Int) < n) = true := decide_eq_true hlt
    have hc0 : wr.cell? ⟨b1, 0, none⟩ = some (.int .i64 id) := (blk_cell BKk.out 0).trans rfl
    have hc1 : wr.cell? ⟨b1, 1, none⟩ = some (.int .i64 arg) := (blk_cell BKk.out 1).trans rfl
    have hc2 : wr.cell? ⟨b1, 2, none⟩ = some (.bool cell) := (blk_cell BKk.out 2).trans rfl
    have hc3 : wr.cell? ⟨b1, 3, none⟩ = some (.int .i64 pn) := (blk_cell BKk.out 3).trans rfl
    have hc4 : wr.cell? ⟨b1, 4, none⟩ = some (.bool false) := (blk_cell BKk.out 4).trans rfl
    have HL := am (show (aL ⟨id, arg, cell, pn, false⟩ n)[k]? = some (Spot.tell ⟨id, arg, cell, pn, false⟩ k) by
     have hk' : k < n.toNat := by omega
     simp [aL, hk', List.getElem?_range])
    gi_wp2_with (first | (gi_at_call 151; refine CallsIn.mono (callsIn_wide.2 (tell_any ⟨id, arg, cell, pn, false⟩ (k : Int) _)) ?_; rintro e w3 ⟨rfl, hb3⟩) | ((with_reducible refine gateIn (N := 22) rfl ?_); refine wpListIn_vcall y (encM (Spot.tell ⟨id, arg, cell, pn, false⟩ k)) _ _ _ rfl rfl rfl rfl rfl (HY.out (k) _ _ HL.out (HJ.out _ _ _ HJk.out (St.of_below hb3)) (by have := hb3.size; have := HS.out; omega)) ?_))
    rintro v w4 (⟨rfl, hj4, hk4⟩ | ⟨rfl, hj4, hs4⟩)
    ·have HJ4 := am hj4
     have BL4 := am (hk4.2 _ _ ((hb3.block _ (blk_lt BKk.out)).trans BKk.out) (.inr (.inl (.inl rfl))))
     have HS4 := am (Nat.le_trans HS.out (Nat.le_trans hb3.size hk4.1.2.2.2))
     clear hj4 hk4 hb3
     gi_wp2
     go_roundw
     case rel => exact ⟨k + 1, by omega, by go_num, HJ4, BL4, HS4⟩
     case measure => simp [intOf]; omega
    have hs := Nat.le_trans HS.out (Nat.le_trans hb3.size hs4.1.2.2.2)
    have hk' : k < (aL ⟨id, arg, cell, pn, false⟩ n).length := (List.getElem?_eq_some_iff.1 HL.out).1
    gi_wp2
    refine bodyPost_ret (results_none rfl _ _ _) rfl ?_
    exact ⟨⟨_, rfl⟩, hs, .inr ⟨k, hk', hj4⟩⟩
   have cb : decide ((k : Int) < n) = false := decide_eq_false hlt
   have e : k = (aL ⟨id, arg, cell, pn, false⟩ n).length := by simp [aL]; omega
   have E := am e
   clear e
   gi_wp2
   go_end0
   exact ⟨⟨_, rfl⟩, HS.out, .inl (by rw [← E.out]; exact HJk.out)⟩
 | true =>
  have hc0 : W.cell? ⟨b1, 0, none⟩ = some (.int .i64 id) := (blk_cell BK0.out 0).trans rfl
  have hc1 : W.cell? ⟨b1, 1, none⟩ = some (.int .i64 arg) := (blk_cell BK0.out 1).trans rfl
  have hc2 : W.cell? ⟨b1, 2, none⟩ = some (.bool cell) := (blk_cell BK0.out 2).trans rfl
  have hc3 : W.cell? ⟨b1, 3, none⟩ = some (.int .i64 pn) := (blk_cell BK0.out 3).trans rfl
  have hc4 : W.cell? ⟨b1, 4, none⟩ = some (.bool true) := (blk_cell BK0.out 4).trans rfl
  gi_enter Tryz.func150, Tryz.ntmps150
  gi_wp2_with (first | (gi_at_call 151; refine CallsIn.mono (callsIn_wide.2 (tell_any ⟨id, arg, cell, pn, true⟩ (-1) _)) ?_; rintro e w1 ⟨rfl, hb3⟩) | ((with_reducible refine gateIn (N := 11) rfl ?_); refine wpListIn_vcall y (encM (Spot.tell ⟨id, arg, cell, pn, true⟩ (-1))) _ _ _ rfl rfl rfl rfl rfl (HY.out 0 _ _ rfl (HJ.out 0 _ _ H0.out (St.of_below hb3)) hb3.size) ?_))
  rintro v w2 (⟨rfl, hj2, hk2⟩ | ⟨rfl, hj2, hs2⟩)
  ·have HJ2 := am hj2
   have BL2 := am (hk2.2 _ _ ((hb3.block _ (blk_lt BK0.out)).trans BK0.out) (.inr (.inl (.inl rfl))))
   have HS2 := am (Nat.le_trans hb3.size hk2.1.2.2.2)
   have hd0 : w2.cell? ⟨b2, 0, none⟩ = some (.int .i64 n) := (blk_cell (hk2.2 _ _ ((hb3.block _ (blk_lt BM0.out)).trans BM0.out) (.inr (.inl (.inr rfl)))) 0).trans rfl
   clear hj2 hk2 hb3
   gi_wp2
   gi_loopw [15] (fun s wr => ∃ k : Nat, k ≤ n.toNat ∧ s = .int .i64 k ∧ Aside0 (J (1 + k) wr) ∧ Aside0 (wr.heap[b1]? = some (.cells #[.int .i64 id, .int .i64 arg, .bool cell, .int .i64 pn, .bool true] 141 (0, 0))) ∧ Aside0 (W.heap.size ≤ wr.heap.size)) (fun s _ => n.toNat - (intOf s).toNat)
   case atStart => exact ⟨0, by omega, rfl, HJ2, BL2, HS2⟩
   case round =>
    obtain ⟨k, hk, rfl, HJk, BKk, HS⟩ := hrel
    by_cases hlt : (k : Int) < n
    ·have cb : decide ((k : Int) < n) = true := decide_eq_true hlt
     have hc0 : wr.cell? ⟨b1, 0, none⟩ = some (.int .i64 id) := (blk_cell BKk.out 0).trans rfl
     have hc1 : wr.cell? ⟨b1, 1, none⟩ = some (.int .i64 arg) := (blk_cell BKk.out 1).trans rfl
     have hc2 : wr.cell? ⟨b1, 2, none⟩ = some (.bool cell) := (blk_cell BKk.out 2).trans rfl
     have hc3 : wr.cell? ⟨b1, 3, none⟩ = some (.int .i64 pn) := (blk_cell BKk.out 3).trans rfl
     have hc4 : wr.cell? ⟨b1, 4, none⟩ = some (.bool true) := (blk_cell BKk.out 4).trans rfl
     have HL := am (show (aL ⟨id, arg, cell, pn, true⟩ n)[1 + k]? = some (Spot.tell ⟨id, arg, cell, pn, true⟩ k) by
      have hk' : k < n.toNat := by omega
      rw [Nat.add_comm]; simp [aL, hk', List.getElem?_range])
     gi_wp2_with (first | (gi_at_call 151; refine CallsIn.mono (callsIn_wide.2 (tell_any ⟨id, arg, cell, pn, true⟩ (k : Int) _)) ?_; rintro e w3 ⟨rfl, hb3⟩) | ((with_reducible refine gateIn (N := 22) rfl ?_); refine wpListIn_vcall y (encM (Spot.tell ⟨id, arg, cell, pn, true⟩ k)) _ _ _ rfl rfl rfl rfl rfl (HY.out (1 + k) _ _ HL.out (HJ.out _ _ _ HJk.out (St.of_below hb3)) (by have := hb3.size; have := HS.out; omega)) ?_))
     rintro v w4 (⟨rfl, hj4, hk4⟩ | ⟨rfl, hj4, hs4⟩)
     ·have HJ4 := am hj4
      have BL4 := am (hk4.2 _ _ ((hb3.block _ (blk_lt BKk.out)).trans BKk.out) (.inr (.inl (.inl rfl))))
      have HS4 := am (Nat.le_trans HS.out (Nat.le_trans hb3.size hk4.1.2.2.2))
      clear hj4 hk4 hb3
      gi_wp2
      go_roundw
      case rel => exact ⟨k + 1, by omega, by go_num, by rw [← Nat.add_assoc]; exact HJ4, BL4, HS4⟩
      case measure => simp [intOf]; omega
     have hs := Nat.le_trans HS.out (Nat.le_trans hb3.size hs4.1.2.2.2)
     have hk' : 1 + k < (aL ⟨id, arg, cell, pn, true⟩ n).length := (List.getElem?_eq_some_iff.1 HL.out).1
     gi_wp2
     refine bodyPost_ret (results_none rfl _ _ _) rfl ?_
     exact ⟨⟨_, rfl⟩, hs, .inr ⟨1 + k, hk', hj4⟩⟩
    have cb : decide ((k : Int) < n) = false := decide_eq_false hlt
    have e : 1 + k = (aL ⟨id, arg, cell, pn, true⟩ n).length := by simp [aL]; omega
    have E := am e
    clear e
    gi_wp2
    go_end0
    exact ⟨⟨_, rfl⟩, HS.out, .inl (by rw [← E.out]; exact HJk.out)⟩
  have hs := Nat.le_trans hb3.size hs2.1.2.2.2
  gi_wp2
  refine bodyPost_ret (results_none rfl _ _ _) rfl ?_
  exact ⟨⟨_, rfl⟩, hs, .inr ⟨0, by simp [aL], hj2⟩⟩
theorem answers_any (p : Spot) (n : Int) (w : World) : Calls Tryz.prog 144 #[.agg #[.int .i64 p.id, .int .i64 p.arg, .bool p.cell, .int .i64 p.n, .bool p.esc], .int .i64 n] w fun e w' =>
  e = .returned (.func (.func 150) #[] #[.pointer (some ⟨w.heap.size, 0, none⟩), .pointer (some ⟨w.heap.size + 1, 0, none⟩)]) ∧
  (w.alloc (.cells #[.int .i64 p.id, .int .i64 p.arg, .bool p.cell, .int .i64 p.n, .bool p.esc] 141)).alloc (.cells #[.int .i64 n] 3) = w' := by
 go_enter Tryz.func144, Tryz.ntmps144
 go_wp2
 go_ret
 exact ⟨rfl, rfl⟩
end Go.Proofs.YtjgocihflhljeaaGreat.P
