/- What the claim's law needs, many texts in one (Dl). No conditions of its own. -/
import Derived.Test.YtjgocihflhljeaaGreatZi21
set_option linter.unusedVariables false
set_option linter.unusedSimpArgs false
namespace Go.Proofs.YtjgocihflhljeaaGreat.P
open Go.RowKit Go.Shelf Go.Proofs.YtjgocihflhljeaaGreatW.PrintWords Go.Proofs.YtjgocihflhljeaaGreatW.PrintLast Go.Proofs.YtjgocihflhljeaaGreatW.PrintMore
attribute [local go_sem] Oper.semAt_some
section
variable {w W W' : World} {I : List (Option Addr × List S68)} {Y : List (Option Addr × List Mv)} {X : List (Option Addr × List Int)} {G : List (Nat × Array Value × TypeId)}
theorem Lw.rebase (h : Lw w W I Y X G) : Lw W W I Y X G := ⟨Below.refl _ _, h.i, h.y, h.x, h.g⟩
theorem Lw.popx {p : Option Addr × List Int} (h : Lw w W I Y (p :: X) G) : Lw w W I Y X G := ⟨h.b, h.i, h.y, fun q hq => h.x q (List.mem_cons_of_mem _ hq), h.g⟩
theorem Lw.copyT (h : Lw w W I Y X G) {A1 : Option Addr} {c1 : Nat} {l q : List Mv} (hy : (A1, l) ∈ Y) (n : Nat) (hq : l.take n = q) (hn : n ≤ l.length) (hc1 : l.length ≤ c1) (hl : l.length ≤ 1000000) :
  Calls Tryz.prog 17 #[.slice A1 n c1] W fun e w' => ∃ B k, e = .returned (.slice B q.length k) ∧ q.length ≤ k ∧ Lw w w' I ((B, q) :: Y) X G := by
 subst hq
 have hlen : (l.take n).length = n := by rw [List.length_take]; omega
 have hC := Kd.C_take (h.y _ hy) hn
 have hcp := riposteref05_Copy.calls A1 c1 (l.take n) (l.take n) W hC (by omega) (copyW_f _ (by omega))
 rw [hlen] at hcp
 refine hcp.mono ?_
 rintro e w' ⟨v, rfl, hR, hb⟩
 obtain ⟨B, k, rfl, hk, hC2⟩ := Kd.R_reads hR
 exact ⟨B, k, rfl, hk, (h.below hb).addy hC2⟩
theorem Lw.standE (h : Lw w W I Y X G) {A A1 : Option Addr} {c c1 : Nat} {ids : List S68} {l : List Mv} {T : Tk} (rc : Bool) (rn : Int) (jb : Bool) (hi : (A, ids) ∈ I) (hy : (A1, l) ∈ Y) (hl : l.length ≤ 1000000) (hE : tellE ids rc rn jb l = 0) (hT : talkL ids rc rn jb l = T) :
  Calls Tryz.prog 19 #[.agg #[.slice A ids.length c, .bool rc, .int .i64 rn, .bool jb], .slice A1 l.length c1] W fun e w' => ∃ B k, e = .returned (.tuple #[.agg #[.int .u8 T.turn, .slice B T.opn.length k, .bool T.force, .bool T.lost], .int .i64 0]) ∧ T.opn.length ≤ k ∧ Lw w w' I Y ((B, T.opn) :: X) G := by
 have hs := h.stand (c := c) (c1 := c1) rc rn jb hi hy hl
 rw [hE, hT] at hs
 exact hs
theorem Lw.nextE (h : Lw w W I Y X G) {A A1 : Option Addr} {c c1 : Nat} {ids : List S68} {l nx : List Mv} {T : Tk} (rc : Bool) (rn : Int) (jb : Bool) (hi : (A, ids) ∈ I) (hy : (A1, l) ∈ Y) (hl : l.length ≤ 1000000) (hE : tellE ids rc rn jb l = 0) (hT : talkL ids rc rn jb l = T) (hx : nextL jb T (movesA ids rc rn jb) = nx) :
  Calls Tryz.prog 32 #[.agg #[.slice A ids.length c, .bool rc, .int .i64 rn, .bool jb], .slice A1 l.length c1] W fun e w' => ∃ B k, e = .returned (.tuple #[.slice B nx.length k, .int .i64 0]) ∧ nx.length ≤ k ∧ Lw w w' I ((B, nx) :: Y) X G := by
 have hs := h.next (c := c) (c1 := c1) rc rn jb hi hy hl
 rw [hE, hT, okL_ok _ rfl, hx] at hs
 exact hs
end
end Go.Proofs.YtjgocihflhljeaaGreat.P
