/- What the claim's law needs, many texts in one (Xk). No conditions of its own. -/
import Derived.Test.YtebidpcmcekbgaaDoorZo5
set_option linter.unusedVariables false
set_option linter.unusedSimpArgs false
namespace Go.Proofs.YtebidpcmcekbgaaDoor.P
open Go.RowKit Go.Shelf Go.Maps Go.Proofs.YtebidpcmcekbgaaDoorW.PrintWords Go.Proofs.YtebidpcmcekbgaaDoorW.PrintLast Go.Proofs.YtebidpcmcekbgaaDoorW.PrintMore
attribute [local go_sem] Oper.semAt_some
set_option linter.unusedVariables false
set_option linter.unusedSimpArgs false
theorem ll_ex (s : ByteArray) (a : Nat) (ha : a ≤ s.size) : ∀ f i, ll (s.extract a s.size) f i = ll s f (a + i)
  | 0, _ => rfl
  | f + 1, i => by
    unfold ll
    rw [size_ex]
    by_cases c : a + i < s.size
    · rw [bt_ex s a s.size i (by omega), ll_ex s a ha f (i + 1), show a + (i + 1) = a + i + 1 by omega]
      by_cases c2 : bt s ((a + i : Nat) : Int) ≠ 10
      · rw [if_pos ⟨by omega, c2⟩, if_pos ⟨c, c2⟩]
      · rw [if_neg (fun h => c2 h.2), if_neg (fun h => c2 h.2)]
    · rw [if_neg (by omega), if_neg (by omega)]
theorem note_cut (s : ByteArray) (i : Nat) (hi : i ≤ s.size) : (s.extract i s.size).extract 0 (ll (s.extract i s.size) (s.extract i s.size).size 0) = noteT s i := by
  have h := ll_le s s.size i hi
  rw [size_ex, ll_ex s i hi, Nat.min_self, Nat.add_zero, ll_fuel s (s.size - i) s.size i (by omega) (by omega), ex_ex s i s.size 0 _ (by omega)]
  rfl
def encP (x : Nat × ByteArray) : Array Value := #[.int .i64 (x.1 : Int), .string x.2]
def tokP (x : Nat × ByteArray) : Bool := decide (x.2.size = 0)
def askP (x : Nat × ByteArray) : Array Value := #[.int .i64 (x.1 : Int)]
theorem pieces_any (s : ByteArray) (fn : Fn) (fb fl : Array Value) (w : World) :
    Calls Tryd.prog 42 #[.string s, .func fn fb fl] w fun e w' => e = .returned (.func (.func 76) #[] #[.pointer (some ⟨w.heap.size, 0, none⟩), .pointer (some ⟨w.heap.size + 1, 0, none⟩)]) ∧ w' = (w.alloc (.cells #[.string s] 9)).alloc (.cells #[.func fn fb fl] 64) := by
  go_enter Tryd.func42, Tryd.ntmps42
  go_wp2
  go_ret
  exact ⟨rfl, rfl⟩
theorem enters_pieces1 : ∀ args w, (callFunc 76 args).run Tryd.prog w = .ok (.enter 76 args) w := enters_of Tryd.func76 (by kernel_rfl) rfl
set_option maxRecDepth 8000 in
set_option maxHeartbeats 4000000 in
theorem pieces1_gives {n₀ : Nat} {w0 : World} (b1 b2 : Nat) (s : ByteArray) (fd : Value) (len : Nat → Nat) (hl : ∀ i, 0 < len i) (hlm : ∀ i, len i ≤ 140737488351232) (hs : s.size ≤ 140737488351232) :
    GivesD Tryd.prog 76 (fun y => #[] ++ #[y] ++ #[.pointer (some ⟨b1, 0, none⟩), .pointer (some ⟨b2, 0, none⟩)]) encP (pcsA s len 0) fd tokP askP (fun x => .int .i64 (len x.1 : Nat)) n₀ w0 (fun _ => False) (fun k => k = b1 ∨ k = b2) (fun _ => False)
      (fun W => W.heap[b1]? = some (.cells #[.string s] 9 (0, 0)) ∧ W.heap[b2]? = some (.cells #[fd] 64 (0, 0))) := by
  intro y J Jx W _ hB hn0 hpre hJ hJx hY hA h0
  refine (callsIn_wide (n := 9)).1 ?_
  show CallsIn (FW none) 9 Tryd.prog 76 #[y, .pointer (some ⟨b1, 0, none⟩), .pointer (some ⟨b2, 0, none⟩)] W _
  generalize hL : pcsA s len 0 = L at *
  have HJ := Aside0.mk hJ
  have HY := Aside0.mk hY
  have HA := Aside0.mk hA
  have H0 := Aside0.mk h0
  have HB0 := Aside0.mk hB
  have HP1 := Aside0.mk hpre.1
  have HP2 := Aside0.mk hpre.2
  have HL := Aside0.mk hL
  have HLP := Aside0.mk hl
  have HLM := Aside0.mk hlm
  clear hJ hJx hY hA h0 hB hpre hL hl hlm
  gi_enter Tryd.func76, Tryd.ntmps76
  gi_wp2
  gi_loopg [4] s.size (fun gg s4 wr => ∃ (i m : Nat), s4 = .int .i64 i ∧ i ≤ 281474976702464 ∧ s.size - i ≤ gg ∧ Aside0 (L.drop m = pcsA s len i) ∧ m ≤ L.length ∧ Aside0 (J m wr) ∧ Aside0 (Below n₀ w0 wr) ∧ Aside0 (wr.heap[b1]? = some (.cells #[.string s] 9 (0, 0))) ∧ Aside0 (wr.heap[b2]? = some (.cells #[fd] 64 (0, 0))) ∧ W.heap.size ≤ wr.heap.size)
  case atStart => exact ⟨0, 0, rfl, by omega, by omega, ⟨HL.out.symm⟩, Nat.zero_le _, H0, HB0, HP1, HP2, Nat.le_refl _⟩
  case round =>
    obtain ⟨i, m, rfl, hi, hg, HD, hm, HJi, HB, HK1, HK2, hsz⟩ := hrel
    have k1 : wr.cell? ⟨b1, 0, none⟩ = some (.string s) := (blk_cell HK1.out 0).trans rfl
    have k2 : wr.cell? ⟨b2, 0, none⟩ = some fd := (blk_cell HK2.out 0).trans rfl
    by_cases hlt : i < s.size
    · have hltz : (i : Int) < (s.size : Int) := by omega
      have h0i : (0 : Int) ≤ (i : Int) := by omega
      have hbt := bt_at s (i : Int)
      rw [Int.toNat_natCast] at hbt
      obtain ⟨gk, rfl⟩ : ∃ m, gk = m + 1 := ⟨gk - 1, by omega⟩
      have HD0 := HD.out
      rw [pcsA_step s len HLP.out i hlt] at HD0
      by_cases c32 : bt s (i : Int) = 32
      · rw [if_pos ((spB_iff _).2 (.inl c32))] at HD0
        rw [c32] at hbt
        have HD1 := Aside0.mk HD0
        clear HD0 HD c32
        gi_wp2
        gi_roundg gk
        case measure => omega
        case rel => exact ⟨i + 1, m, by go_num, by omega, by omega, HD1, hm, HJi, HB, HK1, HK2, hsz⟩
      by_cases c10 : bt s (i : Int) = 10
      · rw [if_pos ((spB_iff _).2 (.inr c10))] at HD0
        rw [c10] at hbt
        have HD1 := Aside0.mk HD0
        clear HD0 HD c32 c10
        gi_wp2
        gi_roundg gk
        case measure => omega
        case rel => exact ⟨i + 1, m, by go_num, by omega, by omega, HD1, hm, HJi, HB, HK1, HK2, hsz⟩
      rw [if_neg (fun h => ((spB_iff _).1 h).elim c32 c10)] at HD0
      by_cases c126 : bt s (i : Int) = 126
      · rw [if_pos c126] at HD0
        have hnp := noteL_pos s i hlt c126
        have hnz := noteT_size s i (by omega)
        have hnl : i + noteL s i ≤ s.size := ll_le s s.size i (by omega)
        rw [c126] at hbt
        have hcut := fun W => cut_any (s.extract i s.size) W (by rw [size_ex]; omega)
        rw [note_cut s i (by omega)] at hcut
        have hL1 := drop_at HD0
        have HD1 := Aside0.mk (drop_next HD0)
        have hml := (List.getElem?_eq_some_iff.1 hL1).1
        have HV := Aside0.mk (fun (nd : Nat) => HY.out m _ (wr.drewN nd) hL1 (HJ.out _ _ _ HJi.out (St.of_below (pw_below_drewN (Below.refl _ wr) nd))) hsz)
        have hle : (i : Int) ≤ (s.size : Int) := by omega
        have HNP := Aside0.mk hnp
        clear HD0 HD c32 c10 c126 hL1 hnp
        generalize noteT s i = t at *
        generalize noteL s i = nl at *
        subst hnz
        gi_wp2_with (first | (gi_at_call 77; refine CallsIn.mono (callsIn_wide.2 (hcut _)) ?_; rintro e w3 ⟨⟨x, y', rfl⟩, ⟨nd, rfl⟩⟩) | ((with_reducible refine gateIn (N := 42) rfl ?_); refine wpListIn_vcall y (encP (i, t)) _ _ _ rfl rfl rfl rfl rfl (HV.out nd) ?_))
        rintro v w4 (⟨rfl, hj4, hk4⟩ | ⟨rfl, hj4, hk4⟩)
        · have HB4 := Aside0.mk (hk4.below (pw_below_drewN HB.out nd) (by simp; omega))
          have HK14 := Aside0.mk (hk4.2 _ _ (blk_drewN HK1.out nd) (.inr (.inl (.inl rfl))))
          have HK24 := Aside0.mk (hk4.2 _ _ (blk_drewN HK2.out nd) (.inr (.inl (.inr rfl))))
          have hs4 : wr.heap.size ≤ w4.heap.size := hk4.1.2.2.2
          have HJ4 := Aside0.mk hj4
          have hnp := HNP.out
          clear hj4 hk4 k1 k2 hbt HV hcut
          gi_wp2
          gi_roundg gk
          case measure => omega
          case rel => exact ⟨i + t.size, m + 1, by go_num, by omega, by omega, HD1, by omega, HJ4, HB4, HK14, HK24, by omega⟩
        · have hs4 : wr.heap.size ≤ w4.heap.size := hk4.1.2.2.2
          gi_wp2
          refine bodyPost_ret (results_none rfl _ _ _) rfl ?_
          exact ⟨⟨_, rfl⟩, by omega, .inr ⟨m, hml, hj4⟩⟩
      · rw [if_neg c126] at HD0
        have hb32 : (bt s (i : Int) == 32) = false := beq_false_of_ne c32
        have hb10 : (bt s (i : Int) == 10) = false := beq_false_of_ne c10
        have hb126 : (bt s (i : Int) == 126) = false := beq_false_of_ne c126
        have hL1 := drop_at HD0
        have HD1 := Aside0.mk (drop_next HD0)
        have hml := (List.getElem?_eq_some_iff.1 hL1).1
        have HV := Aside0.mk (HY.out m _ wr hL1 HJi.out hsz)
        have HA1 := Aside0.mk (fun W1 h1 h2 => HA.out m _ W1 hL1 rfl h1 h2)
        have hp := HLP.out i
        have hpm := HLM.out i
        generalize hli : len i = ln at *
        have HLI := Aside0.mk hli
        have HC32 := Aside0.mk c32
        have HC10 := Aside0.mk c10
        have HC126 := Aside0.mk c126
        clear HD0 HD c32 c10 c126 hL1 hli
        gi_wp2_with ((with_reducible refine gateIn (N := 17) rfl ?_); refine wpListIn_vcall y (encP (i, ByteArray.empty)) _ _ _ rfl rfl rfl rfl rfl HV.out ?_)
        rintro v w4 (⟨rfl, hj4, hk4⟩ | ⟨rfl, hj4, hk4⟩)
        · have HB4 := Aside0.mk (hk4.below HB.out (by omega))
          have HK14 := Aside0.mk (hk4.2 _ _ HK1.out (.inr (.inl (.inl rfl))))
          have HK24 := Aside0.mk (hk4.2 _ _ HK2.out (.inr (.inl (.inr rfl))))
          have hs4 : wr.heap.size ≤ w4.heap.size := hk4.1.2.2.2
          have HV2 := Aside0.mk (HA1.out w4 hj4 (by omega))
          have k24 : w4.cell? ⟨b2, 0, none⟩ = some fd := (blk_cell HK24.out 0).trans rfl
          clear hj4 hk4 k1 k2 hbt HV hb32 hb10 hb126
          gi_wp2_with ((with_reducible refine gateIn (N := 22) rfl ?_); refine wpListIn_vcall fd (askP (i, ByteArray.empty)) _ _ _ rfl rfl rfl rfl rfl HV2.out ?_)
          rintro v w5 rfl hj5 hk5
          have HB5 := Aside0.mk (hk5.below HB4.out (by omega))
          have HK15 := Aside0.mk (hk5.2 _ _ HK14.out (.inr (.inl (.inl rfl))))
          have HK25 := Aside0.mk (hk5.2 _ _ HK24.out (.inr (.inl (.inr rfl))))
          have hs5 : w4.heap.size ≤ w5.heap.size := hk5.1.2.2.2
          have HJ5 := Aside0.mk hj5
          clear hj5 hk5 k24 HV2
          gi_wp2
          gi_roundg gk
          case measure => omega
          case rel => exact ⟨i + ln, m + 1, by go_num, by omega, by omega, HD1, by omega, HJ5, HB5, HK15, HK25, by omega⟩
        · have hs4 : wr.heap.size ≤ w4.heap.size := hk4.1.2.2.2
          gi_wp2
          refine bodyPost_ret (results_none rfl _ _ _) rfl ?_
          exact ⟨⟨_, rfl⟩, by omega, .inr ⟨m, hml, hj4⟩⟩
    · have hlt2 : decide ((i : Int) < (s.size : Int)) = false := decide_eq_false (by omega)
      have hlt3 : decide (i < s.size) = false := decide_eq_false hlt
      have HD0 := HD.out
      rw [pcsA_end s len HLP.out i (by omega)] at HD0
      have hE := List.drop_eq_nil_iff.1 HD0
      clear HD0 HD
      gi_wp2
      refine bodyPost_end (results_none rfl _ _ _) rfl ?_
      exact ⟨⟨_, rfl⟩, by omega, .inl (by rw [show L.length = m by omega]; exact HJi.out)⟩
end Go.Proofs.YtebidpcmcekbgaaDoor.P
