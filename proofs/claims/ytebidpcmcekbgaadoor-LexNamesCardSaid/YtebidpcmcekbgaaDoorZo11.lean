/- What the claim's law needs, many texts in one (Xp). No conditions of its own. -/
import Derived.Test.YtebidpcmcekbgaaDoorZo10
import Derived.Test.YtebidpcmcekbgaaDoorZo2
set_option linter.unusedVariables false
set_option linter.unusedSimpArgs false
namespace Go.Proofs.YtebidpcmcekbgaaDoor.P
open Go.RowKit Go.Shelf Go.Maps Go.Proofs.YtebidpcmcekbgaaDoorW.PrintWords Go.Proofs.YtebidpcmcekbgaaDoorW.PrintLast Go.Proofs.YtebidpcmcekbgaaDoorW.PrintMore
set_option linter.unusedVariables false
set_option linter.unusedSimpArgs false
theorem take_rd (l : List Tk) (i : Nat) (h : i < l.length) : l.take (i + 1) = l.take i ++ [rd_T58 l (i : Int)] := by
  rw [List.take_succ_eq_append_getElem h]
  congr 2
  unfold rd_T58
  simp [List.getD, List.getElem?_eq_getElem h]
theorem renS_snoc (old name : ByteArray) (l : List Tk) (y : Tk) : renS old name (l ++ [y]) = renS old name l ++ (if y.f1 = old then [⟨y.f2, y.f2 + (old.size : Int), name⟩] else []) := by
  unfold renS
  rw [List.filter_append, List.map_append]
  congr 1
  by_cases c : y.f1 = old
  · rw [if_pos c, List.filter_cons_of_pos (by exact decide_eq_true c)]; rfl
  · rw [if_neg c, List.filter_cons_of_neg (by simpa using c)]; rfl
theorem any_snoc (name : ByteArray) (l : List Tk) (y : Tk) : ((l ++ [y]).any fun t => decide (t.f1 = name)) = ((l.any fun t => decide (t.f1 = name)) || decide (y.f1 = name)) := by
  rw [List.any_append]; simp
theorem TOrd_at {n : Nat} : ∀ {l : List Tk} {a : Int} (i : Nat), TOrd n l a → i < l.length → a ≤ (l.getD i z58).f2 ∧ (l.getD i z58).f2 + ((l.getD i z58).f1.size : Int) ≤ n
  | x :: r, a, 0, h, hi => ⟨h.1, h.2.1⟩
  | x :: r, a, i + 1, h, hi => by
    have := TOrd_at (l := r) i h.2.2 (by simpa using hi)
    have h1 := h.1
    rw [List.getD_cons_succ]
    omega
set_option maxRecDepth 8000 in
set_option maxHeartbeats 8000000 in
theorem Rename_any (s old name : ByteArray) (w : World) (hg : Gl w) (hs : s.size ≤ 140737488351232) (ho : old.size ≤ 140737488351232) (hn : name.size ≤ 140737488351232) :
    Calls Tryd.prog 17 #[.string s, .string old, .string name] w fun e w' => e = .returned (.tuple #[.string (renM s old name).1, .int .i64 (renM s old name).2]) ∧ Below w.heap.size w w' := by
  have HG := Aside0.mk hg
  have hT := Tokens_any s w hg hs
  have hord := toks_ord s
  obtain ⟨R, hR⟩ : ∃ R, renM s old name = R := ⟨_, rfl⟩
  rw [hR]
  unfold renM at hR
  generalize toksM kwM s = T at *
  obtain ⟨tl, tp, te⟩ := T
  simp only at hT hord hR
  clear hg
  by_cases h0 : te = 0
  · subst h0
    rw [if_neg (show ¬ ((0 : Int) ≠ 0) from fun h => h rfl)] at hR
    obtain ⟨hto, htl, hs2⟩ := hord rfl
    have hN1 := Aside0.mk (fun (W : World) (h : Gl W) => isName_any old W h ho)
    have hN2 := Aside0.mk (fun (W : World) (h : Gl W) => isName_any name W h hn)
    cases hb1 : nameB old with
    | false =>
      rw [if_pos (.inl hb1)] at hR
      subst hR
      rw [hb1] at hN1
      clear hb1 hord hN2
      go_enter Tryd.func17, Tryd.ntmps17
      go_wp2_with (first | (go_at_call 12; refine hT.mono ?_; rintro e w1 ⟨tv, rfl, hrt, hb1'⟩; have HB1 := Aside0.mk hb1'; have HRT := Aside0.mk hrt; obtain ⟨TA, TC, rfl⟩ := Kd.R_slice hrt; clear hrt hb1') | (go_at_call 48; with_reducible refine (hN1.out _ (HG.out.mono HB1.out)).mono ?_; rintro e w2 ⟨rfl, hb2'⟩; have HB2 := Aside0.mk hb2'; clear hb2'))
      go_ret2
      exact ⟨rfl, HB1.out.trans (HB2.out.mono HB1.out.size)⟩
    | true =>
      cases hb2 : nameB name with
      | false =>
        rw [if_pos (.inr hb2)] at hR
        subst hR
        rw [hb1] at hN1
        rw [hb2] at hN2
        clear hb1 hb2 hord
        go_enter Tryd.func17, Tryd.ntmps17
        go_wp2_with (first | (go_at_call 12; refine hT.mono ?_; rintro e w1 ⟨tv, rfl, hrt, hb1'⟩; have HB1 := Aside0.mk hb1'; have HRT := Aside0.mk hrt; obtain ⟨TA, TC, rfl⟩ := Kd.R_slice hrt; clear hrt hb1') | (go_at_call 48; with_reducible refine (hN1.out _ (HG.out.mono HB1.out)).mono ?_; rintro e w2 ⟨rfl, hb2'⟩; have HB2 := Aside0.mk hb2'; clear hb2') | (go_at_call 48; refine (hN2.out _ ((HG.out.mono HB1.out).mono HB2.out)).mono ?_; rintro e w3 ⟨rfl, hb3'⟩; have HB3 := Aside0.mk hb3'; clear hb3'))
        go_ret2
        exact ⟨rfl, HB1.out.trans ((HB2.out.mono HB1.out.size).trans (HB3.out.mono (Nat.le_trans HB1.out.size HB2.out.size)))⟩
      | true =>
        rw [if_neg (by rw [hb1, hb2]; simp)] at hR
        have hsz := nameB_size name hb2
        have hsz1 := nameB_size old hb1
        rw [hb1] at hN1
        rw [hb2] at hN2
        have HR := Aside0.mk hR
        have HTO := Aside0.mk hto
        clear hb1 hb2 hord hR hto
        go_enter Tryd.func17, Tryd.ntmps17
        go_wp2_with (first | (go_at_call 12; refine hT.mono ?_; rintro e w1 ⟨tv, rfl, hrt, hb1'⟩; have HB1 := Aside0.mk hb1'; have HRT := Aside0.mk hrt; obtain ⟨TA, TC, rfl⟩ := Kd.R_slice hrt; clear hrt hb1') | (go_at_call 48; with_reducible refine (hN1.out _ (HG.out.mono HB1.out)).mono ?_; rintro e w2 ⟨rfl, hb2'⟩; have HB2 := Aside0.mk hb2'; clear hb2') | (go_at_call 48; refine (hN2.out _ ((HG.out.mono HB1.out).mono HB2.out)).mono ?_; rintro e w3 ⟨rfl, hb3'⟩; have HB3 := Aside0.mk hb3'; clear hb3'))
        have B3 := Aside0.mk (HB1.out.trans ((HB2.out.mono HB1.out.size).trans (HB3.out.mono (Nat.le_trans HB1.out.size HB2.out.size))))
        have hw3 : w.heap.size ≤ w3.heap.size := B3.out.size
        have HC := Aside0.mk (Kd.C_below (Kd.C_below (Kd.R_reads' HRT.out).2.2 HB2.out) HB3.out)
        clear hT hN1 hN2
        go_loopg [11, 12, 37] tl.length (fun gg s11 s12 s37 wr => ∃ (i : Nat) (v : Value), s11 = v ∧ s12 = .bool ((tl.take i).any fun t => decide (t.f1 = name)) ∧ s37 = .int .i64 i ∧ i ≤ tl.length ∧ tl.length - i ≤ gg ∧ Aside0 (k60.R 60 wr w3.heap.size (fun _ => True) v (renS old name (tl.take i))) ∧ Aside0 (Below w3.heap.size w3 wr))
        case atStart => exact ⟨0, _, rfl, rfl, rfl, Nat.zero_le _, by omega, ⟨Kd.R_nil _ _ _ _ _⟩, ⟨Below.refl _ _⟩⟩
        case round =>
          obtain ⟨i, v, rfl, rfl, rfl, hi, hgk, HS, HBW⟩ := hrel
          obtain ⟨SA, SC, hv⟩ := Kd.R_slice HS.out
          subst hv
          by_cases hlt : i < tl.length
          · have hltz : (i : Int) < (tl.length : Int) := by omega
            obtain ⟨ad, e0, x0, x1, x2⟩ := at_T58 HC.out (i : Int) (by omega) hltz
            rw [Int.toNat_natCast] at x0 x1 x2
            have htk := take_rd tl i hlt
            have hsn := renS_snoc old name (tl.take i) (rd_T58 tl (i : Int))
            have han := any_snoc name (tl.take i) (rd_T58 tl (i : Int))
            rw [← htk] at hsn han
            have hyb := TOrd_at i HTO.out hlt
            have hrd : rd_T58 tl (i : Int) = tl.getD i z58 := by unfold rd_T58; rw [Int.toNat_natCast]
            rw [← hrd] at hyb
            clear hrd htk
            generalize rd_T58 tl (i : Int) = y at *
            obtain ⟨yk, yx, ya⟩ := y
            simp only at hsn han hyb x0 x1 x2
            have hcat := Bl yx name
            have hcat2 := Bl yx old
            replace x0 := (HBW.out.cell (World.block_lt_of_cell? w3 _ x0)).trans x0
            replace x1 := (HBW.out.cell (World.block_lt_of_cell? w3 _ x1)).trans x1
            replace x2 := (HBW.out.cell (World.block_lt_of_cell? w3 _ x2)).trans x2
            have hsl := renS_len old name (tl.take i)
            rw [List.length_take] at hsl
            have hw1 : wrap64 (ya + (old.size : Int)) = ya + (old.size : Int) := w64 (by omega) (by omega)
            have HAN := Aside0.mk han
            have HSN := Aside0.mk hsn
            subst e0
            clear han hsn hyb
            generalize ((tl.take i).any fun t => decide (t.f1 = name)) = b at *
            generalize decide (yx = name) = q at *
            by_cases hold : yx = old
            · rw [decide_eq_true hold] at hcat2
              have hsn := HSN.out
              rw [if_pos hold] at hsn
              have HSN2 := Aside0.mk hsn
              have HOLD := Aside0.mk hold
              clear hsn hold
              generalize renS old name (tl.take i) = l at *
              have HS2 := Aside0.mk (Kd.R_alloc HS.out (.cells #[.int .u8 yk, .string yx, .int .i64 ya] 58))
              have HBW2 := Aside0.mk (HBW.out.alloc HBW.out.size (.cells #[.int .u8 yk, .string yx, .int .i64 ya] 58))
              cases b with
              | true =>
                go_wp2_with ((with_reducible refine gate_builtin (b := .append) (xs := #[.tmp 52, .tmp 62]) rfl ?_); at_builtin; refine Kd.R_append k60 (w0 := w3) w3.heap.size rfl (.tmp 52) (.tmp 62) 34 60 (.agg #[(.int .i64 0), (.int .i64 0), (.string ⟨#[]⟩)]) 32 rfl Tryd.underlying34 info60 rfl (by decide) (by omega) (.slice SA l.length SC) l ⟨ya, ya + (old.size : Int), name⟩ [.int .i64 ya, .int .i64 (ya + (old.size : Int)), .string name] (fun _ => True) (fun _ => False) rfl (show Value.slice (some ⟨wr.heap.size + 1, 0, none⟩) 1 1 = Value.slice (some ⟨(wr.alloc (.cells #[.int .u8 yk, .string yx, .int .i64 ya] 58)).heap.size, 0, none⟩) 1 1 by rw [World.size_alloc]) (k60_mkM _ _ _ ⟨ya, ya + (old.size : Int), name⟩) (fun _ hk => hk.elim) (fun _ _ => trivial) HS2.out HBW2.out HBW2.out.size (by omega) ?_; intro v4 w4 hR4 hB4 hg4 hat4; have HR4 := Aside0.mk hR4; have HB4 := Aside0.mk hB4; clear hR4 hB4 hg4 hat4)
                go_roundg (tl.length - (i + 1))
                case measure => omega
                case rel => exact ⟨i + 1, v4, rfl, by rw [HAN.out]; rfl, by go_num, by omega, by omega, ⟨by rw [HSN2.out]; exact HR4.out⟩, HB4⟩
              | false =>
                go_wp2_with ((with_reducible refine gate_builtin (b := .append) (xs := #[.tmp 52, .tmp 62]) rfl ?_); at_builtin; refine Kd.R_append k60 (w0 := w3) w3.heap.size rfl (.tmp 52) (.tmp 62) 34 60 (.agg #[(.int .i64 0), (.int .i64 0), (.string ⟨#[]⟩)]) 32 rfl Tryd.underlying34 info60 rfl (by decide) (by omega) (.slice SA l.length SC) l ⟨ya, ya + (old.size : Int), name⟩ [.int .i64 ya, .int .i64 (ya + (old.size : Int)), .string name] (fun _ => True) (fun _ => False) rfl (show Value.slice (some ⟨wr.heap.size + 1, 0, none⟩) 1 1 = Value.slice (some ⟨(wr.alloc (.cells #[.int .u8 yk, .string yx, .int .i64 ya] 58)).heap.size, 0, none⟩) 1 1 by rw [World.size_alloc]) (k60_mkM _ _ _ ⟨ya, ya + (old.size : Int), name⟩) (fun _ hk => hk.elim) (fun _ _ => trivial) HS2.out HBW2.out HBW2.out.size (by omega) ?_; intro v4 w4 hR4 hB4 hg4 hat4; have HR4 := Aside0.mk hR4; have HB4 := Aside0.mk hB4; clear hR4 hB4 hg4 hat4)
                go_roundg (tl.length - (i + 1))
                case measure => omega
                case rel => exact ⟨i + 1, v4, rfl, by rw [HAN.out]; rfl, by go_num, by omega, by omega, ⟨by rw [HSN2.out]; exact HR4.out⟩, HB4⟩
            · rw [decide_eq_false hold] at hcat2
              have hsn := HSN.out
              rw [if_neg hold, List.append_nil] at hsn
              have HS2 := Aside0.mk (show k60.R 60 (wr.alloc (.cells #[.int .u8 yk, .string yx, .int .i64 ya] 58)) w3.heap.size (fun _ => True) (.slice SA (renS old name (tl.take i)).length SC) (renS old name (tl.take (i + 1))) by rw [hsn]; exact Kd.R_alloc HS.out _)
              have HBW2 := Aside0.mk (HBW.out.alloc HBW.out.size (.cells #[.int .u8 yk, .string yx, .int .i64 ya] 58))
              clear hsn
              cases b with
              | true =>
                go_wp2
                go_roundg (tl.length - (i + 1))
                case measure => omega
                case rel => exact ⟨i + 1, _, rfl, by rw [HAN.out]; rfl, by go_num, by omega, by omega, HS2, HBW2⟩
              | false =>
                go_wp2
                go_roundg (tl.length - (i + 1))
                case measure => omega
                case rel => exact ⟨i + 1, _, rfl, by rw [HAN.out]; rfl, by go_num, by omega, by omega, HS2, HBW2⟩
          · have hlt2 : decide ((i : Int) < (tl.length : Int)) = false := decide_eq_false (by omega)
            have hlt3 : decide (i < tl.length) = false := decide_eq_false hlt
            obtain rfl : i = tl.length := by omega
            have hR := HR.out
            rw [List.take_length] at HS
            have hsl := renS_len old name tl
            have hso := renS_ord s.size old name tl 0 0 HTO.out (Int.le_refl _) (Int.le_refl _)
            have hsb := splB_len s 12 (renS old name tl) 0 (fun x hx => by
              unfold renS at hx
              obtain ⟨t, _, rfl⟩ := List.mem_map.1 hx
              exact hsz) hso
            have hsp := spliced_any s SA SC (renS old name tl) wr (Kd.R_reads' HS.out).2.2 (by omega) (by omega) hso (by omega)
            rw [List.take_length]
            generalize ((tl.any fun t => decide (t.f1 = name))) = b at *
            generalize renS old name tl = S at *
            generalize splM s S = out at *
            clear hso hsb HS HTO HC
            by_cases hS0 : S = []
            · subst hS0
              rw [if_pos rfl] at hR
              subst hR
              go_wp2_with (go_at_call 49; refine hsp.mono ?_; rintro e w5 ⟨rfl, hb5⟩)
              go_ret2
              exact ⟨rfl, B3.out.trans ((HBW.out.mono hw3).trans (hb5.mono (Nat.le_trans hw3 HBW.out.size)))⟩
            · rw [if_neg hS0] at hR
              have hl0 : S.length ≠ 0 := fun h => hS0 (List.length_eq_zero_iff.1 h)
              have hlb : ((S.length : Int) == 0) = false := beq_false_of_ne (by omega)
              have hlb2 : (S.length == 0) = false := beq_false_of_ne hl0
              have hlb3 : (S = []) = False := eq_false hS0
              cases b with
              | true =>
                rw [if_pos rfl] at hR
                subst hR
                go_wp2_with (go_at_call 49; refine hsp.mono ?_; rintro e w5 ⟨rfl, hb5⟩)
                go_ret2
                exact ⟨rfl, B3.out.trans ((HBW.out.mono hw3).trans (hb5.mono (Nat.le_trans hw3 HBW.out.size)))⟩
              | false =>
                rw [if_neg (by decide)] at hR
                by_cases hbig : 2500 < out.size
                · rw [if_pos hbig] at hR
                  have g1 : decide ((2500 : Int) < (out.size : Int)) = true := decide_eq_true (by omega)
                  have g2 : decide (2500 < out.size) = true := decide_eq_true hbig
                  subst hR
                  go_wp2_with (go_at_call 49; refine hsp.mono ?_; rintro e w5 ⟨rfl, hb5⟩)
                  go_ret2
                  exact ⟨rfl, B3.out.trans ((HBW.out.mono hw3).trans (hb5.mono (Nat.le_trans hw3 HBW.out.size)))⟩
                · rw [if_neg hbig] at hR
                  have g1 : decide ((2500 : Int) < (out.size : Int)) = false := decide_eq_false (by omega)
                  have g2 : decide (2500 < out.size) = false := decide_eq_false hbig
                  subst hR
                  go_wp2_with (go_at_call 49; refine hsp.mono ?_; rintro e w5 ⟨rfl, hb5⟩)
                  go_ret2
                  exact ⟨rfl, B3.out.trans ((HBW.out.mono hw3).trans (hb5.mono (Nat.le_trans hw3 HBW.out.size)))⟩
  · rw [if_pos h0] at hR
    subst hR
    have hb1 : (te == 0) = false := beq_false_of_ne h0
    have hb2 : (te != 0) = true := bne_iff_ne.2 h0
    go_enter Tryd.func17, Tryd.ntmps17
    go_wp2_with (first | (go_at_call 12; refine hT.mono ?_; rintro e w1 ⟨tv, rfl, hrt, hb1'⟩; have HB1 := Aside0.mk hb1'; have HRT := Aside0.mk hrt; obtain ⟨TA, TC, rfl⟩ := Kd.R_slice hrt; clear hrt hb1'))
    go_ret2
    exact ⟨rfl, HB1.out⟩
end Go.Proofs.YtebidpcmcekbgaaDoor.P
