-- laid by this session's own program (wip/mkprint.sh) for this claim
import Derived.Test.Ytgnonglkibhnhaa0
import Derived.Test.YtgnonglkibhnhaaF13
import Derived.Test.YtgnonglkibhnhaaF34
import Derived.Test.YtgnonglkibhnhaaF51
import Derived.Test.YtgnonglkibhnhaaF52
namespace Go.Proofs.Ytgnonglkibhnhaa.Print
open Go.RowKit Go.Proofs.YtgnonglkibhnhaaW.PrintWords Go.Proofs.YtgnonglkibhnhaaW.PrintLast Go.Proofs.YtgnonglkibhnhaaW.PrintMore
attribute [local go_sem] max2_int min2_int max_two min_two max_three min_three max_four min_four   -- for this text's walks alone
set_option linter.unusedVariables false
set_option linter.unusedSimpArgs false

/-! ### frame_Deframer_close: function 48 -/
def DF.size (wide : Bool) : Int := if wide = true then 4 else 2
/-- What a frame as it stands is taken for. -/
def DF.close (k : Nat) (m : Int) (wide : Bool) (s : DF) : Option DF :=
  (stuff_Unstuff.f k s.held m).bind fun x =>
    if x.2 = true then
      if x.1.length = 0 then some s
      else if (x.1.length : Int) < DF.size wide + 2 then some { s with ts := wrap64 (s.ts + 1) }
      else if (x.1.length : Int) > DF.size wide + 65535 then some { s with tl := wrap64 (s.tl + 1) }
      else (fcs_Open.f x.1 wide).bind fun y =>
        if y.2 = true then if s.done.length < 5864062014805 then some { s with tg := wrap64 (s.tg + 1), done := s.done ++ [y.1] } else none
        else some { s with tw := wrap64 (s.tw + 1) }
    else some { s with ta := wrap64 (s.ta + 1) }
theorem DF.close_mono (m : Int) (wide : Bool) (s : DF) (k : Nat) : LeO (DF.close k m wide s) (DF.close (k + 1) m wide s) := by
  unfold DF.close
  exact LeO.bind (stuff_Unstuff.mono _ _ k) fun _ => LeO.refl _
theorem DF.size_f (wide : Bool) : fcs_Size.f wide = some (DF.size wide) := by cases wide <;> rfl
theorem DF.size_le (wide : Bool) : 2 ≤ DF.size wide ∧ DF.size wide ≤ 4 := by cases wide <;> decide
set_option maxHeartbeats 16000000 in
set_option maxRecDepth 100000 in
theorem frame_Deframer_close.calls (k : Nat) (B D p : Nat) (vh vd : Value) (m : Int) (wide : Bool) (s s' : DF) (W : World) (h : DFI B D W p vh vd m wide s) (hB : B ≤ D) (hD : D ≤ W.heap.size) (hs : DF.close k m wide s = some s') :
    Calls Try.prog 48 #[.pointer (some ⟨p, 0, none⟩), vh] W fun e W' => e = .returned (.tuple #[]) ∧ Aside0 (∃ vd', DFI B D W' p vh vd' m wide s' ∧ DFK B W W' (fun k => k = p ∨ some k = vd.ownBlock)) := by
  have hu := Try.underlying56
  have hu2 := Try.underlying40
  unfold DF.close at hs
  obtain ⟨⟨x, xo⟩, hx, hs⟩ := Option.bind_eq_some_iff.1 hs
  have hz := DF.size_le wide
  have hzf := DF.size_f wide
  generalize DF.size wide = z at hs hz hzf
  have HZF := Aside0.mk hzf
  clear hzf
  obtain ⟨hz1, hz2⟩ := hz
  obtain ⟨Ah, ch, rfl, hle, hC⟩ := Kd.R_reads h.held
  have HLE := Aside0.mk hle
  have HC := Aside0.mk hC
  have HX := Aside0.mk hx
  have HS := Aside0.mk hs
  have HH := Aside0.mk h
  have HBB := Aside0.mk hB
  have HD := Aside0.mk hD
  have hc0 : W.cell? ⟨p, 0, none⟩ = some (.int .u32 m) := h.cell 0 _ rfl
  have hf0 := h.free 0
  have hc1 : W.cell? ⟨p, 1, none⟩ = some (.bool wide) := h.cell 1 _ rfl
  have hf1 := h.free 1
  have hc4 : W.cell? ⟨p, 4, none⟩ = some (.int .i64 s.tg) := h.cell 4 _ rfl
  have hf4 := h.free 4
  have hc5 : W.cell? ⟨p, 5, none⟩ = some (.int .i64 s.ta) := h.cell 5 _ rfl
  have hf5 := h.free 5
  have hc6 : W.cell? ⟨p, 6, none⟩ = some (.int .i64 s.ts) := h.cell 6 _ rfl
  have hf6 := h.free 6
  have hc7 : W.cell? ⟨p, 7, none⟩ = some (.int .i64 s.tl) := h.cell 7 _ rfl
  have hf7 := h.free 7
  have hc8 : W.cell? ⟨p, 8, none⟩ = some (.int .i64 s.tw) := h.cell 8 _ rfl
  have hf8 := h.free 8
  have hc9 : W.cell? ⟨p, 9, none⟩ = some (vd) := h.cell 9 _ rfl
  have hf9 := h.free 9
  clear h hs hx hle hC hB hD
  go_enter Try.func48, Try.ntmps48
  go_wp2_with (fail)
  refine (stuff_Unstuff.calls k Ah ch s.held m x xo W HC.out HLE.out HX.out).mono ?_
  rintro e w1 ⟨vx, rfl, hox, hb⟩
  have HH1 := Aside0.mk (HH.out.below hb)
  have HK1 := Aside0.mk (DFK.below (S := fun k => k = p ∨ some k = vd.ownBlock) (DFK.refl B W _) (Nat.le_trans HBB.out HD.out) hb)
  have HD1 := Aside0.mk (Nat.le_trans HD.out hb.size)
  obtain ⟨Ax, cx, rfl⟩ := Kd.R_slice hox
  have HOX := Aside0.mk hox
  have LX := Aside0.mk (Kd.R_reads' hox).2.2.2.1
  clear hox hb hc0 hf0 hc1 hf1 hc4 hf4 hc5 hf5 hc6 hf6 hc7 hf7 hc8 hf8 hc9 hf9
  have hc0 : w1.cell? ⟨p, 0, none⟩ = some (.int .u32 m) := HH1.out.cell 0 _ rfl
  have hf0 := HH1.out.free 0
  have hc1 : w1.cell? ⟨p, 1, none⟩ = some (.bool wide) := HH1.out.cell 1 _ rfl
  have hf1 := HH1.out.free 1
  have hc4 : w1.cell? ⟨p, 4, none⟩ = some (.int .i64 s.tg) := HH1.out.cell 4 _ rfl
  have hf4 := HH1.out.free 4
  have hc5 : w1.cell? ⟨p, 5, none⟩ = some (.int .i64 s.ta) := HH1.out.cell 5 _ rfl
  have hf5 := HH1.out.free 5
  have hc6 : w1.cell? ⟨p, 6, none⟩ = some (.int .i64 s.ts) := HH1.out.cell 6 _ rfl
  have hf6 := HH1.out.free 6
  have hc7 : w1.cell? ⟨p, 7, none⟩ = some (.int .i64 s.tl) := HH1.out.cell 7 _ rfl
  have hf7 := HH1.out.free 7
  have hc8 : w1.cell? ⟨p, 8, none⟩ = some (.int .i64 s.tw) := HH1.out.cell 8 _ rfl
  have hf8 := HH1.out.free 8
  have hc9 : w1.cell? ⟨p, 9, none⟩ = some (vd) := HH1.out.cell 9 _ rfl
  have hf9 := HH1.out.free 9
  go_wp2_with (fail)
  refine (fcs_Size.calls wide _ _ HZF.out).mono ?_
  rintro e w2 ⟨rfl, ⟨nd, rfl⟩⟩
  cases xo with
  | false =>
    have hs := HS.out
    rw [if_neg (by decide)] at hs
    obtain rfl := Option.some.inj hs
    clear hs HS
    go_wp2
    go_end0
    exact ⟨rfl, ⟨_, (HH1.out.drewN nd).set 5 _ { s with ta := wrap64 (s.ta + 1) } rfl rfl rfl, (HK1.out.drewN nd).set (Or.inl rfl) HH1.out.le 5 _⟩⟩
  | true =>
    have hs := HS.out
    rw [if_pos rfl] at hs
    clear HS
    by_cases hx0 : x.length = 0
    · rw [if_pos hx0] at hs
      obtain rfl := Option.some.inj hs
      obtain rfl := List.eq_nil_of_length_eq_zero hx0
      clear hs hx0
      simp only [List.length_nil]
      go_wp2
      go_end0
      exact ⟨rfl, ⟨_, HH1.out.drewN nd, HK1.out.drewN nd⟩⟩
    · rw [if_neg hx0] at hs
      have e0 : ((x.length : Int) == 0) = false := by simpa using hx0
      have e1 : decide ((x.length : Int) = 0) = false := by simpa using hx0
      have e2 : (x.length == 0) = false := by simpa using hx0
      have e3 : ¬ (x = []) := fun e_ => hx0 (by rw [e_]; rfl)
      by_cases hx1 : (x.length : Int) < z + 2
      · rw [if_pos hx1] at hs
        obtain rfl := Option.some.inj hs
        have f1 : decide ((x.length : Int) < z + 2) = true := decide_eq_true hx1
        clear hs hx0
        go_wp2
        go_end0
        exact ⟨rfl, ⟨_, (HH1.out.drewN nd).set 6 _ { s with ts := wrap64 (s.ts + 1) } rfl rfl rfl, (HK1.out.drewN nd).set (Or.inl rfl) HH1.out.le 6 _⟩⟩
      · rw [if_neg hx1] at hs
        have f1 : decide ((x.length : Int) < z + 2) = false := decide_eq_false hx1
        by_cases hx2 : (x.length : Int) > z + 65535
        · rw [if_pos hx2] at hs
          obtain rfl := Option.some.inj hs
          have f2 : decide (z + 65535 < (x.length : Int)) = true := decide_eq_true hx2
          clear hs hx0
          go_wp2
          go_end0
          exact ⟨rfl, ⟨_, (HH1.out.drewN nd).set 7 _ { s with tl := wrap64 (s.tl + 1) } rfl rfl rfl, (HK1.out.drewN nd).set (Or.inl rfl) HH1.out.le 7 _⟩⟩
        · rw [if_neg hx2] at hs
          have f2 : decide (z + 65535 < (x.length : Int)) = false := decide_eq_false hx2
          obtain ⟨⟨y, yo⟩, hy, hs⟩ := Option.bind_eq_some_iff.1 hs
          have HY := Aside0.mk hy
          have HS := Aside0.mk hs
          clear hs hx0 hy
          go_wp2_with (fail)
          refine (fcs_Open.calls Ax cx x wide y yo _ (Kd.C_drewN (Kd.R_reads' HOX.out).2.2 nd) (Kd.R_reads' HOX.out).2.1 HY.out).mono ?_
          rintro e w3 ⟨vy, rfl, hoy, hb⟩
          have HH3 := Aside0.mk ((HH1.out.drewN nd).below hb)
          have HK3 := Aside0.mk (DFK.below (HK1.out.drewN nd) (Nat.le_trans HBB.out HD.out) hb)
          have SD := Aside0.mk (Kd.S_old (HH1.out.drewN nd).done hb)
          have LP : Aside0 (p < (w1.drewN nd).heap.size) := ⟨blk_lt (HH1.out.drewN nd).blk⟩
          have LH := Aside0.mk (Kd.R_lt (HH1.out.drewN nd).held)
          have LV := Aside0.mk (Kd.S_lt (HH1.out.drewN nd).done)
          have LY := Aside0.mk (Kd.R_base hoy)
          have L31 := Aside0.mk hb.size
          have HD3 := Aside0.mk (Nat.le_trans HD1.out hb.size)
          obtain ⟨Ay, cy, rfl⟩ := Kd.R_slice hoy
          have HOY := Aside0.mk (Kd.R_lower hoy HD1.out)
          clear hoy hb hc0 hf0 hc1 hf1 hc4 hf4 hc5 hf5 hc6 hf6 hc7 hf7 hc8 hf8 hc9 hf9
          have hc4 : w3.cell? ⟨p, 4, none⟩ = some (.int .i64 s.tg) := HH3.out.cell 4 _ rfl
          have hf4 := HH3.out.free 4
          have hc8 : w3.cell? ⟨p, 8, none⟩ = some (.int .i64 s.tw) := HH3.out.cell 8 _ rfl
          have hf8 := HH3.out.free 8
          have hc9 : w3.cell? ⟨p, 9, none⟩ = some (vd) := HH3.out.cell 9 _ rfl
          have hf9 := HH3.out.free 9
          cases yo with
          | false =>
            have hs := HS.out
            rw [if_neg (by decide)] at hs
            obtain rfl := Option.some.inj hs
            clear hs HS
            go_wp2
            refine bodyPost_ret (results_none rfl _ _ _) rfl ?_
            exact ⟨rfl, ⟨_, HH3.out.set 8 _ { s with tw := wrap64 (s.tw + 1) } rfl rfl rfl, HK3.out.set (Or.inl rfl) HH3.out.le 8 _⟩⟩
          | true =>
            have hs := HS.out
            rw [if_pos rfl] at hs
            clear HS
            by_cases hl : s.done.length < 5864062014805
            · rw [if_pos hl] at hs
              obtain rfl := Option.some.inj hs
              have HL := Aside0.mk hl
              clear hs hl
              have H4 : Aside0 (DFI B D (w3.setCell ⟨p, 4, none⟩ (.int .i64 (wrap64 (s.tg + 1)))) p (.slice Ah s.held.length ch) vd m wide { s with tg := wrap64 (s.tg + 1) }) := ⟨HH3.out.set 4 _ { s with tg := wrap64 (s.tg + 1) } rfl rfl rfl⟩
              have SD4 := Aside0.mk (Kd.S_far (p := ⟨p, 4, none⟩) SD.out (fun k hk => hk.1.1) (.int .i64 (wrap64 (s.tg + 1))))
              have HY4 := Aside0.mk (Kd.R_far (p := ⟨p, 4, none⟩) (Kd.R_types HOY.out HH3.out.blk (by decide)) (fun k hk => hk.2) (.int .i64 (wrap64 (s.tg + 1))))
              have HK4 := Aside0.mk (HK3.out.set (Or.inl rfl) HH3.out.le 4 (.int .i64 (wrap64 (s.tg + 1))))
              go_wp2_with (((with_reducible refine gate_builtin (b := .append) (xs := #[.tmp 56, .tmp 58]) rfl ?_); at_builtin; refine Kd.S_append (Kd.slice 5 (Kd.int .u8)) (w0 := w3.setCell ⟨p, 4, none⟩ (.int .i64 (wrap64 (s.tg + 1)))) D rfl (.tmp 56) (.tmp 58) 22 26 (.slice none 0 0) 24 rfl Try.underlying22 info26 rfl (by decide) (by omega) vd s.done y [.slice Ay y.length cy] (fun k => k ≠ p ∧ some k ≠ (.slice Ah s.held.length ch : Value).ownBlock) (fun k => some k = (.slice Ay y.length cy : Value).ownBlock) rfl ?aX ?aP ?aK ?aF ?aO ?aB ?aS ?aL ?_; (case aX => exact congrArg (fun n : Nat => Value.slice (some ⟨n, 0, none⟩) 1 1) (show w3.heap.size = (w3.setCell _ _).heap.size from by simp only [World.setCell, Array.size_modify])); (case aP => exact Kd.M_row (Kd.R_tight rfl HY4.out)); (case aK => exact fun k hk => ⟨⟨fun e_ => by have h1 := LY.out k hk.symm; have h2 := LP.out; omega, fun e_ => by have h1 := LY.out k hk.symm; have h2 := LH.out k e_.symm; omega⟩, fun e_ => by have h1 := LY.out k hk.symm; have h2 := LV.out k e_.symm; omega⟩); (case aF => exact fun k hk => ⟨fun e_ => by have h1 := L31.out; have h2 := LP.out; simp only [World.setCell, Array.size_modify] at hk; omega, fun e_ => by have h1 := L31.out; have h2 := LH.out k e_.symm; simp only [World.setCell, Array.size_modify] at hk; omega⟩); (case aO => exact Kd.S_mono SD4.out (fun k hk => ⟨hk.1, fun e_ => by have h1 := LY.out k e_.symm; have h2 := hk.2; omega⟩)); (case aB => exact Below.refl _ _); (case aS => simp only [World.setCell, Array.size_modify]; exact HD3.out); (case aL => have := HL.out; omega); intro v5 w5 ho hb hg hat; obtain ⟨A5, c5, eo5⟩ := Kd.S_slice ho; subst eo5; have BK5 := Aside0.mk (blk_grown H4.out.blk hg (Kd.S_ne SD4.out H4.out.blk (by decide))); have HO5 := Aside0.mk ho; have HB5 := Aside0.mk hb; have HG5 := Aside0.mk hg; have hc5 : w5.cell? ⟨p, 9, none⟩ = some vd := (blk_cell BK5.out 9).trans rfl; have hf5 := blk_frozen BK5.out 9; clear ho hb hg hat))
              go_end0
              have ho6 := HO5.out
              simp only [List.length_append, List.length_singleton] at ho6
              have HO6 := Aside0.mk ho6
              refine ⟨rfl, ⟨.slice A5 (s.done.length + 1) c5, ⟨?_, ?_, ?_, HH3.out.le⟩, ?_⟩⟩
              · exact blk_set BK5.out 9 _
              · exact Kd.R_far (Kd.R_mono (Kd.R_apart' (Kd.R_grown H4.out.held HG5.out (fun k hk => hk.2)) (Kd.S_typed HO6.out) (by decide)) (fun k hk => ⟨hk.1.1, hk.2⟩)) (fun k hk => hk.1) _
              · exact Kd.S_far HO6.out (fun k hk => hk.1) _
              · exact DFK.set (DFK.grown HK4.out HBB.out HB5.out HG5.out (fun k hk => Or.inr hk.symm)) (Or.inl rfl) HH3.out.le 9 _
            · rw [if_neg hl] at hs
              cases hs

end Go.Proofs.Ytgnonglkibhnhaa.Print
