-- laid by this session's own program (wip/mkprint.sh) for this claim
import Derived.Test.Ytgnonglkibhnhaa0
import Derived.Test.YtgnonglkibhnhaaF15
import Derived.Test.YtgnonglkibhnhaaF14
import Derived.Test.YtgnonglkibhnhaaF16
import Derived.Test.YtgnonglkibhnhaaF19
import Derived.Test.YtgnonglkibhnhaaF8
namespace Go.Proofs.Ytgnonglkibhnhaa.Print
open Go.RowKit Go.Proofs.YtgnonglkibhnhaaW.PrintWords Go.Proofs.YtgnonglkibhnhaaW.PrintLast Go.Proofs.YtgnonglkibhnhaaW.PrintMore
attribute [local go_sem] max2_int min2_int max_two min_two max_three min_three max_four min_four   -- for this text's walks alone
set_option linter.unusedVariables false
set_option linter.unusedSimpArgs false

/-! ### a deframer beside a row of one's own, and what came of it so far -/
theorem own_eq (A : Option Addr) (n c n' c' : Nat) : (Value.slice A n c).ownBlock = (Value.slice A n' c').ownBlock := by cases A <;> rfl
structure FK (b0 : Nat) (A : Option Addr) (W : World) (p : Nat) (m : Int) (wide : Bool) (s : DF) (bo : Nat) (vx : Value) (x : List (List Int)) : Prop where
  mk ::
  out : ∃ vh : Value, (∀ D, DFI b0 D W p vh (.slice none 0 0) m wide s) ∧ b0 ≤ W.heap.size ∧ bo ≤ b0 ∧ (∀ k, (Value.slice A 0 0).ownBlock = some k → k < b0) ∧ Kd.N (Kd.slice 5 (Kd.int .u8)) 26 W bo (fun k => some k ≠ (Value.slice A 0 0).ownBlock ∧ (k ≠ p ∧ some k ≠ vh.ownBlock)) vx x
section
variable {b0 bo p : Nat} {A : Option Addr} {W : World} {m : Int} {wide : Bool} {s : DF} {vx : Value} {x : List (List Int)}
theorem FK.drewN (h : FK b0 A W p m wide s bo vx x) (n : Nat) : FK b0 A (W.drewN n) p m wide s bo vx x := by
  obtain ⟨vh, hd, h1, h2, h3, h4⟩ := h.out
  exact ⟨⟨vh, fun D => (hd D).drewN n, h1, h2, h3, Kd.N_drewN h4 n⟩⟩
theorem FK.drew (h : FK b0 A W p m wide s bo vx x) : FK b0 A W.drew p m wide s bo vx x := by
  obtain ⟨vh, hd, h1, h2, h3, h4⟩ := h.out
  exact ⟨⟨vh, fun D => (hd D).below (below_drew (Below.refl _ _)), h1, h2, h3, Kd.N_drew h4⟩⟩
/-- The row is written. -/
theorem FK.grown (h : FK b0 A W p m wide s bo vx x) {w1 : World} {g : Nat} (hg : W.grownBy w1 (some g)) (hA : (Value.slice A 0 0).ownBlock = some g) : FK b0 A w1 p m wide s bo vx x := by
  obtain ⟨vh, hd, h1, h2, h3, h4⟩ := h.out
  have hlt := h3 g hA
  have hdn : s.done = [] := List.eq_nil_of_length_eq_zero (Kd.S_reads' (hd 0).done).1.symm
  refine ⟨⟨vh, fun D => ⟨blk_grown (hd 0).blk hg ?_, ?_, (by rw [hdn]; exact Kd.S_nil _ _ _ _ _), (hd 0).le⟩, Nat.le_trans h1 hg.size, h2, h3, Kd.N_grown h4 hg (fun k hk => by rw [← hA]; exact hk.1)⟩⟩
  · intro e_
    injection e_ with e_
    have := (hd 0).le
    omega
  · refine Kd.R_mono (Kd.R_grown (Kd.R_bound (hd 0).held) hg (fun k hk e_ => ?_)) (fun k hk => hk.1)
    injection e_ with e_
    have := hk.2.1
    omega
end
theorem FD.feedK (k : Nat) (m : Int) (wide : Bool) (s sr : DF) (A0 : Option Addr) (c0 : Nat) (l0 : List Int) (w0 w : World) (p bo wb n c : Nat) (A : Option Addr) (y : List Int) (hF : FD w0 w p m wide s) (hA : Kd.C (Kd.int .u8) w0 A0 l0.length l0) (hs : DF.feed k m wide s l0 = some sr) (hbo : bo ≤ w0.heap.size) (hy : Kd.R (Kd.int .u8) 5 w0 wb (fun _ => True) (.slice A n c) y) :
    Calls Try.prog 14 #[.pointer (some ⟨p, 0, none⟩), .slice A0 l0.length c0] w fun e w' => ∃ v0 : Value, e = .returned v0 ∧ Aside0 (FK w0.heap.size A w' p m wide { sr with done := [] } bo v0 sr.done) ∧ Aside0 (Kd.S (Kd.slice 5 (Kd.int .u8)) 26 w' w0.heap.size (fun _ => True) v0 sr.done) ∧ Aside0 (Below w0.heap.size w0 w') := by
  obtain ⟨vh, hd, hb⟩ := hF.out
  refine (frame_Deframer_Feed.calls k w0.heap.size p vh m wide s sr A0 c0 l0 w (hd _) hb.size (Kd.F_mono (Kd.F_below (Kd.C_F (Kd.heap_int .u8) hA) hb) (fun k_ hk => ⟨Nat.ne_of_lt (Nat.lt_of_lt_of_le hk (hd 0).le), fun e_ => by have h_ := Kd.R_base (hd 0).held k_ e_.symm; omega⟩)) hs).mono ?_
  rintro e w1 ⟨v0, rfl, ⟨vh1, hd1, ho, hk, hv⟩⟩
  have hlt : ∀ k_, (Value.slice A 0 0).ownBlock = some k_ → k_ < w0.heap.size := fun k_ hk_ => Kd.R_lt hy k_ ((own_eq A n c 0 0).trans hk_)
  refine ⟨v0, rfl, ⟨⟨vh1, hd1, (hb.trans hk.bel).size, hbo, hlt, ?_⟩⟩, ⟨Kd.S_lower (Kd.S_mono ho (fun _ _ => trivial)) hb.size⟩, ⟨hb.trans hk.bel⟩⟩
  refine Kd.N_lower (Kd.N_mono (Kd.S_N (Kd.S_bound ho)) (fun k_ hk_ => ⟨fun e_ => ?_, hk_.1⟩)) (Nat.le_trans hbo hb.size)
  have h1 := hlt k_ e_.symm
  have h2 := hk_.2.1
  have h3 := hb.size
  omega
theorem FK.feed (k : Nat) (b0 bo p wb n c : Nat) (A : Option Addr) (W : World) (m : Int) (wide : Bool) (s sr : DF) (vx : Value) (x : List (List Int)) (y : List Int) (h : FK b0 A W p m wide s bo vx x) (hy : Kd.R (Kd.int .u8) 5 W wb (fun _ => True) (.slice A n c) y) (A1 : Option Addr) (c1 : Nat) (l1 : List Int) (hA : Kd.F (Kd.int .u8) W (fun k => some k = (Value.slice A n c).ownBlock) A1 l1.length l1) (hs : DF.feed k m wide s l1 = some sr) :
    Calls Try.prog 14 #[.pointer (some ⟨p, 0, none⟩), .slice A1 l1.length c1] W fun e w' => ∃ v0 : Value, e = .returned v0 ∧ Aside0 (Kd.R (Kd.int .u8) 5 w' wb (fun _ => True) (.slice A n c) y) ∧ Aside0 (Kd.N (Kd.slice 5 (Kd.int .u8)) 26 w' bo (fun k => some k ≠ (Value.slice A n c).ownBlock ∧ some k ≠ v0.ownBlock) vx x) ∧ Aside0 (Kd.S (Kd.slice 5 (Kd.int .u8)) 26 w' W.heap.size (fun _ => True) v0 sr.done) ∧ Aside0 (Below b0 W w') := by
  obtain ⟨vh, hd, h1, h2, h3, h4⟩ := h.out
  have ha : ∀ k_, some k_ = (Value.slice A n c).ownBlock → k_ < b0 := fun k_ hk_ => h3 k_ ((own_eq A 0 0 n c).trans hk_.symm)
  have hno : ∀ k_, some k_ = (Value.slice A n c).ownBlock → ¬ (k_ = p ∨ some k_ = vh.ownBlock) := by
    intro k_ hk_ h_
    have h5 := ha k_ hk_
    rcases h_ with h_ | h_
    · have := (hd 0).le
      omega
    · have := Kd.R_base (hd 0).held k_ h_.symm
      omega
  refine (frame_Deframer_Feed.calls k b0 p vh m wide s sr A1 c1 l1 W (hd _) h1 (Kd.F_mono hA (fun k_ hk_ => ⟨fun e_ => hno k_ hk_ (.inl e_), fun e_ => hno k_ hk_ (.inr e_)⟩)) hs).mono ?_
  rintro e w1 ⟨v0, rfl, ⟨vh1, hd1, ho, hk, hv⟩⟩
  refine ⟨v0, rfl, ⟨Kd.R_mono (Kd.R_kept (Kd.R_tight rfl hy) hk.kept hno) (fun _ _ => trivial)⟩, ⟨?_⟩, ⟨Kd.S_mono ho (fun _ _ => trivial)⟩, ⟨hk.bel⟩⟩
  refine Kd.N_mono (Kd.N_kept (Kd.N_bound h4) hk.kept (fun k_ hk_ h_ => h_.elim hk_.1.2.1 hk_.1.2.2)) (fun k_ hk_ => ⟨fun e_ => hk_.1.1 (e_.trans (own_eq A n c 0 0)), fun e_ => ?_⟩)
  have h5 := Kd.S_base ho k_ e_.symm
  have h6 := hk_.2
  omega
theorem feed_up {k k' : Nat} (hk : k ≤ k') {m : Int} {wide : Bool} {s sr : DF} {l : List Int} (h : DF.feed k m wide s l = some sr) : DF.feed k' m wide s l = some sr := by
  induction hk with
  | refl => exact h
  | step _ ih => exact DF.feed_mono m wide _ l s _ ih
/-! ### umpirelaw07_FrameKeeps: function 7 -/
mutual
def umpirelaw07_FrameKeeps.j0 : Nat → List Int → Int → Int → Bool → Bool → Option (Bool)
  | 0, _, _, _, _, _ => none
  | k + 1, x0, x1, x2, x3, x24 => if x24 = true then ((umpirelaw07_awake.f k).bind fun t513 => (some t513)) else (if (wrap64 ((x0.length : Int) + 1)) = 0 then (none) else ((some (([] : List Int) : List Int)).bind fun y514 => (if y514.length + x0.length < 140737488355328 then ((some (y514 ++ x0 : List Int)).bind fun y517 => (if 0 = 1 then (none) else (if 0 ≤ (Int.tmod (wrap64 (x1)) (wrap64 ((x0.length : Int) + 1))) then (if (Int.tmod (wrap64 (x1)) (wrap64 ((x0.length : Int) + 1))) ≤ (y517.length : Int) then ((frame_All.f k (y517.take ((Int.tmod (wrap64 (x1)) (wrap64 ((x0.length : Int) + 1))) : Int).toNat) x2 x3).bind fun bt525 => (if (strOfNums y517).toList = (strOfNums x0).toList then (umpirelaw07_FrameKeeps.l0 k x0 x2 x3 (Int.tmod (wrap64 (x1)) (wrap64 ((x0.length : Int) + 1))) y517 bt525.1 0) else (none))) else (none)) else (none)))) else (none))))
def umpirelaw07_FrameKeeps.l0 : Nat → List Int → Int → Bool → Int → List Int → List (List Int) → Int → Option (Bool)
  | 0, _, _, _, _, _, _, _ => none
  | k + 1, x0, x2, x3, x9, x10, x12, x13 => if x13 < x9 then (if 0 ≤ x13 then (if x13 < (x10.length : Int) then (umpirelaw07_FrameKeeps.l0 k x0 x2 x3 x9 (x10.set (x13 : Int).toNat (((rd x10 x13) + 1) % 256)) x12 (wrap64 (x13 + 1))) else (none)) else (none)) else (if 0 ≤ x9 then (if x9 ≤ (x10.length : Int) then ((frame_More.f k (x0.take (x9 : Int).toNat) (x10.drop (x9 : Int).toNat) x2 x3).bind fun bt540 => (umpirelaw07_FrameKeeps.l1 k x0 x2 x3 x10 x12 bt540.1 x9)) else (none)) else (none))
def umpirelaw07_FrameKeeps.l1 : Nat → List Int → Int → Bool → List Int → List (List Int) → List (List Int) → Int → Option (Bool)
  | 0, _, _, _, _, _, _, _ => none
  | k + 1, x0, x2, x3, x10, x12, x14, x15 => if x15 < (x10.length : Int) then (if 0 ≤ x15 then (umpirelaw07_FrameKeeps.l1 k x0 x2 x3 (x10.set (x15 : Int).toNat (((rd x10 x15) + 1) % 256)) x12 x14 (wrap64 (x15 + 1))) else (none)) else ((umpireref07_All.f k x0 x2 x3).bind fun bt550 => ((some (([] : List (List Int)) : List (List Int))).bind fun y559 => (if y559.length + x12.length < 5864062014805 then ((some (y559 ++ x12 : List (List Int))).bind fun y562 => (if y562.length + x14.length < 5864062014805 then ((umpireref07_Same.f k (y562 ++ x14) bt550.1).bind fun t568 => (some t568)) else (none))) else (none))))
end
def umpirelaw07_FrameKeeps.f (k : Nat) (l0 : List Int) (a1 : Int) (a2 : Int) (a3 : Bool) : Option (Bool) := (umpirelaw07_awake.f k).bind fun t512 => (if t512 = true then (umpirelaw07_FrameKeeps.j0 k l0 a1 a2 a3 (decide ((l0.length : Int) > 3000))) else (umpirelaw07_FrameKeeps.j0 k l0 a1 a2 a3 true))
theorem umpirelaw07_FrameKeeps.mono_l : ∀ k, (∀ y0 y1 y2 y3 y4, LeO (umpirelaw07_FrameKeeps.j0 k y0 y1 y2 y3 y4) (umpirelaw07_FrameKeeps.j0 (k + 1) y0 y1 y2 y3 y4)) ∧ (∀ y0 y1 y2 y3 y4 y5 y6, LeO (umpirelaw07_FrameKeeps.l0 k y0 y1 y2 y3 y4 y5 y6) (umpirelaw07_FrameKeeps.l0 (k + 1) y0 y1 y2 y3 y4 y5 y6)) ∧ (∀ y0 y1 y2 y3 y4 y5 y6, LeO (umpirelaw07_FrameKeeps.l1 k y0 y1 y2 y3 y4 y5 y6) (umpirelaw07_FrameKeeps.l1 (k + 1) y0 y1 y2 y3 y4 y5 y6))
  | 0 => ⟨fun _ _ _ _ _ r h => by simp [umpirelaw07_FrameKeeps.j0] at h, fun _ _ _ _ _ _ _ r h => by simp [umpirelaw07_FrameKeeps.l0] at h, fun _ _ _ _ _ _ _ r h => by simp [umpirelaw07_FrameKeeps.l1] at h⟩
  | k + 1 => by
    obtain ⟨ih0, ih1, ih2⟩ := umpirelaw07_FrameKeeps.mono_l k
    refine ⟨?_, ?_, ?_⟩
    · intro y0 y1 y2 y3 y4
      unfold umpirelaw07_FrameKeeps.j0
      repeat' first
      | (with_reducible exact ih0 _ _ _ _ _)
      | (with_reducible exact ih1 _ _ _ _ _ _ _)
      | (with_reducible exact ih2 _ _ _ _ _ _ _)
      | (with_reducible exact frame_All.mono _ _ _ _)
      | (with_reducible exact frame_More.mono _ _ _ _ _)
      | (with_reducible exact umpirelaw07_awake.mono _)
      | (with_reducible exact umpireref07_All.mono _ _ _ _)
      | (with_reducible exact umpireref07_Same.mono _ _ _)
      | (with_reducible exact LeO.refl _)
      | (with_reducible exact LeO.none _)
      | (with_reducible refine LeO.ite ?_ ?_)
      | (with_reducible refine LeO.bind ?_ (fun _ => ?_))
      | exact ih0 _ _ _ _ _
      | exact ih1 _ _ _ _ _ _ _
      | exact ih2 _ _ _ _ _ _ _
      | exact frame_All.mono _ _ _ _
      | exact umpirelaw07_awake.mono _
      | exact umpireref07_All.mono _ _ _ _
      | exact umpireref07_Same.mono _ _ _
      | exact LeO.none _
      | refine LeO.ite ?_ ?_
      | refine LeO.bind ?_ (fun _ => ?_)
    · intro y0 y1 y2 y3 y4 y5 y6
      unfold umpirelaw07_FrameKeeps.l0
      repeat' first
      | (with_reducible exact ih0 _ _ _ _ _)
      | (with_reducible exact ih1 _ _ _ _ _ _ _)
      | (with_reducible exact ih2 _ _ _ _ _ _ _)
      | (with_reducible exact frame_All.mono _ _ _ _)
      | (with_reducible exact frame_More.mono _ _ _ _ _)
      | (with_reducible exact umpirelaw07_awake.mono _)
      | (with_reducible exact umpireref07_All.mono _ _ _ _)
      | (with_reducible exact umpireref07_Same.mono _ _ _)
      | (with_reducible exact LeO.refl _)
      | (with_reducible exact LeO.none _)
      | (with_reducible refine LeO.ite ?_ ?_)
      | (with_reducible refine LeO.bind ?_ (fun _ => ?_))
      | exact ih0 _ _ _ _ _
      | exact ih1 _ _ _ _ _ _ _
      | exact ih2 _ _ _ _ _ _ _
      | exact frame_All.mono _ _ _ _
      | exact umpirelaw07_awake.mono _
      | exact umpireref07_All.mono _ _ _ _
      | exact umpireref07_Same.mono _ _ _
      | exact LeO.none _
      | refine LeO.ite ?_ ?_
      | refine LeO.bind ?_ (fun _ => ?_)
    · intro y0 y1 y2 y3 y4 y5 y6
      unfold umpirelaw07_FrameKeeps.l1
      repeat' first
      | (with_reducible exact ih0 _ _ _ _ _)
      | (with_reducible exact ih1 _ _ _ _ _ _ _)
      | (with_reducible exact ih2 _ _ _ _ _ _ _)
      | (with_reducible exact frame_All.mono _ _ _ _)
      | (with_reducible exact frame_More.mono _ _ _ _ _)
      | (with_reducible exact umpirelaw07_awake.mono _)
      | (with_reducible exact umpireref07_All.mono _ _ _ _)
      | (with_reducible exact umpireref07_Same.mono _ _ _)
      | (with_reducible exact LeO.refl _)
      | (with_reducible exact LeO.none _)
      | (with_reducible refine LeO.ite ?_ ?_)
      | (with_reducible refine LeO.bind ?_ (fun _ => ?_))
      | exact ih0 _ _ _ _ _
      | exact ih1 _ _ _ _ _ _ _
      | exact ih2 _ _ _ _ _ _ _
      | exact frame_All.mono _ _ _ _
      | exact umpirelaw07_awake.mono _
      | exact umpireref07_All.mono _ _ _ _
      | exact umpireref07_Same.mono _ _ _
      | exact LeO.none _
      | refine LeO.ite ?_ ?_
      | refine LeO.bind ?_ (fun _ => ?_)
theorem umpirelaw07_FrameKeeps.mono : ∀ a0 a1 a2 a3 k, LeO (umpirelaw07_FrameKeeps.f k a0 a1 a2 a3) (umpirelaw07_FrameKeeps.f (k + 1) a0 a1 a2 a3) := by
  intro a0 a1 a2 a3 k
  obtain ⟨ih0, ih1, ih2⟩ := umpirelaw07_FrameKeeps.mono_l k
  unfold umpirelaw07_FrameKeeps.f
  repeat' first
      | (with_reducible exact ih0 _ _ _ _ _)
      | (with_reducible exact ih1 _ _ _ _ _ _ _)
      | (with_reducible exact ih2 _ _ _ _ _ _ _)
      | (with_reducible exact frame_All.mono _ _ _ _)
      | (with_reducible exact frame_More.mono _ _ _ _ _)
      | (with_reducible exact umpirelaw07_awake.mono _)
      | (with_reducible exact umpireref07_All.mono _ _ _ _)
      | (with_reducible exact umpireref07_Same.mono _ _ _)
      | (with_reducible exact LeO.refl _)
      | (with_reducible exact LeO.none _)
      | (with_reducible refine LeO.ite ?_ ?_)
      | (with_reducible refine LeO.bind ?_ (fun _ => ?_))
      | exact ih0 _ _ _ _ _
      | exact ih1 _ _ _ _ _ _ _
      | exact ih2 _ _ _ _ _ _ _
      | exact frame_All.mono _ _ _ _
      | exact umpirelaw07_awake.mono _
      | exact umpireref07_All.mono _ _ _ _
      | exact umpireref07_Same.mono _ _ _
      | exact LeO.none _
      | refine LeO.ite ?_ ?_
      | refine LeO.bind ?_ (fun _ => ?_)
set_option maxHeartbeats 8000000 in
set_option maxRecDepth 100000 in
theorem umpirelaw07_FrameKeeps.calls (k : Nat) (A0 : Option Addr) (c0 : Nat) (l0 : List Int) (a1 : Int) (a2 : Int) (a3 : Bool) (r : Bool) (w : World) (hr0 : Kd.C (Kd.int .u8) w A0 l0.length l0) (hc0 : l0.length ≤ c0) (h : umpirelaw07_FrameKeeps.f k l0 a1 a2 a3 = some r) :
    Calls Try.prog 7 #[.slice A0 l0.length c0, .int .u16 a1, .int .u32 a2, .bool a3] w fun e w' => e = .returned (.bool r) ∧ Below w.heap.size w w' := by
  have hu40 := Try.underlying40
  have HR0 := Aside0.mk hr0
  have HC0 := Aside0.mk hc0
  clear hr0 hc0
  have HB := Aside0.mk (Below.refl w.heap.size w)
  have H : ((umpirelaw07_awake.f k).bind fun t512 => (if t512 = true then (umpirelaw07_FrameKeeps.j0 k l0 a1 a2 a3 (decide ((l0.length : Int) > 3000))) else (umpirelaw07_FrameKeeps.j0 k l0 a1 a2 a3 true))) = some r := h
  clear h
  have HC5 := Aside0.mk H
  clear H
  go_enter Try.func7, Try.ntmps7
  go_upto_region 1 with (fail)
  go_cut [24] (fun v24 wc => ∃ (kq : Nat) (x24_4 : Bool), v24 = .bool x24_4 ∧ Aside0 (umpirelaw07_FrameKeeps.j0 kq l0 a1 a2 a3 x24_4 = some r) ∧ Aside0 (kq ≤ k) ∧ Aside0 (Below w.heap.size w wc))
  case first =>
    have H := HC5.out
    clear HC5
    replace H := Option.bind_eq_some_iff.mp H
    obtain ⟨t512, A60, H⟩ := H
    replace H : (if t512 = true then (umpirelaw07_FrameKeeps.j0 k l0 a1 a2 a3 (decide ((l0.length : Int) > 3000))) else (umpirelaw07_FrameKeeps.j0 k l0 a1 a2 a3 true)) = some r := H
    have A6 := Aside0.mk A60
    clear A60
    by_cases c7 : t512 = true
    · subst c7
      have H1 : (umpirelaw07_FrameKeeps.j0 k l0 a1 a2 a3 (decide ((l0.length : Int) > 3000))) = some r := by rw [if_pos rfl] at H; exact H
      clear H
      have H := H1
      clear H1
      have H' := Aside0.mk H
      clear H
      go_wp2_with (first | ((with_reducible refine gate_callee (f := 8) rfl ?_); refine goesL_ (some 18) rfl rfl Try.func8 (by kernel_rfl) rfl #[] rfl (by (try simp only [List.map_toArray, List.map_cons, List.map_nil]); first | done | rfl | (simp only [List.length_drop, List.length_take]; rfl)) ?_; (with_reducible refine (umpirelaw07_awake.calls k  true _ A6.out).mono ?_); rintro e w8 ⟨rfl, hb⟩; refine ⟨_, rfl, ?_⟩; have n0_ := Aside0.mk (below_step (by repeat (first | (with_reducible first | exact HB.out | apply below_alloc | apply pw_below_drewN | apply below_drew1) | exact HB.out)) hb); clear HB; have HB := n0_; clear n0_; (try clear hb); (try clear hb2); (try clear hk); (try clear hi)))
      go_meet
      case rel => exact ⟨_, (decide ((l0.length : Int) > 3000)), (by first | rfl | (simp; done) | (simp [*]; done)), H', ⟨by first | omega | exact Nat.le_refl _⟩, ⟨by repeat (first | (with_reducible first | exact HB.out | apply below_alloc | apply pw_below_drewN | apply below_drew1) | exact HB.out)⟩⟩
    · replace c7 := Bool.eq_false_iff.mpr c7
      subst c7
      have H1 : (umpirelaw07_FrameKeeps.j0 k l0 a1 a2 a3 true) = some r := by rw [if_neg (show ¬ (false = true) by decide)] at H; exact H
      clear H
      have H := H1
      clear H1
      have H' := Aside0.mk H
      clear H
      go_wp2_with (first | ((with_reducible refine gate_callee (f := 8) rfl ?_); refine goesL_ (some 18) rfl rfl Try.func8 (by kernel_rfl) rfl #[] rfl (by (try simp only [List.map_toArray, List.map_cons, List.map_nil]); first | done | rfl | (simp only [List.length_drop, List.length_take]; rfl)) ?_; (with_reducible refine (umpirelaw07_awake.calls k  false _ A6.out).mono ?_); rintro e w9 ⟨rfl, hb⟩; refine ⟨_, rfl, ?_⟩; have n0_ := Aside0.mk (below_step (by repeat (first | (with_reducible first | exact HB.out | apply below_alloc | apply pw_below_drewN | apply below_drew1) | exact HB.out)) hb); clear HB; have HB := n0_; clear n0_; (try clear hb); (try clear hb2); (try clear hk); (try clear hi)))
      go_meet
      case rel => exact ⟨_, (true), (by first | rfl | (simp; done) | (simp [*]; done)), H', ⟨by first | omega | exact Nat.le_refl _⟩, ⟨by repeat (first | (with_reducible first | exact HB.out | apply below_alloc | apply pw_below_drewN | apply below_drew1) | exact HB.out)⟩⟩
  case rest =>
    clear HC5
    try clear p2
    try clear c7
    try clear c8
    obtain ⟨kq, x24_4, rfl, HA, HJ4, HB⟩ := hcut
    cases kq with
    | zero => exact absurd HA.out (by simp [umpirelaw07_FrameKeeps.j0])
    | succ kj4 =>
      have H := HA.out
      clear HA
      simp only [umpirelaw07_FrameKeeps.j0] at H
      by_cases c10 : x24_4 = true
      · subst c10
        have H1 : ((umpirelaw07_awake.f kj4).bind fun t513 => (some t513)) = some r := by rw [if_pos rfl] at H; exact H
        clear H
        have H := H1
        clear H1
        replace H := Option.bind_eq_some_iff.mp H
        obtain ⟨t513, A110, H⟩ := H
        replace H : (some t513) = some r := H
        have A11 := Aside0.mk A110
        clear A110
        obtain rfl := Option.some.inj H
        go_wp2_with (first | ((with_reducible refine gate_callee (f := 8) rfl ?_); refine goesL_ (some 25) rfl rfl Try.func8 (by kernel_rfl) rfl #[] rfl (by (try simp only [List.map_toArray, List.map_cons, List.map_nil]); first | done | rfl | (simp only [List.length_drop, List.length_take]; rfl)) ?_; (with_reducible refine (umpirelaw07_awake.calls kj4  t513 _ A11.out).mono ?_); rintro e w12 ⟨rfl, hb⟩; refine ⟨_, rfl, ?_⟩; have n0_ := Aside0.mk (below_step (by repeat (first | (with_reducible first | exact HB.out | apply below_alloc | apply pw_below_drewN | apply below_drew1) | exact HB.out)) hb); clear HB; have HB := n0_; clear n0_; (try clear hb); (try clear hb2); (try clear hk); (try clear hi)))
        go_ret
        exact ⟨by first | rfl | (simp [errW_none, errW_some] <;> rfl) | (simp [*, errW_none, errW_some] <;> rfl), by repeat (first | (with_reducible first | exact HB.out | apply below_alloc | apply pw_below_drewN | apply below_drew1) | exact HB.out)⟩
      · replace c10 := Bool.eq_false_iff.mpr c10
        subst c10
        have H1 : (if (wrap64 ((l0.length : Int) + 1)) = 0 then (none) else ((some (([] : List Int) : List Int)).bind fun y514 => (if y514.length + l0.length < 140737488355328 then ((some (y514 ++ l0 : List Int)).bind fun y517 => (if 0 = 1 then (none) else (if 0 ≤ (Int.tmod (wrap64 (a1)) (wrap64 ((l0.length : Int) + 1))) then (if (Int.tmod (wrap64 (a1)) (wrap64 ((l0.length : Int) + 1))) ≤ (y517.length : Int) then ((frame_All.f kj4 (y517.take ((Int.tmod (wrap64 (a1)) (wrap64 ((l0.length : Int) + 1))) : Int).toNat) a2 a3).bind fun bt525 => (if (strOfNums y517).toList = (strOfNums l0).toList then (umpirelaw07_FrameKeeps.l0 kj4 l0 a2 a3 (Int.tmod (wrap64 (a1)) (wrap64 ((l0.length : Int) + 1))) y517 bt525.1 0) else (none))) else (none)) else (none)))) else (none)))) = some r := by rw [if_neg (show ¬ (false = true) by decide)] at H; exact H
        clear H
        have H := H1
        clear H1
        by_cases c13 : (wrap64 ((l0.length : Int) + 1)) = 0
        · rw [if_pos c13] at H
          exact absurd H (by simp)
        · rw [if_neg c13] at H
          have c13b0 : ((wrap64 ((l0.length : Int) + 1)) == 0) = false := beq_eq_false_iff_ne.mpr c13
          have c13b1 : ((wrap64 ((l0.length : Int) + 1)) != 0) = true := bne_iff_ne.mpr c13
          obtain ⟨y514, hy514⟩ : ∃ y_ : List Int, y_ = (([] : List Int)) := ⟨_, rfl⟩
          replace H : (if y514.length + l0.length < 140737488355328 then ((some (y514 ++ l0 : List Int)).bind fun y517 => (if 0 = 1 then (none) else (if 0 ≤ (Int.tmod (wrap64 (a1)) (wrap64 ((l0.length : Int) + 1))) then (if (Int.tmod (wrap64 (a1)) (wrap64 ((l0.length : Int) + 1))) ≤ (y517.length : Int) then ((frame_All.f kj4 (y517.take ((Int.tmod (wrap64 (a1)) (wrap64 ((l0.length : Int) + 1))) : Int).toNat) a2 a3).bind fun bt525 => (if (strOfNums y517).toList = (strOfNums l0).toList then (umpirelaw07_FrameKeeps.l0 kj4 l0 a2 a3 (Int.tmod (wrap64 (a1)) (wrap64 ((l0.length : Int) + 1))) y517 bt525.1 0) else (none))) else (none)) else (none)))) else (none)) = some r := by first | (rw [hy514]; with_reducible exact H) | (have H2_ := (Option.bind_some _ _).symm.trans H; rw [hy514]; with_reducible exact H2_) | (have H2_ := (Option.bind_some _ _).symm.trans H; with_reducible exact H2_) | with_reducible exact H | (rw [hy514]; exact H) | exact H
          have Ny514 := Aside0.mk hy514
          clear hy514
          by_cases c14 : y514.length + l0.length < 140737488355328
          · rw [if_pos c14] at H
            have LMc14 := Aside0.mk c14
            clear c14
            obtain ⟨y517, hy517⟩ : ∃ y_ : List Int, y_ = (y514 ++ l0) := ⟨_, rfl⟩
            replace H : (if 0 = 1 then (none) else (if 0 ≤ (Int.tmod (wrap64 (a1)) (wrap64 ((l0.length : Int) + 1))) then (if (Int.tmod (wrap64 (a1)) (wrap64 ((l0.length : Int) + 1))) ≤ (y517.length : Int) then ((frame_All.f kj4 (y517.take ((Int.tmod (wrap64 (a1)) (wrap64 ((l0.length : Int) + 1))) : Int).toNat) a2 a3).bind fun bt525 => (if (strOfNums y517).toList = (strOfNums l0).toList then (umpirelaw07_FrameKeeps.l0 kj4 l0 a2 a3 (Int.tmod (wrap64 (a1)) (wrap64 ((l0.length : Int) + 1))) y517 bt525.1 0) else (none))) else (none)) else (none))) = some r := by first | (rw [hy517]; with_reducible exact H) | (have H2_ := (Option.bind_some _ _).symm.trans H; rw [hy517]; with_reducible exact H2_) | (have H2_ := (Option.bind_some _ _).symm.trans H; with_reducible exact H2_) | with_reducible exact H | (rw [hy517]; exact H) | exact H
            have Ny517 := Aside0.mk hy517
            clear hy517
            by_cases c15 : 0 = 1
            · rw [if_pos c15] at H
              exact absurd H (by simp)
            · rw [if_neg c15] at H
              have c15b0 : (0 == 1) = false := beq_eq_false_iff_ne.mpr c15
              have c15b1 : (0 != 1) = true := bne_iff_ne.mpr c15
              obtain ⟨ji16, hji16⟩ : ∃ j_ : Int, (Int.tmod (wrap64 (a1)) (wrap64 ((l0.length : Int) + 1))) = j_ := ⟨_, rfl⟩
              replace H : (if 0 ≤ (ji16) then (if (ji16) ≤ (y517.length : Int) then ((frame_All.f kj4 (y517.take ((ji16) : Int).toNat) a2 a3).bind fun bt525 => (if (strOfNums y517).toList = (strOfNums l0).toList then (umpirelaw07_FrameKeeps.l0 kj4 l0 a2 a3 ji16 y517 bt525.1 0) else (none))) else (none)) else (none)) = some r := by first | (rw [hji16] at H; exact H) | (simp only [hji16] at H ⊢; exact H)
              by_cases c17 : 0 ≤ (ji16)
              · rw [if_pos c17] at H
                have c17b0 := eq_true c17
                have c17b1 : decide (0 ≤ (ji16)) = true := decide_eq_true c17
                clear c17
                by_cases c18 : (ji16) ≤ (y517.length : Int)
                · rw [if_pos c18] at H
                  have c18b0 := eq_true c18
                  have c18b1 : decide ((ji16) ≤ (y517.length : Int)) = true := decide_eq_true c18
                  clear c18
                  obtain ⟨y520, hy520⟩ : ∃ y_ : List Int, y_ = (y517.take ((ji16) : Int).toNat) := ⟨_, rfl⟩
                  replace H : ((frame_All.f kj4 y520 a2 a3).bind fun bt525 => (if (strOfNums y517).toList = (strOfNums l0).toList then (umpirelaw07_FrameKeeps.l0 kj4 l0 a2 a3 ji16 y517 bt525.1 0) else (none))) = some r := by first | (rw [hy520]; with_reducible exact H) | (have H2_ := (Option.bind_some _ _).symm.trans H; rw [hy520]; with_reducible exact H2_) | (have H2_ := (Option.bind_some _ _).symm.trans H; with_reducible exact H2_) | with_reducible exact H | (rw [hy520]; exact H) | exact H
                  have Ny520 := Aside0.mk hy520
                  clear hy520
                  replace H := Option.bind_eq_some_iff.mp H
                  obtain ⟨⟨t525, t528, t529, t530, t531, t532⟩, A190, H⟩ := H
                  replace H : (if (strOfNums y517).toList = (strOfNums l0).toList then (umpirelaw07_FrameKeeps.l0 kj4 l0 a2 a3 ji16 y517 t525 0) else (none)) = some r := H
                  have A19 := Aside0.mk A190
                  obtain ⟨s1N, hs1N, hd1N⟩ := frame_All.state A19.out
                  have S1N := Aside0.mk hs1N
                  have D1N := Aside0.mk hd1N
                  clear hs1N hd1N
                  clear A190
                  by_cases c20 : (strOfNums y517).toList = (strOfNums l0).toList
                  · rw [if_pos c20] at H
                    have c20b0 : ((strOfNums y517).toList == (strOfNums l0).toList) = true := beq_iff_eq.mpr c20
                    have c20b1 : ((strOfNums y517).toList != (strOfNums l0).toList) = false := bne_eq_false_iff_eq.mpr c20
                    clear c20
                    have H' := Aside0.mk H
                    clear H
                    go_wp2_with (first | ((with_reducible refine gate_dst (N := 32) rfl ?_); (try (refine gate_guard (by rfl) ?_; dsimp only)); refine Kd.R_lit (Kd.int .u8) _ 5 ?hg (N := 32) ?hd (xs := ([] : List Int)) (inner := []) (ok := fun _ => True) (okp := fun _ => True) ?hr ?hp (fun _ hk => hk) trivial (Below.refl _ _) (Nat.le_refl _) (by simp) ?_; (case hd => rfl); (case hg => rfl); (case hr => first | (go_simp; done) | (go_simp; rfl)); (case hp => exact (Reps.none _ _)); intro v515 w21 ho22 hb hg_ hnew_; clear hg_ hnew_; (first | rw [← Ny514.out] at ho22 | (simp only [Int.reduceToNat] at ho22; rw [← Ny514.out] at ho22)); have n0_ := Aside0.mk (Kd.R_lower ho22 (below_size (by repeat (first | (with_reducible first | exact HB.out | apply below_alloc | apply pw_below_drewN | apply below_drew1) | exact HB.out)))); have n1_ := Aside0.mk (below_step (by repeat (first | (with_reducible first | exact HB.out | apply below_alloc | apply pw_below_drewN | apply below_drew1) | exact HB.out)) hb); clear HB; have HO516 := n0_; have HB := n1_; clear n0_ n1_; clear hb ho22) | ((with_reducible refine gate_builtin (b := .append) (xs := #[.tmp 32, .tmp 33]) rfl ?_); (try (refine gate_guard (by rfl) ?_; dsimp only)); at_builtin; refine Kd.R_append_rows (Kd.int .u8) (w0 := w) w.heap.size rfl (.tmp 32) (.tmp 33) 26 5 (.int .u8 0) 1 rfl Try.underlying26 info5 rfl (by decide) (by omega) v515 y514 l0 _ _ _ (fun _ => True) (fun _ => False) rfl rfl ?aO ?aR (fun _ _ h => h) (fun _ h => h.elim) ?aF ?aB ?aS ?aL ?_; (case aR => repeat (first | exact (Kd.C_below HR0.out HB.out) | (with_reducible refine Kd.C_alloc ?_ _) | (with_reducible refine Kd.C_drewN ?_ _) | (with_reducible refine Kd.C_drew ?_))); (case aB => exact (by repeat (first | (with_reducible first | exact HB.out | apply below_alloc | apply pw_below_drewN | apply below_drew1) | exact HB.out))); (case aF => exact (fun _ _ => trivial)); (case aO => exact (by (with_reducible repeat (first | apply Kd.R_alloc | apply Kd.R_drewN | apply Kd.R_drew)); exact HO516.out)); (case aS => exact (below_size (by repeat (first | (with_reducible first | exact HB.out | apply below_alloc | apply pw_below_drewN | apply below_drew1) | exact HB.out)))); (case aL => have := LMc14.out; omega); intro v518 w23 ho hb hg hat; rw [← Ny517.out] at ho; have n0_ := Aside0.mk (hb); have n1_ := Aside0.mk (ho); clear HB; clear HO516; have HB := n0_; have HO519 := n1_; clear n0_ n1_; clear ho hb hg hat; obtain ⟨Ao25, co25, eo25⟩ := Kd.R_slice HO519.out; subst eo25; have q24 : ((ji16) : Int) ≤ ((y517.length : Int) : Int) := of_decide_eq_true (by first | (with_reducible assumption) | assumption); obtain ⟨i024, hi024, _, hsz24, _⟩ := info_parts info5; have hroom24 : y517.length ≤ co25 := (Kd.R_reads' HO519.out).2.1; have hC24 : Kd.F (Kd.int .u8) _ _ Ao25 y517.length y517 := (Kd.V_at (base := w.heap.size) (Kd.R_V HO519.out)).2.2; have hcut24 := cut_to (P := Try.prog) 26 5 .i64 Try.underlying26 hi024 Ao25 y517.length co25 (ji16) (of_decide_eq_true (by first | (with_reducible assumption) | assumption)) q24 hroom24; have hr24 := Kd.F_take (m := ((ji16) : Int).toNat) hC24 (by omega); have hy24 : y520.length = ((ji16) : Int).toNat := (by rw [Ny520.out, List.length_take]; omega); rw [← Ny520.out] at hr24; rw [← hy24] at hcut24; have HO524 := Aside0.mk (show Kd.V (Kd.int .u8) 5 _ w.heap.size _ (.slice Ao25 y520.length co25) y520 from Kd.V_mk (by omega) hr24); have HC524 := Aside0.mk (show y520.length ≤ co25 from by omega); clear hr24 hC24 hroom24 hi024 hsz24; have KY24 := Aside0.mk hy24; clear hy24; replace q24 := eq_true q24) | ((with_reducible refine gate_callee (f := 13) rfl ?_); refine goesL_ (some 37) rfl rfl Try.func13 (by kernel_rfl) rfl #[.int .u32 a2, .bool a3] rfl (by (try simp only [List.map_toArray, List.map_cons, List.map_nil]); first | done | rfl | (simp only [List.length_drop, List.length_take]; rfl)) ?_; (with_reducible refine (FD.new a2 a3 _).mono ?_); rintro e w34N ⟨pN, rfl, hFD⟩; refine ⟨_, rfl, ?_⟩; have HFD := Aside0.mk hFD.out; clear hFD) | ((with_reducible refine gate_callee (f := 14) rfl ?_); refine goesL_ (some 44) rfl rfl Try.func14 (by kernel_rfl) rfl #[.pointer (some ⟨pN, 0, none⟩), .slice Ao25 y520.length co25] rfl (by (try simp only [List.map_toArray, List.map_cons, List.map_nil]); first | done | rfl | (simp only [List.length_drop, List.length_take]; rfl)) ?_; (with_reducible refine (FD.feedK kj4 a2 a3 DF.init s1N _ _ y520 _ _ pN w.heap.size w.heap.size _ _ _ _ HFD.out (Kd.V_reads' HO524.out).2.2 S1N.out (below_size HB.out) HO519.out).mono ?_); rintro e w26 ⟨v526, rfl, hFK, ho0, hb⟩; refine ⟨_, rfl, ?_⟩; clear HFD; have HFK := Aside0.mk hFK.out; replace ho0 := ho0.out; replace hb := hb.out; rw [D1N.out] at ho0 HFK; clear hFK; have n0_ := Aside0.mk (Kd.R_below (by (with_reducible repeat (first | apply Kd.R_alloc | apply Kd.R_drewN | apply Kd.R_drew)); exact HO519.out) hb); have n1_ := Aside0.mk (Kd.V_elder' (by (with_reducible repeat (first | apply Kd.V_alloc | apply Kd.V_drewN | apply Kd.V_drew)); exact HO524.out) (by first | exact Kd.N_base ho0 | exact Kd.N_base (Kd.S_N (Kd.S_bound ho0)) | exact Kd.R_base ho0 | exact Kd.S_base ho0) hb); have n2_ := Aside0.mk (Kd.N_lower (Kd.N_mono (ok' := fun k_ => some k_ ≠ (.slice Ao25 y517.length co25 : Value).ownBlock) (Kd.S_N (Kd.S_bound ho0)) (fun k_ hk_ => (Kd.fresh' (Kd.R_lt (by (with_reducible repeat (first | apply Kd.R_alloc | apply Kd.R_drewN | apply Kd.R_drew)); exact HO519.out)) k_ hk_.2.1))) (below_size (by repeat (first | (with_reducible first | exact HB.out | apply below_alloc | apply pw_below_drewN | apply below_drew1) | exact HB.out)))); have n3_ := Aside0.mk (below_step (by repeat (first | (with_reducible first | exact HB.out | apply below_alloc | apply pw_below_drewN | apply below_drew1) | exact HB.out)) hb); clear HO519; clear HO524; clear HB; have HO519 := n0_; have HO524 := n1_; have HO527 := n2_; have HB := n3_; clear n0_ n1_ n2_ n3_; (try clear hb); (try clear hb2); (try clear hk); (try clear hi); (try clear ho0); have hcv27 := fun m_ : Nat => own_string (P := Try.prog) Try.underlying26 Try.underlying5 Try.underlying9 (Kd.own_of_R (Kd.R_drewN HO519.out m_)); have hcv28 := own_string (P := Try.prog) Try.underlying26 Try.underlying5 Try.underlying9 (Kd.own_of_R HO519.out); have hcv29 := fun m_ : Nat => Kd.C_string (P := Try.prog) (A := A0) (c := c0) Try.underlying26 Try.underlying5 Try.underlying9 (Kd.C_drewN (Kd.C_below HR0.out HB.out) m_); have hcv31 := Kd.C_string (P := Try.prog) (A := A0) (c := c0) Try.underlying26 Try.underlying5 Try.underlying9 (Kd.C_below HR0.out HB.out)))
                    obtain ⟨b0N, HFKb⟩ : ∃ b0N, Aside0 (FK b0N Ao25 _ pN a2 a3 { s1N with done := [] } w.heap.size v526 t525) := ⟨_, HFK⟩
                    clear HFK
                    go_loopg [13] kj4 (fun kq v13 w' => ∃ (x10_2 : List Int) (x13_2 : Int), v13 = .int .i64 x13_2 ∧ Aside0 (umpirelaw07_FrameKeeps.l0 kq l0 a2 a3 ji16 x10_2 t525 x13_2 = some r) ∧ Aside0 (kq ≤ kj4) ∧ Aside0 (Kd.R (Kd.int .u8) 5 w' w.heap.size (fun _ => True) (.slice Ao25 y517.length co25) x10_2) ∧ Aside0 (Kd.N (Kd.slice 5 (Kd.int .u8)) 26 w' w.heap.size (fun k_ => some k_ ≠ ((.slice Ao25 y517.length co25) : Value).ownBlock) v526 t525) ∧ Aside0 (Below w.heap.size w w') ∧ Aside0 (FK b0N Ao25 w' pN a2 a3 { s1N with done := [] } w.heap.size v526 t525))
                    case atStart => exact ⟨(y517), (0), (by first | rfl | (simp; done) | (simp [*]; done)), H', ⟨Nat.le_refl _⟩, ⟨by (with_reducible repeat (first | apply Kd.R_alloc | apply Kd.R_drewN | apply Kd.R_drew)); exact HO519.out⟩, ⟨by (with_reducible repeat (first | apply Kd.N_alloc | apply Kd.N_drewN | apply Kd.N_drew)); exact HO527.out⟩, ⟨by repeat (first | (with_reducible first | exact HB.out | apply below_alloc | apply pw_below_drewN | apply below_drew1) | exact HB.out)⟩, ⟨by (with_reducible repeat (first | apply FK.drewN | apply FK.drew)); exact HFKb.out⟩⟩
                    case round =>
                      clear H'
                      try clear c1
                      try clear c2
                      try clear p2
                      try clear q2
                      try clear hcv2
                      try clear hcv3
                      try clear p6
                      try clear c7
                      try clear c8
                      try clear c10
                      try clear c13
                      try clear c13b0
                      try clear c13b1
                      try clear c14
                      try clear c15
                      try clear c15b0
                      try clear c15b1
                      try clear c17
                      try clear c17b0
                      try clear c17b1
                      try clear c18
                      try clear c18b0
                      try clear c18b1
                      try clear c20
                      try clear c20b0
                      try clear c20b1
                      try clear q24
                      try clear hcv27
                      try clear hcv28
                      try clear hcv29
                      try clear hcv31
                      try clear p2
                      try clear q24
                      obtain ⟨x10_2, x13_2, rfl, HA, HK2, HO_10, HO_12, HB, HFK⟩ := hrel
                      try clear HFKb
                      have hl10_2 := (Kd.R_reads' HO_10.out).1
                      rw [hl10_2] at HO_10
                      (try simp only [hl10_2])
                      (try simp only [hl10_2] at HO_12)
                      cases gk with
                      | zero => exact absurd HA.out (by simp [umpirelaw07_FrameKeeps.l0])
                      | succ k2 =>
                        have H := HA.out
                        clear HA
                        simp only [umpirelaw07_FrameKeeps.l0] at H
                        by_cases c32 : x13_2 < ji16
                        · rw [if_pos c32] at H
                          have c32b0 : decide (x13_2 < ji16) = true := decide_eq_true c32
                          clear c32
                          by_cases c33 : 0 ≤ x13_2
                          · rw [if_pos c33] at H
                            have c33b0 : decide (0 ≤ x13_2) = true := decide_eq_true c33
                            clear c33
                            by_cases c34 : x13_2 < (x10_2.length : Int)
                            · rw [if_pos c34] at H
                              have c34b0 : decide (x13_2 < (x10_2.length : Int)) = true := decide_eq_true c34
                              clear c34
                              obtain ⟨y534, hy534⟩ : ∃ y_ : List Int, y_ = (x10_2.set (x13_2 : Int).toNat (((rd x10_2 x13_2) + 1) % 256)) := ⟨_, rfl⟩
                              replace H : (umpirelaw07_FrameKeeps.l0 k2 l0 a2 a3 ji16 y534 t525 (wrap64 (x13_2 + 1))) = some r := by first | (rw [hy534]; with_reducible exact H) | (have H2_ := (Option.bind_some _ _).symm.trans H; rw [hy534]; with_reducible exact H2_) | (have H2_ := (Option.bind_some _ _).symm.trans H; with_reducible exact H2_) | with_reducible exact H | (rw [hy534]; exact H) | exact H
                              have Ny534 := Aside0.mk hy534
                              clear hy534
                              have H' := Aside0.mk H
                              clear H
                              have p533 : 0 ≤ (x13_2 : Int) := of_decide_eq_true (by first | (with_reducible assumption) | assumption)
                              have q533 : x13_2 < (x10_2.length : Int) := of_decide_eq_true (by first | (with_reducible assumption) | assumption)
                              obtain ⟨ad533, e533, hx533_0⟩ := Kd.at_int (Kd.R_reads' HO_10.out).2.2 x13_2 p533 q533
                              cases e533
                              replace p533 := eq_true p533
                              replace q533 := eq_true q533
                              have p35 : 0 ≤ (x13_2 : Int) := of_decide_eq_true (by first | (with_reducible assumption) | assumption)
                              have q35 : (x13_2 : Int) < ((x10_2.length : Int) : Int) := of_decide_eq_true (by first | (with_reducible assumption) | assumption)
                              obtain ⟨go35, co35, eo35, gb35, gl35, cl35, HG35⟩ := Kd.R_form HO_10.out (by omega)
                              (first | cases eo35 | (injection eo35 with ea_ en_ ec_; (first | subst ea_ | (injection ea_ with ea_; subst ea_)); subst ec_; clear en_))
                              have GB35 := Aside0.mk gb35
                              have GG35 := Aside0.mk HG35
                              clear gb35 gl35 HG35
                              (first | simp only [add_plain] at hx533_0 | skip)
                              obtain ⟨hx35_0, hf35_0⟩ := Kd.R_celln 0 HO_10.out (x13_2 : Int) p35 q35
                              replace p35 := eq_true p35
                              replace q35 := eq_true q35
                              have HP36 := Kd.R_putg HO_10.out (x13_2 : Int) (((rd x10_2 x13_2) + 1) % 256)
                              go_wp2_with (first | ((with_reducible refine gate_store (t := 5) (p := 62) rfl ?_); refine store_event (t := 5) (p := 62) (v := ?vo_w37) (w1 := (wr.setCell ⟨go35, (x13_2 : Int).toNat, none⟩ (.int .u8 (((rd x10_2 x13_2) + 1) % 256)))) ?hg ?ho ?hn ?hr ?_; (case ho => rfl); (case hg => rfl); (case hn => rfl); (case hr => first | (go_simp; done) | (go_simp; rfl)); intro w37 hw; have hg : wr.grownBy w37 (some go35) := (by rw [hw]; exact HP36.2); have hp_ : Kd.R (Kd.int .u8) 5 w37 w.heap.size (fun _ => True) (.slice (some ⟨go35, 0, none⟩) x10_2.length co25) y534 := (by rw [hw, Ny534.out]; exact HP36.1); clear HP36; have n0_ := Aside0.mk (hp_); have n1_ := Aside0.mk (Kd.N_afterv (v := (.slice (some ⟨go35, 0, none⟩) x10_2.length co25)) (v1 := (.slice (some ⟨go35, 0, none⟩) x10_2.length co25)) (ok := (fun _ => True)) (by (with_reducible repeat (first | apply Kd.N_alloc | apply Kd.N_drewN | apply Kd.N_drew)); exact Kd.N_mono HO_12.out (fun _ hk => ⟨trivial, hk⟩)) hg (.inl rfl)); have n2_ := Aside0.mk ((by rw [hw]; exact below_set (HB.out) GB35.out : Below w.heap.size w w37)); clear HO_10; clear HO_12; clear HB; have HO_10 := n0_; have HO_12 := n1_; have HB := n2_; clear n0_ n1_ n2_; have nK_ := Aside0.mk (FK.grown HFK.out hg rfl); clear HFK; have HFK := nK_; clear nK_; clear hg hw hp_))
                              (try simp only [← hl10_2])
                              go_roundg k2
                              case measure => have := HJ4.out; have := HK2.out; omega
                              case rel => exact ⟨(y534), (wrap64 (x13_2 + 1)), (by first | rfl | (simp; done) | (simp [*]; done)), H', ⟨by have := HJ4.out; have := HK2.out; omega⟩, ⟨by (try simp only [hl10_2]); (with_reducible repeat (first | apply Kd.R_alloc | apply Kd.R_drewN | apply Kd.R_drew)); exact HO_10.out⟩, ⟨by (try simp only [hl10_2]); (with_reducible repeat (first | apply Kd.N_alloc | apply Kd.N_drewN | apply Kd.N_drew)); exact Kd.N_mono HO_12.out (fun _ hk => hk.2)⟩, ⟨by repeat (first | (with_reducible first | exact HB.out | apply below_alloc | apply pw_below_drewN | apply below_drew1) | exact HB.out)⟩, ⟨by (with_reducible repeat (first | apply FK.drewN | apply FK.drew)); exact HFK.out⟩⟩
                            · rw [if_neg c34] at H
                              exact absurd H (by simp)
                          · rw [if_neg c33] at H
                            exact absurd H (by simp)
                        · rw [if_neg c32] at H
                          have c32b0 : decide (x13_2 < ji16) = false := decide_eq_false c32
                          clear c32
                          by_cases c38 : 0 ≤ ji16
                          · rw [if_pos c38] at H
                            have c38b0 := eq_true c38
                            have c38b1 : decide (0 ≤ ji16) = true := decide_eq_true c38
                            clear c38
                            by_cases c39 : ji16 ≤ (x10_2.length : Int)
                            · rw [if_pos c39] at H
                              have c39b0 := eq_true c39
                              have c39b1 : decide (ji16 ≤ (x10_2.length : Int)) = true := decide_eq_true c39
                              clear c39
                              obtain ⟨y535, hy535⟩ : ∃ y_ : List Int, y_ = (x10_2.drop (ji16 : Int).toNat) := ⟨_, rfl⟩
                              replace H : ((frame_More.f k2 (l0.take (ji16 : Int).toNat) y535 a2 a3).bind fun bt540 => (umpirelaw07_FrameKeeps.l1 k2 l0 a2 a3 x10_2 t525 bt540.1 ji16)) = some r := by first | (rw [hy535]; with_reducible exact H) | (have H2_ := (Option.bind_some _ _).symm.trans H; rw [hy535]; with_reducible exact H2_) | (have H2_ := (Option.bind_some _ _).symm.trans H; with_reducible exact H2_) | with_reducible exact H | (rw [hy535]; exact H) | exact H
                              have Ny535 := Aside0.mk hy535
                              clear hy535
                              replace H := Option.bind_eq_some_iff.mp H
                              obtain ⟨⟨t540, t543, t544, t545, t546, t547⟩, A400, H⟩ := H
                              replace H : (umpirelaw07_FrameKeeps.l1 k2 l0 a2 a3 x10_2 t525 t540 ji16) = some r := H
                              have A40 := Aside0.mk A400
                              have hl1N : y520 = l0.take (ji16 : Int).toNat := by rw [Ny520.out, Ny517.out, Ny514.out, List.nil_append]
                              obtain ⟨s1M, s2N, hs1M, hs2N, hd2N⟩ := frame_More.state A40.out
                              obtain rfl : s1M = s1N := Option.some.inj ((feed_up (k' := kj4) (by have := HK2.out; omega) hs1M).symm.trans (by rw [← hl1N]; exact S1N.out))
                              have S2N := Aside0.mk hs2N
                              have D2N := Aside0.mk hd2N
                              clear hs1M hs2N hd2N hl1N
                              clear A400
                              have H' := Aside0.mk H
                              clear H
                              have q41 : (ji16 : Int) ≤ ((x10_2.length : Int) : Int) := of_decide_eq_true (by first | (with_reducible assumption) | assumption)
                              obtain ⟨i041, hi041, _, hsz41, _⟩ := info_parts info5
                              have hroom41 : x10_2.length ≤ co25 := (Kd.R_reads' HO_10.out).2.1
                              have hC41 : Kd.F (Kd.int .u8) _ _ Ao25 x10_2.length x10_2 := (Kd.V_at (base := w.heap.size) (Kd.R_V (Kd.R_tight rfl HO_10.out))).2.2
                              have q041 : (0 : Int) ≤ (ji16 : Int) := of_decide_eq_true (by first | (with_reducible assumption) | assumption)
                              have hcut41 := cut_from (P := Try.prog) 26 5 .i64 Try.underlying26 hi041 1 hsz41 Ao25 x10_2.length co25 ji16 q041 q41
                              have hr41 := Kd.F_cut (m := (ji16 : Int).toNat) (c := co25) hC41 (by omega) hroom41
                              obtain ⟨A41, hA41⟩ : ∃ A1, A1 = (if co25 = (ji16 : Int).toNat then Ao25 else (Ao25 : Option Addr).map (·.add ((ji16 : Int).toNat * 1))) := ⟨_, rfl⟩
                              obtain ⟨c41, hc41⟩ : ∃ c1, c1 = co25 - (ji16 : Int).toNat := ⟨_, rfl⟩
                              have hy41 : y535.length = x10_2.length - (ji16 : Int).toNat := (by rw [Ny535.out, List.length_drop] <;> omega)
                              rw [show (x10_2).drop (ji16 : Int).toNat = y535 from Ny535.out.symm] at hr41
                              replace hr41 : Kd.F (Kd.int .u8) _ _ A41 y535.length y535 := (by rw [hA41]; exact hr41)
                              rw [← hy41, ← hA41, ← hc41] at hcut41
                              have HO539 := Aside0.mk (show Kd.V (Kd.int .u8) 5 _ w.heap.size _ (.slice A41 y535.length c41) y535 from Kd.V_mk (by rw [hy41, hc41]; exact Nat.sub_le_sub_right hroom41 _) hr41)
                              have HC539 := Aside0.mk (show y535.length ≤ c41 from by rw [hy41, hc41]; exact Nat.sub_le_sub_right hroom41 _)
                              clear hr41 hC41 hroom41 hi041 hsz41 hc41
                              have KY41 := Aside0.mk hy41
                              have KA41 := Aside0.mk hA41
                              clear hy41 hA41
                              replace q41 := eq_true q41
                              go_wp2_with (first | ((with_reducible refine gate_callee (f := 14) rfl ?_); refine goesL_ (some 67) rfl rfl Try.func14 (by kernel_rfl) rfl #[.pointer (some ⟨pN, 0, none⟩), .slice A41 y535.length c41] rfl (by (try simp only [List.map_toArray, List.map_cons, List.map_nil]); first | done | rfl | (simp only [List.length_drop, List.length_take]; rfl)) ?_; (with_reducible refine (FK.feed k2 _ _ pN _ _ _ _ _ a2 a3 _ s2N _ _ x10_2 HFK.out HO_10.out _ _ y535 (Kd.V_at HO539.out).2.2 S2N.out).mono ?_); rintro e w42 ⟨v541, rfl, h10N, h12N, ho0, hb⟩; refine ⟨_, rfl, ?_⟩; replace ho0 := ho0.out; replace hb := hb.out; rw [D2N.out] at ho0; have n0_ := h10N; have n1_ := h12N; have n3_ := Aside0.mk (Kd.N_lower (Kd.N_mono (ok' := fun k_ => some k_ ≠ (.slice Ao25 x10_2.length co25 : Value).ownBlock ∧ some k_ ≠ (v526 : Value).ownBlock) (Kd.S_N (Kd.S_bound ho0)) (fun k_ hk_ => ⟨(Kd.fresh' (Kd.R_lt (by (with_reducible repeat (first | apply Kd.R_alloc | apply Kd.R_drewN | apply Kd.R_drew)); exact HO_10.out)) k_ hk_.2.1), (Kd.fresh' (Kd.N_lt (by (with_reducible repeat (first | apply Kd.N_alloc | apply Kd.N_drewN | apply Kd.N_drew)); exact HO_12.out)) k_ hk_.2.1)⟩)) (below_size (by repeat (first | (with_reducible first | exact HB.out | apply below_alloc | apply pw_below_drewN | apply below_drew1) | exact HB.out)))); have n4_ := Aside0.mk (Below.trans (by repeat (first | (with_reducible first | exact HB.out | apply below_alloc | apply pw_below_drewN | apply below_drew1) | exact HB.out)) (hb.mono HFK.out.out.choose_spec.2.2.1)); clear HO_10; clear HO_12; clear HB; have HO_10 := n0_; have HO_12 := n1_; have HO542 := n3_; have HB := n4_; clear n0_ n1_ n3_ n4_; (try clear hb); (try clear hb2); (try clear hk); (try clear hi); (try clear ho0)))
                              go_loopg [15] k2 (fun kq v15 w' => ∃ (x10_3 : List Int) (x15_3 : Int), v15 = .int .i64 x15_3 ∧ Aside0 (umpirelaw07_FrameKeeps.l1 kq l0 a2 a3 x10_3 t525 t540 x15_3 = some r) ∧ Aside0 (kq ≤ k2) ∧ Aside0 (Kd.R (Kd.int .u8) 5 w' w.heap.size (fun _ => True) (.slice Ao25 x10_2.length co25) x10_3) ∧ Aside0 (Kd.N (Kd.slice 5 (Kd.int .u8)) 26 w' w.heap.size (fun k_ => some k_ ≠ ((.slice Ao25 x10_2.length co25) : Value).ownBlock ∧ some k_ ≠ (v541 : Value).ownBlock) v526 t525) ∧ Aside0 (Kd.N (Kd.slice 5 (Kd.int .u8)) 26 w' w.heap.size (fun k_ => some k_ ≠ ((.slice Ao25 x10_2.length co25) : Value).ownBlock ∧ some k_ ≠ (v526 : Value).ownBlock) v541 t540) ∧ Aside0 (Below w.heap.size w w'))
                              case atStart => exact ⟨(x10_2), (ji16), (by first | rfl | (simp; done) | (simp only [← hji16] <;> (first | rfl | simp)) | (simp [*]; done)), H', ⟨Nat.le_refl _⟩, ⟨by (try simp only [hl10_2]); (with_reducible repeat (first | apply Kd.R_alloc | apply Kd.R_drewN | apply Kd.R_drew)); exact HO_10.out⟩, ⟨by (try simp only [hl10_2]); (with_reducible repeat (first | apply Kd.N_alloc | apply Kd.N_drewN | apply Kd.N_drew)); exact HO_12.out⟩, ⟨by (try simp only [hl10_2]); (with_reducible repeat (first | apply Kd.N_alloc | apply Kd.N_drewN | apply Kd.N_drew)); exact HO542.out⟩, ⟨by repeat (first | (with_reducible first | exact HB.out | apply below_alloc | apply pw_below_drewN | apply below_drew1) | exact HB.out)⟩⟩
                              case round =>
                                clear H'
                                try clear c1
                                try clear c2
                                try clear p2
                                try clear q2
                                try clear hcv2
                                try clear c3
                                try clear p3
                                try clear q3
                                try clear hx3
                                try clear hcv3
                                try clear c4
                                try clear q4
                                try clear p5
                                try clear q5
                                try clear hx5
                                try clear p6
                                try clear c7
                                try clear c8
                                try clear c10
                                try clear c13
                                try clear c13b0
                                try clear c13b1
                                try clear c14
                                try clear c15
                                try clear c15b0
                                try clear c15b1
                                try clear c17
                                try clear c17b0
                                try clear c17b1
                                try clear c18
                                try clear c18b0
                                try clear c18b1
                                try clear c20
                                try clear c20b0
                                try clear c20b1
                                try clear q24
                                try clear hcv27
                                try clear hcv28
                                try clear hcv29
                                try clear hcv31
                                try clear c32
                                try clear c32b0
                                try clear c33
                                try clear c33b0
                                try clear c34
                                try clear c34b0
                                try clear p35
                                try clear q35
                                try clear hx35
                                try clear hf35
                                try clear c38
                                try clear c38b0
                                try clear c38b1
                                try clear c39
                                try clear c39b0
                                try clear c39b1
                                try clear c41
                                try clear q41
                                try clear hx35_0
                                try clear hx533_0
                                try clear p2
                                try clear p35
                                try clear p533
                                try clear p6
                                try clear q041
                                try clear q2
                                try clear q24
                                try clear q35
                                try clear q41
                                try clear q533
                                obtain ⟨x10_3, x15_3, rfl, HA, HK3, HO_10, HO_12, HO_14, HB⟩ := hrel
                                have hl10_3 := (Kd.R_reads' HO_10.out).1
                                rw [hl10_3] at HO_10
                                (try simp only [hl10_3])
                                (try simp only [hl10_3] at HO_12)
                                (try simp only [hl10_3] at HO_14)
                                cases gk with
                                | zero => exact absurd HA.out (by simp [umpirelaw07_FrameKeeps.l1])
                                | succ k3 =>
                                  have H := HA.out
                                  clear HA
                                  simp only [umpirelaw07_FrameKeeps.l1] at H
                                  by_cases c43 : x15_3 < (x10_3.length : Int)
                                  · rw [if_pos c43] at H
                                    have c43b0 : decide (x15_3 < (x10_3.length : Int)) = true := decide_eq_true c43
                                    clear c43
                                    by_cases c44 : 0 ≤ x15_3
                                    · rw [if_pos c44] at H
                                      have c44b0 : decide (0 ≤ x15_3) = true := decide_eq_true c44
                                      clear c44
                                      obtain ⟨y549, hy549⟩ : ∃ y_ : List Int, y_ = (x10_3.set (x15_3 : Int).toNat (((rd x10_3 x15_3) + 1) % 256)) := ⟨_, rfl⟩
                                      replace H : (umpirelaw07_FrameKeeps.l1 k3 l0 a2 a3 y549 t525 t540 (wrap64 (x15_3 + 1))) = some r := by first | (rw [hy549]; with_reducible exact H) | (have H2_ := (Option.bind_some _ _).symm.trans H; rw [hy549]; with_reducible exact H2_) | (have H2_ := (Option.bind_some _ _).symm.trans H; with_reducible exact H2_) | with_reducible exact H | (rw [hy549]; exact H) | exact H
                                      have Ny549 := Aside0.mk hy549
                                      clear hy549
                                      have H' := Aside0.mk H
                                      clear H
                                      have p548 : 0 ≤ (x15_3 : Int) := of_decide_eq_true (by first | (with_reducible assumption) | assumption)
                                      have q548 : x15_3 < (x10_3.length : Int) := of_decide_eq_true (by first | (with_reducible assumption) | assumption)
                                      obtain ⟨ad548, e548, hx548_0⟩ := Kd.at_int (Kd.R_reads' HO_10.out).2.2 x15_3 p548 q548
                                      cases e548
                                      replace p548 := eq_true p548
                                      replace q548 := eq_true q548
                                      have p45 : 0 ≤ (x15_3 : Int) := of_decide_eq_true (by first | (with_reducible assumption) | assumption)
                                      have q45 : (x15_3 : Int) < ((x10_3.length : Int) : Int) := of_decide_eq_true (by first | (with_reducible assumption) | assumption)
                                      obtain ⟨go45, co45, eo45, gb45, gl45, cl45, HG45⟩ := Kd.R_form HO_10.out (by omega)
                                      (first | cases eo45 | (injection eo45 with ea_ en_ ec_; (first | subst ea_ | (injection ea_ with ea_; subst ea_)); subst ec_; clear en_))
                                      have GB45 := Aside0.mk gb45
                                      have GG45 := Aside0.mk HG45
                                      clear gb45 gl45 HG45
                                      (first | simp only [add_plain] at hx548_0 | skip)
                                      obtain ⟨hx45_0, hf45_0⟩ := Kd.R_celln 0 HO_10.out (x15_3 : Int) p45 q45
                                      replace p45 := eq_true p45
                                      replace q45 := eq_true q45
                                      have HP46 := Kd.R_putg HO_10.out (x15_3 : Int) (((rd x10_3 x15_3) + 1) % 256)
                                      go_wp2_with (first | ((with_reducible refine gate_store (t := 5) (p := 82) rfl ?_); refine store_event (t := 5) (p := 82) (v := ?vo_w47) (w1 := (wr.setCell ⟨go45, (x15_3 : Int).toNat, none⟩ (.int .u8 (((rd x10_3 x15_3) + 1) % 256)))) ?hg ?ho ?hn ?hr ?_; (case ho => rfl); (case hg => rfl); (case hn => rfl); (case hr => first | (go_simp; done) | (go_simp; rfl)); intro w47 hw; have hg : wr.grownBy w47 (some go45) := (by rw [hw]; exact HP46.2); have hp_ : Kd.R (Kd.int .u8) 5 w47 w.heap.size (fun _ => True) (.slice (some ⟨go45, 0, none⟩) x10_3.length co25) y549 := (by rw [hw, Ny549.out]; exact HP46.1); clear HP46; have n0_ := Aside0.mk (hp_); have n1_ := Aside0.mk (Kd.N_afterv (v := (.slice (some ⟨go45, 0, none⟩) x10_3.length co25)) (v1 := (.slice (some ⟨go45, 0, none⟩) x10_3.length co25)) (ok := (fun k_ => some k_ ≠ (v541 : Value).ownBlock)) (by (with_reducible repeat (first | apply Kd.N_alloc | apply Kd.N_drewN | apply Kd.N_drew)); exact Kd.N_mono HO_12.out (fun _ hk => ⟨hk.2, hk.1⟩)) hg (.inl rfl)); have n2_ := Aside0.mk (Kd.N_afterv (v := (.slice (some ⟨go45, 0, none⟩) x10_3.length co25)) (v1 := (.slice (some ⟨go45, 0, none⟩) x10_3.length co25)) (ok := (fun k_ => some k_ ≠ (v526 : Value).ownBlock)) (by (with_reducible repeat (first | apply Kd.N_alloc | apply Kd.N_drewN | apply Kd.N_drew)); exact Kd.N_mono HO_14.out (fun _ hk => ⟨hk.2, hk.1⟩)) hg (.inl rfl)); have n3_ := Aside0.mk ((by rw [hw]; exact below_set (HB.out) GB45.out : Below w.heap.size w w47)); clear HO_10; clear HO_12; clear HO_14; clear HB; have HO_10 := n0_; have HO_12 := n1_; have HO_14 := n2_; have HB := n3_; clear n0_ n1_ n2_ n3_; clear hg hw hp_))
                                      (try simp only [← hl10_3])
                                      go_roundg k3
                                      case measure => have := HJ4.out; have := HK2.out; have := HK3.out; omega
                                      case rel => exact ⟨(y549), (wrap64 (x15_3 + 1)), (by first | rfl | (simp; done) | (simp [*]; done)), H', ⟨by have := HJ4.out; have := HK2.out; have := HK3.out; omega⟩, ⟨by (try simp only [hl10_2]); (try simp only [hl10_3]); (with_reducible repeat (first | apply Kd.R_alloc | apply Kd.R_drewN | apply Kd.R_drew)); exact HO_10.out⟩, ⟨by (try simp only [hl10_2]); (try simp only [hl10_3]); (with_reducible repeat (first | apply Kd.N_alloc | apply Kd.N_drewN | apply Kd.N_drew)); exact Kd.N_mono HO_12.out (fun _ hk => ⟨hk.2, hk.1⟩)⟩, ⟨by (try simp only [hl10_2]); (try simp only [hl10_3]); (with_reducible repeat (first | apply Kd.N_alloc | apply Kd.N_drewN | apply Kd.N_drew)); exact Kd.N_mono HO_14.out (fun _ hk => ⟨hk.2, hk.1⟩)⟩, ⟨by repeat (first | (with_reducible first | exact HB.out | apply below_alloc | apply pw_below_drewN | apply below_drew1) | exact HB.out)⟩⟩
                                    · rw [if_neg c44] at H
                                      exact absurd H (by simp)
                                  · rw [if_neg c43] at H
                                    have c43b0 : decide (x15_3 < (x10_3.length : Int)) = false := decide_eq_false c43
                                    clear c43
                                    replace H := Option.bind_eq_some_iff.mp H
                                    obtain ⟨⟨t550, t553, t554, t555, t556, t557⟩, A480, H⟩ := H
                                    replace H : ((some (([] : List (List Int)) : List (List Int))).bind fun y559 => (if y559.length + t525.length < 5864062014805 then ((some (y559 ++ t525 : List (List Int))).bind fun y562 => (if y562.length + t540.length < 5864062014805 then ((umpireref07_Same.f k3 (y562 ++ t540) t550).bind fun t568 => (some t568)) else (none))) else (none))) = some r := H
                                    have A48 := Aside0.mk A480
                                    clear A480
                                    obtain ⟨y559, hy559⟩ : ∃ y_ : List (List Int), y_ = (([] : List (List Int))) := ⟨_, rfl⟩
                                    replace H : (if y559.length + t525.length < 5864062014805 then ((some (y559 ++ t525 : List (List Int))).bind fun y562 => (if y562.length + t540.length < 5864062014805 then ((umpireref07_Same.f k3 (y562 ++ t540) t550).bind fun t568 => (some t568)) else (none))) else (none)) = some r := by first | (rw [hy559]; with_reducible exact H) | (have H2_ := (Option.bind_some _ _).symm.trans H; rw [hy559]; with_reducible exact H2_) | (have H2_ := (Option.bind_some _ _).symm.trans H; with_reducible exact H2_) | with_reducible exact H | (rw [hy559]; exact H) | exact H
                                    have Ny559 := Aside0.mk hy559
                                    clear hy559
                                    by_cases c49 : y559.length + t525.length < 5864062014805
                                    · rw [if_pos c49] at H
                                      have LMc49 := Aside0.mk c49
                                      clear c49
                                      obtain ⟨y562, hy562⟩ : ∃ y_ : List (List Int), y_ = (y559 ++ t525) := ⟨_, rfl⟩
                                      replace H : (if y562.length + t540.length < 5864062014805 then ((umpireref07_Same.f k3 (y562 ++ t540) t550).bind fun t568 => (some t568)) else (none)) = some r := by first | (rw [hy562]; with_reducible exact H) | (have H2_ := (Option.bind_some _ _).symm.trans H; rw [hy562]; with_reducible exact H2_) | (have H2_ := (Option.bind_some _ _).symm.trans H; with_reducible exact H2_) | with_reducible exact H | (rw [hy562]; exact H) | exact H
                                      have Ny562 := Aside0.mk hy562
                                      clear hy562
                                      by_cases c50 : y562.length + t540.length < 5864062014805
                                      · rw [if_pos c50] at H
                                        have LMc50 := Aside0.mk c50
                                        clear c50
                                        obtain ⟨y565, hy565⟩ : ∃ y_ : List (List Int), y_ = (y562 ++ t540) := ⟨_, rfl⟩
                                        replace H : ((umpireref07_Same.f k3 y565 t550).bind fun t568 => (some t568)) = some r := by first | (rw [hy565]; with_reducible exact H) | (have H2_ := (Option.bind_some _ _).symm.trans H; rw [hy565]; with_reducible exact H2_) | (have H2_ := (Option.bind_some _ _).symm.trans H; with_reducible exact H2_) | with_reducible exact H | (rw [hy565]; exact H) | exact H
                                        have Ny565 := Aside0.mk hy565
                                        clear hy565
                                        replace H := Option.bind_eq_some_iff.mp H
                                        obtain ⟨t568, A510, H⟩ := H
                                        replace H : (some t568) = some r := H
                                        have A51 := Aside0.mk A510
                                        clear A510
                                        obtain rfl := Option.some.inj H
                                        go_wp2_with (first | ((with_reducible refine gate_callee (f := 19) rfl ?_); refine goesL_ (some 87) rfl rfl Try.func19 (by kernel_rfl) rfl #[.slice A0 l0.length c0, .int .u32 a2, .bool a3] rfl (by (try simp only [List.map_toArray, List.map_cons, List.map_nil]); first | done | rfl | (simp only [List.length_drop, List.length_take]; rfl)) ?_; (with_reducible refine (umpireref07_All.calls k3 (fun k_ => k_ < w.heap.size) _ _ l0 a2 a3 t550 t553 t554 t555 t556 t557 _ ?side1 A48.out).mono ?_); (case side1 => exact Kd.V_mk HC0.out (Kd.F_below (Kd.C_F (Kd.heap_int .u8) HR0.out) (by repeat (first | (with_reducible first | exact HB.out | apply below_alloc | apply pw_below_drewN | apply below_drew1) | exact HB.out)))); rintro e w52 ⟨v551, rfl, ho0, hb⟩; refine ⟨_, rfl, ?_⟩; have n0_ := Aside0.mk (Kd.R_below (by (with_reducible repeat (first | apply Kd.R_alloc | apply Kd.R_drewN | apply Kd.R_drew)); exact HO_10.out) hb); have n1_ := Aside0.mk (Kd.N_elder' (by (with_reducible repeat (first | apply Kd.N_alloc | apply Kd.N_drewN | apply Kd.N_drew)); exact HO_12.out) (by first | exact Kd.N_base ho0 | exact Kd.N_base (Kd.S_N (Kd.S_bound ho0)) | exact Kd.R_base ho0 | exact Kd.S_base ho0) hb); have n2_ := Aside0.mk (Kd.N_elder' (by (with_reducible repeat (first | apply Kd.N_alloc | apply Kd.N_drewN | apply Kd.N_drew)); exact HO_14.out) (by first | exact Kd.N_base ho0 | exact Kd.N_base (Kd.S_N (Kd.S_bound ho0)) | exact Kd.R_base ho0 | exact Kd.S_base ho0) hb); have n3_ := Aside0.mk (Kd.N_lower (Kd.N_mono (ok' := fun k_ => some k_ ≠ (.slice Ao25 x10_3.length co25 : Value).ownBlock ∧ some k_ ≠ (v526 : Value).ownBlock ∧ some k_ ≠ (v541 : Value).ownBlock) ho0 (fun k_ hk_ => ⟨Or.elim hk_ (fun hs_ => fun e_ => Nat.not_le.2 hs_ (Kd.R_base HO_10.out k_ e_.symm)) (fun hn_ => (Kd.fresh' (Kd.R_lt (by (with_reducible repeat (first | apply Kd.R_alloc | apply Kd.R_drewN | apply Kd.R_drew)); exact HO_10.out)) k_ hn_)), Or.elim hk_ (fun hs_ => fun e_ => Nat.not_le.2 hs_ (Kd.N_base HO_12.out k_ e_.symm)) (fun hn_ => (Kd.fresh' (Kd.N_lt (by (with_reducible repeat (first | apply Kd.N_alloc | apply Kd.N_drewN | apply Kd.N_drew)); exact HO_12.out)) k_ hn_)), Or.elim hk_ (fun hs_ => fun e_ => Nat.not_le.2 hs_ (Kd.N_base HO_14.out k_ e_.symm)) (fun hn_ => (Kd.fresh' (Kd.N_lt (by (with_reducible repeat (first | apply Kd.N_alloc | apply Kd.N_drewN | apply Kd.N_drew)); exact HO_14.out)) k_ hn_))⟩)) (below_size (by repeat (first | (with_reducible first | exact HB.out | apply below_alloc | apply pw_below_drewN | apply below_drew1) | exact HB.out)))); have n4_ := Aside0.mk (below_step (by repeat (first | (with_reducible first | exact HB.out | apply below_alloc | apply pw_below_drewN | apply below_drew1) | exact HB.out)) hb); clear HO_10; clear HO_12; clear HO_14; clear HB; have HO_10 := n0_; have HO_12 := n1_; have HO_14 := n2_; have HO552 := n3_; have HB := n4_; clear n0_ n1_ n2_ n3_ n4_; (try clear hb); (try clear hb2); (try clear hk); (try clear hi); (try clear ho0)) | ((with_reducible refine gate_dst (N := 17) rfl ?_); (try (refine gate_guard (by rfl) ?_; dsimp only)); refine box_event ?hg (N := 17) ?hd (cs := #[.int .i64 0, .int .i64 0, .int .i64 0, .int .i64 0, .int .i64 0]) (t := 40) ?hr ?_; (case hd => rfl); (case hg => rfl); (case hr => first | (go_simp; done) | (go_simp; rfl)); intro gb558 hg w53 hbox hb; have n0_ := Aside0.mk (Kd.R_below (by (with_reducible repeat (first | apply Kd.R_alloc | apply Kd.R_drewN | apply Kd.R_drew)); exact HO_10.out) hb); have n1_ := Aside0.mk (Kd.N_below (Kd.N_elderB (by (with_reducible repeat (first | apply Kd.N_alloc | apply Kd.N_drewN | apply Kd.N_drew)); exact HO_12.out) gb558 (Nat.le_of_eq hg.symm)) hb); have n2_ := Aside0.mk (Kd.N_below (Kd.N_elderB (by (with_reducible repeat (first | apply Kd.N_alloc | apply Kd.N_drewN | apply Kd.N_drew)); exact HO_14.out) gb558 (Nat.le_of_eq hg.symm)) hb); have n3_ := Aside0.mk (Kd.N_below (Kd.N_elderB (by (with_reducible repeat (first | apply Kd.N_alloc | apply Kd.N_drewN | apply Kd.N_drew)); exact HO552.out) gb558 (Nat.le_of_eq hg.symm)) hb); have n4_ := Aside0.mk (below_step (by repeat (first | (with_reducible first | exact HB.out | apply below_alloc | apply pw_below_drewN | apply below_drew1) | exact HB.out)) hb); have n5_ := Aside0.mk (hbox); have n6_ := Aside0.mk ((by rw [hg]; exact (below_size (by repeat (first | (with_reducible first | exact HB.out | apply below_alloc | apply pw_below_drewN | apply below_drew1) | exact HB.out))) : w.heap.size ≤ gb558)); have n7_ := Aside0.mk ((by rw [hg]; exact (below_size (by repeat (first | (with_reducible first | exact HB.out | apply below_alloc | apply pw_below_drewN | apply below_drew1) | exact HB.out))) : w.heap.size ≤ gb558)); clear HO_10; clear HO_12; clear HO_14; clear HO552; clear HB; have HO_10 := n0_; have HO_12 := n1_; have HO_14 := n2_; have HO552 := n3_; have HB := n4_; have BK558 := n5_; have GW558 := n6_; have GE558 := n7_; clear n0_ n1_ n2_ n3_ n4_ n5_ n6_ n7_; clear hb hbox hg; have hcz54_0 : w53.cell? ⟨gb558, 0, none⟩ = some (.int .i64 0) := (blk_cell BK558.out 0).trans rfl; have hcz54_1 : w53.cell? ⟨gb558, 1, none⟩ = some (.int .i64 0) := (blk_cell BK558.out 1).trans rfl; have hcz54_2 : w53.cell? ⟨gb558, 2, none⟩ = some (.int .i64 0) := (blk_cell BK558.out 2).trans rfl; have hcz54_3 : w53.cell? ⟨gb558, 3, none⟩ = some (.int .i64 0) := (blk_cell BK558.out 3).trans rfl; have hcz54_4 : w53.cell? ⟨gb558, 4, none⟩ = some (.int .i64 0) := (blk_cell BK558.out 4).trans rfl; have hfz54_0 := blk_frozen BK558.out 0; have hfz54_1 := blk_frozen BK558.out 1; have hfz54_2 := blk_frozen BK558.out 2; have hfz54_3 := blk_frozen BK558.out 3; have hfz54_4 := blk_frozen BK558.out 4) | ((with_reducible refine gate_store (t := 40) (p := 17) rfl ?_); refine store_event (t := 40) (p := 17) (v := ?vo_w55) (w1 := (((((w53.setCell ⟨gb558, 0, none⟩ (.int .i64 t553)).setCell ⟨gb558, 1, none⟩ (.int .i64 t554)).setCell ⟨gb558, 2, none⟩ (.int .i64 t555)).setCell ⟨gb558, 3, none⟩ (.int .i64 t556)).setCell ⟨gb558, 4, none⟩ (.int .i64 t557))) ?hg ?ho ?hn ?hr ?_; (case ho => rfl); (case hg => rfl); (case hn => rfl); (case hr => first | (go_simp; done) | (go_simp; rfl)); intro w55 hw; have n0_ : Aside0 (Kd.R (Kd.int .u8) 5 w55 w.heap.size (fun _ => True) (.slice Ao25 x10_3.length co25) x10_3) := ⟨(by rw [hw]; exact (by (with_reducible repeat (first | apply Kd.R_alloc | apply Kd.R_drewN | apply Kd.R_drew)); exact Kd.R_mono (Kd.R_far (p := ⟨gb558, 4, none⟩) (Kd.R_far (p := ⟨gb558, 3, none⟩) (Kd.R_far (p := ⟨gb558, 2, none⟩) (Kd.R_far (p := ⟨gb558, 1, none⟩) (Kd.R_far (p := ⟨gb558, 0, none⟩) (Kd.R_types HO_10.out BK558.out (by decide)) (fun _ hk => hk.2) (.int .i64 t553)) (fun _ hk => hk.2) (.int .i64 t554)) (fun _ hk => hk.2) (.int .i64 t555)) (fun _ hk => hk.2) (.int .i64 t556)) (fun _ hk => hk.2) (.int .i64 t557)) (fun _ hk => trivial)))⟩; have n1_ : Aside0 (Kd.N (Kd.slice 5 (Kd.int .u8)) 26 w55 w.heap.size (fun k_ => some k_ ≠ (.slice Ao25 x10_3.length co25 : Value).ownBlock ∧ some k_ ≠ (v541 : Value).ownBlock ∧ some k_ ≠ (v551 : Value).ownBlock ∧ k_ ≠ gb558) v526 t525) := ⟨(by rw [hw]; exact (by (with_reducible repeat (first | apply Kd.N_alloc | apply Kd.N_drewN | apply Kd.N_drew)); exact Kd.N_mono (Kd.N_far (p := ⟨gb558, 4, none⟩) (Kd.N_far (p := ⟨gb558, 3, none⟩) (Kd.N_far (p := ⟨gb558, 2, none⟩) (Kd.N_far (p := ⟨gb558, 1, none⟩) (Kd.N_far (p := ⟨gb558, 0, none⟩) (Kd.N_mono HO_12.out (fun k_ hk => (⟨hk, hk.2⟩ : _ ∧ k_ ≠ gb558))) (fun _ hk => hk.2) (.int .i64 t553)) (fun _ hk => hk.2) (.int .i64 t554)) (fun _ hk => hk.2) (.int .i64 t555)) (fun _ hk => hk.2) (.int .i64 t556)) (fun _ hk => hk.2) (.int .i64 t557)) (fun _ hk => ⟨hk.1.1.1.1, ⟨hk.1.1.1.2, ⟨hk.1.1.2, hk.1.2⟩⟩⟩)))⟩; have n2_ : Aside0 (Kd.N (Kd.slice 5 (Kd.int .u8)) 26 w55 w.heap.size (fun k_ => some k_ ≠ (.slice Ao25 x10_3.length co25 : Value).ownBlock ∧ some k_ ≠ (v526 : Value).ownBlock ∧ some k_ ≠ (v551 : Value).ownBlock ∧ k_ ≠ gb558) v541 t540) := ⟨(by rw [hw]; exact (by (with_reducible repeat (first | apply Kd.N_alloc | apply Kd.N_drewN | apply Kd.N_drew)); exact Kd.N_mono (Kd.N_far (p := ⟨gb558, 4, none⟩) (Kd.N_far (p := ⟨gb558, 3, none⟩) (Kd.N_far (p := ⟨gb558, 2, none⟩) (Kd.N_far (p := ⟨gb558, 1, none⟩) (Kd.N_far (p := ⟨gb558, 0, none⟩) (Kd.N_mono HO_14.out (fun k_ hk => (⟨hk, hk.2⟩ : _ ∧ k_ ≠ gb558))) (fun _ hk => hk.2) (.int .i64 t553)) (fun _ hk => hk.2) (.int .i64 t554)) (fun _ hk => hk.2) (.int .i64 t555)) (fun _ hk => hk.2) (.int .i64 t556)) (fun _ hk => hk.2) (.int .i64 t557)) (fun _ hk => ⟨hk.1.1.1.1, ⟨hk.1.1.1.2, ⟨hk.1.1.2, hk.1.2⟩⟩⟩)))⟩; have n3_ : Aside0 (Kd.N (Kd.slice 5 (Kd.int .u8)) 26 w55 w.heap.size (fun k_ => some k_ ≠ (.slice Ao25 x10_3.length co25 : Value).ownBlock ∧ some k_ ≠ (v526 : Value).ownBlock ∧ some k_ ≠ (v541 : Value).ownBlock ∧ k_ ≠ gb558) v551 t550) := ⟨(by rw [hw]; exact (by (with_reducible repeat (first | apply Kd.N_alloc | apply Kd.N_drewN | apply Kd.N_drew)); exact Kd.N_mono (Kd.N_far (p := ⟨gb558, 4, none⟩) (Kd.N_far (p := ⟨gb558, 3, none⟩) (Kd.N_far (p := ⟨gb558, 2, none⟩) (Kd.N_far (p := ⟨gb558, 1, none⟩) (Kd.N_far (p := ⟨gb558, 0, none⟩) (Kd.N_mono HO552.out (fun k_ hk => (⟨hk, hk.2⟩ : _ ∧ k_ ≠ gb558))) (fun _ hk => hk.2) (.int .i64 t553)) (fun _ hk => hk.2) (.int .i64 t554)) (fun _ hk => hk.2) (.int .i64 t555)) (fun _ hk => hk.2) (.int .i64 t556)) (fun _ hk => hk.2) (.int .i64 t557)) (fun _ hk => ⟨hk.1.1.1, ⟨hk.1.1.2.1, ⟨hk.1.1.2.2, hk.1.2⟩⟩⟩)))⟩; have n4_ : Aside0 (w55.heap[gb558]? = some (.cells #[.int .i64 t553, .int .i64 t554, .int .i64 t555, .int .i64 t556, .int .i64 t557] 40 (0, 0))) := ⟨(by rw [hw]; exact (by (with_reducible repeat (first | refine blk_drewN ?_ _ | refine blk_drew ?_ | refine blk_alloc ?_ _)); refine blk_put (cs := #[.int .i64 t553, .int .i64 t554, .int .i64 t555, .int .i64 t556, .int .i64 0]) ?_ 4 _ rfl; (with_reducible repeat (first | refine blk_drewN ?_ _ | refine blk_drew ?_ | refine blk_alloc ?_ _)); refine blk_put (cs := #[.int .i64 t553, .int .i64 t554, .int .i64 t555, .int .i64 0, .int .i64 0]) ?_ 3 _ rfl; (with_reducible repeat (first | refine blk_drewN ?_ _ | refine blk_drew ?_ | refine blk_alloc ?_ _)); refine blk_put (cs := #[.int .i64 t553, .int .i64 t554, .int .i64 0, .int .i64 0, .int .i64 0]) ?_ 2 _ rfl; (with_reducible repeat (first | refine blk_drewN ?_ _ | refine blk_drew ?_ | refine blk_alloc ?_ _)); refine blk_put (cs := #[.int .i64 t553, .int .i64 0, .int .i64 0, .int .i64 0, .int .i64 0]) ?_ 1 _ rfl; (with_reducible repeat (first | refine blk_drewN ?_ _ | refine blk_drew ?_ | refine blk_alloc ?_ _)); refine blk_put (cs := #[.int .i64 0, .int .i64 0, .int .i64 0, .int .i64 0, .int .i64 0]) ?_ 0 _ rfl; (with_reducible repeat (first | refine blk_drewN ?_ _ | refine blk_drew ?_ | refine blk_alloc ?_ _)); exact BK558.out))⟩; have n5_ : Aside0 (Below w.heap.size w w55) := ⟨(by rw [hw]; exact (by repeat (first | (with_reducible first | exact HB.out | apply below_alloc | apply pw_below_drewN | apply below_drew1 | refine below_set ?_ GE558.out) | exact HB.out)))⟩; clear hw; clear HO_10; clear HO_12; clear HO_14; clear HO552; clear BK558; clear HB; have HO_10 := n0_; have HO_12 := n1_; have HO_14 := n2_; have HO552 := n3_; have BK558 := n4_; have HB := n5_; clear n0_ n1_ n2_ n3_ n4_ n5_) | ((with_reducible refine gate_dst (N := 90) rfl ?_); (try (refine gate_guard (by rfl) ?_; dsimp only)); refine Kd.N_lit (Kd.slice 5 (Kd.int .u8)) _ 26 ?hg (N' := 90) ?hd (xs := ([] : List (List Int))) (inner := []) (ok := (fun k_ => some k_ ≠ (.slice Ao25 x10_3.length co25 : Value).ownBlock ∧ some k_ ≠ (v526 : Value).ownBlock ∧ some k_ ≠ (v541 : Value).ownBlock ∧ some k_ ≠ (v551 : Value).ownBlock ∧ k_ ≠ gb558)) (okp := (fun k_ => some k_ ≠ (.slice Ao25 x10_3.length co25 : Value).ownBlock ∧ some k_ ≠ (v526 : Value).ownBlock ∧ some k_ ≠ (v541 : Value).ownBlock ∧ some k_ ≠ (v551 : Value).ownBlock ∧ k_ ≠ gb558)) ?hr ?hp (fun _ hk => hk) ((show ∀ k_, w55.heap.size ≤ k_ → (fun k_ => some k_ ≠ (.slice Ao25 x10_3.length co25 : Value).ownBlock ∧ some k_ ≠ (v526 : Value).ownBlock ∧ some k_ ≠ (v541 : Value).ownBlock ∧ some k_ ≠ (v551 : Value).ownBlock ∧ k_ ≠ gb558) k_ from fun k_ hk => ⟨Kd.fresh' (Kd.R_lt (by (with_reducible repeat (first | apply Kd.R_alloc | apply Kd.R_drewN | apply Kd.R_drew)); exact HO_10.out)) k_ hk, Kd.fresh' (Kd.N_lt (by (with_reducible repeat (first | apply Kd.N_alloc | apply Kd.N_drewN | apply Kd.N_drew)); exact HO_12.out)) k_ hk, Kd.fresh' (Kd.N_lt (by (with_reducible repeat (first | apply Kd.N_alloc | apply Kd.N_drewN | apply Kd.N_drew)); exact HO_14.out)) k_ hk, Kd.fresh' (Kd.N_lt (by (with_reducible repeat (first | apply Kd.N_alloc | apply Kd.N_drewN | apply Kd.N_drew)); exact HO552.out)) k_ hk, Kd.freshB (g := gb558) (o := .cells #[.int .i64 t553, .int .i64 t554, .int .i64 t555, .int .i64 t556, .int .i64 t557] 40 (0, 0)) (by (with_reducible repeat (first | refine blk_drewN ?_ _ | refine blk_drew ?_ | refine blk_alloc ?_ _)); exact BK558.out) k_ hk⟩) _ (Nat.le_refl _)) (Below.refl _ _) (Nat.le_refl _) (by simp) ?_; (case hd => rfl); (case hg => rfl); (case hr => first | (go_simp; done) | (go_simp; rfl)); (case hp => exact (Reps.none _ _)); intro v560 w56 ho57 hb hg_ hnew_; clear hg_ hnew_; (first | rw [← Ny559.out] at ho57 | (simp only [Int.reduceToNat] at ho57; rw [← Ny559.out] at ho57)); have n0_ := Aside0.mk (Kd.R_below (by (with_reducible repeat (first | apply Kd.R_alloc | apply Kd.R_drewN | apply Kd.R_drew)); exact HO_10.out) hb); have n1_ := Aside0.mk (Kd.N_elder' (by (with_reducible repeat (first | apply Kd.N_alloc | apply Kd.N_drewN | apply Kd.N_drew)); exact HO_12.out) (by first | exact Kd.N_base ho57 | exact Kd.N_base (Kd.S_N (Kd.S_bound ho57)) | exact Kd.R_base ho57 | exact Kd.S_base ho57) hb); have n2_ := Aside0.mk (Kd.N_elder' (by (with_reducible repeat (first | apply Kd.N_alloc | apply Kd.N_drewN | apply Kd.N_drew)); exact HO_14.out) (by first | exact Kd.N_base ho57 | exact Kd.N_base (Kd.S_N (Kd.S_bound ho57)) | exact Kd.R_base ho57 | exact Kd.S_base ho57) hb); have n3_ := Aside0.mk (Kd.N_elder' (by (with_reducible repeat (first | apply Kd.N_alloc | apply Kd.N_drewN | apply Kd.N_drew)); exact HO552.out) (by first | exact Kd.N_base ho57 | exact Kd.N_base (Kd.S_N (Kd.S_bound ho57)) | exact Kd.R_base ho57 | exact Kd.S_base ho57) hb); have n4_ := Aside0.mk (Kd.N_lower ho57 (below_size (by repeat (first | (with_reducible first | exact HB.out | apply below_alloc | apply pw_below_drewN | apply below_drew1 | refine below_set ?_ GE558.out) | exact HB.out)))); have n5_ := Aside0.mk (blk_below (g := gb558) (o := .cells #[.int .i64 t553, .int .i64 t554, .int .i64 t555, .int .i64 t556, .int .i64 t557] 40 (0, 0)) (by (with_reducible repeat (first | refine blk_drewN ?_ _ | refine blk_drew ?_ | refine blk_alloc ?_ _)); exact BK558.out) hb); have n6_ := Aside0.mk (below_step (by repeat (first | (with_reducible first | exact HB.out | apply below_alloc | apply pw_below_drewN | apply below_drew1 | refine below_set ?_ GE558.out) | exact HB.out)) hb); clear HO_10; clear HO_12; clear HO_14; clear HO552; clear BK558; clear HB; have HO_10 := n0_; have HO_12 := n1_; have HO_14 := n2_; have HO552 := n3_; have HO561 := n4_; have BK558 := n5_; have HB := n6_; clear n0_ n1_ n2_ n3_ n4_ n5_ n6_; clear hb ho57; obtain ⟨Ao59, co59, eo59⟩ := Kd.N_slice HO_12.out; subst eo59) | ((with_reducible refine gate_builtin (b := .append) (xs := #[.tmp 90, .tmp 91]) rfl ?_); (try (refine gate_guard (by rfl) ?_; dsimp only)); at_builtin; refine Kd.N_append_rows (Kd.slice 5 (Kd.int .u8)) (w0 := w) w.heap.size rfl (.tmp 90) (.tmp 91) 22 26 (.slice none 0 0) 24 rfl Try.underlying22 info26 rfl (by decide) (by omega) v560 y559 t525 _ _ _ (fun k_ => some k_ ≠ (.slice Ao25 x10_3.length co25 : Value).ownBlock ∧ some k_ ≠ (v541 : Value).ownBlock ∧ some k_ ≠ (v551 : Value).ownBlock ∧ k_ ≠ gb558) (fun k_ => ((fun k_ => some k_ ≠ (.slice Ao25 x10_3.length co25 : Value).ownBlock ∧ some k_ ≠ (v541 : Value).ownBlock ∧ some k_ ≠ (v551 : Value).ownBlock ∧ k_ ≠ gb558)) k_ ∧ some k_ ≠ (v560 : Value).ownBlock) rfl rfl ?aO ?aR (fun _ hk => hk) ?aF ?aB ?aS ?aL ?_; (case aR => exact (by skip; exact Kd.N_F (Kd.N_mono (ok' := (fun k_ => ((fun k_ => some k_ ≠ (.slice Ao25 x10_3.length co25 : Value).ownBlock ∧ some k_ ≠ (v541 : Value).ownBlock ∧ some k_ ≠ (v551 : Value).ownBlock ∧ k_ ≠ gb558)) k_ ∧ some k_ ≠ (v560 : Value).ownBlock)) (HO_12.out) (fun k_ hk => ⟨⟨hk.1.1, ⟨hk.1.2.1, ⟨hk.1.2.2.1, hk.1.2.2.2⟩⟩⟩, hk.2⟩)))); (case aB => exact (by repeat (first | (with_reducible first | exact HB.out | apply below_alloc | apply pw_below_drewN | apply below_drew1 | refine below_set ?_ GE558.out) | exact HB.out))); (case aF => exact (fun k_ hk => ⟨Kd.fresh' (Kd.R_lt (by (with_reducible repeat (first | apply Kd.R_alloc | apply Kd.R_drewN | apply Kd.R_drew)); exact HO_10.out)) k_ hk, Kd.fresh' (Kd.N_lt (by (with_reducible repeat (first | apply Kd.N_alloc | apply Kd.N_drewN | apply Kd.N_drew)); exact HO_14.out)) k_ hk, Kd.fresh' (Kd.N_lt (by (with_reducible repeat (first | apply Kd.N_alloc | apply Kd.N_drewN | apply Kd.N_drew)); exact HO552.out)) k_ hk, Kd.freshB (g := gb558) (o := .cells #[.int .i64 t553, .int .i64 t554, .int .i64 t555, .int .i64 t556, .int .i64 t557] 40 (0, 0)) (by (with_reducible repeat (first | refine blk_drewN ?_ _ | refine blk_drew ?_ | refine blk_alloc ?_ _)); exact BK558.out) k_ hk⟩)); (case aO => exact (by (with_reducible repeat (first | apply Kd.N_alloc | apply Kd.N_drewN | apply Kd.N_drew)); exact Kd.N_mono HO561.out (fun _ hk => ⟨hk.1, ⟨hk.2.2.1, ⟨hk.2.2.2.1, hk.2.2.2.2⟩⟩⟩))); (case aS => exact (below_size (by repeat (first | (with_reducible first | exact HB.out | apply below_alloc | apply pw_below_drewN | apply below_drew1 | refine below_set ?_ GE558.out) | exact HB.out)))); (case aL => have := LMc49.out; omega); intro v563 w58 ho hb hg hat; rw [← Ny562.out] at ho; have n0_ := Aside0.mk (Kd.R_over' (by (with_reducible repeat (first | apply Kd.R_alloc | apply Kd.R_drewN | apply Kd.R_drew)); exact HO_10.out) (Kd.N_typed (by (with_reducible repeat (first | apply Kd.N_alloc | apply Kd.N_drewN | apply Kd.N_drew)); exact HO561.out)) (by decide) hg); have n1_ := Aside0.mk (Kd.N_afterv (ok := (fun k_ => some k_ ≠ (.slice Ao25 x10_3.length co25 : Value).ownBlock ∧ some k_ ≠ (v541 : Value).ownBlock ∧ some k_ ≠ (v551 : Value).ownBlock ∧ k_ ≠ gb558)) (by (with_reducible repeat (first | apply Kd.N_alloc | apply Kd.N_drewN | apply Kd.N_drew)); exact HO_12.out) hg hat); have n2_ := Aside0.mk (Kd.N_afterv (ok := (fun k_ => some k_ ≠ (.slice Ao25 x10_3.length co25 : Value).ownBlock ∧ some k_ ≠ (.slice Ao59 t525.length co59 : Value).ownBlock ∧ some k_ ≠ (v551 : Value).ownBlock ∧ k_ ≠ gb558)) (by (with_reducible repeat (first | apply Kd.N_alloc | apply Kd.N_drewN | apply Kd.N_drew)); exact HO_14.out) hg hat); have n3_ := Aside0.mk (Kd.N_afterv (ok := (fun k_ => some k_ ≠ (.slice Ao25 x10_3.length co25 : Value).ownBlock ∧ some k_ ≠ (.slice Ao59 t525.length co59 : Value).ownBlock ∧ some k_ ≠ (v541 : Value).ownBlock ∧ k_ ≠ gb558)) (by (with_reducible repeat (first | apply Kd.N_alloc | apply Kd.N_drewN | apply Kd.N_drew)); exact HO552.out) hg hat); have n4_ := Aside0.mk (blk_grown (g := gb558) (o := .cells #[.int .i64 t553, .int .i64 t554, .int .i64 t555, .int .i64 t556, .int .i64 t557] 40 (0, 0)) (by (with_reducible repeat (first | refine blk_drewN ?_ _ | refine blk_drew ?_ | refine blk_alloc ?_ _)); exact BK558.out) hg (Kd.N_ne HO561.out BK558.out (by decide))); have n5_ := Aside0.mk (hb); have n6_ := Aside0.mk (ho); clear HO_10; clear HO_12; clear HO_14; clear HO552; clear BK558; clear HB; clear HO561; have HO_10 := n0_; have HO_12 := n1_; have HO_14 := n2_; have HO552 := n3_; have BK558 := n4_; have HB := n5_; have HO564 := n6_; clear n0_ n1_ n2_ n3_ n4_ n5_ n6_; clear ho hb hg hat; obtain ⟨Ao61, co61, eo61⟩ := Kd.N_slice HO_14.out; subst eo61) | ((with_reducible refine gate_builtin (b := .append) (xs := #[.tmp 92, .tmp 93]) rfl ?_); (try (refine gate_guard (by rfl) ?_; dsimp only)); at_builtin; refine Kd.N_append_rows (Kd.slice 5 (Kd.int .u8)) (w0 := w) w.heap.size rfl (.tmp 92) (.tmp 93) 22 26 (.slice none 0 0) 24 rfl Try.underlying22 info26 rfl (by decide) (by omega) v563 y562 t540 _ _ _ (fun k_ => some k_ ≠ (.slice Ao25 x10_3.length co25 : Value).ownBlock ∧ some k_ ≠ (v551 : Value).ownBlock ∧ k_ ≠ gb558) (fun k_ => ((fun k_ => some k_ ≠ (.slice Ao25 x10_3.length co25 : Value).ownBlock ∧ some k_ ≠ (v551 : Value).ownBlock ∧ k_ ≠ gb558)) k_ ∧ some k_ ≠ (v563 : Value).ownBlock) rfl rfl ?aO ?aR (fun _ hk => hk) ?aF ?aB ?aS ?aL ?_; (case aR => exact (by skip; exact Kd.N_F (Kd.N_mono (ok' := (fun k_ => ((fun k_ => some k_ ≠ (.slice Ao25 x10_3.length co25 : Value).ownBlock ∧ some k_ ≠ (v551 : Value).ownBlock ∧ k_ ≠ gb558)) k_ ∧ some k_ ≠ (v563 : Value).ownBlock)) (HO_14.out) (fun k_ hk => ⟨⟨hk.1.1, ⟨hk.1.2.2.1, hk.1.2.2.2⟩⟩, hk.2⟩)))); (case aB => exact (by repeat (first | (with_reducible first | exact HB.out | apply below_alloc | apply pw_below_drewN | apply below_drew1 | refine below_set ?_ GE558.out) | exact HB.out))); (case aF => exact (fun k_ hk => ⟨Kd.fresh' (Kd.R_lt (by (with_reducible repeat (first | apply Kd.R_alloc | apply Kd.R_drewN | apply Kd.R_drew)); exact HO_10.out)) k_ hk, Kd.fresh' (Kd.N_lt (by (with_reducible repeat (first | apply Kd.N_alloc | apply Kd.N_drewN | apply Kd.N_drew)); exact HO552.out)) k_ hk, Kd.freshB (g := gb558) (o := .cells #[.int .i64 t553, .int .i64 t554, .int .i64 t555, .int .i64 t556, .int .i64 t557] 40 (0, 0)) (by (with_reducible repeat (first | refine blk_drewN ?_ _ | refine blk_drew ?_ | refine blk_alloc ?_ _)); exact BK558.out) k_ hk⟩)); (case aO => exact (by (with_reducible repeat (first | apply Kd.N_alloc | apply Kd.N_drewN | apply Kd.N_drew)); exact Kd.N_mono HO564.out (fun _ hk => ⟨hk.1, ⟨hk.2.2.1, hk.2.2.2⟩⟩))); (case aS => exact (below_size (by repeat (first | (with_reducible first | exact HB.out | apply below_alloc | apply pw_below_drewN | apply below_drew1 | refine below_set ?_ GE558.out) | exact HB.out)))); (case aL => have := LMc50.out; omega); intro v566 w60 ho hb hg hat; rw [← Ny565.out] at ho; have n0_ := Aside0.mk (Kd.R_over' (by (with_reducible repeat (first | apply Kd.R_alloc | apply Kd.R_drewN | apply Kd.R_drew)); exact HO_10.out) (Kd.N_typed (by (with_reducible repeat (first | apply Kd.N_alloc | apply Kd.N_drewN | apply Kd.N_drew)); exact HO564.out)) (by decide) hg); have n1_ := Aside0.mk (Kd.N_afterv (ok := (fun k_ => some k_ ≠ (.slice Ao25 x10_3.length co25 : Value).ownBlock ∧ some k_ ≠ (.slice Ao61 t540.length co61 : Value).ownBlock ∧ some k_ ≠ (v551 : Value).ownBlock ∧ k_ ≠ gb558)) (by (with_reducible repeat (first | apply Kd.N_alloc | apply Kd.N_drewN | apply Kd.N_drew)); exact HO_12.out) hg hat); have n2_ := Aside0.mk (Kd.N_afterv (ok := (fun k_ => some k_ ≠ (.slice Ao25 x10_3.length co25 : Value).ownBlock ∧ some k_ ≠ (.slice Ao59 t525.length co59 : Value).ownBlock ∧ some k_ ≠ (v551 : Value).ownBlock ∧ k_ ≠ gb558)) (by (with_reducible repeat (first | apply Kd.N_alloc | apply Kd.N_drewN | apply Kd.N_drew)); exact HO_14.out) hg hat); have n3_ := Aside0.mk (Kd.N_afterv (ok := (fun k_ => some k_ ≠ (.slice Ao25 x10_3.length co25 : Value).ownBlock ∧ some k_ ≠ (.slice Ao59 t525.length co59 : Value).ownBlock ∧ some k_ ≠ (.slice Ao61 t540.length co61 : Value).ownBlock ∧ k_ ≠ gb558)) (by (with_reducible repeat (first | apply Kd.N_alloc | apply Kd.N_drewN | apply Kd.N_drew)); exact HO552.out) hg hat); have n4_ := Aside0.mk (blk_grown (g := gb558) (o := .cells #[.int .i64 t553, .int .i64 t554, .int .i64 t555, .int .i64 t556, .int .i64 t557] 40 (0, 0)) (by (with_reducible repeat (first | refine blk_drewN ?_ _ | refine blk_drew ?_ | refine blk_alloc ?_ _)); exact BK558.out) hg (Kd.N_ne HO564.out BK558.out (by decide))); have n5_ := Aside0.mk (hb); have n6_ := Aside0.mk (ho); clear HO_10; clear HO_12; clear HO_14; clear HO552; clear BK558; clear HB; clear HO564; have HO_10 := n0_; have HO_12 := n1_; have HO_14 := n2_; have HO552 := n3_; have BK558 := n4_; have HB := n5_; have HO567 := n6_; clear n0_ n1_ n2_ n3_ n4_ n5_ n6_; clear ho hb hg hat; obtain ⟨Ao62, co62, eo62⟩ := Kd.N_slice HO567.out; subst eo62; obtain ⟨Ao63, co63, eo63⟩ := Kd.N_slice HO552.out; subst eo63) | ((with_reducible refine gate_callee (f := 16) rfl ?_); refine goesL_ (some 96) rfl rfl Try.func16 (by kernel_rfl) rfl #[.slice Ao62 y565.length co62, .slice Ao63 t550.length co63] rfl (by (try simp only [List.map_toArray, List.map_cons, List.map_nil]); first | done | rfl | (simp only [List.length_drop, List.length_take]; rfl)) ?_; (with_reducible refine (umpireref07_Same.calls k3 _ _ y565 _ _ t550 t568 _ ?side1 ?side2 ?side3 ?side4 A51.out).mono ?_); (case side1 => repeat (first | exact (Kd.N_reads' HO567.out).2.2 | (with_reducible refine Kd.C_alloc ?_ _) | (with_reducible refine Kd.C_drewN ?_ _) | (with_reducible refine Kd.C_drew ?_))); (case side2 => exact (Kd.N_reads' HO567.out).2.1); (case side3 => repeat (first | exact (Kd.N_reads' HO552.out).2.2 | (with_reducible refine Kd.C_alloc ?_ _) | (with_reducible refine Kd.C_drewN ?_ _) | (with_reducible refine Kd.C_drew ?_))); (case side4 => exact (Kd.N_reads' HO552.out).2.1); rintro e w' ⟨rfl, ⟨nd, rfl⟩⟩; refine ⟨_, rfl, ?_⟩))
                                        go_ret
                                        exact ⟨by first | rfl | (simp [errW_none, errW_some] <;> rfl) | (simp only [← hji16]; first | rfl | (simp [errW_none, errW_some] <;> rfl)) | (simp [*, errW_none, errW_some] <;> rfl), by repeat (first | (with_reducible first | exact HB.out | apply below_alloc | apply pw_below_drewN | apply below_drew1 | refine below_set ?_ GE558.out) | exact HB.out)⟩
                                      · rw [if_neg c50] at H
                                        exact absurd H (by simp)
                                    · rw [if_neg c49] at H
                                      exact absurd H (by simp)
                            · rw [if_neg c39] at H
                              exact absurd H (by simp)
                          · rw [if_neg c38] at H
                            exact absurd H (by simp)
                  · rw [if_neg c20] at H
                    exact absurd H (by simp)
                · rw [if_neg c18] at H
                  exact absurd H (by simp)
              · rw [if_neg c17] at H
                exact absurd H (by simp)
          · rw [if_neg c14] at H
            exact absurd H (by simp)

/-- THE ONE PURE STATEMENT of umpirelaw07_FrameKeeps: yours. -/
def umpirelaw07_FrameKeeps.Pure : Prop := ∀ (l0 : List Int) (a1 : Int) (a2 : Int) (a3 : Bool), l0.length ≤ maxLen → l0.length * 1 ≤ 140737488351232 → (∀ x ∈ l0, (Lit.int .u8 x).wf = true) → (Lit.int .u16 a1).wf = true → (Lit.int .u32 a2).wf = true → ∃ k, umpirelaw07_FrameKeeps.f k l0 a1 a2 a3 = some true
theorem umpirelaw07_FrameKeeps.walk (P : umpirelaw07_FrameKeeps.Pure) (a0 : Option Addr) (len0 cap0 : Nat) (z0 : List Int) (a1 : Int) (a2 : Int) (a3 : Bool) (w : World) (w0 : (a0 = none ∧ len0 = 0 ∧ cap0 = 0 ∧ z0 = []) ∨ ∃ x, a0 = some x ∧ len0 ≤ cap0 ∧ cap0 ≤ maxLen ∧ z0.length = cap0 ∧ (∀ i, i < z0.length → w.cell? (x.add i) = some (.int .u8 (z0.getD i 0))) ∧ ∀ n ∈ z0, (Lit.int .u8 n).wf = true) (y0 : len0 * 1 ≤ 140737488351232) (w1 : (Lit.int .u16 a1).wf = true) (w2 : (Lit.int .u32 a2).wf = true) :
    Calls Try.prog 7 #[.slice a0 len0 cap0, .int .u16 a1, .int .u32 a2, .bool a3] w fun e w' => e = .returned (.bool true) ∧ Below w.heap.size w w' := by
  obtain ⟨l0, rfl, hr0, hm0, hw0, hc0⟩ := ReadsInt.ofRowC w0
  obtain ⟨k, h⟩ := P l0 a1 a2 a3 hm0 y0 hw0 w1 w2
  refine (umpirelaw07_FrameKeeps.calls k _ _ l0 a1 a2 a3 true w (Kd.C_of_reads (d := (0 : Int)) (h1 := fun _ => rfl) hr0) hc0 h).mono ?_
  rintro e w' ⟨rfl, hd⟩
  exact ⟨rfl, hd⟩

end Go.Proofs.Ytgnonglkibhnhaa.Print
