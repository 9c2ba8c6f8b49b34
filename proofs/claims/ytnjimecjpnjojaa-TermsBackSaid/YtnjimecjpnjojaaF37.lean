-- laid by this session's own program (wip/mkprint.sh) for this claim
import Derived.Test.Ytnjimecjpnjojaa0
namespace Go.Proofs.Ytnjimecjpnjojaa.Print
open Go.RowKit Go.Proofs.YtnjimecjpnjojaaW.PrintWords Go.Proofs.YtnjimecjpnjojaaW.PrintLast Go.Proofs.YtnjimecjpnjojaaW.PrintMore
attribute [local go_sem] max2_int min2_int max_two min_two max_three min_three max_four min_four   -- for this text's walks alone
set_option linter.unusedVariables false
set_option linter.unusedSimpArgs false

/-! ### umpireref14_May: function 37 -/
def umpireref14_May.j0 : Nat → Bool → Bool → Int → Bool → Int → Int → Bool → Bool → Int → Bool → Bool → Option (Bool)
  | 0, _, _, _, _, _, _, _, _, _, _, _ => none
  | k + 1, x25, x701000, x701001, x701002, x701003, x701004, x701005, x701006, x701007, x701008, x701009 => if x25 = true then (some false) else (if x701006 = true then (if x701007 = 0 then (some false) else (if x701000 = true then (if x701002 = true then (some (!false)) else (some (!(x701003 != 0)))) else (if x701001 = 0 then (if x701002 = true then (some (!false)) else (some (!(x701003 != 0)))) else (some (!true))))) else (if x701007 = 0 then (if x701000 = true then (if x701002 = true then (some (!false)) else (some (!(x701003 != 0)))) else (if x701001 = 0 then (if x701002 = true then (some (!false)) else (some (!(x701003 != 0)))) else (some (!true)))) else (some false)))
def umpireref14_May.f (k : Nat) (a0_0 : Bool) (a0_1 : Int) (a0_2 : Bool) (a0_3 : Int) (a0_4 : Int) (a0_5 : Bool) (a0_6 : Bool) (a0_7 : Int) (a0_8 : Bool) (a0_9 : Bool) : Option (Bool) := if a0_1 < 0 then (umpireref14_May.j0 k true a0_0 a0_1 a0_2 a0_3 a0_4 a0_5 a0_6 a0_7 a0_8 a0_9) else (if a0_1 > 65535 then (umpireref14_May.j0 k true a0_0 a0_1 a0_2 a0_3 a0_4 a0_5 a0_6 a0_7 a0_8 a0_9) else (if a0_4 = 0 then (umpireref14_May.j0 k false a0_0 a0_1 a0_2 a0_3 a0_4 a0_5 a0_6 a0_7 a0_8 a0_9) else (if a0_4 = 49187 then (umpireref14_May.j0 k false a0_0 a0_1 a0_2 a0_3 a0_4 a0_5 a0_6 a0_7 a0_8 a0_9) else (umpireref14_May.j0 k (a0_4 != 49699) a0_0 a0_1 a0_2 a0_3 a0_4 a0_5 a0_6 a0_7 a0_8 a0_9))))
theorem umpireref14_May.mono_l : ∀ k, (∀ y0 y1 y2 y3 y4 y5 y6 y7 y8 y9 y10, LeO (umpireref14_May.j0 k y0 y1 y2 y3 y4 y5 y6 y7 y8 y9 y10) (umpireref14_May.j0 (k + 1) y0 y1 y2 y3 y4 y5 y6 y7 y8 y9 y10))
  | 0 => fun _ _ _ _ _ _ _ _ _ _ _ r h => by simp [umpireref14_May.j0] at h
  | k + 1 => by
    have ih0 := umpireref14_May.mono_l k
    · intro y0 y1 y2 y3 y4 y5 y6 y7 y8 y9 y10
      unfold umpireref14_May.j0
      repeat' (with_reducible exact LeO.refl _)
theorem umpireref14_May.mono : ∀ a0 a1 a2 a3 a4 a5 a6 a7 a8 a9 k, LeO (umpireref14_May.f k a0 a1 a2 a3 a4 a5 a6 a7 a8 a9) (umpireref14_May.f (k + 1) a0 a1 a2 a3 a4 a5 a6 a7 a8 a9) := by
  intro a0 a1 a2 a3 a4 a5 a6 a7 a8 a9 k
  have ih0 := umpireref14_May.mono_l k
  unfold umpireref14_May.f
  repeat' first | (with_reducible exact ih0 _ _ _ _ _ _ _ _ _ _ _) | (with_reducible refine LeO.ite ?_ ?_)
set_option maxHeartbeats 8000000 in
set_option maxRecDepth 100000 in
theorem umpireref14_May.calls (k : Nat) (a0_0 : Bool) (a0_1 : Int) (a0_2 : Bool) (a0_3 : Int) (a0_4 : Int) (a0_5 : Bool) (a0_6 : Bool) (a0_7 : Int) (a0_8 : Bool) (a0_9 : Bool) (r : Bool) (w : World) (h : umpireref14_May.f k a0_0 a0_1 a0_2 a0_3 a0_4 a0_5 a0_6 a0_7 a0_8 a0_9 = some r) :
    Calls Try.prog 37 #[.agg #[.bool a0_0, .int .i64 a0_1, .bool a0_2, .int .u32 a0_3, .int .i64 a0_4, .bool a0_5, .bool a0_6, .int .u32 a0_7, .bool a0_8, .bool a0_9]] w fun e w' => e = .returned (.bool r) ∧ Below w.heap.size w w' := by
  have hu61 := Try.underlying61
  have HB := Aside0.mk (Below.refl w.heap.size w)
  have H : (if a0_1 < 0 then (umpireref14_May.j0 k true a0_0 a0_1 a0_2 a0_3 a0_4 a0_5 a0_6 a0_7 a0_8 a0_9) else (if a0_1 > 65535 then (umpireref14_May.j0 k true a0_0 a0_1 a0_2 a0_3 a0_4 a0_5 a0_6 a0_7 a0_8 a0_9) else (if a0_4 = 0 then (umpireref14_May.j0 k false a0_0 a0_1 a0_2 a0_3 a0_4 a0_5 a0_6 a0_7 a0_8 a0_9) else (if a0_4 = 49187 then (umpireref14_May.j0 k false a0_0 a0_1 a0_2 a0_3 a0_4 a0_5 a0_6 a0_7 a0_8 a0_9) else (umpireref14_May.j0 k (a0_4 != 49699) a0_0 a0_1 a0_2 a0_3 a0_4 a0_5 a0_6 a0_7 a0_8 a0_9))))) = some r := h
  clear h
  have HC2 := Aside0.mk H
  clear H
  go_enter Try.func37, Try.ntmps37
  go_upto_region 1 with (first | ((with_reducible refine gate_dst (N := 1) rfl ?_); refine box_event ?hg (N := 1) ?hd (cs := #[.bool a0_0, .int .i64 a0_1, .bool a0_2, .int .u32 a0_3, .int .i64 a0_4, .bool a0_5, .bool a0_6, .int .u32 a0_7, .bool a0_8, .bool a0_9]) (t := 61) ?hr ?_; (case hd => rfl); (case hg => rfl); (case hr => (go_simp; done)); intro gb700 hg w3 hbox hb; have n0_ := Aside0.mk (below_step (by exact HB.out) hb); have n1_ := Aside0.mk (hbox); have n2_ := Aside0.mk ((by rw [hg]; exact (below_size (by exact HB.out)) : w.heap.size ≤ gb700)); have n3_ := Aside0.mk ((by rw [hg]; exact (below_size (by exact HB.out)) : w.heap.size ≤ gb700)); clear HB; have HB := n0_; have BK700 := n1_; have GW700 := n2_; have GE700 := n3_; clear n0_ n1_ n2_ n3_; clear hb hbox hg))
  (skip)
  go_cut [25] (fun v25 wc => ∃ (kq : Nat) (x25_1 : Bool), v25 = .bool x25_1 ∧ Aside0 (umpireref14_May.j0 kq x25_1 a0_0 a0_1 a0_2 a0_3 a0_4 a0_5 a0_6 a0_7 a0_8 a0_9 = some r) ∧ Aside0 (kq ≤ k) ∧ Aside0 (wc.heap[gb700]? = some (.cells #[.bool a0_0, .int .i64 a0_1, .bool a0_2, .int .u32 a0_3, .int .i64 a0_4, .bool a0_5, .bool a0_6, .int .u32 a0_7, .bool a0_8, .bool a0_9] 61 (0, 0))) ∧ Aside0 (Below w.heap.size w wc))
  case first =>
    have H := HC2.out
    clear HC2
    by_cases c4 : a0_1 < 0
    · rw [if_pos c4] at H
      have c4b0 : decide (a0_1 < 0) = true := decide_eq_true c4
      clear c4
      (skip)
      have H' := Aside0.mk H
      clear H
      have hcz5_0 : w3.cell? ⟨gb700, 0, none⟩ = some (.bool a0_0) := (blk_cell BK700.out 0).trans rfl
      have hcz5_1 : w3.cell? ⟨gb700, 1, none⟩ = some (.int .i64 a0_1) := (blk_cell BK700.out 1).trans rfl
      have hcz5_2 : w3.cell? ⟨gb700, 2, none⟩ = some (.bool a0_2) := (blk_cell BK700.out 2).trans rfl
      have hcz5_3 : w3.cell? ⟨gb700, 3, none⟩ = some (.int .u32 a0_3) := (blk_cell BK700.out 3).trans rfl
      have hcz5_4 : w3.cell? ⟨gb700, 4, none⟩ = some (.int .i64 a0_4) := (blk_cell BK700.out 4).trans rfl
      have hcz5_5 : w3.cell? ⟨gb700, 5, none⟩ = some (.bool a0_5) := (blk_cell BK700.out 5).trans rfl
      have hcz5_6 : w3.cell? ⟨gb700, 6, none⟩ = some (.bool a0_6) := (blk_cell BK700.out 6).trans rfl
      have hcz5_7 : w3.cell? ⟨gb700, 7, none⟩ = some (.int .u32 a0_7) := (blk_cell BK700.out 7).trans rfl
      have hcz5_8 : w3.cell? ⟨gb700, 8, none⟩ = some (.bool a0_8) := (blk_cell BK700.out 8).trans rfl
      have hcz5_9 : w3.cell? ⟨gb700, 9, none⟩ = some (.bool a0_9) := (blk_cell BK700.out 9).trans rfl
      have hfz5_0 := blk_frozen BK700.out 0
      have hfz5_1 := blk_frozen BK700.out 1
      have hfz5_2 := blk_frozen BK700.out 2
      have hfz5_3 := blk_frozen BK700.out 3
      have hfz5_4 := blk_frozen BK700.out 4
      have hfz5_5 := blk_frozen BK700.out 5
      have hfz5_6 := blk_frozen BK700.out 6
      have hfz5_7 := blk_frozen BK700.out 7
      have hfz5_8 := blk_frozen BK700.out 8
      have hfz5_9 := blk_frozen BK700.out 9
      go_wp2
      go_meet
      case rel => exact ⟨_, (true), (by (rfl)), H', ⟨by (omega)⟩, ⟨by exact BK700.out⟩, ⟨by exact HB.out⟩⟩
    · rw [if_neg c4] at H
      have c4b0 : decide (a0_1 < 0) = false := decide_eq_false c4
      clear c4
      (skip)
      by_cases c6 : a0_1 > 65535
      · rw [if_pos c6] at H
        have c6b0 : decide (65535 < a0_1) = true := decide_eq_true c6
        clear c6
        have H' := Aside0.mk H
        clear H
        have hcz7_0 : w3.cell? ⟨gb700, 0, none⟩ = some (.bool a0_0) := (blk_cell BK700.out 0).trans rfl
        have hcz7_1 : w3.cell? ⟨gb700, 1, none⟩ = some (.int .i64 a0_1) := (blk_cell BK700.out 1).trans rfl
        have hcz7_2 : w3.cell? ⟨gb700, 2, none⟩ = some (.bool a0_2) := (blk_cell BK700.out 2).trans rfl
        have hcz7_3 : w3.cell? ⟨gb700, 3, none⟩ = some (.int .u32 a0_3) := (blk_cell BK700.out 3).trans rfl
        have hcz7_4 : w3.cell? ⟨gb700, 4, none⟩ = some (.int .i64 a0_4) := (blk_cell BK700.out 4).trans rfl
        have hcz7_5 : w3.cell? ⟨gb700, 5, none⟩ = some (.bool a0_5) := (blk_cell BK700.out 5).trans rfl
        have hcz7_6 : w3.cell? ⟨gb700, 6, none⟩ = some (.bool a0_6) := (blk_cell BK700.out 6).trans rfl
        have hcz7_7 : w3.cell? ⟨gb700, 7, none⟩ = some (.int .u32 a0_7) := (blk_cell BK700.out 7).trans rfl
        have hcz7_8 : w3.cell? ⟨gb700, 8, none⟩ = some (.bool a0_8) := (blk_cell BK700.out 8).trans rfl
        have hcz7_9 : w3.cell? ⟨gb700, 9, none⟩ = some (.bool a0_9) := (blk_cell BK700.out 9).trans rfl
        have hfz7_0 := blk_frozen BK700.out 0
        have hfz7_1 := blk_frozen BK700.out 1
        have hfz7_2 := blk_frozen BK700.out 2
        have hfz7_3 := blk_frozen BK700.out 3
        have hfz7_4 := blk_frozen BK700.out 4
        have hfz7_5 := blk_frozen BK700.out 5
        have hfz7_6 := blk_frozen BK700.out 6
        have hfz7_7 := blk_frozen BK700.out 7
        have hfz7_8 := blk_frozen BK700.out 8
        have hfz7_9 := blk_frozen BK700.out 9
        go_wp2
        go_meet
        case rel => exact ⟨_, (true), (by (rfl)), H', ⟨by (omega)⟩, ⟨by exact BK700.out⟩, ⟨by exact HB.out⟩⟩
      · rw [if_neg c6] at H
        have c6b0 : decide (65535 < a0_1) = false := decide_eq_false c6
        clear c6
        by_cases c8 : a0_4 = 0
        · rw [if_pos c8] at H
          have c8b0 : (a0_4 == 0) = true := beq_iff_eq.mpr c8
          have c8b1 : (a0_4 != 0) = false := bne_eq_false_iff_eq.mpr c8
          clear c8
          have H' := Aside0.mk H
          clear H
          have hcz9_0 : w3.cell? ⟨gb700, 0, none⟩ = some (.bool a0_0) := (blk_cell BK700.out 0).trans rfl
          have hcz9_1 : w3.cell? ⟨gb700, 1, none⟩ = some (.int .i64 a0_1) := (blk_cell BK700.out 1).trans rfl
          have hcz9_2 : w3.cell? ⟨gb700, 2, none⟩ = some (.bool a0_2) := (blk_cell BK700.out 2).trans rfl
          have hcz9_3 : w3.cell? ⟨gb700, 3, none⟩ = some (.int .u32 a0_3) := (blk_cell BK700.out 3).trans rfl
          have hcz9_4 : w3.cell? ⟨gb700, 4, none⟩ = some (.int .i64 a0_4) := (blk_cell BK700.out 4).trans rfl
          have hcz9_5 : w3.cell? ⟨gb700, 5, none⟩ = some (.bool a0_5) := (blk_cell BK700.out 5).trans rfl
          have hcz9_6 : w3.cell? ⟨gb700, 6, none⟩ = some (.bool a0_6) := (blk_cell BK700.out 6).trans rfl
          have hcz9_7 : w3.cell? ⟨gb700, 7, none⟩ = some (.int .u32 a0_7) := (blk_cell BK700.out 7).trans rfl
          have hcz9_8 : w3.cell? ⟨gb700, 8, none⟩ = some (.bool a0_8) := (blk_cell BK700.out 8).trans rfl
          have hcz9_9 : w3.cell? ⟨gb700, 9, none⟩ = some (.bool a0_9) := (blk_cell BK700.out 9).trans rfl
          have hfz9_0 := blk_frozen BK700.out 0
          have hfz9_1 := blk_frozen BK700.out 1
          have hfz9_2 := blk_frozen BK700.out 2
          have hfz9_3 := blk_frozen BK700.out 3
          have hfz9_4 := blk_frozen BK700.out 4
          have hfz9_5 := blk_frozen BK700.out 5
          have hfz9_6 := blk_frozen BK700.out 6
          have hfz9_7 := blk_frozen BK700.out 7
          have hfz9_8 := blk_frozen BK700.out 8
          have hfz9_9 := blk_frozen BK700.out 9
          go_wp2
          go_meet
          case rel => exact ⟨_, (false), (by (rfl)), H', ⟨by (omega)⟩, ⟨by exact BK700.out⟩, ⟨by exact HB.out⟩⟩
        · rw [if_neg c8] at H
          have c8b0 : (a0_4 == 0) = false := beq_eq_false_iff_ne.mpr c8
          have c8b1 : (a0_4 != 0) = true := bne_iff_ne.mpr c8
          by_cases c10 : a0_4 = 49187
          · rw [if_pos c10] at H
            have c10b0 : (a0_4 == 49187) = true := beq_iff_eq.mpr c10
            have c10b1 : (a0_4 != 49187) = false := bne_eq_false_iff_eq.mpr c10
            clear c10
            have H' := Aside0.mk H
            clear H
            have hcz11_0 : w3.cell? ⟨gb700, 0, none⟩ = some (.bool a0_0) := (blk_cell BK700.out 0).trans rfl
            have hcz11_1 : w3.cell? ⟨gb700, 1, none⟩ = some (.int .i64 a0_1) := (blk_cell BK700.out 1).trans rfl
            have hcz11_2 : w3.cell? ⟨gb700, 2, none⟩ = some (.bool a0_2) := (blk_cell BK700.out 2).trans rfl
            have hcz11_3 : w3.cell? ⟨gb700, 3, none⟩ = some (.int .u32 a0_3) := (blk_cell BK700.out 3).trans rfl
            have hcz11_4 : w3.cell? ⟨gb700, 4, none⟩ = some (.int .i64 a0_4) := (blk_cell BK700.out 4).trans rfl
            have hcz11_5 : w3.cell? ⟨gb700, 5, none⟩ = some (.bool a0_5) := (blk_cell BK700.out 5).trans rfl
            have hcz11_6 : w3.cell? ⟨gb700, 6, none⟩ = some (.bool a0_6) := (blk_cell BK700.out 6).trans rfl
            have hcz11_7 : w3.cell? ⟨gb700, 7, none⟩ = some (.int .u32 a0_7) := (blk_cell BK700.out 7).trans rfl
            have hcz11_8 : w3.cell? ⟨gb700, 8, none⟩ = some (.bool a0_8) := (blk_cell BK700.out 8).trans rfl
            have hcz11_9 : w3.cell? ⟨gb700, 9, none⟩ = some (.bool a0_9) := (blk_cell BK700.out 9).trans rfl
            have hfz11_0 := blk_frozen BK700.out 0
            have hfz11_1 := blk_frozen BK700.out 1
            have hfz11_2 := blk_frozen BK700.out 2
            have hfz11_3 := blk_frozen BK700.out 3
            have hfz11_4 := blk_frozen BK700.out 4
            have hfz11_5 := blk_frozen BK700.out 5
            have hfz11_6 := blk_frozen BK700.out 6
            have hfz11_7 := blk_frozen BK700.out 7
            have hfz11_8 := blk_frozen BK700.out 8
            have hfz11_9 := blk_frozen BK700.out 9
            go_wp2
            go_meet
            case rel => exact ⟨_, (false), (by (rfl)), H', ⟨by (omega)⟩, ⟨by exact BK700.out⟩, ⟨by exact HB.out⟩⟩
          · rw [if_neg c10] at H
            have c10b0 : (a0_4 == 49187) = false := beq_eq_false_iff_ne.mpr c10
            have c10b1 : (a0_4 != 49187) = true := bne_iff_ne.mpr c10
            have H' := Aside0.mk H
            clear H
            have hcz12_0 : w3.cell? ⟨gb700, 0, none⟩ = some (.bool a0_0) := (blk_cell BK700.out 0).trans rfl
            have hcz12_1 : w3.cell? ⟨gb700, 1, none⟩ = some (.int .i64 a0_1) := (blk_cell BK700.out 1).trans rfl
            have hcz12_2 : w3.cell? ⟨gb700, 2, none⟩ = some (.bool a0_2) := (blk_cell BK700.out 2).trans rfl
            have hcz12_3 : w3.cell? ⟨gb700, 3, none⟩ = some (.int .u32 a0_3) := (blk_cell BK700.out 3).trans rfl
            have hcz12_4 : w3.cell? ⟨gb700, 4, none⟩ = some (.int .i64 a0_4) := (blk_cell BK700.out 4).trans rfl
            have hcz12_5 : w3.cell? ⟨gb700, 5, none⟩ = some (.bool a0_5) := (blk_cell BK700.out 5).trans rfl
            have hcz12_6 : w3.cell? ⟨gb700, 6, none⟩ = some (.bool a0_6) := (blk_cell BK700.out 6).trans rfl
            have hcz12_7 : w3.cell? ⟨gb700, 7, none⟩ = some (.int .u32 a0_7) := (blk_cell BK700.out 7).trans rfl
            have hcz12_8 : w3.cell? ⟨gb700, 8, none⟩ = some (.bool a0_8) := (blk_cell BK700.out 8).trans rfl
            have hcz12_9 : w3.cell? ⟨gb700, 9, none⟩ = some (.bool a0_9) := (blk_cell BK700.out 9).trans rfl
            have hfz12_0 := blk_frozen BK700.out 0
            have hfz12_1 := blk_frozen BK700.out 1
            have hfz12_2 := blk_frozen BK700.out 2
            have hfz12_3 := blk_frozen BK700.out 3
            have hfz12_4 := blk_frozen BK700.out 4
            have hfz12_5 := blk_frozen BK700.out 5
            have hfz12_6 := blk_frozen BK700.out 6
            have hfz12_7 := blk_frozen BK700.out 7
            have hfz12_8 := blk_frozen BK700.out 8
            have hfz12_9 := blk_frozen BK700.out 9
            go_wp2
            go_meet
            case rel => exact ⟨_, (a0_4 != 49699), (by (rfl)), H', ⟨by (omega)⟩, ⟨by exact BK700.out⟩, ⟨by exact HB.out⟩⟩
  case rest =>
    clear HC2
    obtain ⟨kq, x25_1, rfl, HA, HJ1, BK700, HB⟩ := hcut
    cases kq with
    | zero => exact absurd HA.out (by simp [umpireref14_May.j0])
    | succ kj1 =>
      have H := HA.out
      clear HA
      simp only [umpireref14_May.j0] at H
      by_cases c13 : x25_1 = true
      · subst c13
        have H1 : (some false) = some r := by rw [if_pos rfl] at H; exact H
        clear H
        have H := H1
        clear H1
        obtain rfl := Option.some.inj H
        go_wp2
        go_ret
        exact ⟨by (rfl), by exact HB.out⟩
      · replace c13 := Bool.eq_false_iff.mpr c13
        subst c13
        have H1 : (if a0_6 = true then (if a0_7 = 0 then (some false) else (if a0_0 = true then (if a0_2 = true then (some (!false)) else (some (!(a0_3 != 0)))) else (if a0_1 = 0 then (if a0_2 = true then (some (!false)) else (some (!(a0_3 != 0)))) else (some (!true))))) else (if a0_7 = 0 then (if a0_0 = true then (if a0_2 = true then (some (!false)) else (some (!(a0_3 != 0)))) else (if a0_1 = 0 then (if a0_2 = true then (some (!false)) else (some (!(a0_3 != 0)))) else (some (!true)))) else (some false))) = some r := by rw [if_neg (show ¬ (false = true) by decide)] at H; exact H
        clear H
        have H := H1
        clear H1
        by_cases c14 : a0_6 = true
        · subst c14
          have H1 : (if a0_7 = 0 then (some false) else (if a0_0 = true then (if a0_2 = true then (some (!false)) else (some (!(a0_3 != 0)))) else (if a0_1 = 0 then (if a0_2 = true then (some (!false)) else (some (!(a0_3 != 0)))) else (some (!true))))) = some r := by rw [if_pos rfl] at H; exact H
          clear H
          have H := H1
          clear H1
          by_cases c15 : a0_7 = 0
          · rw [if_pos c15] at H
            have c15b0 : (a0_7 == 0) = true := beq_iff_eq.mpr c15
            have c15b1 : (a0_7 != 0) = false := bne_eq_false_iff_eq.mpr c15
            clear c15
            obtain rfl := Option.some.inj H
            have hcz16_0 : wc.cell? ⟨gb700, 0, none⟩ = some (.bool a0_0) := (blk_cell BK700.out 0).trans rfl
            have hcz16_1 : wc.cell? ⟨gb700, 1, none⟩ = some (.int .i64 a0_1) := (blk_cell BK700.out 1).trans rfl
            have hcz16_2 : wc.cell? ⟨gb700, 2, none⟩ = some (.bool a0_2) := (blk_cell BK700.out 2).trans rfl
            have hcz16_3 : wc.cell? ⟨gb700, 3, none⟩ = some (.int .u32 a0_3) := (blk_cell BK700.out 3).trans rfl
            have hcz16_4 : wc.cell? ⟨gb700, 4, none⟩ = some (.int .i64 a0_4) := (blk_cell BK700.out 4).trans rfl
            have hcz16_5 : wc.cell? ⟨gb700, 5, none⟩ = some (.bool a0_5) := (blk_cell BK700.out 5).trans rfl
            have hcz16_6 : wc.cell? ⟨gb700, 6, none⟩ = some (.bool true) := (blk_cell BK700.out 6).trans rfl
            have hcz16_7 : wc.cell? ⟨gb700, 7, none⟩ = some (.int .u32 a0_7) := (blk_cell BK700.out 7).trans rfl
            have hcz16_8 : wc.cell? ⟨gb700, 8, none⟩ = some (.bool a0_8) := (blk_cell BK700.out 8).trans rfl
            have hcz16_9 : wc.cell? ⟨gb700, 9, none⟩ = some (.bool a0_9) := (blk_cell BK700.out 9).trans rfl
            have hfz16_0 := blk_frozen BK700.out 0
            have hfz16_1 := blk_frozen BK700.out 1
            have hfz16_2 := blk_frozen BK700.out 2
            have hfz16_3 := blk_frozen BK700.out 3
            have hfz16_4 := blk_frozen BK700.out 4
            have hfz16_5 := blk_frozen BK700.out 5
            have hfz16_6 := blk_frozen BK700.out 6
            have hfz16_7 := blk_frozen BK700.out 7
            have hfz16_8 := blk_frozen BK700.out 8
            have hfz16_9 := blk_frozen BK700.out 9
            go_wp2
            go_ret
            exact ⟨by (rfl), by exact HB.out⟩
          · rw [if_neg c15] at H
            have c15b0 : (a0_7 == 0) = false := beq_eq_false_iff_ne.mpr c15
            have c15b1 : (a0_7 != 0) = true := bne_iff_ne.mpr c15
            by_cases c17 : a0_0 = true
            · subst c17
              have H1 : (if a0_2 = true then (some (!false)) else (some (!(a0_3 != 0)))) = some r := by rw [if_pos rfl] at H; exact H
              clear H
              have H := H1
              clear H1
              by_cases c18 : a0_2 = true
              · subst c18
                have H1 : (some (!false)) = some r := by rw [if_pos rfl] at H; exact H
                clear H
                have H := H1
                clear H1
                obtain rfl := Option.some.inj H
                have hcz19_0 : wc.cell? ⟨gb700, 0, none⟩ = some (.bool true) := (blk_cell BK700.out 0).trans rfl
                have hcz19_1 : wc.cell? ⟨gb700, 1, none⟩ = some (.int .i64 a0_1) := (blk_cell BK700.out 1).trans rfl
                have hcz19_2 : wc.cell? ⟨gb700, 2, none⟩ = some (.bool true) := (blk_cell BK700.out 2).trans rfl
                have hcz19_3 : wc.cell? ⟨gb700, 3, none⟩ = some (.int .u32 a0_3) := (blk_cell BK700.out 3).trans rfl
                have hcz19_4 : wc.cell? ⟨gb700, 4, none⟩ = some (.int .i64 a0_4) := (blk_cell BK700.out 4).trans rfl
                have hcz19_5 : wc.cell? ⟨gb700, 5, none⟩ = some (.bool a0_5) := (blk_cell BK700.out 5).trans rfl
                have hcz19_6 : wc.cell? ⟨gb700, 6, none⟩ = some (.bool true) := (blk_cell BK700.out 6).trans rfl
                have hcz19_7 : wc.cell? ⟨gb700, 7, none⟩ = some (.int .u32 a0_7) := (blk_cell BK700.out 7).trans rfl
                have hcz19_8 : wc.cell? ⟨gb700, 8, none⟩ = some (.bool a0_8) := (blk_cell BK700.out 8).trans rfl
                have hcz19_9 : wc.cell? ⟨gb700, 9, none⟩ = some (.bool a0_9) := (blk_cell BK700.out 9).trans rfl
                have hfz19_0 := blk_frozen BK700.out 0
                have hfz19_1 := blk_frozen BK700.out 1
                have hfz19_2 := blk_frozen BK700.out 2
                have hfz19_3 := blk_frozen BK700.out 3
                have hfz19_4 := blk_frozen BK700.out 4
                have hfz19_5 := blk_frozen BK700.out 5
                have hfz19_6 := blk_frozen BK700.out 6
                have hfz19_7 := blk_frozen BK700.out 7
                have hfz19_8 := blk_frozen BK700.out 8
                have hfz19_9 := blk_frozen BK700.out 9
                go_wp2
                go_ret
                exact ⟨by (rfl), by exact HB.out⟩
              · replace c18 := Bool.eq_false_iff.mpr c18
                subst c18
                have H1 : (some (!(a0_3 != 0))) = some r := by rw [if_neg (show ¬ (false = true) by decide)] at H; exact H
                clear H
                have H := H1
                clear H1
                obtain rfl := Option.some.inj H
                have hcz20_0 : wc.cell? ⟨gb700, 0, none⟩ = some (.bool true) := (blk_cell BK700.out 0).trans rfl
                have hcz20_1 : wc.cell? ⟨gb700, 1, none⟩ = some (.int .i64 a0_1) := (blk_cell BK700.out 1).trans rfl
                have hcz20_2 : wc.cell? ⟨gb700, 2, none⟩ = some (.bool false) := (blk_cell BK700.out 2).trans rfl
                have hcz20_3 : wc.cell? ⟨gb700, 3, none⟩ = some (.int .u32 a0_3) := (blk_cell BK700.out 3).trans rfl
                have hcz20_4 : wc.cell? ⟨gb700, 4, none⟩ = some (.int .i64 a0_4) := (blk_cell BK700.out 4).trans rfl
                have hcz20_5 : wc.cell? ⟨gb700, 5, none⟩ = some (.bool a0_5) := (blk_cell BK700.out 5).trans rfl
                have hcz20_6 : wc.cell? ⟨gb700, 6, none⟩ = some (.bool true) := (blk_cell BK700.out 6).trans rfl
                have hcz20_7 : wc.cell? ⟨gb700, 7, none⟩ = some (.int .u32 a0_7) := (blk_cell BK700.out 7).trans rfl
                have hcz20_8 : wc.cell? ⟨gb700, 8, none⟩ = some (.bool a0_8) := (blk_cell BK700.out 8).trans rfl
                have hcz20_9 : wc.cell? ⟨gb700, 9, none⟩ = some (.bool a0_9) := (blk_cell BK700.out 9).trans rfl
                have hfz20_0 := blk_frozen BK700.out 0
                have hfz20_1 := blk_frozen BK700.out 1
                have hfz20_2 := blk_frozen BK700.out 2
                have hfz20_3 := blk_frozen BK700.out 3
                have hfz20_4 := blk_frozen BK700.out 4
                have hfz20_5 := blk_frozen BK700.out 5
                have hfz20_6 := blk_frozen BK700.out 6
                have hfz20_7 := blk_frozen BK700.out 7
                have hfz20_8 := blk_frozen BK700.out 8
                have hfz20_9 := blk_frozen BK700.out 9
                go_wp2
                go_ret
                exact ⟨by (rfl), by exact HB.out⟩
            · replace c17 := Bool.eq_false_iff.mpr c17
              subst c17
              have H1 : (if a0_1 = 0 then (if a0_2 = true then (some (!false)) else (some (!(a0_3 != 0)))) else (some (!true))) = some r := by rw [if_neg (show ¬ (false = true) by decide)] at H; exact H
              clear H
              have H := H1
              clear H1
              by_cases c21 : a0_1 = 0
              · rw [if_pos c21] at H
                have c21b0 : (a0_1 == 0) = true := beq_iff_eq.mpr c21
                have c21b1 : (a0_1 != 0) = false := bne_eq_false_iff_eq.mpr c21
                clear c21
                by_cases c22 : a0_2 = true
                · subst c22
                  have H1 : (some (!false)) = some r := by rw [if_pos rfl] at H; exact H
                  clear H
                  have H := H1
                  clear H1
                  obtain rfl := Option.some.inj H
                  have hcz23_0 : wc.cell? ⟨gb700, 0, none⟩ = some (.bool false) := (blk_cell BK700.out 0).trans rfl
                  have hcz23_1 : wc.cell? ⟨gb700, 1, none⟩ = some (.int .i64 a0_1) := (blk_cell BK700.out 1).trans rfl
                  have hcz23_2 : wc.cell? ⟨gb700, 2, none⟩ = some (.bool true) := (blk_cell BK700.out 2).trans rfl
                  have hcz23_3 : wc.cell? ⟨gb700, 3, none⟩ = some (.int .u32 a0_3) := (blk_cell BK700.out 3).trans rfl
                  have hcz23_4 : wc.cell? ⟨gb700, 4, none⟩ = some (.int .i64 a0_4) := (blk_cell BK700.out 4).trans rfl
                  have hcz23_5 : wc.cell? ⟨gb700, 5, none⟩ = some (.bool a0_5) := (blk_cell BK700.out 5).trans rfl
                  have hcz23_6 : wc.cell? ⟨gb700, 6, none⟩ = some (.bool true) := (blk_cell BK700.out 6).trans rfl
                  have hcz23_7 : wc.cell? ⟨gb700, 7, none⟩ = some (.int .u32 a0_7) := (blk_cell BK700.out 7).trans rfl
                  have hcz23_8 : wc.cell? ⟨gb700, 8, none⟩ = some (.bool a0_8) := (blk_cell BK700.out 8).trans rfl
                  have hcz23_9 : wc.cell? ⟨gb700, 9, none⟩ = some (.bool a0_9) := (blk_cell BK700.out 9).trans rfl
                  have hfz23_0 := blk_frozen BK700.out 0
                  have hfz23_1 := blk_frozen BK700.out 1
                  have hfz23_2 := blk_frozen BK700.out 2
                  have hfz23_3 := blk_frozen BK700.out 3
                  have hfz23_4 := blk_frozen BK700.out 4
                  have hfz23_5 := blk_frozen BK700.out 5
                  have hfz23_6 := blk_frozen BK700.out 6
                  have hfz23_7 := blk_frozen BK700.out 7
                  have hfz23_8 := blk_frozen BK700.out 8
                  have hfz23_9 := blk_frozen BK700.out 9
                  go_wp2
                  go_ret
                  exact ⟨by (rfl), by exact HB.out⟩
                · replace c22 := Bool.eq_false_iff.mpr c22
                  subst c22
                  have H1 : (some (!(a0_3 != 0))) = some r := by rw [if_neg (show ¬ (false = true) by decide)] at H; exact H
                  clear H
                  have H := H1
                  clear H1
                  obtain rfl := Option.some.inj H
                  have hcz24_0 : wc.cell? ⟨gb700, 0, none⟩ = some (.bool false) := (blk_cell BK700.out 0).trans rfl
                  have hcz24_1 : wc.cell? ⟨gb700, 1, none⟩ = some (.int .i64 a0_1) := (blk_cell BK700.out 1).trans rfl
                  have hcz24_2 : wc.cell? ⟨gb700, 2, none⟩ = some (.bool false) := (blk_cell BK700.out 2).trans rfl
                  have hcz24_3 : wc.cell? ⟨gb700, 3, none⟩ = some (.int .u32 a0_3) := (blk_cell BK700.out 3).trans rfl
                  have hcz24_4 : wc.cell? ⟨gb700, 4, none⟩ = some (.int .i64 a0_4) := (blk_cell BK700.out 4).trans rfl
                  have hcz24_5 : wc.cell? ⟨gb700, 5, none⟩ = some (.bool a0_5) := (blk_cell BK700.out 5).trans rfl
                  have hcz24_6 : wc.cell? ⟨gb700, 6, none⟩ = some (.bool true) := (blk_cell BK700.out 6).trans rfl
                  have hcz24_7 : wc.cell? ⟨gb700, 7, none⟩ = some (.int .u32 a0_7) := (blk_cell BK700.out 7).trans rfl
                  have hcz24_8 : wc.cell? ⟨gb700, 8, none⟩ = some (.bool a0_8) := (blk_cell BK700.out 8).trans rfl
                  have hcz24_9 : wc.cell? ⟨gb700, 9, none⟩ = some (.bool a0_9) := (blk_cell BK700.out 9).trans rfl
                  have hfz24_0 := blk_frozen BK700.out 0
                  have hfz24_1 := blk_frozen BK700.out 1
                  have hfz24_2 := blk_frozen BK700.out 2
                  have hfz24_3 := blk_frozen BK700.out 3
                  have hfz24_4 := blk_frozen BK700.out 4
                  have hfz24_5 := blk_frozen BK700.out 5
                  have hfz24_6 := blk_frozen BK700.out 6
                  have hfz24_7 := blk_frozen BK700.out 7
                  have hfz24_8 := blk_frozen BK700.out 8
                  have hfz24_9 := blk_frozen BK700.out 9
                  go_wp2
                  go_ret
                  exact ⟨by (rfl), by exact HB.out⟩
              · rw [if_neg c21] at H
                have c21b0 : (a0_1 == 0) = false := beq_eq_false_iff_ne.mpr c21
                have c21b1 : (a0_1 != 0) = true := bne_iff_ne.mpr c21
                obtain rfl := Option.some.inj H
                have hcz25_0 : wc.cell? ⟨gb700, 0, none⟩ = some (.bool false) := (blk_cell BK700.out 0).trans rfl
                have hcz25_1 : wc.cell? ⟨gb700, 1, none⟩ = some (.int .i64 a0_1) := (blk_cell BK700.out 1).trans rfl
                have hcz25_2 : wc.cell? ⟨gb700, 2, none⟩ = some (.bool a0_2) := (blk_cell BK700.out 2).trans rfl
                have hcz25_3 : wc.cell? ⟨gb700, 3, none⟩ = some (.int .u32 a0_3) := (blk_cell BK700.out 3).trans rfl
                have hcz25_4 : wc.cell? ⟨gb700, 4, none⟩ = some (.int .i64 a0_4) := (blk_cell BK700.out 4).trans rfl
                have hcz25_5 : wc.cell? ⟨gb700, 5, none⟩ = some (.bool a0_5) := (blk_cell BK700.out 5).trans rfl
                have hcz25_6 : wc.cell? ⟨gb700, 6, none⟩ = some (.bool true) := (blk_cell BK700.out 6).trans rfl
                have hcz25_7 : wc.cell? ⟨gb700, 7, none⟩ = some (.int .u32 a0_7) := (blk_cell BK700.out 7).trans rfl
                have hcz25_8 : wc.cell? ⟨gb700, 8, none⟩ = some (.bool a0_8) := (blk_cell BK700.out 8).trans rfl
                have hcz25_9 : wc.cell? ⟨gb700, 9, none⟩ = some (.bool a0_9) := (blk_cell BK700.out 9).trans rfl
                have hfz25_0 := blk_frozen BK700.out 0
                have hfz25_1 := blk_frozen BK700.out 1
                have hfz25_2 := blk_frozen BK700.out 2
                have hfz25_3 := blk_frozen BK700.out 3
                have hfz25_4 := blk_frozen BK700.out 4
                have hfz25_5 := blk_frozen BK700.out 5
                have hfz25_6 := blk_frozen BK700.out 6
                have hfz25_7 := blk_frozen BK700.out 7
                have hfz25_8 := blk_frozen BK700.out 8
                have hfz25_9 := blk_frozen BK700.out 9
                go_wp2
                go_ret
                exact ⟨by (rfl), by exact HB.out⟩
        · replace c14 := Bool.eq_false_iff.mpr c14
          subst c14
          have H1 : (if a0_7 = 0 then (if a0_0 = true then (if a0_2 = true then (some (!false)) else (some (!(a0_3 != 0)))) else (if a0_1 = 0 then (if a0_2 = true then (some (!false)) else (some (!(a0_3 != 0)))) else (some (!true)))) else (some false)) = some r := by rw [if_neg (show ¬ (false = true) by decide)] at H; exact H
          clear H
          have H := H1
          clear H1
          by_cases c26 : a0_7 = 0
          · rw [if_pos c26] at H
            have c26b0 : (a0_7 == 0) = true := beq_iff_eq.mpr c26
            have c26b1 : (a0_7 != 0) = false := bne_eq_false_iff_eq.mpr c26
            clear c26
            by_cases c27 : a0_0 = true
            · subst c27
              have H1 : (if a0_2 = true then (some (!false)) else (some (!(a0_3 != 0)))) = some r := by rw [if_pos rfl] at H; exact H
              clear H
              have H := H1
              clear H1
              by_cases c28 : a0_2 = true
              · subst c28
                have H1 : (some (!false)) = some r := by rw [if_pos rfl] at H; exact H
                clear H
                have H := H1
                clear H1
                obtain rfl := Option.some.inj H
                have hcz29_0 : wc.cell? ⟨gb700, 0, none⟩ = some (.bool true) := (blk_cell BK700.out 0).trans rfl
                have hcz29_1 : wc.cell? ⟨gb700, 1, none⟩ = some (.int .i64 a0_1) := (blk_cell BK700.out 1).trans rfl
                have hcz29_2 : wc.cell? ⟨gb700, 2, none⟩ = some (.bool true) := (blk_cell BK700.out 2).trans rfl
                have hcz29_3 : wc.cell? ⟨gb700, 3, none⟩ = some (.int .u32 a0_3) := (blk_cell BK700.out 3).trans rfl
                have hcz29_4 : wc.cell? ⟨gb700, 4, none⟩ = some (.int .i64 a0_4) := (blk_cell BK700.out 4).trans rfl
                have hcz29_5 : wc.cell? ⟨gb700, 5, none⟩ = some (.bool a0_5) := (blk_cell BK700.out 5).trans rfl
                have hcz29_6 : wc.cell? ⟨gb700, 6, none⟩ = some (.bool false) := (blk_cell BK700.out 6).trans rfl
                have hcz29_7 : wc.cell? ⟨gb700, 7, none⟩ = some (.int .u32 a0_7) := (blk_cell BK700.out 7).trans rfl
                have hcz29_8 : wc.cell? ⟨gb700, 8, none⟩ = some (.bool a0_8) := (blk_cell BK700.out 8).trans rfl
                have hcz29_9 : wc.cell? ⟨gb700, 9, none⟩ = some (.bool a0_9) := (blk_cell BK700.out 9).trans rfl
                have hfz29_0 := blk_frozen BK700.out 0
                have hfz29_1 := blk_frozen BK700.out 1
                have hfz29_2 := blk_frozen BK700.out 2
                have hfz29_3 := blk_frozen BK700.out 3
                have hfz29_4 := blk_frozen BK700.out 4
                have hfz29_5 := blk_frozen BK700.out 5
                have hfz29_6 := blk_frozen BK700.out 6
                have hfz29_7 := blk_frozen BK700.out 7
                have hfz29_8 := blk_frozen BK700.out 8
                have hfz29_9 := blk_frozen BK700.out 9
                go_wp2
                go_ret
                exact ⟨by (rfl), by exact HB.out⟩
              · replace c28 := Bool.eq_false_iff.mpr c28
                subst c28
                have H1 : (some (!(a0_3 != 0))) = some r := by rw [if_neg (show ¬ (false = true) by decide)] at H; exact H
                clear H
                have H := H1
                clear H1
                obtain rfl := Option.some.inj H
                have hcz30_0 : wc.cell? ⟨gb700, 0, none⟩ = some (.bool true) := (blk_cell BK700.out 0).trans rfl
                have hcz30_1 : wc.cell? ⟨gb700, 1, none⟩ = some (.int .i64 a0_1) := (blk_cell BK700.out 1).trans rfl
                have hcz30_2 : wc.cell? ⟨gb700, 2, none⟩ = some (.bool false) := (blk_cell BK700.out 2).trans rfl
                have hcz30_3 : wc.cell? ⟨gb700, 3, none⟩ = some (.int .u32 a0_3) := (blk_cell BK700.out 3).trans rfl
                have hcz30_4 : wc.cell? ⟨gb700, 4, none⟩ = some (.int .i64 a0_4) := (blk_cell BK700.out 4).trans rfl
                have hcz30_5 : wc.cell? ⟨gb700, 5, none⟩ = some (.bool a0_5) := (blk_cell BK700.out 5).trans rfl
                have hcz30_6 : wc.cell? ⟨gb700, 6, none⟩ = some (.bool false) := (blk_cell BK700.out 6).trans rfl
                have hcz30_7 : wc.cell? ⟨gb700, 7, none⟩ = some (.int .u32 a0_7) := (blk_cell BK700.out 7).trans rfl
                have hcz30_8 : wc.cell? ⟨gb700, 8, none⟩ = some (.bool a0_8) := (blk_cell BK700.out 8).trans rfl
                have hcz30_9 : wc.cell? ⟨gb700, 9, none⟩ = some (.bool a0_9) := (blk_cell BK700.out 9).trans rfl
                have hfz30_0 := blk_frozen BK700.out 0
                have hfz30_1 := blk_frozen BK700.out 1
                have hfz30_2 := blk_frozen BK700.out 2
                have hfz30_3 := blk_frozen BK700.out 3
                have hfz30_4 := blk_frozen BK700.out 4
                have hfz30_5 := blk_frozen BK700.out 5
                have hfz30_6 := blk_frozen BK700.out 6
                have hfz30_7 := blk_frozen BK700.out 7
                have hfz30_8 := blk_frozen BK700.out 8
                have hfz30_9 := blk_frozen BK700.out 9
                go_wp2
                go_ret
                exact ⟨by (rfl), by exact HB.out⟩
            · replace c27 := Bool.eq_false_iff.mpr c27
              subst c27
              have H1 : (if a0_1 = 0 then (if a0_2 = true then (some (!false)) else (some (!(a0_3 != 0)))) else (some (!true))) = some r := by rw [if_neg (show ¬ (false = true) by decide)] at H; exact H
              clear H
              have H := H1
              clear H1
              by_cases c31 : a0_1 = 0
              · rw [if_pos c31] at H
                have c31b0 : (a0_1 == 0) = true := beq_iff_eq.mpr c31
                have c31b1 : (a0_1 != 0) = false := bne_eq_false_iff_eq.mpr c31
                clear c31
                by_cases c32 : a0_2 = true
                · subst c32
                  have H1 : (some (!false)) = some r := by rw [if_pos rfl] at H; exact H
                  clear H
                  have H := H1
                  clear H1
                  obtain rfl := Option.some.inj H
                  have hcz33_0 : wc.cell? ⟨gb700, 0, none⟩ = some (.bool false) := (blk_cell BK700.out 0).trans rfl
                  have hcz33_1 : wc.cell? ⟨gb700, 1, none⟩ = some (.int .i64 a0_1) := (blk_cell BK700.out 1).trans rfl
                  have hcz33_2 : wc.cell? ⟨gb700, 2, none⟩ = some (.bool true) := (blk_cell BK700.out 2).trans rfl
                  have hcz33_3 : wc.cell? ⟨gb700, 3, none⟩ = some (.int .u32 a0_3) := (blk_cell BK700.out 3).trans rfl
                  have hcz33_4 : wc.cell? ⟨gb700, 4, none⟩ = some (.int .i64 a0_4) := (blk_cell BK700.out 4).trans rfl
                  have hcz33_5 : wc.cell? ⟨gb700, 5, none⟩ = some (.bool a0_5) := (blk_cell BK700.out 5).trans rfl
                  have hcz33_6 : wc.cell? ⟨gb700, 6, none⟩ = some (.bool false) := (blk_cell BK700.out 6).trans rfl
                  have hcz33_7 : wc.cell? ⟨gb700, 7, none⟩ = some (.int .u32 a0_7) := (blk_cell BK700.out 7).trans rfl
                  have hcz33_8 : wc.cell? ⟨gb700, 8, none⟩ = some (.bool a0_8) := (blk_cell BK700.out 8).trans rfl
                  have hcz33_9 : wc.cell? ⟨gb700, 9, none⟩ = some (.bool a0_9) := (blk_cell BK700.out 9).trans rfl
                  have hfz33_0 := blk_frozen BK700.out 0
                  have hfz33_1 := blk_frozen BK700.out 1
                  have hfz33_2 := blk_frozen BK700.out 2
                  have hfz33_3 := blk_frozen BK700.out 3
                  have hfz33_4 := blk_frozen BK700.out 4
                  have hfz33_5 := blk_frozen BK700.out 5
                  have hfz33_6 := blk_frozen BK700.out 6
                  have hfz33_7 := blk_frozen BK700.out 7
                  have hfz33_8 := blk_frozen BK700.out 8
                  have hfz33_9 := blk_frozen BK700.out 9
                  go_wp2
                  go_ret
                  exact ⟨by (rfl), by exact HB.out⟩
                · replace c32 := Bool.eq_false_iff.mpr c32
                  subst c32
                  have H1 : (some (!(a0_3 != 0))) = some r := by rw [if_neg (show ¬ (false = true) by decide)] at H; exact H
                  clear H
                  have H := H1
                  clear H1
                  obtain rfl := Option.some.inj H
                  have hcz34_0 : wc.cell? ⟨gb700, 0, none⟩ = some (.bool false) := (blk_cell BK700.out 0).trans rfl
                  have hcz34_1 : wc.cell? ⟨gb700, 1, none⟩ = some (.int .i64 a0_1) := (blk_cell BK700.out 1).trans rfl
                  have hcz34_2 : wc.cell? ⟨gb700, 2, none⟩ = some (.bool false) := (blk_cell BK700.out 2).trans rfl
                  have hcz34_3 : wc.cell? ⟨gb700, 3, none⟩ = some (.int .u32 a0_3) := (blk_cell BK700.out 3).trans rfl
                  have hcz34_4 : wc.cell? ⟨gb700, 4, none⟩ = some (.int .i64 a0_4) := (blk_cell BK700.out 4).trans rfl
                  have hcz34_5 : wc.cell? ⟨gb700, 5, none⟩ = some (.bool a0_5) := (blk_cell BK700.out 5).trans rfl
                  have hcz34_6 : wc.cell? ⟨gb700, 6, none⟩ = some (.bool false) := (blk_cell BK700.out 6).trans rfl
                  have hcz34_7 : wc.cell? ⟨gb700, 7, none⟩ = some (.int .u32 a0_7) := (blk_cell BK700.out 7).trans rfl
                  have hcz34_8 : wc.cell? ⟨gb700, 8, none⟩ = some (.bool a0_8) := (blk_cell BK700.out 8).trans rfl
                  have hcz34_9 : wc.cell? ⟨gb700, 9, none⟩ = some (.bool a0_9) := (blk_cell BK700.out 9).trans rfl
                  have hfz34_0 := blk_frozen BK700.out 0
                  have hfz34_1 := blk_frozen BK700.out 1
                  have hfz34_2 := blk_frozen BK700.out 2
                  have hfz34_3 := blk_frozen BK700.out 3
                  have hfz34_4 := blk_frozen BK700.out 4
                  have hfz34_5 := blk_frozen BK700.out 5
                  have hfz34_6 := blk_frozen BK700.out 6
                  have hfz34_7 := blk_frozen BK700.out 7
                  have hfz34_8 := blk_frozen BK700.out 8
                  have hfz34_9 := blk_frozen BK700.out 9
                  go_wp2
                  go_ret
                  exact ⟨by (rfl), by exact HB.out⟩
              · rw [if_neg c31] at H
                have c31b0 : (a0_1 == 0) = false := beq_eq_false_iff_ne.mpr c31
                have c31b1 : (a0_1 != 0) = true := bne_iff_ne.mpr c31
                obtain rfl := Option.some.inj H
                have hcz35_0 : wc.cell? ⟨gb700, 0, none⟩ = some (.bool false) := (blk_cell BK700.out 0).trans rfl
                have hcz35_1 : wc.cell? ⟨gb700, 1, none⟩ = some (.int .i64 a0_1) := (blk_cell BK700.out 1).trans rfl
                have hcz35_2 : wc.cell? ⟨gb700, 2, none⟩ = some (.bool a0_2) := (blk_cell BK700.out 2).trans rfl
                have hcz35_3 : wc.cell? ⟨gb700, 3, none⟩ = some (.int .u32 a0_3) := (blk_cell BK700.out 3).trans rfl
                have hcz35_4 : wc.cell? ⟨gb700, 4, none⟩ = some (.int .i64 a0_4) := (blk_cell BK700.out 4).trans rfl
                have hcz35_5 : wc.cell? ⟨gb700, 5, none⟩ = some (.bool a0_5) := (blk_cell BK700.out 5).trans rfl
                have hcz35_6 : wc.cell? ⟨gb700, 6, none⟩ = some (.bool false) := (blk_cell BK700.out 6).trans rfl
                have hcz35_7 : wc.cell? ⟨gb700, 7, none⟩ = some (.int .u32 a0_7) := (blk_cell BK700.out 7).trans rfl
                have hcz35_8 : wc.cell? ⟨gb700, 8, none⟩ = some (.bool a0_8) := (blk_cell BK700.out 8).trans rfl
                have hcz35_9 : wc.cell? ⟨gb700, 9, none⟩ = some (.bool a0_9) := (blk_cell BK700.out 9).trans rfl
                have hfz35_0 := blk_frozen BK700.out 0
                have hfz35_1 := blk_frozen BK700.out 1
                have hfz35_2 := blk_frozen BK700.out 2
                have hfz35_3 := blk_frozen BK700.out 3
                have hfz35_4 := blk_frozen BK700.out 4
                have hfz35_5 := blk_frozen BK700.out 5
                have hfz35_6 := blk_frozen BK700.out 6
                have hfz35_7 := blk_frozen BK700.out 7
                have hfz35_8 := blk_frozen BK700.out 8
                have hfz35_9 := blk_frozen BK700.out 9
                go_wp2
                go_ret
                exact ⟨by (rfl), by exact HB.out⟩
          · rw [if_neg c26] at H
            have c26b0 : (a0_7 == 0) = false := beq_eq_false_iff_ne.mpr c26
            have c26b1 : (a0_7 != 0) = true := bne_iff_ne.mpr c26
            obtain rfl := Option.some.inj H
            have hcz36_0 : wc.cell? ⟨gb700, 0, none⟩ = some (.bool a0_0) := (blk_cell BK700.out 0).trans rfl
            have hcz36_1 : wc.cell? ⟨gb700, 1, none⟩ = some (.int .i64 a0_1) := (blk_cell BK700.out 1).trans rfl
            have hcz36_2 : wc.cell? ⟨gb700, 2, none⟩ = some (.bool a0_2) := (blk_cell BK700.out 2).trans rfl
            have hcz36_3 : wc.cell? ⟨gb700, 3, none⟩ = some (.int .u32 a0_3) := (blk_cell BK700.out 3).trans rfl
            have hcz36_4 : wc.cell? ⟨gb700, 4, none⟩ = some (.int .i64 a0_4) := (blk_cell BK700.out 4).trans rfl
            have hcz36_5 : wc.cell? ⟨gb700, 5, none⟩ = some (.bool a0_5) := (blk_cell BK700.out 5).trans rfl
            have hcz36_6 : wc.cell? ⟨gb700, 6, none⟩ = some (.bool false) := (blk_cell BK700.out 6).trans rfl
            have hcz36_7 : wc.cell? ⟨gb700, 7, none⟩ = some (.int .u32 a0_7) := (blk_cell BK700.out 7).trans rfl
            have hcz36_8 : wc.cell? ⟨gb700, 8, none⟩ = some (.bool a0_8) := (blk_cell BK700.out 8).trans rfl
            have hcz36_9 : wc.cell? ⟨gb700, 9, none⟩ = some (.bool a0_9) := (blk_cell BK700.out 9).trans rfl
            have hfz36_0 := blk_frozen BK700.out 0
            have hfz36_1 := blk_frozen BK700.out 1
            have hfz36_2 := blk_frozen BK700.out 2
            have hfz36_3 := blk_frozen BK700.out 3
            have hfz36_4 := blk_frozen BK700.out 4
            have hfz36_5 := blk_frozen BK700.out 5
            have hfz36_6 := blk_frozen BK700.out 6
            have hfz36_7 := blk_frozen BK700.out 7
            have hfz36_8 := blk_frozen BK700.out 8
            have hfz36_9 := blk_frozen BK700.out 9
            go_wp2
            go_ret
            exact ⟨by (rfl), by exact HB.out⟩

end Go.Proofs.Ytnjimecjpnjojaa.Print
