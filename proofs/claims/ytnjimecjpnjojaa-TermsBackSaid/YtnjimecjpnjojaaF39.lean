-- laid by this session's own program (wip/mkprint.sh) for this claim
import Derived.Test.Ytnjimecjpnjojaa0
import Derived.Test.YtnjimecjpnjojaaF62
namespace Go.Proofs.Ytnjimecjpnjojaa.Print
open Go.RowKit Go.Proofs.YtnjimecjpnjojaaW.PrintWords Go.Proofs.YtnjimecjpnjojaaW.PrintLast Go.Proofs.YtnjimecjpnjojaaW.PrintMore
attribute [local go_sem] max2_int min2_int max_two min_two max_three min_three max_four min_four   -- for this text's walks alone
set_option linter.unusedVariables false
set_option linter.unusedSimpArgs false

/-! ### umpireref14_Put: function 39 -/
mutual
def umpireref14_Put.j0 : Nat → List (S55) → Bool → Int → Bool → Int → Int → Bool → Bool → Int → Bool → Bool → Option (List (S55))
  | 0, _, _, _, _, _, _, _, _, _, _, _ => none
  | k + 1, x3, x702000, x702001, x702002, x702003, x702004, x702005, x702006, x702007, x702008, x702009 => if x702002 = true then ((umpireref02_Put.f k (IntKind.u64.wrap (x702003)) 4 true).bind fun t708 => (if x3.length < 4398046511104 then (umpireref14_Put.j1 k (x3 ++ [(⟨2, t708⟩ : S55)]) x702000 x702001 x702002 x702003 x702004 x702005 x702006 x702007 x702008 x702009) else (none))) else (umpireref14_Put.j1 k x3 x702000 x702001 x702002 x702003 x702004 x702005 x702006 x702007 x702008 x702009)
def umpireref14_Put.j1 : Nat → List (S55) → Bool → Int → Bool → Int → Int → Bool → Bool → Int → Bool → Bool → Option (List (S55))
  | 0, _, _, _, _, _, _, _, _, _, _, _ => none
  | k + 1, x3, x702000, x702001, x702002, x702003, x702004, x702005, x702006, x702007, x702008, x702009 => if x702004 = 49187 then (if x3.length < 4398046511104 then (umpireref14_Put.j2 k (x3 ++ [(⟨3, ([192, 35] : List Int)⟩ : S55)]) x702000 x702001 x702002 x702003 x702004 x702005 x702006 x702007 x702008 x702009) else (none)) else (umpireref14_Put.j2 k x3 x702000 x702001 x702002 x702003 x702004 x702005 x702006 x702007 x702008 x702009)
def umpireref14_Put.j2 : Nat → List (S55) → Bool → Int → Bool → Int → Int → Bool → Bool → Int → Bool → Bool → Option (List (S55))
  | 0, _, _, _, _, _, _, _, _, _, _, _ => none
  | k + 1, x3, x702000, x702001, x702002, x702003, x702004, x702005, x702006, x702007, x702008, x702009 => if x702004 = 49699 then (if x3.length < 4398046511104 then (umpireref14_Put.j3 k (x3 ++ [(⟨3, ([194, 35, 5] : List Int)⟩ : S55)]) x702000 x702001 x702002 x702003 x702004 x702005 x702006 x702007 x702008 x702009) else (none)) else (umpireref14_Put.j3 k x3 x702000 x702001 x702002 x702003 x702004 x702005 x702006 x702007 x702008 x702009)
def umpireref14_Put.j3 : Nat → List (S55) → Bool → Int → Bool → Int → Int → Bool → Bool → Int → Bool → Bool → Option (List (S55))
  | 0, _, _, _, _, _, _, _, _, _, _, _ => none
  | k + 1, x3, x702000, x702001, x702002, x702003, x702004, x702005, x702006, x702007, x702008, x702009 => if x702005 = true then (if x3.length < 4398046511104 then (umpireref14_Put.j4 k (x3 ++ [(⟨4, ([192, 37] : List Int)⟩ : S55)]) x702000 x702001 x702002 x702003 x702004 x702005 x702006 x702007 x702008 x702009) else (none)) else (umpireref14_Put.j4 k x3 x702000 x702001 x702002 x702003 x702004 x702005 x702006 x702007 x702008 x702009)
def umpireref14_Put.j4 : Nat → List (S55) → Bool → Int → Bool → Int → Int → Bool → Bool → Int → Bool → Bool → Option (List (S55))
  | 0, _, _, _, _, _, _, _, _, _, _, _ => none
  | k + 1, x3, x702000, x702001, x702002, x702003, x702004, x702005, x702006, x702007, x702008, x702009 => if x702006 = true then ((umpireref02_Put.f k (IntKind.u64.wrap (x702007)) 4 true).bind fun t732 => (if x3.length < 4398046511104 then (umpireref14_Put.j5 k (x3 ++ [(⟨5, t732⟩ : S55)]) x702000 x702001 x702002 x702003 x702004 x702005 x702006 x702007 x702008 x702009) else (none))) else (umpireref14_Put.j5 k x3 x702000 x702001 x702002 x702003 x702004 x702005 x702006 x702007 x702008 x702009)
def umpireref14_Put.j5 : Nat → List (S55) → Bool → Int → Bool → Int → Int → Bool → Bool → Int → Bool → Bool → Option (List (S55))
  | 0, _, _, _, _, _, _, _, _, _, _, _ => none
  | k + 1, x3, x702000, x702001, x702002, x702003, x702004, x702005, x702006, x702007, x702008, x702009 => if x702008 = true then (if x3.length < 4398046511104 then ((some (x3 ++ [(⟨7, ([] : List Int)⟩ : S55)] : List (S55))).bind fun y738 => (if x702009 = true then (if y738.length < 4398046511104 then (some (y738 ++ [(⟨8, ([] : List Int)⟩ : S55)])) else (none)) else (some y738))) else (none)) else (if x702009 = true then (if x3.length < 4398046511104 then (some (x3 ++ [(⟨8, ([] : List Int)⟩ : S55)])) else (none)) else (some x3))
end
def umpireref14_Put.f (k : Nat) (a0_0 : Bool) (a0_1 : Int) (a0_2 : Bool) (a0_3 : Int) (a0_4 : Int) (a0_5 : Bool) (a0_6 : Bool) (a0_7 : Int) (a0_8 : Bool) (a0_9 : Bool) : Option (List (S55)) := if a0_0 = true then ((umpireref02_Put.f k (IntKind.u64.wrap (a0_1)) 2 true).bind fun t702 => (if ([] : List (S55)).length < 4398046511104 then (umpireref14_Put.j0 k (([] : List (S55)) ++ [(⟨1, t702⟩ : S55)]) a0_0 a0_1 a0_2 a0_3 a0_4 a0_5 a0_6 a0_7 a0_8 a0_9) else (none))) else (umpireref14_Put.j0 k ([] : List (S55)) a0_0 a0_1 a0_2 a0_3 a0_4 a0_5 a0_6 a0_7 a0_8 a0_9)
theorem umpireref14_Put.mono_l : ∀ k, (∀ y0 y1 y2 y3 y4 y5 y6 y7 y8 y9 y10, LeO (umpireref14_Put.j0 k y0 y1 y2 y3 y4 y5 y6 y7 y8 y9 y10) (umpireref14_Put.j0 (k + 1) y0 y1 y2 y3 y4 y5 y6 y7 y8 y9 y10)) ∧ (∀ y0 y1 y2 y3 y4 y5 y6 y7 y8 y9 y10, LeO (umpireref14_Put.j1 k y0 y1 y2 y3 y4 y5 y6 y7 y8 y9 y10) (umpireref14_Put.j1 (k + 1) y0 y1 y2 y3 y4 y5 y6 y7 y8 y9 y10)) ∧ (∀ y0 y1 y2 y3 y4 y5 y6 y7 y8 y9 y10, LeO (umpireref14_Put.j2 k y0 y1 y2 y3 y4 y5 y6 y7 y8 y9 y10) (umpireref14_Put.j2 (k + 1) y0 y1 y2 y3 y4 y5 y6 y7 y8 y9 y10)) ∧ (∀ y0 y1 y2 y3 y4 y5 y6 y7 y8 y9 y10, LeO (umpireref14_Put.j3 k y0 y1 y2 y3 y4 y5 y6 y7 y8 y9 y10) (umpireref14_Put.j3 (k + 1) y0 y1 y2 y3 y4 y5 y6 y7 y8 y9 y10)) ∧ (∀ y0 y1 y2 y3 y4 y5 y6 y7 y8 y9 y10, LeO (umpireref14_Put.j4 k y0 y1 y2 y3 y4 y5 y6 y7 y8 y9 y10) (umpireref14_Put.j4 (k + 1) y0 y1 y2 y3 y4 y5 y6 y7 y8 y9 y10)) ∧ (∀ y0 y1 y2 y3 y4 y5 y6 y7 y8 y9 y10, LeO (umpireref14_Put.j5 k y0 y1 y2 y3 y4 y5 y6 y7 y8 y9 y10) (umpireref14_Put.j5 (k + 1) y0 y1 y2 y3 y4 y5 y6 y7 y8 y9 y10))
  | 0 => ⟨fun _ _ _ _ _ _ _ _ _ _ _ r h => by simp [umpireref14_Put.j0] at h, fun _ _ _ _ _ _ _ _ _ _ _ r h => by simp [umpireref14_Put.j1] at h, fun _ _ _ _ _ _ _ _ _ _ _ r h => by simp [umpireref14_Put.j2] at h, fun _ _ _ _ _ _ _ _ _ _ _ r h => by simp [umpireref14_Put.j3] at h, fun _ _ _ _ _ _ _ _ _ _ _ r h => by simp [umpireref14_Put.j4] at h, fun _ _ _ _ _ _ _ _ _ _ _ r h => by simp [umpireref14_Put.j5] at h⟩
  | k + 1 => by
    obtain ⟨ih0, ih1, ih2, ih3, ih4, ih5⟩ := umpireref14_Put.mono_l k
    refine ⟨?_, ?_, ?_, ?_, ?_, ?_⟩
    · intro y0 y1 y2 y3 y4 y5 y6 y7 y8 y9 y10
      unfold umpireref14_Put.j0
      repeat' first | (with_reducible exact ih1 _ _ _ _ _ _ _ _ _ _ _) | (with_reducible exact umpireref02_Put.mono _ _ _ _) | (with_reducible exact LeO.refl _) | (with_reducible refine LeO.ite ?_ ?_) | (with_reducible refine LeO.bind ?_ (fun _ => ?_))
    · intro y0 y1 y2 y3 y4 y5 y6 y7 y8 y9 y10
      unfold umpireref14_Put.j1
      repeat' first | (with_reducible exact ih2 _ _ _ _ _ _ _ _ _ _ _) | (with_reducible exact LeO.refl _) | (with_reducible refine LeO.ite ?_ ?_)
    · intro y0 y1 y2 y3 y4 y5 y6 y7 y8 y9 y10
      unfold umpireref14_Put.j2
      repeat' first | (with_reducible exact ih3 _ _ _ _ _ _ _ _ _ _ _) | (with_reducible exact LeO.refl _) | (with_reducible refine LeO.ite ?_ ?_)
    · intro y0 y1 y2 y3 y4 y5 y6 y7 y8 y9 y10
      unfold umpireref14_Put.j3
      repeat' first | (with_reducible exact ih4 _ _ _ _ _ _ _ _ _ _ _) | (with_reducible exact LeO.refl _) | (with_reducible refine LeO.ite ?_ ?_)
    · intro y0 y1 y2 y3 y4 y5 y6 y7 y8 y9 y10
      unfold umpireref14_Put.j4
      repeat' first | (with_reducible exact ih5 _ _ _ _ _ _ _ _ _ _ _) | (with_reducible exact umpireref02_Put.mono _ _ _ _) | (with_reducible exact LeO.refl _) | (with_reducible refine LeO.ite ?_ ?_) | (with_reducible refine LeO.bind ?_ (fun _ => ?_))
    · intro y0 y1 y2 y3 y4 y5 y6 y7 y8 y9 y10
      unfold umpireref14_Put.j5
      repeat' (with_reducible exact LeO.refl _)
theorem umpireref14_Put.mono : ∀ a0 a1 a2 a3 a4 a5 a6 a7 a8 a9 k, LeO (umpireref14_Put.f k a0 a1 a2 a3 a4 a5 a6 a7 a8 a9) (umpireref14_Put.f (k + 1) a0 a1 a2 a3 a4 a5 a6 a7 a8 a9) := by
  intro a0 a1 a2 a3 a4 a5 a6 a7 a8 a9 k
  obtain ⟨ih0, ih1, ih2, ih3, ih4, ih5⟩ := umpireref14_Put.mono_l k
  unfold umpireref14_Put.f
  repeat' first | (with_reducible exact ih0 _ _ _ _ _ _ _ _ _ _ _) | (with_reducible exact umpireref02_Put.mono _ _ _ _) | (with_reducible exact LeO.refl _) | (with_reducible refine LeO.ite ?_ ?_) | (with_reducible refine LeO.bind ?_ (fun _ => ?_))
set_option maxHeartbeats 8000000 in
set_option maxRecDepth 100000 in
theorem umpireref14_Put.calls (k : Nat) (a0_0 : Bool) (a0_1 : Int) (a0_2 : Bool) (a0_3 : Int) (a0_4 : Int) (a0_5 : Bool) (a0_6 : Bool) (a0_7 : Int) (a0_8 : Bool) (a0_9 : Bool) (r : List (S55)) (w : World) (h : umpireref14_Put.f k a0_0 a0_1 a0_2 a0_3 a0_4 a0_5 a0_6 a0_7 a0_8 a0_9 = some r) :
    Calls Try.prog 39 #[.agg #[.bool a0_0, .int .i64 a0_1, .bool a0_2, .int .u32 a0_3, .int .i64 a0_4, .bool a0_5, .bool a0_6, .int .u32 a0_7, .bool a0_8, .bool a0_9]] w fun e w' => ∃ v0_ : Value, e = .returned (v0_) ∧ Kd.S k55 55 w' w.heap.size (fun _ => True) v0_ r ∧ Below w.heap.size w w' := by
  have hu61 := Try.underlying61
  have hu55 := Try.underlying55
  have HB := Aside0.mk (Below.refl w.heap.size w)
  have H : (if a0_0 = true then ((umpireref02_Put.f k (IntKind.u64.wrap (a0_1)) 2 true).bind fun t702 => (if ([] : List (S55)).length < 4398046511104 then (umpireref14_Put.j0 k (([] : List (S55)) ++ [(⟨1, t702⟩ : S55)]) a0_0 a0_1 a0_2 a0_3 a0_4 a0_5 a0_6 a0_7 a0_8 a0_9) else (none))) else (umpireref14_Put.j0 k ([] : List (S55)) a0_0 a0_1 a0_2 a0_3 a0_4 a0_5 a0_6 a0_7 a0_8 a0_9)) = some r := h
  clear h
  have HC2 := Aside0.mk H
  clear H
  go_enter Try.func39, Try.ntmps39
  go_upto_if 5 with (first | ((with_reducible refine gate_dst (N := 1) rfl ?_); refine box_event ?hg (N := 1) ?hd (cs := #[.bool a0_0, .int .i64 a0_1, .bool a0_2, .int .u32 a0_3, .int .i64 a0_4, .bool a0_5, .bool a0_6, .int .u32 a0_7, .bool a0_8, .bool a0_9]) (t := 61) ?hr ?_; (case hd => rfl); (case hg => rfl); (case hr => (go_simp; done)); intro gb701 hg w3 hbox hb; have n0_ := Aside0.mk (below_step (by exact HB.out) hb); have n1_ := Aside0.mk (hbox); have n2_ := Aside0.mk ((by rw [hg]; exact (below_size (by exact HB.out)) : w.heap.size ≤ gb701)); have n3_ := Aside0.mk ((by rw [hg]; exact (below_size (by exact HB.out)) : w.heap.size ≤ gb701)); clear HB; have HB := n0_; have BK701 := n1_; have GW701 := n2_; have GE701 := n3_; clear n0_ n1_ n2_ n3_; clear hb hbox hg; have hcz4_0 : w3.cell? ⟨gb701, 0, none⟩ = some (.bool a0_0) := (blk_cell BK701.out 0).trans rfl; have hcz4_1 : w3.cell? ⟨gb701, 1, none⟩ = some (.int .i64 a0_1) := (blk_cell BK701.out 1).trans rfl; have hcz4_2 : w3.cell? ⟨gb701, 2, none⟩ = some (.bool a0_2) := (blk_cell BK701.out 2).trans rfl; have hcz4_3 : w3.cell? ⟨gb701, 3, none⟩ = some (.int .u32 a0_3) := (blk_cell BK701.out 3).trans rfl; have hcz4_4 : w3.cell? ⟨gb701, 4, none⟩ = some (.int .i64 a0_4) := (blk_cell BK701.out 4).trans rfl; have hcz4_5 : w3.cell? ⟨gb701, 5, none⟩ = some (.bool a0_5) := (blk_cell BK701.out 5).trans rfl; have hcz4_6 : w3.cell? ⟨gb701, 6, none⟩ = some (.bool a0_6) := (blk_cell BK701.out 6).trans rfl; have hcz4_7 : w3.cell? ⟨gb701, 7, none⟩ = some (.int .u32 a0_7) := (blk_cell BK701.out 7).trans rfl; have hcz4_8 : w3.cell? ⟨gb701, 8, none⟩ = some (.bool a0_8) := (blk_cell BK701.out 8).trans rfl; have hcz4_9 : w3.cell? ⟨gb701, 9, none⟩ = some (.bool a0_9) := (blk_cell BK701.out 9).trans rfl; have hfz4_0 := blk_frozen BK701.out 0; have hfz4_1 := blk_frozen BK701.out 1; have hfz4_2 := blk_frozen BK701.out 2; have hfz4_3 := blk_frozen BK701.out 3; have hfz4_4 := blk_frozen BK701.out 4; have hfz4_5 := blk_frozen BK701.out 5; have hfz4_6 := blk_frozen BK701.out 6; have hfz4_7 := blk_frozen BK701.out 7; have hfz4_8 := blk_frozen BK701.out 8; have hfz4_9 := blk_frozen BK701.out 9))
  (skip)
  go_cut [3] (fun v3 wc => ∃ (kq : Nat) (x3_1 : List (S55)), Aside0 (umpireref14_Put.j0 kq x3_1 a0_0 a0_1 a0_2 a0_3 a0_4 a0_5 a0_6 a0_7 a0_8 a0_9 = some r) ∧ Aside0 (kq ≤ k) ∧ Aside0 (Kd.S k55 55 wc w.heap.size (fun _ => True) v3 x3_1) ∧ Aside0 (wc.heap[gb701]? = some (.cells #[.bool a0_0, .int .i64 a0_1, .bool a0_2, .int .u32 a0_3, .int .i64 a0_4, .bool a0_5, .bool a0_6, .int .u32 a0_7, .bool a0_8, .bool a0_9] 61 (0, 0))) ∧ Aside0 (Below w.heap.size w wc))
  case first =>
    have H := HC2.out
    clear HC2
    by_cases c5 : a0_0 = true
    · subst c5
      have H1 : ((umpireref02_Put.f k (IntKind.u64.wrap (a0_1)) 2 true).bind fun t702 => (if ([] : List (S55)).length < 4398046511104 then (umpireref14_Put.j0 k (([] : List (S55)) ++ [(⟨1, t702⟩ : S55)]) true a0_1 a0_2 a0_3 a0_4 a0_5 a0_6 a0_7 a0_8 a0_9) else (none))) = some r := by rw [if_pos rfl] at H; exact H
      clear H
      have H := H1
      clear H1
      replace H := Option.bind_eq_some_iff.mp H
      obtain ⟨t702, A60, H⟩ := H
      replace H : (if ([] : List (S55)).length < 4398046511104 then (umpireref14_Put.j0 k (([] : List (S55)) ++ [(⟨1, t702⟩ : S55)]) true a0_1 a0_2 a0_3 a0_4 a0_5 a0_6 a0_7 a0_8 a0_9) else (none)) = some r := H
      have A6 := Aside0.mk A60
      clear A60
      by_cases c7 : ([] : List (S55)).length < 4398046511104
      · rw [if_pos c7] at H
        have LMc7 := Aside0.mk c7
        clear c7
        obtain ⟨y705, hy705⟩ : ∃ y_ : List (S55), y_ = (([] : List (S55)) ++ [(⟨1, t702⟩ : S55)]) := ⟨_, rfl⟩
        replace H : (umpireref14_Put.j0 k y705 true a0_1 a0_2 a0_3 a0_4 a0_5 a0_6 a0_7 a0_8 a0_9) = some r := by (rw [hy705]; with_reducible exact H)
        have Ny705 := Aside0.mk hy705
        clear hy705
        have H' := Aside0.mk H
        clear H
        have hcz8_0 : w3.cell? ⟨gb701, 0, none⟩ = some (.bool true) := (blk_cell BK701.out 0).trans rfl
        have hcz8_1 : w3.cell? ⟨gb701, 1, none⟩ = some (.int .i64 a0_1) := (blk_cell BK701.out 1).trans rfl
        have hcz8_2 : w3.cell? ⟨gb701, 2, none⟩ = some (.bool a0_2) := (blk_cell BK701.out 2).trans rfl
        have hcz8_3 : w3.cell? ⟨gb701, 3, none⟩ = some (.int .u32 a0_3) := (blk_cell BK701.out 3).trans rfl
        have hcz8_4 : w3.cell? ⟨gb701, 4, none⟩ = some (.int .i64 a0_4) := (blk_cell BK701.out 4).trans rfl
        have hcz8_5 : w3.cell? ⟨gb701, 5, none⟩ = some (.bool a0_5) := (blk_cell BK701.out 5).trans rfl
        have hcz8_6 : w3.cell? ⟨gb701, 6, none⟩ = some (.bool a0_6) := (blk_cell BK701.out 6).trans rfl
        have hcz8_7 : w3.cell? ⟨gb701, 7, none⟩ = some (.int .u32 a0_7) := (blk_cell BK701.out 7).trans rfl
        have hcz8_8 : w3.cell? ⟨gb701, 8, none⟩ = some (.bool a0_8) := (blk_cell BK701.out 8).trans rfl
        have hcz8_9 : w3.cell? ⟨gb701, 9, none⟩ = some (.bool a0_9) := (blk_cell BK701.out 9).trans rfl
        have hfz8_0 := blk_frozen BK701.out 0
        have hfz8_1 := blk_frozen BK701.out 1
        have hfz8_2 := blk_frozen BK701.out 2
        have hfz8_3 := blk_frozen BK701.out 3
        have hfz8_4 := blk_frozen BK701.out 4
        have hfz8_5 := blk_frozen BK701.out 5
        have hfz8_6 := blk_frozen BK701.out 6
        have hfz8_7 := blk_frozen BK701.out 7
        have hfz8_8 := blk_frozen BK701.out 8
        have hfz8_9 := blk_frozen BK701.out 9
        go_wp2_with (first | ((with_reducible refine gate_callee (f := 62) rfl ?_); refine goesL_ (some 10) rfl rfl Try.func62 (by kernel_rfl) rfl #[.int .u64 (IntKind.u64.wrap (a0_1)), .int .i64 2, .bool true] rfl (by (try simp only [List.map_toArray, List.map_cons, List.map_nil]); (rfl)) ?_; (with_reducible refine (umpireref02_Put.calls k (IntKind.u64.wrap (a0_1)) 2 true t702 _ A6.out).mono ?_); rintro e w9 ⟨v703, rfl, ho0, hb⟩; refine ⟨_, rfl, ?_⟩; have n0_ := Aside0.mk (Kd.R_lower ho0 (below_size (by exact HB.out))); have n1_ := Aside0.mk (blk_below (g := gb701) (o := .cells #[.bool true, .int .i64 a0_1, .bool a0_2, .int .u32 a0_3, .int .i64 a0_4, .bool a0_5, .bool a0_6, .int .u32 a0_7, .bool a0_8, .bool a0_9] 61 (0, 0)) (by exact BK701.out) hb); have n2_ := Aside0.mk (below_step (by exact HB.out) hb); clear BK701; clear HB; have HO704 := n0_; have BK701 := n1_; have HB := n2_; clear n0_ n1_ n2_; (try clear hb); (try clear ho0); obtain ⟨Ao10, co10, eo10⟩ := Kd.R_slice HO704.out; subst eo10) | ((with_reducible refine gate_builtin (b := .append) (xs := #[.tmp 6, .tmp 12]) rfl ?_); at_builtin; refine Kd.S_append k55 (w0 := w) w.heap.size rfl (.tmp 6) (.tmp 12) 58 55 (.agg #[(.int .i64 0), (.slice none 0 0)]) 32 rfl Try.underlying58 info55 rfl (by decide) (by omega) (.slice none 0 0) ([] : List (S55)) (⟨1, t702⟩ : S55) [.int .i64 1, .slice Ao10 t702.length co10] (fun _ => True) (fun k_ => some k_ = (.slice Ao10 t702.length co10 : Value).ownBlock) rfl rfl ?aP (fun k_ hk_ => ((Kd.R_mono (ok' := fun k_ => (fun _ => True) k_ ∧ some k_ ≠ (.slice none 0 0 : Value).ownBlock) (HO704.out) (fun k_ hk => ⟨trivial, (by simp [Value.ownBlock])⟩))).1 k_ hk_.symm) ?aF ?aO ?aB ?aS ?aL ?_; (case aP => exact k55_mkM _ _ _ (⟨1, t702⟩ : S55) (Kd.R_mono (Kd.R_tight rfl (Kd.R_mono (ok' := fun k_ => (fun _ => True) k_ ∧ some k_ ≠ (.slice none 0 0 : Value).ownBlock) (HO704.out) (fun k_ hk => ⟨trivial, (by simp [Value.ownBlock])⟩))) (fun _ h_ => h_))); (case aB => exact (by exact HB.out)); (case aF => exact (fun _ _ => trivial)); (case aO => exact (Kd.S_nil _ _ _ _ _)); (case aS => exact (below_size (by exact HB.out))); (case aL => have := LMc7.out; omega); intro v706 w11 ho hb hg hat; rw [← Ny705.out] at ho; have n0_ := Aside0.mk (blk_grown (g := gb701) (o := .cells #[.bool true, .int .i64 a0_1, .bool a0_2, .int .u32 a0_3, .int .i64 a0_4, .bool a0_5, .bool a0_6, .int .u32 a0_7, .bool a0_8, .bool a0_9] 61 (0, 0)) (by exact BK701.out) hg (by simp [Value.ownBlock])); have n1_ := Aside0.mk (hb); have n2_ := Aside0.mk (ho); clear BK701; clear HB; clear HO704; have BK701 := n0_; have HB := n1_; have HO707 := n2_; clear n0_ n1_ n2_; clear ho hb hg hat))
        go_meet
        case rel => exact ⟨_, (y705), H', ⟨by (omega)⟩, ⟨by exact HO707.out⟩, ⟨by exact BK701.out⟩, ⟨by exact HB.out⟩⟩
      · rw [if_neg c7] at H
        exact absurd H (by simp)
    · replace c5 := Bool.eq_false_iff.mpr c5
      subst c5
      have H1 : (umpireref14_Put.j0 k ([] : List (S55)) false a0_1 a0_2 a0_3 a0_4 a0_5 a0_6 a0_7 a0_8 a0_9) = some r := by rw [if_neg (show ¬ (false = true) by decide)] at H; exact H
      clear H
      have H := H1
      clear H1
      have H' := Aside0.mk H
      clear H
      go_wp2
      go_meet
      case rel => exact ⟨_, ([] : List (S55)), H', ⟨by (omega)⟩, ⟨by (exact Kd.S_nil _ _ _ _ _)⟩, ⟨by exact BK701.out⟩, ⟨by exact HB.out⟩⟩
  case rest =>
    clear HC2
    try clear hcz4_0
    try clear hcz4_1
    try clear hcz4_2
    try clear hcz4_3
    try clear hcz4_4
    try clear hcz4_5
    try clear hcz4_6
    try clear hcz4_7
    try clear hcz4_8
    try clear hcz4_9
    try clear hfz4_0
    try clear hfz4_1
    try clear hfz4_2
    try clear hfz4_3
    try clear hfz4_4
    try clear hfz4_5
    try clear hfz4_6
    try clear hfz4_7
    try clear hfz4_8
    try clear hfz4_9
    obtain ⟨kq, x3_1, HA, HJ1, HO_3, BK701, HB⟩ := hcut
    cases kq with
    | zero => exact absurd HA.out (by simp [umpireref14_Put.j0])
    | succ kj1 =>
      have H := HA.out
      clear HA
      simp only [umpireref14_Put.j0] at H
      have HC12 := Aside0.mk H
      clear H
      have hcz13_0 : wc.cell? ⟨gb701, 0, none⟩ = some (.bool a0_0) := (blk_cell BK701.out 0).trans rfl
      have hcz13_1 : wc.cell? ⟨gb701, 1, none⟩ = some (.int .i64 a0_1) := (blk_cell BK701.out 1).trans rfl
      have hcz13_2 : wc.cell? ⟨gb701, 2, none⟩ = some (.bool a0_2) := (blk_cell BK701.out 2).trans rfl
      have hcz13_3 : wc.cell? ⟨gb701, 3, none⟩ = some (.int .u32 a0_3) := (blk_cell BK701.out 3).trans rfl
      have hcz13_4 : wc.cell? ⟨gb701, 4, none⟩ = some (.int .i64 a0_4) := (blk_cell BK701.out 4).trans rfl
      have hcz13_5 : wc.cell? ⟨gb701, 5, none⟩ = some (.bool a0_5) := (blk_cell BK701.out 5).trans rfl
      have hcz13_6 : wc.cell? ⟨gb701, 6, none⟩ = some (.bool a0_6) := (blk_cell BK701.out 6).trans rfl
      have hcz13_7 : wc.cell? ⟨gb701, 7, none⟩ = some (.int .u32 a0_7) := (blk_cell BK701.out 7).trans rfl
      have hcz13_8 : wc.cell? ⟨gb701, 8, none⟩ = some (.bool a0_8) := (blk_cell BK701.out 8).trans rfl
      have hcz13_9 : wc.cell? ⟨gb701, 9, none⟩ = some (.bool a0_9) := (blk_cell BK701.out 9).trans rfl
      have hfz13_0 := blk_frozen BK701.out 0
      have hfz13_1 := blk_frozen BK701.out 1
      have hfz13_2 := blk_frozen BK701.out 2
      have hfz13_3 := blk_frozen BK701.out 3
      have hfz13_4 := blk_frozen BK701.out 4
      have hfz13_5 := blk_frozen BK701.out 5
      have hfz13_6 := blk_frozen BK701.out 6
      have hfz13_7 := blk_frozen BK701.out 7
      have hfz13_8 := blk_frozen BK701.out 8
      have hfz13_9 := blk_frozen BK701.out 9
      go_upto_if 15 with (fail)
      go_cut [3] (fun v3 wc => ∃ (kq : Nat) (x3_11 : List (S55)), Aside0 (umpireref14_Put.j1 kq x3_11 a0_0 a0_1 a0_2 a0_3 a0_4 a0_5 a0_6 a0_7 a0_8 a0_9 = some r) ∧ Aside0 (kq ≤ kj1) ∧ Aside0 (Kd.S k55 55 wc w.heap.size (fun _ => True) v3 x3_11) ∧ Aside0 (wc.heap[gb701]? = some (.cells #[.bool a0_0, .int .i64 a0_1, .bool a0_2, .int .u32 a0_3, .int .i64 a0_4, .bool a0_5, .bool a0_6, .int .u32 a0_7, .bool a0_8, .bool a0_9] 61 (0, 0))) ∧ Aside0 (Below w.heap.size w wc))
      case first =>
        have H := HC12.out
        clear HC12
        by_cases c14 : a0_2 = true
        · subst c14
          have H1 : ((umpireref02_Put.f kj1 (IntKind.u64.wrap (a0_3)) 4 true).bind fun t708 => (if x3_1.length < 4398046511104 then (umpireref14_Put.j1 kj1 (x3_1 ++ [(⟨2, t708⟩ : S55)]) a0_0 a0_1 true a0_3 a0_4 a0_5 a0_6 a0_7 a0_8 a0_9) else (none))) = some r := by rw [if_pos rfl] at H; exact H
          clear H
          have H := H1
          clear H1
          replace H := Option.bind_eq_some_iff.mp H
          obtain ⟨t708, A150, H⟩ := H
          replace H : (if x3_1.length < 4398046511104 then (umpireref14_Put.j1 kj1 (x3_1 ++ [(⟨2, t708⟩ : S55)]) a0_0 a0_1 true a0_3 a0_4 a0_5 a0_6 a0_7 a0_8 a0_9) else (none)) = some r := H
          have A15 := Aside0.mk A150
          clear A150
          by_cases c16 : x3_1.length < 4398046511104
          · rw [if_pos c16] at H
            have LMc16 := Aside0.mk c16
            clear c16
            obtain ⟨y711, hy711⟩ : ∃ y_ : List (S55), y_ = (x3_1 ++ [(⟨2, t708⟩ : S55)]) := ⟨_, rfl⟩
            replace H : (umpireref14_Put.j1 kj1 y711 a0_0 a0_1 true a0_3 a0_4 a0_5 a0_6 a0_7 a0_8 a0_9) = some r := by (rw [hy711]; with_reducible exact H)
            have Ny711 := Aside0.mk hy711
            clear hy711
            have H' := Aside0.mk H
            clear H
            have hcz17_0 : wc.cell? ⟨gb701, 0, none⟩ = some (.bool a0_0) := (blk_cell BK701.out 0).trans rfl
            have hcz17_1 : wc.cell? ⟨gb701, 1, none⟩ = some (.int .i64 a0_1) := (blk_cell BK701.out 1).trans rfl
            have hcz17_2 : wc.cell? ⟨gb701, 2, none⟩ = some (.bool true) := (blk_cell BK701.out 2).trans rfl
            have hcz17_3 : wc.cell? ⟨gb701, 3, none⟩ = some (.int .u32 a0_3) := (blk_cell BK701.out 3).trans rfl
            have hcz17_4 : wc.cell? ⟨gb701, 4, none⟩ = some (.int .i64 a0_4) := (blk_cell BK701.out 4).trans rfl
            have hcz17_5 : wc.cell? ⟨gb701, 5, none⟩ = some (.bool a0_5) := (blk_cell BK701.out 5).trans rfl
            have hcz17_6 : wc.cell? ⟨gb701, 6, none⟩ = some (.bool a0_6) := (blk_cell BK701.out 6).trans rfl
            have hcz17_7 : wc.cell? ⟨gb701, 7, none⟩ = some (.int .u32 a0_7) := (blk_cell BK701.out 7).trans rfl
            have hcz17_8 : wc.cell? ⟨gb701, 8, none⟩ = some (.bool a0_8) := (blk_cell BK701.out 8).trans rfl
            have hcz17_9 : wc.cell? ⟨gb701, 9, none⟩ = some (.bool a0_9) := (blk_cell BK701.out 9).trans rfl
            have hfz17_0 := blk_frozen BK701.out 0
            have hfz17_1 := blk_frozen BK701.out 1
            have hfz17_2 := blk_frozen BK701.out 2
            have hfz17_3 := blk_frozen BK701.out 3
            have hfz17_4 := blk_frozen BK701.out 4
            have hfz17_5 := blk_frozen BK701.out 5
            have hfz17_6 := blk_frozen BK701.out 6
            have hfz17_7 := blk_frozen BK701.out 7
            have hfz17_8 := blk_frozen BK701.out 8
            have hfz17_9 := blk_frozen BK701.out 9
            go_wp2_with (first | ((with_reducible refine gate_callee (f := 62) rfl ?_); refine goesL_ (some 20) rfl rfl Try.func62 (by kernel_rfl) rfl #[.int .u64 (IntKind.u64.wrap (a0_3)), .int .i64 4, .bool true] rfl (by (try simp only [List.map_toArray, List.map_cons, List.map_nil]); (rfl)) ?_; (with_reducible refine (umpireref02_Put.calls kj1 (IntKind.u64.wrap (a0_3)) 4 true t708 _ A15.out).mono ?_); rintro e w18 ⟨v709, rfl, ho0, hb⟩; refine ⟨_, rfl, ?_⟩; have n0_ := Aside0.mk (Kd.S_elder' (by exact HO_3.out) (by (exact Kd.R_base ho0)) hb); have n1_ := Aside0.mk (Kd.R_lower ho0 (below_size (by exact HB.out))); have n2_ := Aside0.mk (blk_below (g := gb701) (o := .cells #[.bool a0_0, .int .i64 a0_1, .bool true, .int .u32 a0_3, .int .i64 a0_4, .bool a0_5, .bool a0_6, .int .u32 a0_7, .bool a0_8, .bool a0_9] 61 (0, 0)) (by exact BK701.out) hb); have n3_ := Aside0.mk (below_step (by exact HB.out) hb); clear HO_3; clear BK701; clear HB; have HO_3 := n0_; have HO710 := n1_; have BK701 := n2_; have HB := n3_; clear n0_ n1_ n2_ n3_; (try clear hb); (try clear ho0); obtain ⟨Ao19, co19, eo19⟩ := Kd.R_slice HO710.out; subst eo19) | ((with_reducible refine gate_builtin (b := .append) (xs := #[.tmp 16, .tmp 22]) rfl ?_); at_builtin; refine Kd.S_append k55 (w0 := w) w.heap.size rfl (.tmp 16) (.tmp 22) 58 55 (.agg #[(.int .i64 0), (.slice none 0 0)]) 32 rfl Try.underlying58 info55 rfl (by decide) (by omega) u3 x3_1 (⟨2, t708⟩ : S55) [.int .i64 2, .slice Ao19 t708.length co19] (fun _ => True) (fun k_ => some k_ = (.slice Ao19 t708.length co19 : Value).ownBlock) rfl rfl ?aP (fun k_ hk_ => ((Kd.R_mono (ok' := fun k_ => (fun _ => True) k_ ∧ some k_ ≠ (u3 : Value).ownBlock) (Kd.R_apart' (HO710.out) (Kd.S_typed HO_3.out) (by decide)) (fun k_ hk => ⟨trivial, hk.2⟩))).1 k_ hk_.symm) ?aF ?aO ?aB ?aS ?aL ?_; (case aP => exact k55_mkM _ _ _ (⟨2, t708⟩ : S55) (Kd.R_mono (Kd.R_tight rfl (Kd.R_mono (ok' := fun k_ => (fun _ => True) k_ ∧ some k_ ≠ (u3 : Value).ownBlock) (Kd.R_apart' (HO710.out) (Kd.S_typed HO_3.out) (by decide)) (fun k_ hk => ⟨trivial, hk.2⟩))) (fun _ h_ => h_))); (case aB => exact (by exact HB.out)); (case aF => exact (fun _ _ => trivial)); (case aO => exact (by exact Kd.S_mono HO_3.out (fun k_ hk => ⟨trivial, fun e_ => hk.2 e_⟩))); (case aS => exact (below_size (by exact HB.out))); (case aL => have := LMc16.out; omega); intro v712 w20 ho hb hg hat; rw [← Ny711.out] at ho; have n0_ := Aside0.mk (blk_grown (g := gb701) (o := .cells #[.bool a0_0, .int .i64 a0_1, .bool true, .int .u32 a0_3, .int .i64 a0_4, .bool a0_5, .bool a0_6, .int .u32 a0_7, .bool a0_8, .bool a0_9] 61 (0, 0)) (by exact BK701.out) hg (Kd.S_ne HO_3.out BK701.out (by decide))); have n1_ := Aside0.mk (hb); have n2_ := Aside0.mk (ho); clear BK701; clear HB; clear HO_3; clear HO710; have BK701 := n0_; have HB := n1_; have HO713 := n2_; clear n0_ n1_ n2_; clear ho hb hg hat))
            go_meet
            case rel => exact ⟨_, (y711), H', ⟨by have := HJ1.out; (omega)⟩, ⟨by exact HO713.out⟩, ⟨by exact BK701.out⟩, ⟨by exact HB.out⟩⟩
          · rw [if_neg c16] at H
            exact absurd H (by simp)
        · replace c14 := Bool.eq_false_iff.mpr c14
          subst c14
          have H1 : (umpireref14_Put.j1 kj1 x3_1 a0_0 a0_1 false a0_3 a0_4 a0_5 a0_6 a0_7 a0_8 a0_9) = some r := by rw [if_neg (show ¬ (false = true) by decide)] at H; exact H
          clear H
          have H := H1
          clear H1
          have H' := Aside0.mk H
          clear H
          go_wp2
          go_meet
          case rel => exact ⟨_, (x3_1), H', ⟨by have := HJ1.out; (omega)⟩, ⟨by exact HO_3.out⟩, ⟨by exact BK701.out⟩, ⟨by exact HB.out⟩⟩
      case rest =>
        clear HC12
        try clear hcz13_0
        try clear hcz13_1
        try clear hcz13_2
        try clear hcz13_3
        try clear hcz13_4
        try clear hcz13_5
        try clear hcz13_6
        try clear hcz13_7
        try clear hcz13_8
        try clear hcz13_9
        try clear hfz13_0
        try clear hfz13_1
        try clear hfz13_2
        try clear hfz13_3
        try clear hfz13_4
        try clear hfz13_5
        try clear hfz13_6
        try clear hfz13_7
        try clear hfz13_8
        try clear hfz13_9
        obtain ⟨kq, x3_11, HA, HJ11, HO_3, BK701, HB⟩ := hcut
        cases kq with
        | zero => exact absurd HA.out (by simp [umpireref14_Put.j1])
        | succ kj11 =>
          have H := HA.out
          clear HA
          simp only [umpireref14_Put.j1] at H
          have HC21 := Aside0.mk H
          clear H
          have hcz22_0 : wc.cell? ⟨gb701, 0, none⟩ = some (.bool a0_0) := (blk_cell BK701.out 0).trans rfl
          have hcz22_1 : wc.cell? ⟨gb701, 1, none⟩ = some (.int .i64 a0_1) := (blk_cell BK701.out 1).trans rfl
          have hcz22_2 : wc.cell? ⟨gb701, 2, none⟩ = some (.bool a0_2) := (blk_cell BK701.out 2).trans rfl
          have hcz22_3 : wc.cell? ⟨gb701, 3, none⟩ = some (.int .u32 a0_3) := (blk_cell BK701.out 3).trans rfl
          have hcz22_4 : wc.cell? ⟨gb701, 4, none⟩ = some (.int .i64 a0_4) := (blk_cell BK701.out 4).trans rfl
          have hcz22_5 : wc.cell? ⟨gb701, 5, none⟩ = some (.bool a0_5) := (blk_cell BK701.out 5).trans rfl
          have hcz22_6 : wc.cell? ⟨gb701, 6, none⟩ = some (.bool a0_6) := (blk_cell BK701.out 6).trans rfl
          have hcz22_7 : wc.cell? ⟨gb701, 7, none⟩ = some (.int .u32 a0_7) := (blk_cell BK701.out 7).trans rfl
          have hcz22_8 : wc.cell? ⟨gb701, 8, none⟩ = some (.bool a0_8) := (blk_cell BK701.out 8).trans rfl
          have hcz22_9 : wc.cell? ⟨gb701, 9, none⟩ = some (.bool a0_9) := (blk_cell BK701.out 9).trans rfl
          have hfz22_0 := blk_frozen BK701.out 0
          have hfz22_1 := blk_frozen BK701.out 1
          have hfz22_2 := blk_frozen BK701.out 2
          have hfz22_3 := blk_frozen BK701.out 3
          have hfz22_4 := blk_frozen BK701.out 4
          have hfz22_5 := blk_frozen BK701.out 5
          have hfz22_6 := blk_frozen BK701.out 6
          have hfz22_7 := blk_frozen BK701.out 7
          have hfz22_8 := blk_frozen BK701.out 8
          have hfz22_9 := blk_frozen BK701.out 9
          go_upto_if 26 with (fail)
          go_cut [3] (fun v3 wc => ∃ (kq : Nat) (x3_20 : List (S55)), Aside0 (umpireref14_Put.j2 kq x3_20 a0_0 a0_1 a0_2 a0_3 a0_4 a0_5 a0_6 a0_7 a0_8 a0_9 = some r) ∧ Aside0 (kq ≤ kj11) ∧ Aside0 (Kd.S k55 55 wc w.heap.size (fun _ => True) v3 x3_20) ∧ Aside0 (wc.heap[gb701]? = some (.cells #[.bool a0_0, .int .i64 a0_1, .bool a0_2, .int .u32 a0_3, .int .i64 a0_4, .bool a0_5, .bool a0_6, .int .u32 a0_7, .bool a0_8, .bool a0_9] 61 (0, 0))) ∧ Aside0 (Below w.heap.size w wc))
          case first =>
            have H := HC21.out
            clear HC21
            by_cases c23 : a0_4 = 49187
            · rw [if_pos c23] at H
              have c23b0 : (a0_4 == 49187) = true := beq_iff_eq.mpr c23
              have c23b1 : (a0_4 != 49187) = false := bne_eq_false_iff_eq.mpr c23
              clear c23
              (rw [c23b0])
              obtain ⟨y714, hy714⟩ : ∃ y_ : List Int, y_ = ([192, 35] : List Int) := ⟨_, rfl⟩
              replace H : (if x3_11.length < 4398046511104 then (umpireref14_Put.j2 kj11 (x3_11 ++ [(⟨3, y714⟩ : S55)]) a0_0 a0_1 a0_2 a0_3 a0_4 a0_5 a0_6 a0_7 a0_8 a0_9) else (none)) = some r := by (rw [hy714]; with_reducible exact H)
              have Ny714 := Aside0.mk hy714
              clear hy714
              by_cases c24 : x3_11.length < 4398046511104
              · rw [if_pos c24] at H
                have LMc24 := Aside0.mk c24
                clear c24
                obtain ⟨y717, hy717⟩ : ∃ y_ : List (S55), y_ = (x3_11 ++ [(⟨3, y714⟩ : S55)]) := ⟨_, rfl⟩
                replace H : (umpireref14_Put.j2 kj11 y717 a0_0 a0_1 a0_2 a0_3 a0_4 a0_5 a0_6 a0_7 a0_8 a0_9) = some r := by (rw [hy717]; with_reducible exact H)
                have Ny717 := Aside0.mk hy717
                clear hy717
                have H' := Aside0.mk H
                clear H
                go_wp2_with (first | ((with_reducible refine gate_dst (N := 28) rfl ?_); refine Kd.R_lit (Kd.int .u8) _ 5 ?hg (N := 28) ?hd (xs := ([192, 35] : List Int)) (inner := [.int .u8 192, .int .u8 35]) (ok := fun _ => True) (okp := fun _ => True) ?hr ?hp (fun _ hk => hk) trivial (Below.refl _ _) (Nat.le_refl _) (by simp) ?_; (case hd => rfl); (case hg => rfl); (case hr => (go_simp; done)); (case hp => exact (Reps.one (show Kd.M (Kd.int .u8) _ _ _ 192 [.int .u8 192] from rfl) (Reps.one (show Kd.M (Kd.int .u8) _ _ _ 35 [.int .u8 35] from rfl) (Reps.none _ _)))); intro v715 w25 ho26 hb hg_ hnew_; clear hg_ hnew_; (rw [← Ny714.out] at ho26); have n0_ := Aside0.mk (Kd.S_elder' (by exact HO_3.out) (by (exact Kd.R_base ho26)) hb); have n1_ := Aside0.mk (Kd.R_lower ho26 (below_size (by exact HB.out))); have n2_ := Aside0.mk (blk_below (g := gb701) (o := .cells #[.bool a0_0, .int .i64 a0_1, .bool a0_2, .int .u32 a0_3, .int .i64 a0_4, .bool a0_5, .bool a0_6, .int .u32 a0_7, .bool a0_8, .bool a0_9] 61 (0, 0)) (by exact BK701.out) hb); have n3_ := Aside0.mk (below_step (by exact HB.out) hb); clear HO_3; clear BK701; clear HB; have HO_3 := n0_; have HO716 := n1_; have BK701 := n2_; have HB := n3_; clear n0_ n1_ n2_ n3_; clear hb ho26; obtain ⟨Ao27, co27, eo27⟩ := Kd.R_slice HO716.out; subst eo27) | ((with_reducible refine gate_builtin (b := .append) (xs := #[.tmp 27, .tmp 30]) rfl ?_); at_builtin; refine Kd.S_append k55 (w0 := w) w.heap.size rfl (.tmp 27) (.tmp 30) 58 55 (.agg #[(.int .i64 0), (.slice none 0 0)]) 32 rfl Try.underlying58 info55 rfl (by decide) (by omega) u3 x3_11 (⟨3, y714⟩ : S55) [.int .i64 3, .slice Ao27 y714.length co27] (fun _ => True) (fun k_ => some k_ = (.slice Ao27 y714.length co27 : Value).ownBlock) rfl rfl ?aP (fun k_ hk_ => ((Kd.R_mono (ok' := fun k_ => (fun _ => True) k_ ∧ some k_ ≠ (u3 : Value).ownBlock) (Kd.R_apart' (HO716.out) (Kd.S_typed HO_3.out) (by decide)) (fun k_ hk => ⟨trivial, hk.2⟩))).1 k_ hk_.symm) ?aF ?aO ?aB ?aS ?aL ?_; (case aP => exact k55_mkM _ _ _ (⟨3, y714⟩ : S55) (Kd.R_mono (Kd.R_tight rfl (Kd.R_mono (ok' := fun k_ => (fun _ => True) k_ ∧ some k_ ≠ (u3 : Value).ownBlock) (Kd.R_apart' (HO716.out) (Kd.S_typed HO_3.out) (by decide)) (fun k_ hk => ⟨trivial, hk.2⟩))) (fun _ h_ => h_))); (case aB => exact (by exact HB.out)); (case aF => exact (fun _ _ => trivial)); (case aO => exact (by exact Kd.S_mono HO_3.out (fun k_ hk => ⟨trivial, fun e_ => hk.2 e_⟩))); (case aS => exact (below_size (by exact HB.out))); (case aL => have := LMc24.out; omega); intro v718 w28 ho hb hg hat; rw [← Ny717.out] at ho; have n0_ := Aside0.mk (blk_grown (g := gb701) (o := .cells #[.bool a0_0, .int .i64 a0_1, .bool a0_2, .int .u32 a0_3, .int .i64 a0_4, .bool a0_5, .bool a0_6, .int .u32 a0_7, .bool a0_8, .bool a0_9] 61 (0, 0)) (by exact BK701.out) hg (Kd.S_ne HO_3.out BK701.out (by decide))); have n1_ := Aside0.mk (hb); have n2_ := Aside0.mk (ho); clear BK701; clear HB; clear HO_3; clear HO716; have BK701 := n0_; have HB := n1_; have HO719 := n2_; clear n0_ n1_ n2_; clear ho hb hg hat))
                go_meet
                case rel => exact ⟨_, (y717), H', ⟨by have := HJ1.out; have := HJ11.out; (omega)⟩, ⟨by exact HO719.out⟩, ⟨by exact BK701.out⟩, ⟨by exact HB.out⟩⟩
              · rw [if_neg c24] at H
                exact absurd H (by simp)
            · rw [if_neg c23] at H
              have c23b0 : (a0_4 == 49187) = false := beq_eq_false_iff_ne.mpr c23
              have c23b1 : (a0_4 != 49187) = true := bne_iff_ne.mpr c23
              (rw [c23b0])
              have H' := Aside0.mk H
              clear H
              go_wp2
              go_meet
              case rel => exact ⟨_, (x3_11), H', ⟨by have := HJ1.out; have := HJ11.out; (omega)⟩, ⟨by exact HO_3.out⟩, ⟨by exact BK701.out⟩, ⟨by exact HB.out⟩⟩
          case rest =>
            clear HC21
            try clear hcz22_0
            try clear hcz22_1
            try clear hcz22_2
            try clear hcz22_3
            try clear hcz22_4
            try clear hcz22_5
            try clear hcz22_6
            try clear hcz22_7
            try clear hcz22_8
            try clear hcz22_9
            try clear hfz22_0
            try clear hfz22_1
            try clear hfz22_2
            try clear hfz22_3
            try clear hfz22_4
            try clear hfz22_5
            try clear hfz22_6
            try clear hfz22_7
            try clear hfz22_8
            try clear hfz22_9
            obtain ⟨kq, x3_20, HA, HJ20, HO_3, BK701, HB⟩ := hcut
            cases kq with
            | zero => exact absurd HA.out (by simp [umpireref14_Put.j2])
            | succ kj20 =>
              have H := HA.out
              clear HA
              simp only [umpireref14_Put.j2] at H
              have HC29 := Aside0.mk H
              clear H
              have hcz30_0 : wc.cell? ⟨gb701, 0, none⟩ = some (.bool a0_0) := (blk_cell BK701.out 0).trans rfl
              have hcz30_1 : wc.cell? ⟨gb701, 1, none⟩ = some (.int .i64 a0_1) := (blk_cell BK701.out 1).trans rfl
              have hcz30_2 : wc.cell? ⟨gb701, 2, none⟩ = some (.bool a0_2) := (blk_cell BK701.out 2).trans rfl
              have hcz30_3 : wc.cell? ⟨gb701, 3, none⟩ = some (.int .u32 a0_3) := (blk_cell BK701.out 3).trans rfl
              have hcz30_4 : wc.cell? ⟨gb701, 4, none⟩ = some (.int .i64 a0_4) := (blk_cell BK701.out 4).trans rfl
              have hcz30_5 : wc.cell? ⟨gb701, 5, none⟩ = some (.bool a0_5) := (blk_cell BK701.out 5).trans rfl
              have hcz30_6 : wc.cell? ⟨gb701, 6, none⟩ = some (.bool a0_6) := (blk_cell BK701.out 6).trans rfl
              have hcz30_7 : wc.cell? ⟨gb701, 7, none⟩ = some (.int .u32 a0_7) := (blk_cell BK701.out 7).trans rfl
              have hcz30_8 : wc.cell? ⟨gb701, 8, none⟩ = some (.bool a0_8) := (blk_cell BK701.out 8).trans rfl
              have hcz30_9 : wc.cell? ⟨gb701, 9, none⟩ = some (.bool a0_9) := (blk_cell BK701.out 9).trans rfl
              have hfz30_0 := blk_frozen BK701.out 0
              have hfz30_1 := blk_frozen BK701.out 1
              have hfz30_2 := blk_frozen BK701.out 2
              have hfz30_3 := blk_frozen BK701.out 3
              have hfz30_4 := blk_frozen BK701.out 4
              have hfz30_5 := blk_frozen BK701.out 5
              have hfz30_6 := blk_frozen BK701.out 6
              have hfz30_7 := blk_frozen BK701.out 7
              have hfz30_8 := blk_frozen BK701.out 8
              have hfz30_9 := blk_frozen BK701.out 9
              go_upto_if 34 with (fail)
              go_cut [3] (fun v3 wc => ∃ (kq : Nat) (x3_28 : List (S55)), Aside0 (umpireref14_Put.j3 kq x3_28 a0_0 a0_1 a0_2 a0_3 a0_4 a0_5 a0_6 a0_7 a0_8 a0_9 = some r) ∧ Aside0 (kq ≤ kj20) ∧ Aside0 (Kd.S k55 55 wc w.heap.size (fun _ => True) v3 x3_28) ∧ Aside0 (wc.heap[gb701]? = some (.cells #[.bool a0_0, .int .i64 a0_1, .bool a0_2, .int .u32 a0_3, .int .i64 a0_4, .bool a0_5, .bool a0_6, .int .u32 a0_7, .bool a0_8, .bool a0_9] 61 (0, 0))) ∧ Aside0 (Below w.heap.size w wc))
              case first =>
                have H := HC29.out
                clear HC29
                by_cases c31 : a0_4 = 49699
                · rw [if_pos c31] at H
                  have c31b0 : (a0_4 == 49699) = true := beq_iff_eq.mpr c31
                  have c31b1 : (a0_4 != 49699) = false := bne_eq_false_iff_eq.mpr c31
                  clear c31
                  (rw [c31b0])
                  obtain ⟨y720, hy720⟩ : ∃ y_ : List Int, y_ = ([194, 35, 5] : List Int) := ⟨_, rfl⟩
                  replace H : (if x3_20.length < 4398046511104 then (umpireref14_Put.j3 kj20 (x3_20 ++ [(⟨3, y720⟩ : S55)]) a0_0 a0_1 a0_2 a0_3 a0_4 a0_5 a0_6 a0_7 a0_8 a0_9) else (none)) = some r := by (rw [hy720]; with_reducible exact H)
                  have Ny720 := Aside0.mk hy720
                  clear hy720
                  by_cases c32 : x3_20.length < 4398046511104
                  · rw [if_pos c32] at H
                    have LMc32 := Aside0.mk c32
                    clear c32
                    obtain ⟨y723, hy723⟩ : ∃ y_ : List (S55), y_ = (x3_20 ++ [(⟨3, y720⟩ : S55)]) := ⟨_, rfl⟩
                    replace H : (umpireref14_Put.j3 kj20 y723 a0_0 a0_1 a0_2 a0_3 a0_4 a0_5 a0_6 a0_7 a0_8 a0_9) = some r := by (rw [hy723]; with_reducible exact H)
                    have Ny723 := Aside0.mk hy723
                    clear hy723
                    have H' := Aside0.mk H
                    clear H
                    go_wp2_with (first | ((with_reducible refine gate_dst (N := 36) rfl ?_); refine Kd.R_lit (Kd.int .u8) _ 5 ?hg (N := 36) ?hd (xs := ([194, 35, 5] : List Int)) (inner := [.int .u8 194, .int .u8 35, .int .u8 5]) (ok := fun _ => True) (okp := fun _ => True) ?hr ?hp (fun _ hk => hk) trivial (Below.refl _ _) (Nat.le_refl _) (by simp) ?_; (case hd => rfl); (case hg => rfl); (case hr => (go_simp; done)); (case hp => exact (Reps.one (show Kd.M (Kd.int .u8) _ _ _ 194 [.int .u8 194] from rfl) (Reps.one (show Kd.M (Kd.int .u8) _ _ _ 35 [.int .u8 35] from rfl) (Reps.one (show Kd.M (Kd.int .u8) _ _ _ 5 [.int .u8 5] from rfl) (Reps.none _ _))))); intro v721 w33 ho34 hb hg_ hnew_; clear hg_ hnew_; (rw [← Ny720.out] at ho34); have n0_ := Aside0.mk (Kd.S_elder' (by exact HO_3.out) (by (exact Kd.R_base ho34)) hb); have n1_ := Aside0.mk (Kd.R_lower ho34 (below_size (by exact HB.out))); have n2_ := Aside0.mk (blk_below (g := gb701) (o := .cells #[.bool a0_0, .int .i64 a0_1, .bool a0_2, .int .u32 a0_3, .int .i64 a0_4, .bool a0_5, .bool a0_6, .int .u32 a0_7, .bool a0_8, .bool a0_9] 61 (0, 0)) (by exact BK701.out) hb); have n3_ := Aside0.mk (below_step (by exact HB.out) hb); clear HO_3; clear BK701; clear HB; have HO_3 := n0_; have HO722 := n1_; have BK701 := n2_; have HB := n3_; clear n0_ n1_ n2_ n3_; clear hb ho34; obtain ⟨Ao35, co35, eo35⟩ := Kd.R_slice HO722.out; subst eo35) | ((with_reducible refine gate_builtin (b := .append) (xs := #[.tmp 35, .tmp 38]) rfl ?_); at_builtin; refine Kd.S_append k55 (w0 := w) w.heap.size rfl (.tmp 35) (.tmp 38) 58 55 (.agg #[(.int .i64 0), (.slice none 0 0)]) 32 rfl Try.underlying58 info55 rfl (by decide) (by omega) u3 x3_20 (⟨3, y720⟩ : S55) [.int .i64 3, .slice Ao35 y720.length co35] (fun _ => True) (fun k_ => some k_ = (.slice Ao35 y720.length co35 : Value).ownBlock) rfl rfl ?aP (fun k_ hk_ => ((Kd.R_mono (ok' := fun k_ => (fun _ => True) k_ ∧ some k_ ≠ (u3 : Value).ownBlock) (Kd.R_apart' (HO722.out) (Kd.S_typed HO_3.out) (by decide)) (fun k_ hk => ⟨trivial, hk.2⟩))).1 k_ hk_.symm) ?aF ?aO ?aB ?aS ?aL ?_; (case aP => exact k55_mkM _ _ _ (⟨3, y720⟩ : S55) (Kd.R_mono (Kd.R_tight rfl (Kd.R_mono (ok' := fun k_ => (fun _ => True) k_ ∧ some k_ ≠ (u3 : Value).ownBlock) (Kd.R_apart' (HO722.out) (Kd.S_typed HO_3.out) (by decide)) (fun k_ hk => ⟨trivial, hk.2⟩))) (fun _ h_ => h_))); (case aB => exact (by exact HB.out)); (case aF => exact (fun _ _ => trivial)); (case aO => exact (by exact Kd.S_mono HO_3.out (fun k_ hk => ⟨trivial, fun e_ => hk.2 e_⟩))); (case aS => exact (below_size (by exact HB.out))); (case aL => have := LMc32.out; omega); intro v724 w36 ho hb hg hat; rw [← Ny723.out] at ho; have n0_ := Aside0.mk (blk_grown (g := gb701) (o := .cells #[.bool a0_0, .int .i64 a0_1, .bool a0_2, .int .u32 a0_3, .int .i64 a0_4, .bool a0_5, .bool a0_6, .int .u32 a0_7, .bool a0_8, .bool a0_9] 61 (0, 0)) (by exact BK701.out) hg (Kd.S_ne HO_3.out BK701.out (by decide))); have n1_ := Aside0.mk (hb); have n2_ := Aside0.mk (ho); clear BK701; clear HB; clear HO_3; clear HO722; have BK701 := n0_; have HB := n1_; have HO725 := n2_; clear n0_ n1_ n2_; clear ho hb hg hat))
                    go_meet
                    case rel => exact ⟨_, (y723), H', ⟨by have := HJ1.out; have := HJ11.out; have := HJ20.out; (omega)⟩, ⟨by exact HO725.out⟩, ⟨by exact BK701.out⟩, ⟨by exact HB.out⟩⟩
                  · rw [if_neg c32] at H
                    exact absurd H (by simp)
                · rw [if_neg c31] at H
                  have c31b0 : (a0_4 == 49699) = false := beq_eq_false_iff_ne.mpr c31
                  have c31b1 : (a0_4 != 49699) = true := bne_iff_ne.mpr c31
                  (rw [c31b0])
                  have H' := Aside0.mk H
                  clear H
                  go_wp2
                  go_meet
                  case rel => exact ⟨_, (x3_20), H', ⟨by have := HJ1.out; have := HJ11.out; have := HJ20.out; (omega)⟩, ⟨by exact HO_3.out⟩, ⟨by exact BK701.out⟩, ⟨by exact HB.out⟩⟩
              case rest =>
                clear HC29
                try clear hcz30_0
                try clear hcz30_1
                try clear hcz30_2
                try clear hcz30_3
                try clear hcz30_4
                try clear hcz30_5
                try clear hcz30_6
                try clear hcz30_7
                try clear hcz30_8
                try clear hcz30_9
                try clear hfz30_0
                try clear hfz30_1
                try clear hfz30_2
                try clear hfz30_3
                try clear hfz30_4
                try clear hfz30_5
                try clear hfz30_6
                try clear hfz30_7
                try clear hfz30_8
                try clear hfz30_9
                obtain ⟨kq, x3_28, HA, HJ28, HO_3, BK701, HB⟩ := hcut
                cases kq with
                | zero => exact absurd HA.out (by simp [umpireref14_Put.j3])
                | succ kj28 =>
                  have H := HA.out
                  clear HA
                  simp only [umpireref14_Put.j3] at H
                  have HC37 := Aside0.mk H
                  clear H
                  have hcz38_0 : wc.cell? ⟨gb701, 0, none⟩ = some (.bool a0_0) := (blk_cell BK701.out 0).trans rfl
                  have hcz38_1 : wc.cell? ⟨gb701, 1, none⟩ = some (.int .i64 a0_1) := (blk_cell BK701.out 1).trans rfl
                  have hcz38_2 : wc.cell? ⟨gb701, 2, none⟩ = some (.bool a0_2) := (blk_cell BK701.out 2).trans rfl
                  have hcz38_3 : wc.cell? ⟨gb701, 3, none⟩ = some (.int .u32 a0_3) := (blk_cell BK701.out 3).trans rfl
                  have hcz38_4 : wc.cell? ⟨gb701, 4, none⟩ = some (.int .i64 a0_4) := (blk_cell BK701.out 4).trans rfl
                  have hcz38_5 : wc.cell? ⟨gb701, 5, none⟩ = some (.bool a0_5) := (blk_cell BK701.out 5).trans rfl
                  have hcz38_6 : wc.cell? ⟨gb701, 6, none⟩ = some (.bool a0_6) := (blk_cell BK701.out 6).trans rfl
                  have hcz38_7 : wc.cell? ⟨gb701, 7, none⟩ = some (.int .u32 a0_7) := (blk_cell BK701.out 7).trans rfl
                  have hcz38_8 : wc.cell? ⟨gb701, 8, none⟩ = some (.bool a0_8) := (blk_cell BK701.out 8).trans rfl
                  have hcz38_9 : wc.cell? ⟨gb701, 9, none⟩ = some (.bool a0_9) := (blk_cell BK701.out 9).trans rfl
                  have hfz38_0 := blk_frozen BK701.out 0
                  have hfz38_1 := blk_frozen BK701.out 1
                  have hfz38_2 := blk_frozen BK701.out 2
                  have hfz38_3 := blk_frozen BK701.out 3
                  have hfz38_4 := blk_frozen BK701.out 4
                  have hfz38_5 := blk_frozen BK701.out 5
                  have hfz38_6 := blk_frozen BK701.out 6
                  have hfz38_7 := blk_frozen BK701.out 7
                  have hfz38_8 := blk_frozen BK701.out 8
                  have hfz38_9 := blk_frozen BK701.out 9
                  go_upto_if 41 with (fail)
                  go_cut [3] (fun v3 wc => ∃ (kq : Nat) (x3_36 : List (S55)), Aside0 (umpireref14_Put.j4 kq x3_36 a0_0 a0_1 a0_2 a0_3 a0_4 a0_5 a0_6 a0_7 a0_8 a0_9 = some r) ∧ Aside0 (kq ≤ kj28) ∧ Aside0 (Kd.S k55 55 wc w.heap.size (fun _ => True) v3 x3_36) ∧ Aside0 (wc.heap[gb701]? = some (.cells #[.bool a0_0, .int .i64 a0_1, .bool a0_2, .int .u32 a0_3, .int .i64 a0_4, .bool a0_5, .bool a0_6, .int .u32 a0_7, .bool a0_8, .bool a0_9] 61 (0, 0))) ∧ Aside0 (Below w.heap.size w wc))
                  case first =>
                    have H := HC37.out
                    clear HC37
                    by_cases c39 : a0_5 = true
                    · subst c39
                      have H1 : (if x3_28.length < 4398046511104 then (umpireref14_Put.j4 kj28 (x3_28 ++ [(⟨4, ([192, 37] : List Int)⟩ : S55)]) a0_0 a0_1 a0_2 a0_3 a0_4 true a0_6 a0_7 a0_8 a0_9) else (none)) = some r := by rw [if_pos rfl] at H; exact H
                      clear H
                      have H := H1
                      clear H1
                      obtain ⟨y726, hy726⟩ : ∃ y_ : List Int, y_ = ([192, 37] : List Int) := ⟨_, rfl⟩
                      replace H : (if x3_28.length < 4398046511104 then (umpireref14_Put.j4 kj28 (x3_28 ++ [(⟨4, y726⟩ : S55)]) a0_0 a0_1 a0_2 a0_3 a0_4 true a0_6 a0_7 a0_8 a0_9) else (none)) = some r := by (rw [hy726]; with_reducible exact H)
                      have Ny726 := Aside0.mk hy726
                      clear hy726
                      by_cases c40 : x3_28.length < 4398046511104
                      · rw [if_pos c40] at H
                        have LMc40 := Aside0.mk c40
                        clear c40
                        obtain ⟨y729, hy729⟩ : ∃ y_ : List (S55), y_ = (x3_28 ++ [(⟨4, y726⟩ : S55)]) := ⟨_, rfl⟩
                        replace H : (umpireref14_Put.j4 kj28 y729 a0_0 a0_1 a0_2 a0_3 a0_4 true a0_6 a0_7 a0_8 a0_9) = some r := by (rw [hy729]; with_reducible exact H)
                        have Ny729 := Aside0.mk hy729
                        clear hy729
                        have H' := Aside0.mk H
                        clear H
                        go_wp2_with (first | ((with_reducible refine gate_dst (N := 43) rfl ?_); refine Kd.R_lit (Kd.int .u8) _ 5 ?hg (N := 43) ?hd (xs := ([192, 37] : List Int)) (inner := [.int .u8 192, .int .u8 37]) (ok := fun _ => True) (okp := fun _ => True) ?hr ?hp (fun _ hk => hk) trivial (Below.refl _ _) (Nat.le_refl _) (by simp) ?_; (case hd => rfl); (case hg => rfl); (case hr => (go_simp; done)); (case hp => exact (Reps.one (show Kd.M (Kd.int .u8) _ _ _ 192 [.int .u8 192] from rfl) (Reps.one (show Kd.M (Kd.int .u8) _ _ _ 37 [.int .u8 37] from rfl) (Reps.none _ _)))); intro v727 w41 ho42 hb hg_ hnew_; clear hg_ hnew_; (rw [← Ny726.out] at ho42); have n0_ := Aside0.mk (Kd.S_elder' (by exact HO_3.out) (by (exact Kd.R_base ho42)) hb); have n1_ := Aside0.mk (Kd.R_lower ho42 (below_size (by exact HB.out))); have n2_ := Aside0.mk (blk_below (g := gb701) (o := .cells #[.bool a0_0, .int .i64 a0_1, .bool a0_2, .int .u32 a0_3, .int .i64 a0_4, .bool true, .bool a0_6, .int .u32 a0_7, .bool a0_8, .bool a0_9] 61 (0, 0)) (by exact BK701.out) hb); have n3_ := Aside0.mk (below_step (by exact HB.out) hb); clear HO_3; clear BK701; clear HB; have HO_3 := n0_; have HO728 := n1_; have BK701 := n2_; have HB := n3_; clear n0_ n1_ n2_ n3_; clear hb ho42; obtain ⟨Ao43, co43, eo43⟩ := Kd.R_slice HO728.out; subst eo43) | ((with_reducible refine gate_builtin (b := .append) (xs := #[.tmp 42, .tmp 45]) rfl ?_); at_builtin; refine Kd.S_append k55 (w0 := w) w.heap.size rfl (.tmp 42) (.tmp 45) 58 55 (.agg #[(.int .i64 0), (.slice none 0 0)]) 32 rfl Try.underlying58 info55 rfl (by decide) (by omega) u3 x3_28 (⟨4, y726⟩ : S55) [.int .i64 4, .slice Ao43 y726.length co43] (fun _ => True) (fun k_ => some k_ = (.slice Ao43 y726.length co43 : Value).ownBlock) rfl rfl ?aP (fun k_ hk_ => ((Kd.R_mono (ok' := fun k_ => (fun _ => True) k_ ∧ some k_ ≠ (u3 : Value).ownBlock) (Kd.R_apart' (HO728.out) (Kd.S_typed HO_3.out) (by decide)) (fun k_ hk => ⟨trivial, hk.2⟩))).1 k_ hk_.symm) ?aF ?aO ?aB ?aS ?aL ?_; (case aP => exact k55_mkM _ _ _ (⟨4, y726⟩ : S55) (Kd.R_mono (Kd.R_tight rfl (Kd.R_mono (ok' := fun k_ => (fun _ => True) k_ ∧ some k_ ≠ (u3 : Value).ownBlock) (Kd.R_apart' (HO728.out) (Kd.S_typed HO_3.out) (by decide)) (fun k_ hk => ⟨trivial, hk.2⟩))) (fun _ h_ => h_))); (case aB => exact (by exact HB.out)); (case aF => exact (fun _ _ => trivial)); (case aO => exact (by exact Kd.S_mono HO_3.out (fun k_ hk => ⟨trivial, fun e_ => hk.2 e_⟩))); (case aS => exact (below_size (by exact HB.out))); (case aL => have := LMc40.out; omega); intro v730 w44 ho hb hg hat; rw [← Ny729.out] at ho; have n0_ := Aside0.mk (blk_grown (g := gb701) (o := .cells #[.bool a0_0, .int .i64 a0_1, .bool a0_2, .int .u32 a0_3, .int .i64 a0_4, .bool true, .bool a0_6, .int .u32 a0_7, .bool a0_8, .bool a0_9] 61 (0, 0)) (by exact BK701.out) hg (Kd.S_ne HO_3.out BK701.out (by decide))); have n1_ := Aside0.mk (hb); have n2_ := Aside0.mk (ho); clear BK701; clear HB; clear HO_3; clear HO728; have BK701 := n0_; have HB := n1_; have HO731 := n2_; clear n0_ n1_ n2_; clear ho hb hg hat))
                        go_meet
                        case rel => exact ⟨_, (y729), H', ⟨by have := HJ1.out; have := HJ11.out; have := HJ20.out; have := HJ28.out; (omega)⟩, ⟨by exact HO731.out⟩, ⟨by exact BK701.out⟩, ⟨by exact HB.out⟩⟩
                      · rw [if_neg c40] at H
                        exact absurd H (by simp)
                    · replace c39 := Bool.eq_false_iff.mpr c39
                      subst c39
                      have H1 : (umpireref14_Put.j4 kj28 x3_28 a0_0 a0_1 a0_2 a0_3 a0_4 false a0_6 a0_7 a0_8 a0_9) = some r := by rw [if_neg (show ¬ (false = true) by decide)] at H; exact H
                      clear H
                      have H := H1
                      clear H1
                      have H' := Aside0.mk H
                      clear H
                      go_wp2
                      go_meet
                      case rel => exact ⟨_, (x3_28), H', ⟨by have := HJ1.out; have := HJ11.out; have := HJ20.out; have := HJ28.out; (omega)⟩, ⟨by exact HO_3.out⟩, ⟨by exact BK701.out⟩, ⟨by exact HB.out⟩⟩
                  case rest =>
                    clear HC37
                    try clear hcz38_0
                    try clear hcz38_1
                    try clear hcz38_2
                    try clear hcz38_3
                    try clear hcz38_4
                    try clear hcz38_5
                    try clear hcz38_6
                    try clear hcz38_7
                    try clear hcz38_8
                    try clear hcz38_9
                    try clear hfz38_0
                    try clear hfz38_1
                    try clear hfz38_2
                    try clear hfz38_3
                    try clear hfz38_4
                    try clear hfz38_5
                    try clear hfz38_6
                    try clear hfz38_7
                    try clear hfz38_8
                    try clear hfz38_9
                    obtain ⟨kq, x3_36, HA, HJ36, HO_3, BK701, HB⟩ := hcut
                    cases kq with
                    | zero => exact absurd HA.out (by simp [umpireref14_Put.j4])
                    | succ kj36 =>
                      have H := HA.out
                      clear HA
                      simp only [umpireref14_Put.j4] at H
                      have HC45 := Aside0.mk H
                      clear H
                      have hcz46_0 : wc.cell? ⟨gb701, 0, none⟩ = some (.bool a0_0) := (blk_cell BK701.out 0).trans rfl
                      have hcz46_1 : wc.cell? ⟨gb701, 1, none⟩ = some (.int .i64 a0_1) := (blk_cell BK701.out 1).trans rfl
                      have hcz46_2 : wc.cell? ⟨gb701, 2, none⟩ = some (.bool a0_2) := (blk_cell BK701.out 2).trans rfl
                      have hcz46_3 : wc.cell? ⟨gb701, 3, none⟩ = some (.int .u32 a0_3) := (blk_cell BK701.out 3).trans rfl
                      have hcz46_4 : wc.cell? ⟨gb701, 4, none⟩ = some (.int .i64 a0_4) := (blk_cell BK701.out 4).trans rfl
                      have hcz46_5 : wc.cell? ⟨gb701, 5, none⟩ = some (.bool a0_5) := (blk_cell BK701.out 5).trans rfl
                      have hcz46_6 : wc.cell? ⟨gb701, 6, none⟩ = some (.bool a0_6) := (blk_cell BK701.out 6).trans rfl
                      have hcz46_7 : wc.cell? ⟨gb701, 7, none⟩ = some (.int .u32 a0_7) := (blk_cell BK701.out 7).trans rfl
                      have hcz46_8 : wc.cell? ⟨gb701, 8, none⟩ = some (.bool a0_8) := (blk_cell BK701.out 8).trans rfl
                      have hcz46_9 : wc.cell? ⟨gb701, 9, none⟩ = some (.bool a0_9) := (blk_cell BK701.out 9).trans rfl
                      have hfz46_0 := blk_frozen BK701.out 0
                      have hfz46_1 := blk_frozen BK701.out 1
                      have hfz46_2 := blk_frozen BK701.out 2
                      have hfz46_3 := blk_frozen BK701.out 3
                      have hfz46_4 := blk_frozen BK701.out 4
                      have hfz46_5 := blk_frozen BK701.out 5
                      have hfz46_6 := blk_frozen BK701.out 6
                      have hfz46_7 := blk_frozen BK701.out 7
                      have hfz46_8 := blk_frozen BK701.out 8
                      have hfz46_9 := blk_frozen BK701.out 9
                      go_upto_if 48 with (fail)
                      go_cut [3] (fun v3 wc => ∃ (kq : Nat) (x3_44 : List (S55)), Aside0 (umpireref14_Put.j5 kq x3_44 a0_0 a0_1 a0_2 a0_3 a0_4 a0_5 a0_6 a0_7 a0_8 a0_9 = some r) ∧ Aside0 (kq ≤ kj36) ∧ Aside0 (Kd.S k55 55 wc w.heap.size (fun _ => True) v3 x3_44) ∧ Aside0 (wc.heap[gb701]? = some (.cells #[.bool a0_0, .int .i64 a0_1, .bool a0_2, .int .u32 a0_3, .int .i64 a0_4, .bool a0_5, .bool a0_6, .int .u32 a0_7, .bool a0_8, .bool a0_9] 61 (0, 0))) ∧ Aside0 (Below w.heap.size w wc))
                      case first =>
                        have H := HC45.out
                        clear HC45
                        by_cases c47 : a0_6 = true
                        · subst c47
                          have H1 : ((umpireref02_Put.f kj36 (IntKind.u64.wrap (a0_7)) 4 true).bind fun t732 => (if x3_36.length < 4398046511104 then (umpireref14_Put.j5 kj36 (x3_36 ++ [(⟨5, t732⟩ : S55)]) a0_0 a0_1 a0_2 a0_3 a0_4 a0_5 true a0_7 a0_8 a0_9) else (none))) = some r := by rw [if_pos rfl] at H; exact H
                          clear H
                          have H := H1
                          clear H1
                          replace H := Option.bind_eq_some_iff.mp H
                          obtain ⟨t732, A480, H⟩ := H
                          replace H : (if x3_36.length < 4398046511104 then (umpireref14_Put.j5 kj36 (x3_36 ++ [(⟨5, t732⟩ : S55)]) a0_0 a0_1 a0_2 a0_3 a0_4 a0_5 true a0_7 a0_8 a0_9) else (none)) = some r := H
                          have A48 := Aside0.mk A480
                          clear A480
                          by_cases c49 : x3_36.length < 4398046511104
                          · rw [if_pos c49] at H
                            have LMc49 := Aside0.mk c49
                            clear c49
                            obtain ⟨y735, hy735⟩ : ∃ y_ : List (S55), y_ = (x3_36 ++ [(⟨5, t732⟩ : S55)]) := ⟨_, rfl⟩
                            replace H : (umpireref14_Put.j5 kj36 y735 a0_0 a0_1 a0_2 a0_3 a0_4 a0_5 true a0_7 a0_8 a0_9) = some r := by (rw [hy735]; with_reducible exact H)
                            have Ny735 := Aside0.mk hy735
                            clear hy735
                            have H' := Aside0.mk H
                            clear H
                            have hcz50_0 : wc.cell? ⟨gb701, 0, none⟩ = some (.bool a0_0) := (blk_cell BK701.out 0).trans rfl
                            have hcz50_1 : wc.cell? ⟨gb701, 1, none⟩ = some (.int .i64 a0_1) := (blk_cell BK701.out 1).trans rfl
                            have hcz50_2 : wc.cell? ⟨gb701, 2, none⟩ = some (.bool a0_2) := (blk_cell BK701.out 2).trans rfl
                            have hcz50_3 : wc.cell? ⟨gb701, 3, none⟩ = some (.int .u32 a0_3) := (blk_cell BK701.out 3).trans rfl
                            have hcz50_4 : wc.cell? ⟨gb701, 4, none⟩ = some (.int .i64 a0_4) := (blk_cell BK701.out 4).trans rfl
                            have hcz50_5 : wc.cell? ⟨gb701, 5, none⟩ = some (.bool a0_5) := (blk_cell BK701.out 5).trans rfl
                            have hcz50_6 : wc.cell? ⟨gb701, 6, none⟩ = some (.bool true) := (blk_cell BK701.out 6).trans rfl
                            have hcz50_7 : wc.cell? ⟨gb701, 7, none⟩ = some (.int .u32 a0_7) := (blk_cell BK701.out 7).trans rfl
                            have hcz50_8 : wc.cell? ⟨gb701, 8, none⟩ = some (.bool a0_8) := (blk_cell BK701.out 8).trans rfl
                            have hcz50_9 : wc.cell? ⟨gb701, 9, none⟩ = some (.bool a0_9) := (blk_cell BK701.out 9).trans rfl
                            have hfz50_0 := blk_frozen BK701.out 0
                            have hfz50_1 := blk_frozen BK701.out 1
                            have hfz50_2 := blk_frozen BK701.out 2
                            have hfz50_3 := blk_frozen BK701.out 3
                            have hfz50_4 := blk_frozen BK701.out 4
                            have hfz50_5 := blk_frozen BK701.out 5
                            have hfz50_6 := blk_frozen BK701.out 6
                            have hfz50_7 := blk_frozen BK701.out 7
                            have hfz50_8 := blk_frozen BK701.out 8
                            have hfz50_9 := blk_frozen BK701.out 9
                            go_wp2_with (first | ((with_reducible refine gate_callee (f := 62) rfl ?_); refine goesL_ (some 53) rfl rfl Try.func62 (by kernel_rfl) rfl #[.int .u64 (IntKind.u64.wrap (a0_7)), .int .i64 4, .bool true] rfl (by (try simp only [List.map_toArray, List.map_cons, List.map_nil]); (rfl)) ?_; (with_reducible refine (umpireref02_Put.calls kj36 (IntKind.u64.wrap (a0_7)) 4 true t732 _ A48.out).mono ?_); rintro e w51 ⟨v733, rfl, ho0, hb⟩; refine ⟨_, rfl, ?_⟩; have n0_ := Aside0.mk (Kd.S_elder' (by exact HO_3.out) (by (exact Kd.R_base ho0)) hb); have n1_ := Aside0.mk (Kd.R_lower ho0 (below_size (by exact HB.out))); have n2_ := Aside0.mk (blk_below (g := gb701) (o := .cells #[.bool a0_0, .int .i64 a0_1, .bool a0_2, .int .u32 a0_3, .int .i64 a0_4, .bool a0_5, .bool true, .int .u32 a0_7, .bool a0_8, .bool a0_9] 61 (0, 0)) (by exact BK701.out) hb); have n3_ := Aside0.mk (below_step (by exact HB.out) hb); clear HO_3; clear BK701; clear HB; have HO_3 := n0_; have HO734 := n1_; have BK701 := n2_; have HB := n3_; clear n0_ n1_ n2_ n3_; (try clear hb); (try clear ho0); obtain ⟨Ao52, co52, eo52⟩ := Kd.R_slice HO734.out; subst eo52) | ((with_reducible refine gate_builtin (b := .append) (xs := #[.tmp 49, .tmp 55]) rfl ?_); at_builtin; refine Kd.S_append k55 (w0 := w) w.heap.size rfl (.tmp 49) (.tmp 55) 58 55 (.agg #[(.int .i64 0), (.slice none 0 0)]) 32 rfl Try.underlying58 info55 rfl (by decide) (by omega) u3 x3_36 (⟨5, t732⟩ : S55) [.int .i64 5, .slice Ao52 t732.length co52] (fun _ => True) (fun k_ => some k_ = (.slice Ao52 t732.length co52 : Value).ownBlock) rfl rfl ?aP (fun k_ hk_ => ((Kd.R_mono (ok' := fun k_ => (fun _ => True) k_ ∧ some k_ ≠ (u3 : Value).ownBlock) (Kd.R_apart' (HO734.out) (Kd.S_typed HO_3.out) (by decide)) (fun k_ hk => ⟨trivial, hk.2⟩))).1 k_ hk_.symm) ?aF ?aO ?aB ?aS ?aL ?_; (case aP => exact k55_mkM _ _ _ (⟨5, t732⟩ : S55) (Kd.R_mono (Kd.R_tight rfl (Kd.R_mono (ok' := fun k_ => (fun _ => True) k_ ∧ some k_ ≠ (u3 : Value).ownBlock) (Kd.R_apart' (HO734.out) (Kd.S_typed HO_3.out) (by decide)) (fun k_ hk => ⟨trivial, hk.2⟩))) (fun _ h_ => h_))); (case aB => exact (by exact HB.out)); (case aF => exact (fun _ _ => trivial)); (case aO => exact (by exact Kd.S_mono HO_3.out (fun k_ hk => ⟨trivial, fun e_ => hk.2 e_⟩))); (case aS => exact (below_size (by exact HB.out))); (case aL => have := LMc49.out; omega); intro v736 w53 ho hb hg hat; rw [← Ny735.out] at ho; have n0_ := Aside0.mk (blk_grown (g := gb701) (o := .cells #[.bool a0_0, .int .i64 a0_1, .bool a0_2, .int .u32 a0_3, .int .i64 a0_4, .bool a0_5, .bool true, .int .u32 a0_7, .bool a0_8, .bool a0_9] 61 (0, 0)) (by exact BK701.out) hg (Kd.S_ne HO_3.out BK701.out (by decide))); have n1_ := Aside0.mk (hb); have n2_ := Aside0.mk (ho); clear BK701; clear HB; clear HO_3; clear HO734; have BK701 := n0_; have HB := n1_; have HO737 := n2_; clear n0_ n1_ n2_; clear ho hb hg hat))
                            go_meet
                            case rel => exact ⟨_, (y735), H', ⟨by have := HJ1.out; have := HJ11.out; have := HJ20.out; have := HJ28.out; have := HJ36.out; (omega)⟩, ⟨by exact HO737.out⟩, ⟨by exact BK701.out⟩, ⟨by exact HB.out⟩⟩
                          · rw [if_neg c49] at H
                            exact absurd H (by simp)
                        · replace c47 := Bool.eq_false_iff.mpr c47
                          subst c47
                          have H1 : (umpireref14_Put.j5 kj36 x3_36 a0_0 a0_1 a0_2 a0_3 a0_4 a0_5 false a0_7 a0_8 a0_9) = some r := by rw [if_neg (show ¬ (false = true) by decide)] at H; exact H
                          clear H
                          have H := H1
                          clear H1
                          have H' := Aside0.mk H
                          clear H
                          go_wp2
                          go_meet
                          case rel => exact ⟨_, (x3_36), H', ⟨by have := HJ1.out; have := HJ11.out; have := HJ20.out; have := HJ28.out; have := HJ36.out; (omega)⟩, ⟨by exact HO_3.out⟩, ⟨by exact BK701.out⟩, ⟨by exact HB.out⟩⟩
                      case rest =>
                        clear HC45
                        try clear hcz46_0
                        try clear hcz46_1
                        try clear hcz46_2
                        try clear hcz46_3
                        try clear hcz46_4
                        try clear hcz46_5
                        try clear hcz46_6
                        try clear hcz46_7
                        try clear hcz46_8
                        try clear hcz46_9
                        try clear hfz46_0
                        try clear hfz46_1
                        try clear hfz46_2
                        try clear hfz46_3
                        try clear hfz46_4
                        try clear hfz46_5
                        try clear hfz46_6
                        try clear hfz46_7
                        try clear hfz46_8
                        try clear hfz46_9
                        obtain ⟨kq, x3_44, HA, HJ44, HO_3, BK701, HB⟩ := hcut
                        cases kq with
                        | zero => exact absurd HA.out (by simp [umpireref14_Put.j5])
                        | succ kj44 =>
                          have H := HA.out
                          clear HA
                          simp only [umpireref14_Put.j5] at H
                          by_cases c54 : a0_8 = true
                          · subst c54
                            have H1 : (if x3_44.length < 4398046511104 then ((some (x3_44 ++ [(⟨7, ([] : List Int)⟩ : S55)] : List (S55))).bind fun y738 => (if a0_9 = true then (if y738.length < 4398046511104 then (some (y738 ++ [(⟨8, ([] : List Int)⟩ : S55)])) else (none)) else (some y738))) else (none)) = some r := by rw [if_pos rfl] at H; exact H
                            clear H
                            have H := H1
                            clear H1
                            by_cases c55 : x3_44.length < 4398046511104
                            · rw [if_pos c55] at H
                              have LMc55 := Aside0.mk c55
                              clear c55
                              obtain ⟨y738, hy738⟩ : ∃ y_ : List (S55), y_ = (x3_44 ++ [(⟨7, ([] : List Int)⟩ : S55)]) := ⟨_, rfl⟩
                              replace H : (if a0_9 = true then (if y738.length < 4398046511104 then (some (y738 ++ [(⟨8, ([] : List Int)⟩ : S55)])) else (none)) else (some y738)) = some r := by (have H2_ := (Option.bind_some _ _).symm.trans H; rw [hy738]; with_reducible exact H2_)
                              have Ny738 := Aside0.mk hy738
                              clear hy738
                              by_cases c56 : a0_9 = true
                              · subst c56
                                have H1 : (if y738.length < 4398046511104 then (some (y738 ++ [(⟨8, ([] : List Int)⟩ : S55)])) else (none)) = some r := by rw [if_pos rfl] at H; exact H
                                clear H
                                have H := H1
                                clear H1
                                by_cases c57 : y738.length < 4398046511104
                                · rw [if_pos c57] at H
                                  have LMc57 := Aside0.mk c57
                                  clear c57
                                  obtain ⟨y741, hy741⟩ : ∃ y_ : List (S55), y_ = (y738 ++ [(⟨8, ([] : List Int)⟩ : S55)]) := ⟨_, rfl⟩
                                  replace H : (some y741) = some r := by (rw [hy741]; with_reducible exact H)
                                  have Ny741 := Aside0.mk hy741
                                  clear hy741
                                  obtain rfl := Option.some.inj H
                                  have hcz58_0 : wc.cell? ⟨gb701, 0, none⟩ = some (.bool a0_0) := (blk_cell BK701.out 0).trans rfl
                                  have hcz58_1 : wc.cell? ⟨gb701, 1, none⟩ = some (.int .i64 a0_1) := (blk_cell BK701.out 1).trans rfl
                                  have hcz58_2 : wc.cell? ⟨gb701, 2, none⟩ = some (.bool a0_2) := (blk_cell BK701.out 2).trans rfl
                                  have hcz58_3 : wc.cell? ⟨gb701, 3, none⟩ = some (.int .u32 a0_3) := (blk_cell BK701.out 3).trans rfl
                                  have hcz58_4 : wc.cell? ⟨gb701, 4, none⟩ = some (.int .i64 a0_4) := (blk_cell BK701.out 4).trans rfl
                                  have hcz58_5 : wc.cell? ⟨gb701, 5, none⟩ = some (.bool a0_5) := (blk_cell BK701.out 5).trans rfl
                                  have hcz58_6 : wc.cell? ⟨gb701, 6, none⟩ = some (.bool a0_6) := (blk_cell BK701.out 6).trans rfl
                                  have hcz58_7 : wc.cell? ⟨gb701, 7, none⟩ = some (.int .u32 a0_7) := (blk_cell BK701.out 7).trans rfl
                                  have hcz58_8 : wc.cell? ⟨gb701, 8, none⟩ = some (.bool true) := (blk_cell BK701.out 8).trans rfl
                                  have hcz58_9 : wc.cell? ⟨gb701, 9, none⟩ = some (.bool true) := (blk_cell BK701.out 9).trans rfl
                                  have hfz58_0 := blk_frozen BK701.out 0
                                  have hfz58_1 := blk_frozen BK701.out 1
                                  have hfz58_2 := blk_frozen BK701.out 2
                                  have hfz58_3 := blk_frozen BK701.out 3
                                  have hfz58_4 := blk_frozen BK701.out 4
                                  have hfz58_5 := blk_frozen BK701.out 5
                                  have hfz58_6 := blk_frozen BK701.out 6
                                  have hfz58_7 := blk_frozen BK701.out 7
                                  have hfz58_8 := blk_frozen BK701.out 8
                                  have hfz58_9 := blk_frozen BK701.out 9
                                  go_wp2_with (first | ((with_reducible refine gate_builtin (b := .append) (xs := #[.tmp 59, .tmp 61]) rfl ?_); at_builtin; refine Kd.S_append k55 (w0 := w) w.heap.size rfl (.tmp 59) (.tmp 61) 58 55 (.agg #[(.int .i64 0), (.slice none 0 0)]) 32 rfl Try.underlying58 info55 rfl (by decide) (by omega) u3 x3_44 (⟨7, ([] : List Int)⟩ : S55) [.int .i64 7, .slice none 0 0] (fun _ => True) (fun _ => False) rfl rfl ?aP (fun k_ hk_ => hk_.elim) ?aF ?aO ?aB ?aS ?aL ?_; (case aP => exact k55_mkM _ _ _ (⟨7, ([] : List Int)⟩ : S55) (Kd.R_nil _ _ _ _ _)); (case aB => exact (by exact HB.out)); (case aF => exact (fun _ _ => trivial)); (case aO => exact (by exact Kd.S_mono HO_3.out (fun k_ hk => ⟨trivial, fun e_ => e_⟩))); (case aS => exact (below_size (by exact HB.out))); (case aL => have := LMc55.out; omega); intro v739 w59 ho hb hg hat; rw [← Ny738.out] at ho; have n0_ := Aside0.mk (blk_grown (g := gb701) (o := .cells #[.bool a0_0, .int .i64 a0_1, .bool a0_2, .int .u32 a0_3, .int .i64 a0_4, .bool a0_5, .bool a0_6, .int .u32 a0_7, .bool true, .bool true] 61 (0, 0)) (by exact BK701.out) hg (Kd.S_ne HO_3.out BK701.out (by decide))); have n1_ := Aside0.mk (hb); have n2_ := Aside0.mk (ho); clear BK701; clear HB; clear HO_3; have BK701 := n0_; have HB := n1_; have HO740 := n2_; clear n0_ n1_ n2_; clear ho hb hg hat; have hcz60_0 : w59.cell? ⟨gb701, 0, none⟩ = some (.bool a0_0) := (blk_cell BK701.out 0).trans rfl; have hcz60_1 : w59.cell? ⟨gb701, 1, none⟩ = some (.int .i64 a0_1) := (blk_cell BK701.out 1).trans rfl; have hcz60_2 : w59.cell? ⟨gb701, 2, none⟩ = some (.bool a0_2) := (blk_cell BK701.out 2).trans rfl; have hcz60_3 : w59.cell? ⟨gb701, 3, none⟩ = some (.int .u32 a0_3) := (blk_cell BK701.out 3).trans rfl; have hcz60_4 : w59.cell? ⟨gb701, 4, none⟩ = some (.int .i64 a0_4) := (blk_cell BK701.out 4).trans rfl; have hcz60_5 : w59.cell? ⟨gb701, 5, none⟩ = some (.bool a0_5) := (blk_cell BK701.out 5).trans rfl; have hcz60_6 : w59.cell? ⟨gb701, 6, none⟩ = some (.bool a0_6) := (blk_cell BK701.out 6).trans rfl; have hcz60_7 : w59.cell? ⟨gb701, 7, none⟩ = some (.int .u32 a0_7) := (blk_cell BK701.out 7).trans rfl; have hcz60_8 : w59.cell? ⟨gb701, 8, none⟩ = some (.bool true) := (blk_cell BK701.out 8).trans rfl; have hcz60_9 : w59.cell? ⟨gb701, 9, none⟩ = some (.bool true) := (blk_cell BK701.out 9).trans rfl; have hfz60_0 := blk_frozen BK701.out 0; have hfz60_1 := blk_frozen BK701.out 1; have hfz60_2 := blk_frozen BK701.out 2; have hfz60_3 := blk_frozen BK701.out 3; have hfz60_4 := blk_frozen BK701.out 4; have hfz60_5 := blk_frozen BK701.out 5; have hfz60_6 := blk_frozen BK701.out 6; have hfz60_7 := blk_frozen BK701.out 7; have hfz60_8 := blk_frozen BK701.out 8; have hfz60_9 := blk_frozen BK701.out 9) | ((with_reducible refine gate_builtin (b := .append) (xs := #[.tmp 65, .tmp 67]) rfl ?_); at_builtin; refine Kd.S_append k55 (w0 := w) w.heap.size rfl (.tmp 65) (.tmp 67) 58 55 (.agg #[(.int .i64 0), (.slice none 0 0)]) 32 rfl Try.underlying58 info55 rfl (by decide) (by omega) v739 y738 (⟨8, ([] : List Int)⟩ : S55) [.int .i64 8, .slice none 0 0] (fun _ => True) (fun _ => False) rfl rfl ?aP (fun k_ hk_ => hk_.elim) ?aF ?aO ?aB ?aS ?aL ?_; (case aP => exact k55_mkM _ _ _ (⟨8, ([] : List Int)⟩ : S55) (Kd.R_nil _ _ _ _ _)); (case aB => exact (by exact HB.out)); (case aF => exact (fun _ _ => trivial)); (case aO => exact (by exact Kd.S_mono HO740.out (fun k_ hk => ⟨trivial, fun e_ => e_⟩))); (case aS => exact (below_size (by exact HB.out))); (case aL => have := LMc57.out; omega); intro v742 w61 ho hb hg hat; rw [← Ny741.out] at ho; have n0_ := Aside0.mk (blk_grown (g := gb701) (o := .cells #[.bool a0_0, .int .i64 a0_1, .bool a0_2, .int .u32 a0_3, .int .i64 a0_4, .bool a0_5, .bool a0_6, .int .u32 a0_7, .bool true, .bool true] 61 (0, 0)) (by exact BK701.out) hg (Kd.S_ne HO740.out BK701.out (by decide))); have n1_ := Aside0.mk (hb); have n2_ := Aside0.mk (ho); clear BK701; clear HB; clear HO740; have BK701 := n0_; have HB := n1_; have HO743 := n2_; clear n0_ n1_ n2_; clear ho hb hg hat))
                                  go_ret
                                  exact ⟨_, by (rfl), by exact HO743.out, by exact HB.out⟩
                                · rw [if_neg c57] at H
                                  exact absurd H (by simp)
                              · replace c56 := Bool.eq_false_iff.mpr c56
                                subst c56
                                have H1 : (some y738) = some r := by rw [if_neg (show ¬ (false = true) by decide)] at H; exact H
                                clear H
                                have H := H1
                                clear H1
                                obtain rfl := Option.some.inj H
                                have hcz62_0 : wc.cell? ⟨gb701, 0, none⟩ = some (.bool a0_0) := (blk_cell BK701.out 0).trans rfl
                                have hcz62_1 : wc.cell? ⟨gb701, 1, none⟩ = some (.int .i64 a0_1) := (blk_cell BK701.out 1).trans rfl
                                have hcz62_2 : wc.cell? ⟨gb701, 2, none⟩ = some (.bool a0_2) := (blk_cell BK701.out 2).trans rfl
                                have hcz62_3 : wc.cell? ⟨gb701, 3, none⟩ = some (.int .u32 a0_3) := (blk_cell BK701.out 3).trans rfl
                                have hcz62_4 : wc.cell? ⟨gb701, 4, none⟩ = some (.int .i64 a0_4) := (blk_cell BK701.out 4).trans rfl
                                have hcz62_5 : wc.cell? ⟨gb701, 5, none⟩ = some (.bool a0_5) := (blk_cell BK701.out 5).trans rfl
                                have hcz62_6 : wc.cell? ⟨gb701, 6, none⟩ = some (.bool a0_6) := (blk_cell BK701.out 6).trans rfl
                                have hcz62_7 : wc.cell? ⟨gb701, 7, none⟩ = some (.int .u32 a0_7) := (blk_cell BK701.out 7).trans rfl
                                have hcz62_8 : wc.cell? ⟨gb701, 8, none⟩ = some (.bool true) := (blk_cell BK701.out 8).trans rfl
                                have hcz62_9 : wc.cell? ⟨gb701, 9, none⟩ = some (.bool false) := (blk_cell BK701.out 9).trans rfl
                                have hfz62_0 := blk_frozen BK701.out 0
                                have hfz62_1 := blk_frozen BK701.out 1
                                have hfz62_2 := blk_frozen BK701.out 2
                                have hfz62_3 := blk_frozen BK701.out 3
                                have hfz62_4 := blk_frozen BK701.out 4
                                have hfz62_5 := blk_frozen BK701.out 5
                                have hfz62_6 := blk_frozen BK701.out 6
                                have hfz62_7 := blk_frozen BK701.out 7
                                have hfz62_8 := blk_frozen BK701.out 8
                                have hfz62_9 := blk_frozen BK701.out 9
                                go_wp2_with (first | ((with_reducible refine gate_builtin (b := .append) (xs := #[.tmp 59, .tmp 61]) rfl ?_); at_builtin; refine Kd.S_append k55 (w0 := w) w.heap.size rfl (.tmp 59) (.tmp 61) 58 55 (.agg #[(.int .i64 0), (.slice none 0 0)]) 32 rfl Try.underlying58 info55 rfl (by decide) (by omega) u3 x3_44 (⟨7, ([] : List Int)⟩ : S55) [.int .i64 7, .slice none 0 0] (fun _ => True) (fun _ => False) rfl rfl ?aP (fun k_ hk_ => hk_.elim) ?aF ?aO ?aB ?aS ?aL ?_; (case aP => exact k55_mkM _ _ _ (⟨7, ([] : List Int)⟩ : S55) (Kd.R_nil _ _ _ _ _)); (case aB => exact (by exact HB.out)); (case aF => exact (fun _ _ => trivial)); (case aO => exact (by exact Kd.S_mono HO_3.out (fun k_ hk => ⟨trivial, fun e_ => e_⟩))); (case aS => exact (below_size (by exact HB.out))); (case aL => have := LMc55.out; omega); intro v739 w63 ho hb hg hat; rw [← Ny738.out] at ho; have n0_ := Aside0.mk (blk_grown (g := gb701) (o := .cells #[.bool a0_0, .int .i64 a0_1, .bool a0_2, .int .u32 a0_3, .int .i64 a0_4, .bool a0_5, .bool a0_6, .int .u32 a0_7, .bool true, .bool false] 61 (0, 0)) (by exact BK701.out) hg (Kd.S_ne HO_3.out BK701.out (by decide))); have n1_ := Aside0.mk (hb); have n2_ := Aside0.mk (ho); clear BK701; clear HB; clear HO_3; have BK701 := n0_; have HB := n1_; have HO740 := n2_; clear n0_ n1_ n2_; clear ho hb hg hat; have hcz64_0 : w63.cell? ⟨gb701, 0, none⟩ = some (.bool a0_0) := (blk_cell BK701.out 0).trans rfl; have hcz64_1 : w63.cell? ⟨gb701, 1, none⟩ = some (.int .i64 a0_1) := (blk_cell BK701.out 1).trans rfl; have hcz64_2 : w63.cell? ⟨gb701, 2, none⟩ = some (.bool a0_2) := (blk_cell BK701.out 2).trans rfl; have hcz64_3 : w63.cell? ⟨gb701, 3, none⟩ = some (.int .u32 a0_3) := (blk_cell BK701.out 3).trans rfl; have hcz64_4 : w63.cell? ⟨gb701, 4, none⟩ = some (.int .i64 a0_4) := (blk_cell BK701.out 4).trans rfl; have hcz64_5 : w63.cell? ⟨gb701, 5, none⟩ = some (.bool a0_5) := (blk_cell BK701.out 5).trans rfl; have hcz64_6 : w63.cell? ⟨gb701, 6, none⟩ = some (.bool a0_6) := (blk_cell BK701.out 6).trans rfl; have hcz64_7 : w63.cell? ⟨gb701, 7, none⟩ = some (.int .u32 a0_7) := (blk_cell BK701.out 7).trans rfl; have hcz64_8 : w63.cell? ⟨gb701, 8, none⟩ = some (.bool true) := (blk_cell BK701.out 8).trans rfl; have hcz64_9 : w63.cell? ⟨gb701, 9, none⟩ = some (.bool false) := (blk_cell BK701.out 9).trans rfl; have hfz64_0 := blk_frozen BK701.out 0; have hfz64_1 := blk_frozen BK701.out 1; have hfz64_2 := blk_frozen BK701.out 2; have hfz64_3 := blk_frozen BK701.out 3; have hfz64_4 := blk_frozen BK701.out 4; have hfz64_5 := blk_frozen BK701.out 5; have hfz64_6 := blk_frozen BK701.out 6; have hfz64_7 := blk_frozen BK701.out 7; have hfz64_8 := blk_frozen BK701.out 8; have hfz64_9 := blk_frozen BK701.out 9))
                                go_ret
                                exact ⟨_, by (rfl), by exact HO740.out, by exact HB.out⟩
                            · rw [if_neg c55] at H
                              exact absurd H (by simp)
                          · replace c54 := Bool.eq_false_iff.mpr c54
                            subst c54
                            have H1 : (if a0_9 = true then (if x3_44.length < 4398046511104 then (some (x3_44 ++ [(⟨8, ([] : List Int)⟩ : S55)])) else (none)) else (some x3_44)) = some r := by rw [if_neg (show ¬ (false = true) by decide)] at H; exact H
                            clear H
                            have H := H1
                            clear H1
                            by_cases c65 : a0_9 = true
                            · subst c65
                              have H1 : (if x3_44.length < 4398046511104 then (some (x3_44 ++ [(⟨8, ([] : List Int)⟩ : S55)])) else (none)) = some r := by rw [if_pos rfl] at H; exact H
                              clear H
                              have H := H1
                              clear H1
                              by_cases c66 : x3_44.length < 4398046511104
                              · rw [if_pos c66] at H
                                have LMc66 := Aside0.mk c66
                                clear c66
                                obtain ⟨y744, hy744⟩ : ∃ y_ : List (S55), y_ = (x3_44 ++ [(⟨8, ([] : List Int)⟩ : S55)]) := ⟨_, rfl⟩
                                replace H : (some y744) = some r := by (rw [hy744]; with_reducible exact H)
                                have Ny744 := Aside0.mk hy744
                                clear hy744
                                obtain rfl := Option.some.inj H
                                have hcz67_0 : wc.cell? ⟨gb701, 0, none⟩ = some (.bool a0_0) := (blk_cell BK701.out 0).trans rfl
                                have hcz67_1 : wc.cell? ⟨gb701, 1, none⟩ = some (.int .i64 a0_1) := (blk_cell BK701.out 1).trans rfl
                                have hcz67_2 : wc.cell? ⟨gb701, 2, none⟩ = some (.bool a0_2) := (blk_cell BK701.out 2).trans rfl
                                have hcz67_3 : wc.cell? ⟨gb701, 3, none⟩ = some (.int .u32 a0_3) := (blk_cell BK701.out 3).trans rfl
                                have hcz67_4 : wc.cell? ⟨gb701, 4, none⟩ = some (.int .i64 a0_4) := (blk_cell BK701.out 4).trans rfl
                                have hcz67_5 : wc.cell? ⟨gb701, 5, none⟩ = some (.bool a0_5) := (blk_cell BK701.out 5).trans rfl
                                have hcz67_6 : wc.cell? ⟨gb701, 6, none⟩ = some (.bool a0_6) := (blk_cell BK701.out 6).trans rfl
                                have hcz67_7 : wc.cell? ⟨gb701, 7, none⟩ = some (.int .u32 a0_7) := (blk_cell BK701.out 7).trans rfl
                                have hcz67_8 : wc.cell? ⟨gb701, 8, none⟩ = some (.bool false) := (blk_cell BK701.out 8).trans rfl
                                have hcz67_9 : wc.cell? ⟨gb701, 9, none⟩ = some (.bool true) := (blk_cell BK701.out 9).trans rfl
                                have hfz67_0 := blk_frozen BK701.out 0
                                have hfz67_1 := blk_frozen BK701.out 1
                                have hfz67_2 := blk_frozen BK701.out 2
                                have hfz67_3 := blk_frozen BK701.out 3
                                have hfz67_4 := blk_frozen BK701.out 4
                                have hfz67_5 := blk_frozen BK701.out 5
                                have hfz67_6 := blk_frozen BK701.out 6
                                have hfz67_7 := blk_frozen BK701.out 7
                                have hfz67_8 := blk_frozen BK701.out 8
                                have hfz67_9 := blk_frozen BK701.out 9
                                go_wp2_with (first | ((with_reducible refine gate_builtin (b := .append) (xs := #[.tmp 65, .tmp 67]) rfl ?_); at_builtin; refine Kd.S_append k55 (w0 := w) w.heap.size rfl (.tmp 65) (.tmp 67) 58 55 (.agg #[(.int .i64 0), (.slice none 0 0)]) 32 rfl Try.underlying58 info55 rfl (by decide) (by omega) u3 x3_44 (⟨8, ([] : List Int)⟩ : S55) [.int .i64 8, .slice none 0 0] (fun _ => True) (fun _ => False) rfl rfl ?aP (fun k_ hk_ => hk_.elim) ?aF ?aO ?aB ?aS ?aL ?_; (case aP => exact k55_mkM _ _ _ (⟨8, ([] : List Int)⟩ : S55) (Kd.R_nil _ _ _ _ _)); (case aB => exact (by exact HB.out)); (case aF => exact (fun _ _ => trivial)); (case aO => exact (by exact Kd.S_mono HO_3.out (fun k_ hk => ⟨trivial, fun e_ => e_⟩))); (case aS => exact (below_size (by exact HB.out))); (case aL => have := LMc66.out; omega); intro v745 w68 ho hb hg hat; rw [← Ny744.out] at ho; have n0_ := Aside0.mk (blk_grown (g := gb701) (o := .cells #[.bool a0_0, .int .i64 a0_1, .bool a0_2, .int .u32 a0_3, .int .i64 a0_4, .bool a0_5, .bool a0_6, .int .u32 a0_7, .bool false, .bool true] 61 (0, 0)) (by exact BK701.out) hg (Kd.S_ne HO_3.out BK701.out (by decide))); have n1_ := Aside0.mk (hb); have n2_ := Aside0.mk (ho); clear BK701; clear HB; clear HO_3; have BK701 := n0_; have HB := n1_; have HO746 := n2_; clear n0_ n1_ n2_; clear ho hb hg hat))
                                go_ret
                                exact ⟨_, by (rfl), by exact HO746.out, by exact HB.out⟩
                              · rw [if_neg c66] at H
                                exact absurd H (by simp)
                            · replace c65 := Bool.eq_false_iff.mpr c65
                              subst c65
                              have H1 : (some x3_44) = some r := by rw [if_neg (show ¬ (false = true) by decide)] at H; exact H
                              clear H
                              have H := H1
                              clear H1
                              obtain rfl := Option.some.inj H
                              have hcz69_0 : wc.cell? ⟨gb701, 0, none⟩ = some (.bool a0_0) := (blk_cell BK701.out 0).trans rfl
                              have hcz69_1 : wc.cell? ⟨gb701, 1, none⟩ = some (.int .i64 a0_1) := (blk_cell BK701.out 1).trans rfl
                              have hcz69_2 : wc.cell? ⟨gb701, 2, none⟩ = some (.bool a0_2) := (blk_cell BK701.out 2).trans rfl
                              have hcz69_3 : wc.cell? ⟨gb701, 3, none⟩ = some (.int .u32 a0_3) := (blk_cell BK701.out 3).trans rfl
                              have hcz69_4 : wc.cell? ⟨gb701, 4, none⟩ = some (.int .i64 a0_4) := (blk_cell BK701.out 4).trans rfl
                              have hcz69_5 : wc.cell? ⟨gb701, 5, none⟩ = some (.bool a0_5) := (blk_cell BK701.out 5).trans rfl
                              have hcz69_6 : wc.cell? ⟨gb701, 6, none⟩ = some (.bool a0_6) := (blk_cell BK701.out 6).trans rfl
                              have hcz69_7 : wc.cell? ⟨gb701, 7, none⟩ = some (.int .u32 a0_7) := (blk_cell BK701.out 7).trans rfl
                              have hcz69_8 : wc.cell? ⟨gb701, 8, none⟩ = some (.bool false) := (blk_cell BK701.out 8).trans rfl
                              have hcz69_9 : wc.cell? ⟨gb701, 9, none⟩ = some (.bool false) := (blk_cell BK701.out 9).trans rfl
                              have hfz69_0 := blk_frozen BK701.out 0
                              have hfz69_1 := blk_frozen BK701.out 1
                              have hfz69_2 := blk_frozen BK701.out 2
                              have hfz69_3 := blk_frozen BK701.out 3
                              have hfz69_4 := blk_frozen BK701.out 4
                              have hfz69_5 := blk_frozen BK701.out 5
                              have hfz69_6 := blk_frozen BK701.out 6
                              have hfz69_7 := blk_frozen BK701.out 7
                              have hfz69_8 := blk_frozen BK701.out 8
                              have hfz69_9 := blk_frozen BK701.out 9
                              go_wp2
                              go_ret
                              exact ⟨_, by (rfl), by exact HO_3.out, by exact HB.out⟩

end Go.Proofs.Ytnjimecjpnjojaa.Print
