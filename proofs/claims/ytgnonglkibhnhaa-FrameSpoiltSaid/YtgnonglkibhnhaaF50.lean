-- laid by this session's own program (wip/mkprint.sh) for this claim
import Derived.Test.Ytgnonglkibhnhaa0
namespace Go.Proofs.Ytgnonglkibhnhaa.Print
open Go.RowKit Go.Proofs.YtgnonglkibhnhaaW.PrintWords Go.Proofs.YtgnonglkibhnhaaW.PrintLast Go.Proofs.YtgnonglkibhnhaaW.PrintMore
attribute [local go_sem] max2_int min2_int max_two min_two max_three min_three max_four min_four   -- for this text's walks alone
set_option linter.unusedVariables false
set_option linter.unusedSimpArgs false

/-! ### fcs_table: function 50 -/
/-- One bit of the register goes out. -/
def fcs_table.bit (p x : Int) : Int := if Go.bits .and .u32 x 1 = 1 then Go.bits .xor .u32 (x / 2) p else x / 2
def fcs_table.bitn (p : Int) : Nat → Int → Int
  | 0, x => x
  | m + 1, x => fcs_table.bit p (fcs_table.bitn p m x)
def fcs_table.by (b : Bool) : Int := if b = true then 3988292384 else 33800
/-- A table that is filled as far as j. -/
structure fcs_table.Inv (w0 W : World) (B : Nat) (p : Int) (j : Nat) : Prop where mk :: (out : ∃ cs : Array Value, W.heap[B]? = some (.cells cs 72 (0, 0)) ∧ cs.size = 256 ∧ (∀ i : Nat, i < j → cs[i]? = some (.int .u32 (fcs_table.bitn p 8 (i : Int)))) ∧ Below w0.heap.size w0 W ∧ w0.heap.size ≤ B)
theorem fcs_table.zero (w : World) : (zeroValue 72).run Try.prog w = .ok (.agg (Array.replicate 256 (.int .u32 0))) w := by kernel_rfl
theorem fcs_table.start (w : World) (p : Int) : fcs_table.Inv w (w.alloc (.cells (Array.replicate 256 (.int .u32 0)) 72)) w.heap.size p 0 :=
  ⟨⟨_, heap_alloc_new w _, Array.size_replicate, (fun i hi => absurd hi (Nat.not_lt_zero i)), below_alloc (Below.refl _ _) _, Nat.le_refl _⟩⟩
theorem fcs_table.next {w0 W : World} {B : Nat} {p : Int} {j : Nat} (hj : j < 256) (h : fcs_table.Inv w0 W B p j) : fcs_table.Inv w0 (W.setCell ⟨B, j, none⟩ (.int .u32 (fcs_table.bitn p 8 (j : Int)))) B p (j + 1) := by
  obtain ⟨cs, h1, h2, h3, h4, h5⟩ := h.out
  refine ⟨⟨_, blk_set h1 j _, by simpa using h2, ?_, below_set h4 h5, h5⟩⟩
  intro i hi
  rw [Array.getElem?_setIfInBounds]
  split
  · rename_i e
    subst e
    split
    · rfl
    · rename_i hn
      exact absurd (show j < cs.size by omega) hn
  · rename_i e
    exact h3 i (by omega)
theorem fcs_table.cell {w0 W : World} {B : Nat} {p : Int} {j : Nat} (hj : j < 256) (h : fcs_table.Inv w0 W B p j) : ∃ c, W.cell? ⟨B, j, none⟩ = some c ∧ W.frozen? ⟨B, j, none⟩ = false := by
  obtain ⟨cs, h1, h2, h3, h4, h5⟩ := h.out
  exact ⟨_, (blk_cell h1 j).trans (Array.getElem?_eq_getElem (by omega)), blk_frozen h1 j⟩
theorem fcs_table.bitn_one (p : Int) (m : Nat) (x : Int) (h : Go.bits .and .u32 (fcs_table.bitn p m x) 1 = 1) : fcs_table.bitn p (m + 1) x = Go.bits .xor .u32 (fcs_table.bitn p m x / 2) p := by
  rw [fcs_table.bitn, fcs_table.bit, if_pos h]
theorem fcs_table.bitn_no (p : Int) (m : Nat) (x : Int) (h : ¬ Go.bits .and .u32 (fcs_table.bitn p m x) 1 = 1) : fcs_table.bitn p (m + 1) x = fcs_table.bitn p m x / 2 := by
  rw [fcs_table.bitn, fcs_table.bit, if_neg h]
set_option maxHeartbeats 8000000 in
set_option maxRecDepth 100000 in
theorem fcs_table.calls (b : Bool) (w : World) :
    Calls Try.prog 50 #[.bool b] w fun e w' => ∃ B : Nat, e = .returned (.pointer (some ⟨B, 0, none⟩)) ∧ fcs_table.Inv w w' B (fcs_table.by b) 256 := by
  cases b with
  | true =>
    have hby : fcs_table.by true = 3988292384 := rfl
    rw [hby]
    go_enter Try.func50, Try.ntmps50
    go_wp2
    rw [fcs_table.zero]
    go_wp2
    go_loopg [9] 256 (fun kq v9 w' => ∃ j : Nat, Aside0 (kq + j = 256) ∧ v9 = .int .i64 (j : Int) ∧ Aside0 (fcs_table.Inv w w' w.heap.size 3988292384 j))
    case atStart => exact ⟨0, ⟨rfl⟩, rfl, ⟨fcs_table.start w _⟩⟩
    case round =>
      obtain ⟨j, HJ, rfl, HI⟩ := hrel
      have hj := HJ.out
      by_cases hlt : j < 256
      · obtain ⟨k1, rfl⟩ : ∃ k1, gk = k1 + 1 := ⟨gk - 1, by omega⟩
        have hjc : (j : Int) < 256 := by omega
        go_wp2
        go_loopg [14, 6] 8 (fun kq v14 v6 w'' => ∃ m : Nat, Aside0 (kq + m = 8) ∧ v14 = .int .i64 (m : Int) ∧ v6 = .int .u32 (fcs_table.bitn 3988292384 m (j : Int)) ∧ Aside0 (fcs_table.Inv w w'' w.heap.size 3988292384 j))
        case atStart => exact ⟨0, ⟨rfl⟩, rfl, rfl, HI⟩
        case round =>
          obtain ⟨m, HM, rfl, rfl, HI⟩ := hrel
          have hm := HM.out
          by_cases hmt : m < 8
          · obtain ⟨k2, rfl⟩ : ∃ k2, gk = k2 + 1 := ⟨gk - 1, by omega⟩
            have hmc : (m : Int) < 8 := by omega
            by_cases hb : Go.bits .and .u32 (fcs_table.bitn 3988292384 m (j : Int)) 1 = 1
            · go_wp2
              go_roundg k2
              case measure => omega
              case rel => exact ⟨m + 1, ⟨by omega⟩, by go_num, (by rw [fcs_table.bitn_one _ _ _ hb]), HI⟩
            · go_wp2
              go_roundg k2
              case measure => omega
              case rel => exact ⟨m + 1, ⟨by omega⟩, by go_num, (by rw [fcs_table.bitn_no _ _ _ hb]), HI⟩
          · have hmc : ¬ (m : Int) < 8 := by omega
            obtain rfl : m = 8 := by omega
            obtain ⟨c, hcell, hfr⟩ := fcs_table.cell hlt HI.out
            have HN := Aside0.mk (fcs_table.next hlt HI.out)
            go_wp2
            go_roundg k1
            case measure => omega
            case rel => exact ⟨j + 1, ⟨by omega⟩, by go_num, HN⟩
      · have hjc : ¬ (j : Int) < 256 := by omega
        go_wp2
        go_ret
        obtain rfl : j = 256 := by omega
        exact ⟨_, rfl, HI.out⟩
  | false =>
    have hby : fcs_table.by false = 33800 := rfl
    rw [hby]
    go_enter Try.func50, Try.ntmps50
    go_wp2
    rw [fcs_table.zero]
    go_wp2
    go_loopg [9] 256 (fun kq v9 w' => ∃ j : Nat, Aside0 (kq + j = 256) ∧ v9 = .int .i64 (j : Int) ∧ Aside0 (fcs_table.Inv w w' w.heap.size 33800 j))
    case atStart => exact ⟨0, ⟨rfl⟩, rfl, ⟨fcs_table.start w _⟩⟩
    case round =>
      obtain ⟨j, HJ, rfl, HI⟩ := hrel
      have hj := HJ.out
      by_cases hlt : j < 256
      · obtain ⟨k1, rfl⟩ : ∃ k1, gk = k1 + 1 := ⟨gk - 1, by omega⟩
        have hjc : (j : Int) < 256 := by omega
        go_wp2
        go_loopg [14, 6] 8 (fun kq v14 v6 w'' => ∃ m : Nat, Aside0 (kq + m = 8) ∧ v14 = .int .i64 (m : Int) ∧ v6 = .int .u32 (fcs_table.bitn 33800 m (j : Int)) ∧ Aside0 (fcs_table.Inv w w'' w.heap.size 33800 j))
        case atStart => exact ⟨0, ⟨rfl⟩, rfl, rfl, HI⟩
        case round =>
          obtain ⟨m, HM, rfl, rfl, HI⟩ := hrel
          have hm := HM.out
          by_cases hmt : m < 8
          · obtain ⟨k2, rfl⟩ : ∃ k2, gk = k2 + 1 := ⟨gk - 1, by omega⟩
            have hmc : (m : Int) < 8 := by omega
            by_cases hb : Go.bits .and .u32 (fcs_table.bitn 33800 m (j : Int)) 1 = 1
            · go_wp2
              go_roundg k2
              case measure => omega
              case rel => exact ⟨m + 1, ⟨by omega⟩, by go_num, (by rw [fcs_table.bitn_one _ _ _ hb]), HI⟩
            · go_wp2
              go_roundg k2
              case measure => omega
              case rel => exact ⟨m + 1, ⟨by omega⟩, by go_num, (by rw [fcs_table.bitn_no _ _ _ hb]), HI⟩
          · have hmc : ¬ (m : Int) < 8 := by omega
            obtain rfl : m = 8 := by omega
            obtain ⟨c, hcell, hfr⟩ := fcs_table.cell hlt HI.out
            have HN := Aside0.mk (fcs_table.next hlt HI.out)
            go_wp2
            go_roundg k1
            case measure => omega
            case rel => exact ⟨j + 1, ⟨by omega⟩, by go_num, HN⟩
      · have hjc : ¬ (j : Int) < 256 := by omega
        go_wp2
        go_ret
        obtain rfl : j = 256 := by omega
        exact ⟨_, rfl, HI.out⟩

end Go.Proofs.Ytgnonglkibhnhaa.Print
