-- laid by this session's own program (wip/mkprint.sh) for this claim
import Derived.Test.Ytgnonglkibhnhaa0
import Derived.Test.YtgnonglkibhnhaaF29
namespace Go.Proofs.Ytgnonglkibhnhaa.Print
open Go.RowKit Go.Proofs.YtgnonglkibhnhaaW.PrintWords Go.Proofs.YtgnonglkibhnhaaW.PrintLast Go.Proofs.YtgnonglkibhnhaaW.PrintMore
attribute [local go_sem] max2_int min2_int max_two min_two max_three min_three max_four min_four   -- for this text's walks alone
set_option linter.unusedVariables false
set_option linter.unusedSimpArgs false

/-! ### slices_Concat_byte_byte: function 20 -/
def slices_Concat_byte_byte.f (l0 : List (List Int)) : Option (List Int) := if l0.flatten.length < 140737488355328 then some l0.flatten else none
def slices_Concat_byte_byte.tot (l : List (List Int)) (j : Nat) : Nat := (l.take j).flatten.length
def slices_Concat_byte_byte.pre (l : List (List Int)) (j : Nat) : List Int := (l.take j).flatten
theorem slices_Concat_byte_byte.take_next (l : List (List Int)) (j : Nat) (h : j < l.length) : slices_Concat_byte_byte.pre l (j + 1) = slices_Concat_byte_byte.pre l j ++ rd_L1 l (j : Int) := by
  unfold slices_Concat_byte_byte.pre rd_L1
  rw [List.take_succ_eq_append_getElem h, List.flatten_append]
  simp [h]
theorem slices_Concat_byte_byte.tot_next (l : List (List Int)) (j : Nat) (h : j < l.length) : slices_Concat_byte_byte.tot l (j + 1) = slices_Concat_byte_byte.tot l j + (rd_L1 l (j : Int)).length := by
  have := congrArg List.length (slices_Concat_byte_byte.take_next l j h)
  rw [List.length_append] at this
  exact this
theorem slices_Concat_byte_byte.tot_all (l : List (List Int)) (j : Nat) (h : j = l.length) : slices_Concat_byte_byte.tot l j = l.flatten.length := by
  unfold slices_Concat_byte_byte.tot
  rw [List.take_of_length_le (by omega)]
theorem slices_Concat_byte_byte.tot_le (l : List (List Int)) (j : Nat) : slices_Concat_byte_byte.tot l j ≤ l.flatten.length := by
  unfold slices_Concat_byte_byte.tot
  conv => rhs; rw [← List.take_append_drop j l, List.flatten_append, List.length_append]
  omega
set_option maxHeartbeats 8000000 in
set_option maxRecDepth 100000 in
theorem slices_Concat_byte_byte.calls (A0 : Option Addr) (c0 : Nat) (l0 : List (List Int)) (r : List Int) (w : World) (hr0 : Kd.C (Kd.slice 5 (Kd.int .u8)) w A0 l0.length l0) (hc0 : l0.length ≤ c0) (h : slices_Concat_byte_byte.f l0 = some r) :
    Calls Try.prog 20 #[.slice A0 l0.length c0] w fun e w' => ∃ v0_ : Value, e = .returned (v0_) ∧ Kd.R (Kd.int .u8) 5 w' w.heap.size (fun _ => True) v0_ r ∧ Below w.heap.size w w' := by
  obtain ⟨hl, rfl⟩ : l0.flatten.length < 140737488355328 ∧ l0.flatten = r := by
    unfold slices_Concat_byte_byte.f at h
    split at h
    · exact ⟨by assumption, Option.some.inj h⟩
    · cases h
  have HR0 := Aside0.mk hr0
  have HC0 := Aside0.mk hc0
  have HB := Aside0.mk (Below.refl w.heap.size w)
  have HL := Aside0.mk hl
  have HN := Aside0.mk hr0.2.1
  clear h hl hr0 hc0
  go_enter Try.func20, Try.ntmps20
  go_wp2
  go_loop [3, 11] (fun v3 v11 => ∃ j : Nat, j ≤ l0.length ∧ v11 = .int .i64 (j : Int) ∧ v3 = .int .i64 (slices_Concat_byte_byte.tot l0 j : Int)) (fun _ v11 => l0.length - (intOf v11).toNat)
  case atStart => exact ⟨0, Nat.zero_le _, rfl, rfl⟩
  case round =>
    obtain ⟨j, hj, rfl, rfl⟩ := hrel
    have ht := Nat.lt_of_le_of_lt (slices_Concat_byte_byte.tot_le l0 j) HL.out
    have hn := HN.out
    by_cases hlt : j < l0.length
    · have p304 : 0 ≤ (j : Int) := by omega
      have q304 : (j : Int) < (l0.length : Int) := by omega
      obtain ⟨ad304, A304_0, c304_0, e304, hx304_0, hl304_0, hi304_0⟩ := at_L1 HR0.out (j : Int) p304 q304
      cases e304
      simp only [Int.toNat_natCast] at hx304_0
      have hs := slices_Concat_byte_byte.tot_next l0 j hlt
      have ht2 := Nat.lt_of_le_of_lt (slices_Concat_byte_byte.tot_le l0 (j + 1)) HL.out
      have hW : wrap64 ((slices_Concat_byte_byte.tot l0 j : Int) + ((rd_L1 l0 (j : Int)).length : Int)) = (slices_Concat_byte_byte.tot l0 j : Int) + ((rd_L1 l0 (j : Int)).length : Int) := by
        unfold wrap64
        omega
      have hneg : decide (wrap64 ((slices_Concat_byte_byte.tot l0 j : Int) + ((rd_L1 l0 (j : Int)).length : Int)) < 0) = false := by
        rw [hW]
        exact decide_eq_false (by omega)
      have HS := Aside0.mk hs
      have HW := Aside0.mk hW
      clear hs ht ht2 hW
      go_wp2
      go_round
      case rel => exact ⟨j + 1, by omega, by go_num, by rw [HS.out, HW.out]; go_num⟩
      case measure => simp [intOf]; omega
    · have ht' := slices_Concat_byte_byte.tot_all l0 j (by omega)
      have HT := Aside0.mk ht'
      clear ht' ht
      have hg := Nat.lt_of_le_of_lt (slices_Concat_byte_byte.tot_le l0 j) HL.out
      obtain rfl : j = l0.length := by omega
      clear hlt hj hn
      go_wp2_with fail
      refine (slices_Grow_byte_byte.calls_nil (slices_Concat_byte_byte.tot l0 l0.length) _ hg).mono ?_
      rintro e w1 ⟨v6_, rfl, hR6, hB6⟩
      clear hg
      have HO_6 := Aside0.mk hR6
      have HB1 := Aside0.mk hB6
      clear hR6 hB6 HB
      go_wp2
      go_loopg [6, 27] l0.length (fun kq v6 v27 w' => ∃ j : Nat, Aside0 (kq + j = l0.length) ∧ v27 = .int .i64 (j : Int) ∧ Aside0 (Kd.R (Kd.int .u8) 5 w' w.heap.size (fun _ => True) v6 (slices_Concat_byte_byte.pre l0 j)) ∧ Aside0 (Below w.heap.size w w'))
      case atStart => exact ⟨0, ⟨rfl⟩, rfl, HO_6, HB1⟩
      case round =>
        obtain ⟨j, HJ, rfl, HO_3, HB⟩ := hrel
        have hj := HJ.out
        have hn := HN.out
        have hjl : j ≤ l0.length := by omega
        by_cases hlt : j < l0.length
        · obtain ⟨k1, rfl⟩ : ∃ k1, gk = k1 + 1 := ⟨gk - 1, by omega⟩
          have p304 : 0 ≤ (j : Int) := by omega
          have q304 : (j : Int) < (l0.length : Int) := by omega
          obtain ⟨ad304, A304_0, c304_0, e304, hx304_0, hl304_0, hi304_0⟩ := at_L1 HR0.out (j : Int) p304 q304
          cases e304
          simp only [Int.toNat_natCast] at hx304_0
          replace hx304_0 := (HB.out.cell (World.block_lt_of_cell? w _ hx304_0)).trans hx304_0
          have HR304_0 := Aside0.mk hi304_0
          have HS := Aside0.mk (slices_Concat_byte_byte.take_next l0 j hlt)
          have LM : Aside0 ((slices_Concat_byte_byte.pre l0 j).length + (rd_L1 l0 (j : Int)).length < 140737488355328) := ⟨by
            have h1 := slices_Concat_byte_byte.tot_next l0 j hlt
            have h2 := Nat.lt_of_le_of_lt (slices_Concat_byte_byte.tot_le l0 (j + 1)) HL.out
            unfold slices_Concat_byte_byte.tot at h1 h2
            unfold slices_Concat_byte_byte.pre
            omega⟩
          clear hi304_0 hl304_0 hj
          go_wp2_with (((with_reducible refine gate_builtin (b := .append) (xs := #[.tmp 31, .tmp 32]) rfl ?_); at_builtin; refine Kd.R_append_rows (Kd.int .u8) (w0 := w) w.heap.size rfl (.tmp 31) (.tmp 32) 26 5 (.int .u8 0) 1 rfl Try.underlying26 info5 rfl (by decide) (by omega) u6 (slices_Concat_byte_byte.pre l0 j) (rd_L1 l0 (j : Int)) _ _ _ (fun _ => True) (fun _ => False) rfl rfl ?aO ?aR (fun _ _ h => h) (fun _ h => h.elim) ?aF ?aB ?aS ?aL ?_; (case aR => exact (Kd.C_below HR304_0.out HB.out)); (case aB => exact HB.out); (case aF => exact (fun _ _ => trivial)); (case aO => exact HO_3.out); (case aS => exact below_size HB.out); (case aL => have := LM.out; omega); intro v306 w5 ho hb hg hat; rw [← HS.out] at ho; have n0_ := Aside0.mk (hb); have n1_ := Aside0.mk (ho); clear HB; clear HO_3; have HB := n0_; have HO307 := n1_; clear n0_ n1_; clear ho hb hg hat))
          go_roundg k1
          case measure => omega
          case rel => exact ⟨j + 1, ⟨by have := HJ.out; omega⟩, by go_num, HO307, HB⟩
        · have hp : slices_Concat_byte_byte.pre l0 j = l0.flatten := by
            unfold slices_Concat_byte_byte.pre
            rw [List.take_of_length_le (by omega)]
          have HP := Aside0.mk hp
          clear hp hj
          go_wp2
          go_ret
          exact ⟨_, rfl, by rw [← HP.out]; exact HO_3.out, HB.out⟩

end Go.Proofs.Ytgnonglkibhnhaa.Print
