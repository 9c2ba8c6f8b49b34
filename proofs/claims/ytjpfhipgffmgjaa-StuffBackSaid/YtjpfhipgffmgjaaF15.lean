-- laid by this session's own program (wip/mkprint.sh) for this claim
import Derived.Test.Ytjpfhipgffmgjaa0
import Derived.Test.YtjpfhipgffmgjaaF36
namespace Go.Proofs.Ytjpfhipgffmgjaa.Print
open Go.RowKit Go.Proofs.YtjpfhipgffmgjaaW.PrintWords Go.Proofs.YtjpfhipgffmgjaaW.PrintLast Go.Proofs.YtjpfhipgffmgjaaW.PrintMore
attribute [local go_sem] max2_int min2_int max_two min_two max_three min_three max_four min_four   -- for this text's walks alone
set_option linter.unusedVariables false
set_option linter.unusedSimpArgs false

/-! ### stuff_Size: function 15 -/
def stuff_Size.piece (m c : Int) : List Int := if (accm_Apart.f m c).getD false = true then [125, Go.bits .xor .u8 c 32] else [c]
def stuff_Size.pre (m : Int) (l : List Int) (j : Nat) : List Int := ((l.take j).map (stuff_Size.piece m)).flatten
def stuff_Size.f (l0 : List Int) (a1 : Int) : Option Int := if (l0.all fun c => (accm_Apart.f a1 c).isSome) = true ∧ (l0.map (stuff_Size.piece a1)).flatten.length < 140737488355328 then some ((l0.map (stuff_Size.piece a1)).flatten.length : Int) else none
theorem stuff_Size.pre_next (m : Int) (l : List Int) (j : Nat) (h : j < l.length) : stuff_Size.pre m l (j + 1) = stuff_Size.pre m l j ++ stuff_Size.piece m (rd l (j : Int)) := by
  unfold stuff_Size.pre rd
  rw [List.take_succ_eq_append_getElem h, List.map_append, List.flatten_append]
  simp [h]
theorem stuff_Size.pre_le (m : Int) (l : List Int) (j : Nat) : (stuff_Size.pre m l j).length ≤ (l.map (stuff_Size.piece m)).flatten.length := by
  unfold stuff_Size.pre
  conv => rhs; rw [← List.take_append_drop j l, List.map_append, List.flatten_append, List.length_append]
  omega
theorem stuff_Size.pre_all (m : Int) (l : List Int) (j : Nat) (h : l.length ≤ j) : stuff_Size.pre m l j = (l.map (stuff_Size.piece m)).flatten := by
  unfold stuff_Size.pre
  rw [List.take_of_length_le h]
/-- How many were handed out so far, in the variable that is captured. -/
structure stuff_Size.Inv (w0 W : World) (B : Nat) (acc : List Int) : Prop where mk :: (out : ∃ v : Nat, W.heap[B]? = some (.cells #[.int .i64 (acc.length : Int)] 3 (0, 0)) ∧ v = 0 ∧ Below w0.heap.size w0 W ∧ w0.heap.size ≤ B)
theorem stuff_Size.Inv.drewN {w0 W : World} {B : Nat} {acc : List Int} (h : stuff_Size.Inv w0 W B acc) (n : Nat) : stuff_Size.Inv w0 (W.drewN n) B acc := by
  obtain ⟨v, h1, h2, h3, h4⟩ := h.out
  exact ⟨⟨v, h1, h2, pw_below_drewN h3 n, h4⟩⟩
set_option maxHeartbeats 8000000 in
set_option maxRecDepth 100000 in
theorem stuff_Size.put (w0 W : World) (B : Nat) (acc : List Int) (c : Int) (hI : stuff_Size.Inv w0 W B acc) (hl : acc.length + 1 < 140737488355328) :
    Calls Try.prog 31 #[.int .u8 c, .pointer (some ⟨B, 0, none⟩)] W fun e w' => e = .returned (.tuple #[]) ∧ stuff_Size.Inv w0 w' B (acc ++ [c]) := by
  obtain ⟨v, hblk, hR, hB, hBg⟩ := hI.out
  have hcell : W.cell? ⟨B, 0, none⟩ = some (.int .i64 (acc.length : Int)) := blk_cell hblk 0
  have hfr : W.frozen? ⟨B, 0, none⟩ = false := blk_frozen hblk 0
  have hW : wrap64 ((acc.length : Int) + 1) = ((acc ++ [c]).length : Int) := by
    rw [List.length_append]
    unfold wrap64
    simp only [List.length_cons, List.length_nil]
    omega
  have HBK := Aside0.mk hblk
  have HB := Aside0.mk hB
  have HG := Aside0.mk hBg
  have HW := Aside0.mk hW
  clear hI hblk hR hB hBg hl hW
  go_enter Try.func31, Try.ntmps31
  go_wp2
  go_end0
  refine ⟨rfl, ⟨⟨0, ?_, rfl, below_set HB.out HG.out, HG.out⟩⟩⟩
  first | (rw [← HW.out]; exact blk_set HBK.out 0 _) | (rw [← HW.out]; simpa using blk_set HBK.out 0 (.int .i64 (wrap64 ((acc.length : Int) + 1))))
set_option maxHeartbeats 8000000 in
set_option maxRecDepth 100000 in
theorem stuff_Size.each (w0 W : World) (B : Nat) (A0 : Option Addr) (c0 : Nat) (l0 : List Int) (a1 : Int) (hr0 : Kd.C (Kd.int .u8) w0 A0 l0.length l0) (hc0 : l0.length ≤ c0) (hs : (l0.all fun c => (accm_Apart.f a1 c).isSome) = true) (hl : (l0.map (stuff_Size.piece a1)).flatten.length < 140737488355328) (hI : stuff_Size.Inv w0 W B []) :
    Calls Try.prog 29 #[.slice A0 l0.length c0, .int .u32 a1, .func (.func 31) #[] #[.pointer (some ⟨B, 0, none⟩)]] W fun e w' => e = .returned (.tuple #[]) ∧ stuff_Size.Inv w0 w' B (l0.map (stuff_Size.piece a1)).flatten := by
  have HR0 := Aside0.mk hr0
  have HN := Aside0.mk hr0.2.1
  have HI := Aside0.mk hI
  have HL := Aside0.mk hl
  have HS := Aside0.mk hs
  clear hr0 hc0 hI hl hs
  go_enter Try.func29, Try.ntmps29
  go_wp2
  go_loopg [10] l0.length (fun kq v10 w' => ∃ j : Nat, Aside0 (kq + j = l0.length) ∧ v10 = .int .i64 (j : Int) ∧ Aside0 (stuff_Size.Inv w0 w' B (stuff_Size.pre a1 l0 j)))
  case atStart => exact ⟨0, ⟨rfl⟩, rfl, HI⟩
  case round =>
    obtain ⟨j, HJ, rfl, HI⟩ := hrel
    have hj := HJ.out
    have hn := HN.out
    have hjl : j ≤ l0.length := by omega
    by_cases hlt : j < l0.length
    · obtain ⟨k1, rfl⟩ : ∃ k1, gk = k1 + 1 := ⟨gk - 1, by omega⟩
      have hB := HI.out.out.choose_spec.2.2.1
      have p1 : 0 ≤ (j : Int) := by omega
      have q1 : (j : Int) < (l0.length : Int) := by omega
      obtain ⟨ad, e1, hx⟩ := Kd.at_int HR0.out (j : Int) p1 q1
      cases e1
      simp only [Int.toNat_natCast] at hx
      replace hx := (hB.cell (World.block_lt_of_cell? w0 _ hx)).trans hx
      obtain ⟨t, ht⟩ : ∃ t, accm_Apart.f a1 (rd l0 (j : Int)) = some t := by
        have h1 := List.all_eq_true.1 HS.out (rd l0 (j : Int)) (by unfold rd; rw [Int.toNat_natCast, List.getD_eq_getElem?_getD, List.getElem?_eq_getElem hlt]; exact List.getElem_mem hlt)
        exact Option.isSome_iff_exists.1 h1
      have HT := Aside0.mk ht
      have HP := Aside0.mk (stuff_Size.pre_next a1 l0 j hlt)
      have LM := Aside0.mk (stuff_Size.pre_le a1 l0 (j + 1))
      have HPC : Aside0 (stuff_Size.piece a1 (rd l0 (j : Int)) = if t = true then [125, Go.bits .xor .u8 (rd l0 (j : Int)) 32] else [rd l0 (j : Int)]) := ⟨by unfold stuff_Size.piece; rw [HT.out]; rfl⟩
      clear hB ht hj
      have LB : Aside0 ((stuff_Size.pre a1 l0 j ++ stuff_Size.piece a1 (rd l0 (j : Int))).length < 140737488355328) := ⟨by rw [← HP.out]; exact Nat.lt_of_le_of_lt LM.out HL.out⟩
      cases t with
      | true =>
        have HPC2 : Aside0 (stuff_Size.piece a1 (rd l0 (j : Int)) = [125, Go.bits .xor .u8 (rd l0 (j : Int)) 32]) := ⟨HPC.out⟩
        go_wp2_with fail
        refine (accm_Apart.calls a1 (rd l0 (j : Int)) true _ HT.out).mono ?_
        rintro e w1 ⟨rfl, ⟨nd, rfl⟩⟩
        go_wp2_with fail
        refine (stuff_Size.put w0 _ B (stuff_Size.pre a1 l0 j) 125 (HI.out.drewN nd) ?_).mono ?_
        · have := LB.out
          rw [HPC2.out, List.length_append] at this
          simp only [List.length_cons, List.length_nil] at this
          omega
        rintro e w2 ⟨rfl, hI2⟩
        have HI2 := Aside0.mk hI2
        clear hI2
        go_wp2_with fail
        refine (stuff_Size.put w0 _ B (stuff_Size.pre a1 l0 j ++ [125]) _ HI2.out ?_).mono ?_
        · have := LB.out
          rw [HPC2.out, List.length_append] at this
          simp only [List.length_cons, List.length_nil] at this
          simp only [List.length_append, List.length_cons, List.length_nil]
          omega
        rintro e w3 ⟨rfl, hI3⟩
        have HI3 := Aside0.mk hI3
        clear hI3
        go_wp2
        go_roundg k1
        case measure => omega
        case rel => exact ⟨j + 1, ⟨by have := HJ.out; omega⟩, by go_num, ⟨by rw [HP.out, HPC2.out]; have := HI3.out; rw [List.append_assoc] at this; exact this⟩⟩
      | false =>
        have HPC2 : Aside0 (stuff_Size.piece a1 (rd l0 (j : Int)) = [rd l0 (j : Int)]) := ⟨HPC.out⟩
        go_wp2_with fail
        refine (accm_Apart.calls a1 (rd l0 (j : Int)) false _ HT.out).mono ?_
        rintro e w1 ⟨rfl, ⟨nd, rfl⟩⟩
        go_wp2_with fail
        refine (stuff_Size.put w0 _ B (stuff_Size.pre a1 l0 j) _ (HI.out.drewN nd) ?_).mono ?_
        · have := LB.out
          rw [HPC2.out, List.length_append] at this
          simp only [List.length_cons, List.length_nil] at this
          omega
        rintro e w2 ⟨rfl, hI2⟩
        have HI2 := Aside0.mk hI2
        clear hI2
        go_wp2
        go_roundg k1
        case measure => omega
        case rel => exact ⟨j + 1, ⟨by have := HJ.out; omega⟩, by go_num, ⟨by rw [HP.out, HPC2.out]; exact HI2.out⟩⟩
    · go_wp2
      go_end0
      exact ⟨rfl, by rw [← stuff_Size.pre_all a1 l0 j (by omega)]; exact HI.out⟩
set_option maxHeartbeats 8000000 in
set_option maxRecDepth 100000 in
theorem stuff_Size.calls (A0 : Option Addr) (c0 : Nat) (l0 : List Int) (a1 : Int) (r : Int) (w : World) (hr0 : Kd.C (Kd.int .u8) w A0 l0.length l0) (hc0 : l0.length ≤ c0) (h : stuff_Size.f l0 a1 = some r) :
    Calls Try.prog 15 #[.slice A0 l0.length c0, .int .u32 a1] w fun e w' => e = .returned (.int .i64 r) ∧ Below w.heap.size w w' := by
  obtain ⟨⟨hs, hl⟩, hr⟩ : ((l0.all fun c => (accm_Apart.f a1 c).isSome) = true ∧ (l0.map (stuff_Size.piece a1)).flatten.length < 140737488355328) ∧ ((l0.map (stuff_Size.piece a1)).flatten.length : Int) = r := by
    unfold stuff_Size.f at h
    split at h
    · exact ⟨by assumption, Option.some.inj h⟩
    · cases h
  have HC := Aside0.mk hr0
  have HC0 := Aside0.mk hc0
  have HS := Aside0.mk hs
  have HL := Aside0.mk hl
  have HE := Aside0.mk hr
  clear h hs hl hr0 hc0 hr
  go_enter Try.func15, Try.ntmps15
  go_wp2_with fail
  refine (stuff_Size.each w _ w.heap.size A0 c0 l0 a1 HC.out HC0.out HS.out HL.out ⟨⟨0, by first | exact heap_alloc_new w _ | simpa using heap_alloc_new w _, rfl, by first | exact below_alloc (Below.refl _ _) _ | exact below_set (below_alloc (Below.refl _ _) _) (Nat.le_refl _), Nat.le_refl _⟩⟩).mono ?_
  rintro e w1 ⟨rfl, hI⟩
  obtain ⟨v, hblk, hR, hB, _⟩ := hI.out
  have hcell := blk_cell hblk 0
  simp only [List.getElem?_toArray, List.getElem?_cons_zero] at hcell
  rw [HE.out] at hcell
  have HB := Aside0.mk hB
  clear hI hblk hR hB
  go_wp2
  go_ret
  exact ⟨rfl, HB.out⟩

end Go.Proofs.Ytjpfhipgffmgjaa.Print
