-- laid by this session's own program (wip/mkprint.sh) for this claim
import Derived.Test.Ytgnonglkibhnhaa0
import Derived.Test.YtgnonglkibhnhaaF42
namespace Go.Proofs.Ytgnonglkibhnhaa.Print
open Go.RowKit Go.Proofs.YtgnonglkibhnhaaW.PrintWords Go.Proofs.YtgnonglkibhnhaaW.PrintLast Go.Proofs.YtgnonglkibhnhaaW.PrintMore
attribute [local go_sem] max2_int min2_int max_two min_two max_three min_three max_four min_four   -- for this text's walks alone
set_option linter.unusedVariables false
set_option linter.unusedSimpArgs false

/-! ### stuff_Stuff: function 21 -/
def stuff_Stuff.piece (m c : Int) : List Int := if (accm_Apart.f m c).getD false = true then [125, Go.bits .xor .u8 c 32] else [c]
def stuff_Stuff.pre (m : Int) (l : List Int) (j : Nat) : List Int := ((l.take j).map (stuff_Stuff.piece m)).flatten
def stuff_Stuff.f (l0 : List Int) (a1 : Int) : Option (List Int) := if (l0.all fun c => (accm_Apart.f a1 c).isSome) = true ∧ (l0.map (stuff_Stuff.piece a1)).flatten.length < 140737488355328 then some (l0.map (stuff_Stuff.piece a1)).flatten else none
theorem stuff_Stuff.pre_next (m : Int) (l : List Int) (j : Nat) (h : j < l.length) : stuff_Stuff.pre m l (j + 1) = stuff_Stuff.pre m l j ++ stuff_Stuff.piece m (rd l (j : Int)) := by
  unfold stuff_Stuff.pre rd
  rw [List.take_succ_eq_append_getElem h, List.map_append, List.flatten_append]
  simp [h]
theorem stuff_Stuff.pre_le (m : Int) (l : List Int) (j : Nat) : (stuff_Stuff.pre m l j).length ≤ (l.map (stuff_Stuff.piece m)).flatten.length := by
  unfold stuff_Stuff.pre
  conv => rhs; rw [← List.take_append_drop j l, List.map_append, List.flatten_append, List.length_append]
  omega
theorem stuff_Stuff.pre_all (m : Int) (l : List Int) (j : Nat) (h : l.length ≤ j) : stuff_Stuff.pre m l j = (l.map (stuff_Stuff.piece m)).flatten := by
  unfold stuff_Stuff.pre
  rw [List.take_of_length_le h]
/-- What is handed out so far, in the variable that is captured. -/
structure stuff_Stuff.Inv (w0 W : World) (B : Nat) (acc : List Int) : Prop where mk :: (out : ∃ v : Value, W.heap[B]? = some (.cells #[v] 26 (0, 0)) ∧ Kd.R (Kd.int .u8) 5 W w0.heap.size (fun _ => True) v acc ∧ Below w0.heap.size w0 W ∧ w0.heap.size ≤ B)
theorem stuff_Stuff.Inv.drewN {w0 W : World} {B : Nat} {acc : List Int} (h : stuff_Stuff.Inv w0 W B acc) (n : Nat) : stuff_Stuff.Inv w0 (W.drewN n) B acc := by
  obtain ⟨v, h1, h2, h3, h4⟩ := h.out
  exact ⟨⟨v, h1, Kd.R_drewN h2 n, pw_below_drewN h3 n, h4⟩⟩
set_option maxHeartbeats 8000000 in
set_option maxRecDepth 100000 in
theorem stuff_Stuff.put (w0 W : World) (B : Nat) (acc : List Int) (c : Int) (hI : stuff_Stuff.Inv w0 W B acc) (hl : acc.length + 1 < 140737488355328) :
    Calls Try.prog 31 #[.int .u8 c, .pointer (some ⟨B, 0, none⟩)] W fun e w' => e = .returned (.tuple #[]) ∧ stuff_Stuff.Inv w0 w' B (acc ++ [c]) := by
  obtain ⟨v, hblk, hR, hB, hBg⟩ := hI.out
  have hcell : W.cell? ⟨B, 0, none⟩ = some v := blk_cell hblk 0
  have HBK := Aside0.mk hblk
  have HO := Aside0.mk hR
  have HB := Aside0.mk hB
  have HG := Aside0.mk hBg
  have HL := Aside0.mk hl
  clear hI hblk hR hB hBg hl
  go_enter Try.func31, Try.ntmps31
  go_wp2_with (((with_reducible refine gate_builtin (b := .append) (xs := #[.tmp 3, .tmp 5]) rfl ?_); at_builtin; refine Kd.R_append (Kd.int .u8) (w0 := w0) w0.heap.size rfl (.tmp 3) (.tmp 5) 26 5 (.int .u8 0) 1 rfl Try.underlying26 info5 rfl (by decide) (by omega) v acc c [.int .u8 c] (fun _ => True) (fun _ => False) rfl rfl ?aP (fun _ hk => hk.elim) ?aF ?aO ?aB ?aS ?aL ?_; (case aP => exact rfl); (case aB => exact HB.out); (case aF => exact (fun _ _ => trivial)); (case aO => exact HO.out); (case aS => exact HB.out.size); (case aL => have := HL.out; omega); intro v1 w1 ho hb hg hat; obtain ⟨Ao1, co1, eo1⟩ := Kd.R_slice ho; subst eo1; have hne := Kd.R_ne HO.out HBK.out (by decide); have hblk1 := blk_grown HBK.out hg hne; have hcell1 : w1.cell? ⟨B, 0, none⟩ = some v := blk_cell hblk1 0; have hfr1 : w1.frozen? ⟨B, 0, none⟩ = false := blk_frozen hblk1 0; have HO1 := Aside0.mk ho; have HB1 := Aside0.mk hb; have HBK1 := Aside0.mk hblk1; clear ho hb hg hat hne hblk1))
  go_end0
  refine ⟨rfl, ⟨⟨_, blk_set HBK1.out 0 _, ?_, below_set HB1.out HG.out, HG.out⟩⟩⟩
  have h := Kd.R_set HO1.out HBK1.out (by decide) 0 (.slice Ao1 (acc ++ [c]).length co1)
  simp only [List.length_append, List.length_singleton] at h ⊢
  exact h
set_option maxHeartbeats 8000000 in
set_option maxRecDepth 100000 in
theorem stuff_Stuff.each (w0 W : World) (B : Nat) (A0 : Option Addr) (c0 : Nat) (l0 : List Int) (a1 : Int) (hr0 : Kd.C (Kd.int .u8) w0 A0 l0.length l0) (hc0 : l0.length ≤ c0) (hs : (l0.all fun c => (accm_Apart.f a1 c).isSome) = true) (hl : (l0.map (stuff_Stuff.piece a1)).flatten.length < 140737488355328) (hI : stuff_Stuff.Inv w0 W B []) :
    Calls Try.prog 30 #[.slice A0 l0.length c0, .int .u32 a1, .func (.func 31) #[] #[.pointer (some ⟨B, 0, none⟩)]] W fun e w' => e = .returned (.tuple #[]) ∧ stuff_Stuff.Inv w0 w' B (l0.map (stuff_Stuff.piece a1)).flatten := by
  have HR0 := Aside0.mk hr0
  have HN := Aside0.mk hr0.2.1
  have HI := Aside0.mk hI
  have HL := Aside0.mk hl
  have HS := Aside0.mk hs
  clear hr0 hc0 hI hl hs
  go_enter Try.func30, Try.ntmps30
  go_wp2
  go_loopg [10] l0.length (fun kq v10 w' => ∃ j : Nat, Aside0 (kq + j = l0.length) ∧ v10 = .int .i64 (j : Int) ∧ Aside0 (stuff_Stuff.Inv w0 w' B (stuff_Stuff.pre a1 l0 j)))
  case atStart => exact ⟨0, ⟨rfl⟩, rfl, HI⟩
  case round =>
    obtain ⟨j, HJ, rfl, HI⟩ := hrel
    have hj := HJ.out
    have hn := HN.out
    have hjl : j ≤ l0.length := by omega
    by_cases hlt : j < l0.length
    · obtain ⟨k1, rfl⟩ : ∃ k1, gk = k1 + 1 := ⟨gk - 1, by omega⟩
      have hB := HI.out.out.choose_spec.2.2.1
      have p1 : 0 ≤ (j : Int) := by omega
      have q1 : (j : Int) < (l0.length : Int) := by omega
      obtain ⟨ad, e1, hx⟩ := Kd.at_int HR0.out (j : Int) p1 q1
      cases e1
      simp only [Int.toNat_natCast] at hx
      replace hx := (hB.cell (World.block_lt_of_cell? w0 _ hx)).trans hx
      obtain ⟨t, ht⟩ : ∃ t, accm_Apart.f a1 (rd l0 (j : Int)) = some t := by
        have h1 := List.all_eq_true.1 HS.out (rd l0 (j : Int)) (by unfold rd; rw [Int.toNat_natCast, List.getD_eq_getElem?_getD, List.getElem?_eq_getElem hlt]; exact List.getElem_mem hlt)
        exact Option.isSome_iff_exists.1 h1
      have HT := Aside0.mk ht
      have HP := Aside0.mk (stuff_Stuff.pre_next a1 l0 j hlt)
      have LM := Aside0.mk (stuff_Stuff.pre_le a1 l0 (j + 1))
      have HPC : Aside0 (stuff_Stuff.piece a1 (rd l0 (j : Int)) = if t = true then [125, Go.bits .xor .u8 (rd l0 (j : Int)) 32] else [rd l0 (j : Int)]) := ⟨by unfold stuff_Stuff.piece; rw [HT.out]; rfl⟩
      clear hB ht hj
      have LB : Aside0 ((stuff_Stuff.pre a1 l0 j ++ stuff_Stuff.piece a1 (rd l0 (j : Int))).length < 140737488355328) := ⟨by rw [← HP.out]; exact Nat.lt_of_le_of_lt LM.out HL.out⟩
      cases t with
      | true =>
        have HPC2 : Aside0 (stuff_Stuff.piece a1 (rd l0 (j : Int)) = [125, Go.bits .xor .u8 (rd l0 (j : Int)) 32]) := ⟨HPC.out⟩
        go_wp2_with fail
        refine (accm_Apart.calls a1 (rd l0 (j : Int)) true _ HT.out).mono ?_
        rintro e w1 ⟨rfl, ⟨nd, rfl⟩⟩
        go_wp2_with fail
        refine (stuff_Stuff.put w0 _ B (stuff_Stuff.pre a1 l0 j) 125 (HI.out.drewN nd) ?_).mono ?_
        · have := LB.out
          rw [HPC2.out, List.length_append] at this
          simp only [List.length_cons, List.length_nil] at this
          omega
        rintro e w2 ⟨rfl, hI2⟩
        have HI2 := Aside0.mk hI2
        clear hI2
        go_wp2_with fail
        refine (stuff_Stuff.put w0 _ B (stuff_Stuff.pre a1 l0 j ++ [125]) _ HI2.out ?_).mono ?_
        · have := LB.out
          rw [HPC2.out, List.length_append] at this
          simp only [List.length_cons, List.length_nil] at this
          simp only [List.length_append, List.length_cons, List.length_nil]
          omega
        rintro e w3 ⟨rfl, hI3⟩
        have HI3 := Aside0.mk hI3
        clear hI3
        go_wp2
        go_roundg k1
        case measure => omega
        case rel => exact ⟨j + 1, ⟨by have := HJ.out; omega⟩, by go_num, ⟨by rw [HP.out, HPC2.out]; have := HI3.out; rw [List.append_assoc] at this; exact this⟩⟩
      | false =>
        have HPC2 : Aside0 (stuff_Stuff.piece a1 (rd l0 (j : Int)) = [rd l0 (j : Int)]) := ⟨HPC.out⟩
        go_wp2_with fail
        refine (accm_Apart.calls a1 (rd l0 (j : Int)) false _ HT.out).mono ?_
        rintro e w1 ⟨rfl, ⟨nd, rfl⟩⟩
        go_wp2_with fail
        refine (stuff_Stuff.put w0 _ B (stuff_Stuff.pre a1 l0 j) _ (HI.out.drewN nd) ?_).mono ?_
        · have := LB.out
          rw [HPC2.out, List.length_append] at this
          simp only [List.length_cons, List.length_nil] at this
          omega
        rintro e w2 ⟨rfl, hI2⟩
        have HI2 := Aside0.mk hI2
        clear hI2
        go_wp2
        go_roundg k1
        case measure => omega
        case rel => exact ⟨j + 1, ⟨by have := HJ.out; omega⟩, by go_num, ⟨by rw [HP.out, HPC2.out]; exact HI2.out⟩⟩
    · go_wp2
      go_end0
      exact ⟨rfl, by rw [← stuff_Stuff.pre_all a1 l0 j (by omega)]; exact HI.out⟩
set_option maxHeartbeats 8000000 in
set_option maxRecDepth 100000 in
theorem stuff_Stuff.calls (A0 : Option Addr) (c0 : Nat) (l0 : List Int) (a1 : Int) (r : List Int) (w : World) (hr0 : Kd.C (Kd.int .u8) w A0 l0.length l0) (hc0 : l0.length ≤ c0) (h : stuff_Stuff.f l0 a1 = some r) :
    Calls Try.prog 21 #[.slice A0 l0.length c0, .int .u32 a1] w fun e w' => ∃ v0_ : Value, e = .returned (v0_) ∧ Kd.R (Kd.int .u8) 5 w' w.heap.size (fun _ => True) v0_ r ∧ Below w.heap.size w w' := by
  obtain ⟨⟨hs, hl⟩, rfl⟩ : ((l0.all fun c => (accm_Apart.f a1 c).isSome) = true ∧ (l0.map (stuff_Stuff.piece a1)).flatten.length < 140737488355328) ∧ (l0.map (stuff_Stuff.piece a1)).flatten = r := by
    unfold stuff_Stuff.f at h
    split at h
    · exact ⟨by assumption, Option.some.inj h⟩
    · cases h
  have HC := Aside0.mk hr0
  have HC0 := Aside0.mk hc0
  have HS := Aside0.mk hs
  have HL := Aside0.mk hl
  clear h hs hl hr0 hc0
  go_enter Try.func21, Try.ntmps21
  go_wp2_with fail
  refine (stuff_Stuff.each w _ w.heap.size A0 c0 l0 a1 HC.out HC0.out HS.out HL.out ⟨⟨.slice none 0 0, heap_alloc_new w _, Kd.R_nil _ _ _ _ _, below_alloc (Below.refl _ _) _, Nat.le_refl _⟩⟩).mono ?_
  rintro e w1 ⟨rfl, hI⟩
  obtain ⟨v, hblk, hR, hB, _⟩ := hI.out
  have hcell : w1.cell? ⟨w.heap.size, 0, none⟩ = some v := blk_cell hblk 0
  have HR := Aside0.mk hR
  have HB := Aside0.mk hB
  clear hI hblk hR hB
  go_wp2
  go_ret
  exact ⟨_, rfl, HR.out, HB.out⟩

end Go.Proofs.Ytgnonglkibhnhaa.Print
