-- laid by this session's own program (wip/mkprint.sh) for this claim
import Derived.Test.Ytgnonglkibhnhaa0
import Derived.Test.YtgnonglkibhnhaaF44
import Derived.Test.YtgnonglkibhnhaaF50
namespace Go.Proofs.Ytgnonglkibhnhaa.Print
open Go.RowKit Go.Proofs.YtgnonglkibhnhaaW.PrintWords Go.Proofs.YtgnonglkibhnhaaW.PrintLast Go.Proofs.YtgnonglkibhnhaaW.PrintMore
attribute [local go_sem] max2_int min2_int max_two min_two max_three min_three max_four min_four   -- for this text's walks alone
set_option linter.unusedVariables false
set_option linter.unusedSimpArgs false

/-! ### fcs_More: function 43 -/
/-- The register behind a byte. -/
def fcs_More.stp (p reg c : Int) : Int := Go.bits .xor .u32 (reg / 256) (fcs_table.bitn p 8 (Go.bits .xor .u8 (reg % 256) c))
def fcs_More.f (a0 : Int) (l1 : List Int) (a2 : Bool) : Option (Int) := (fcs_all.f a2).bind fun m => some (l1.foldl (fcs_More.stp (fcs_table.by a2)) (Go.bits .and .u32 a0 m))
theorem fcs_More.at_ {w0 W : World} {B : Nat} {p : Int} (h : fcs_table.Inv w0 W B p 256) (i : Int) (h0 : 0 ≤ i) (h1 : i < 256) : W.cell? ⟨B, i.toNat, none⟩ = some (.int .u32 (fcs_table.bitn p 8 i)) := by
  obtain ⟨cs, g1, g2, g3, g4, g5⟩ := h.out
  obtain ⟨j, rfl⟩ := Int.eq_ofNat_of_zero_le h0
  exact (blk_cell g1 j).trans (g3 j (by omega))
theorem fcs_More.snoc (p r0 : Int) (l : List Int) (j : Nat) (h : j < l.length) : (l.take (j + 1)).foldl (fcs_More.stp p) r0 = fcs_More.stp p ((l.take j).foldl (fcs_More.stp p) r0) (rd l (j : Int)) := by
  unfold rd
  rw [List.take_succ_eq_append_getElem h, List.foldl_append]
  simp [h]
theorem fcs_More.range (a b : Int) : 0 ≤ Go.bits .xor .u8 a b ∧ Go.bits .xor .u8 a b < 256 := by
  unfold Go.bits
  simp only [IntKind.wrap_u8]
  omega
set_option maxHeartbeats 8000000 in
set_option maxRecDepth 100000 in
theorem fcs_More.calls (a0 : Int) (A1 : Option Addr) (c1 : Nat) (l1 : List Int) (a2 : Bool) (r : Int) (w : World) (hr1 : Kd.C (Kd.int .u8) w A1 l1.length l1) (hc1 : l1.length ≤ c1) (h : fcs_More.f a0 l1 a2 = some r) :
    Calls Try.prog 43 #[.int .u32 a0, .slice A1 l1.length c1, .bool a2] w fun e w' => e = .returned (.int .u32 r) ∧ Below w.heap.size w w' := by
  obtain ⟨m, hm, hr⟩ : ∃ m, fcs_all.f a2 = some m ∧ l1.foldl (fcs_More.stp (fcs_table.by a2)) (Go.bits .and .u32 a0 m) = r := by
    unfold fcs_More.f at h
    cases e : fcs_all.f a2 with
    | none => rw [e] at h; cases h
    | some m => rw [e] at h; exact ⟨m, rfl, Option.some.inj h⟩
  have HR := Aside0.mk hr
  have HC := Aside0.mk hr1
  have HN := Aside0.mk hr1.2.1
  clear h hr hr1
  go_enter Try.func43, Try.ntmps43
  go_wp2_with fail
  refine (fcs_all.calls a2 m _ hm).mono ?_
  rintro e w1 ⟨rfl, ⟨nd, rfl⟩⟩
  by_cases hl : l1 = []
  · subst hl
    have hlen : (([] : List Int).length : Int) = 0 := rfl
    go_wp2
    go_ret
    refine ⟨by rw [← HR.out]; rfl, ?_⟩
    exact pw_below_drewN (Below.refl _ _) nd
  · have hlen : ¬ (l1.length : Int) = 0 := by
      intro h0
      exact hl (List.eq_nil_of_length_eq_zero (by omega))
    go_wp2_with fail
    refine (fcs_table.calls a2 _).mono ?_
    rintro e w2 ⟨B, rfl, hI⟩
    have HI := Aside0.mk hI
    clear hI
    go_wp2
    go_loopg [22, 0] l1.length (fun kq v22 v0 w' => ∃ j : Nat, Aside0 (kq + j = l1.length) ∧ v22 = .int .i64 (j : Int) ∧ v0 = .int .u32 ((l1.take j).foldl (fcs_More.stp (fcs_table.by a2)) (Go.bits .and .u32 a0 m)) ∧ Aside0 (fcs_table.Inv (w.drewN nd) w' B (fcs_table.by a2) 256))
    case atStart => exact ⟨0, ⟨rfl⟩, rfl, rfl, HI⟩
    case round =>
      obtain ⟨j, HJ, rfl, rfl, HI⟩ := hrel
      have hj := HJ.out
      have hn := HN.out
      by_cases hlt : j < l1.length
      · obtain ⟨k1, rfl⟩ : ∃ k1, gk = k1 + 1 := ⟨gk - 1, by omega⟩
        have hB : Below w.heap.size w wr := (pw_below_drewN (Below.refl _ _) nd).trans HI.out.out.choose_spec.2.2.2.1
        have p1 : 0 ≤ (j : Int) := by omega
        have q1 : (j : Int) < (l1.length : Int) := by omega
        obtain ⟨ad, e1, hx⟩ := Kd.at_int HC.out (j : Int) p1 q1
        cases e1
        simp only [Int.toNat_natCast] at hx
        replace hx := (hB.cell (World.block_lt_of_cell? w _ hx)).trans hx
        have HS := Aside0.mk (fcs_More.snoc (fcs_table.by a2) (Go.bits .and .u32 a0 m) l1 j hlt)
        generalize hg : (l1.take j).foldl (fcs_More.stp (fcs_table.by a2)) (Go.bits .and .u32 a0 m) = g at HS ⊢
        have i0 : 0 ≤ Go.bits .xor .u8 (g % 256) (rd l1 (j : Int)) := (fcs_More.range _ _).1
        have i1 : Go.bits .xor .u8 (g % 256) (rd l1 (j : Int)) < 256 := (fcs_More.range _ _).2
        have ht := fcs_More.at_ HI.out _ i0 i1
        go_wp2
        go_roundg k1
        case measure => omega
        case rel => exact ⟨j + 1, ⟨by omega⟩, by go_num, (by rw [HS.out]; rfl), HI⟩
      · have q1 : ¬ (j : Int) < (l1.length : Int) := by omega
        go_wp2
        go_ret
        refine ⟨by rw [← HR.out, List.take_of_length_le (by omega)]; rfl, ?_⟩
        exact (pw_below_drewN (Below.refl _ _) nd).trans HI.out.out.choose_spec.2.2.2.1

end Go.Proofs.Ytgnonglkibhnhaa.Print
