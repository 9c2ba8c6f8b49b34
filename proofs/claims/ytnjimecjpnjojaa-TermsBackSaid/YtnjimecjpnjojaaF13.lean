-- laid by this session's own program (wip/mkprint.sh) for this claim
import Derived.Test.Ytnjimecjpnjojaa0
import Derived.Test.YtnjimecjpnjojaaE2
import Derived.Test.YtnjimecjpnjojaaF26
import Derived.Test.YtnjimecjpnjojaaF29
import Derived.Test.YtnjimecjpnjojaaF31
import Derived.Test.YtnjimecjpnjojaaF32
import Derived.Test.YtnjimecjpnjojaaF34
import Derived.Test.YtnjimecjpnjojaaF36
import Derived.Test.YtnjimecjpnjojaaF40
import Derived.Test.YtnjimecjpnjojaaF42
import Derived.Test.YtnjimecjpnjojaaF43
namespace Go.Proofs.Ytnjimecjpnjojaa.Print
open Go.RowKit Go.Proofs.YtnjimecjpnjojaaW.PrintWords Go.Proofs.YtnjimecjpnjojaaW.PrintLast Go.Proofs.YtnjimecjpnjojaaW.PrintMore
attribute [local go_sem] max2_int min2_int max_two min_two max_three min_three max_four min_four   -- for this text's walks alone
set_option linter.unusedVariables false
set_option linter.unusedSimpArgs false

attribute [local go_sem high] eqA61
/-! ### umpirelaw14_TermsBack: function 13 -/
mutual
def umpirelaw14_TermsBack.j0 : Nat → List (S55) → Bool → Bool → Int → Bool → Int → Int → Bool → Bool → Int → Bool → Bool → Option (Bool)
  | 0, _, _, _, _, _, _, _, _, _, _, _, _ => none
  | k + 1, x1, x23, x762000, x762001, x762002, x762003, x762004, x762005, x762006, x762007, x762008, x762009 => if x23 = true then ((umpirelaw14_awake.f k).bind fun t764 => (some t764)) else ((terms_Put.f k x762000 x762001 x762002 x762003 x762004 x762005 x762006 x762007 x762008 x762009).bind fun bt765 => (if bt765.2 = true then ((terms_Read.f k bt765.1).bind fun bt769 => (if bt769.2.2.2.2.2.2.2.2.2.2 = true then (if (!(bt769.1 == x762000) || (!(bt769.2.1 == x762001) || (!(bt769.2.2.1 == x762002) || (!(bt769.2.2.2.1 == x762003) || (!(bt769.2.2.2.2.1 == x762004) || (!(bt769.2.2.2.2.2.1 == x762005) || (!(bt769.2.2.2.2.2.2.1 == x762006) || (!(bt769.2.2.2.2.2.2.2.1 == x762007) || (!(bt769.2.2.2.2.2.2.2.2.1 == x762008) || (!(bt769.2.2.2.2.2.2.2.2.2.1 == x762009))))))))))) = true then (none) else ((terms_Login.f k bt765.1).bind fun t781 => (if t781 = x762004 then (umpirelaw14_TermsBack.j1 k x1) else (none)))) else (none))) else (umpirelaw14_TermsBack.j1 k x1)))
def umpirelaw14_TermsBack.j1 : Nat → List (S55) → Option (Bool)
  | 0, _ => none
  | k + 1, x1 => (terms_Bad.f k x1).bind fun bt782 => ((terms_Read.f k x1).bind fun bt788 => (if (bt782.1.length : Int) = 0 then (if (bt788.2.2.2.2.2.2.2.2.2.2 != ((bt782.2.length : Int) == 0)) = true then (umpirelaw14_TermsBack.j2 k x1 bt782.1 bt782.2 true) else ((umpireref12_Within.f k bt782.1 x1).bind fun t800 => (umpirelaw14_TermsBack.j2 k x1 bt782.1 bt782.2 (!t800)))) else (if (bt788.2.2.2.2.2.2.2.2.2.2 != false) = true then (umpirelaw14_TermsBack.j2 k x1 bt782.1 bt782.2 true) else ((umpireref12_Within.f k bt782.1 x1).bind fun t801 => (umpirelaw14_TermsBack.j2 k x1 bt782.1 bt782.2 (!t801))))))
def umpirelaw14_TermsBack.j2 : Nat → List (S55) → List (S55) → List (S55) → Bool → Option (Bool)
  | 0, _, _, _, _ => none
  | k + 1, x1, x9, x10, x75 => if x75 = true then (none) else (umpirelaw14_TermsBack.l0 k x1 x9 x10 ([] : List (S55)) 0)
def umpirelaw14_TermsBack.l0 : Nat → List (S55) → List (S55) → List (S55) → List (S55) → Int → Option (Bool)
  | 0, _, _, _, _, _ => none
  | k + 1, x1, x9, x10, x13, x14 => if x14 < (x1.length : Int) then (if 0 ≤ x14 then ((terms_Right.f k ((rd_T55 x1 x14).f0) ((rd_T55 x1 x14).f1)).bind fun t818 => (if t818 = true then (if x14 ≤ (x1.length : Int) then ((umpireref12_Find.f k (x1.take (x14 : Int).toNat) ((rd_T55 x1 x14).f0)).bind fun t825 => (if t825 < 0 then (if x13.length < 4398046511104 then (umpirelaw14_TermsBack.l0 k x1 x9 x10 (x13 ++ [(⟨(rd_T55 x1 x14).f0, (rd_T55 x1 x14).f1⟩ : S55)]) (wrap64 (x14 + 1))) else (none)) else (umpirelaw14_TermsBack.l0 k x1 x9 x10 x13 (wrap64 (x14 + 1))))) else (none)) else (umpirelaw14_TermsBack.l0 k x1 x9 x10 x13 (wrap64 (x14 + 1))))) else (none)) else (if x13.length + x10.length < 4398046511104 then ((terms_Read.f k (x13 ++ x10)).bind fun bt805 => (if bt805.2.2.2.2.2.2.2.2.2.2 = true then (some ((wrap64 ((wrap64 ((x13.length : Int) + (x9.length : Int))) + (x10.length : Int))) == (x1.length : Int))) else (none))) else (none))
end
def umpirelaw14_TermsBack.f (k : Nat) (a0_0 : Bool) (a0_1 : Int) (a0_2 : Bool) (a0_3 : Int) (a0_4 : Int) (a0_5 : Bool) (a0_6 : Bool) (a0_7 : Int) (a0_8 : Bool) (a0_9 : Bool) (l1 : List (S55)) : Option (Bool) := (umpirelaw14_awake.f k).bind fun t762 => (if t762 = true then ((umpireref12_Few.f k l1).bind fun t763 => (umpirelaw14_TermsBack.j0 k l1 (!t763) a0_0 a0_1 a0_2 a0_3 a0_4 a0_5 a0_6 a0_7 a0_8 a0_9)) else (umpirelaw14_TermsBack.j0 k l1 true a0_0 a0_1 a0_2 a0_3 a0_4 a0_5 a0_6 a0_7 a0_8 a0_9))
theorem umpirelaw14_TermsBack.mono_l : ∀ k, (∀ y0 y1 y2 y3 y4 y5 y6 y7 y8 y9 y10 y11, LeO (umpirelaw14_TermsBack.j0 k y0 y1 y2 y3 y4 y5 y6 y7 y8 y9 y10 y11) (umpirelaw14_TermsBack.j0 (k + 1) y0 y1 y2 y3 y4 y5 y6 y7 y8 y9 y10 y11)) ∧ (∀ y0, LeO (umpirelaw14_TermsBack.j1 k y0) (umpirelaw14_TermsBack.j1 (k + 1) y0)) ∧ (∀ y0 y1 y2 y3, LeO (umpirelaw14_TermsBack.j2 k y0 y1 y2 y3) (umpirelaw14_TermsBack.j2 (k + 1) y0 y1 y2 y3)) ∧ (∀ y0 y1 y2 y3 y4, LeO (umpirelaw14_TermsBack.l0 k y0 y1 y2 y3 y4) (umpirelaw14_TermsBack.l0 (k + 1) y0 y1 y2 y3 y4))
  | 0 => ⟨fun _ _ _ _ _ _ _ _ _ _ _ _ r h => by simp [umpirelaw14_TermsBack.j0] at h, fun _ r h => by simp [umpirelaw14_TermsBack.j1] at h, fun _ _ _ _ r h => by simp [umpirelaw14_TermsBack.j2] at h, fun _ _ _ _ _ r h => by simp [umpirelaw14_TermsBack.l0] at h⟩
  | k + 1 => by
    obtain ⟨ih0, ih1, ih2, ih3⟩ := umpirelaw14_TermsBack.mono_l k
    refine ⟨?_, ?_, ?_, ?_⟩
    · intro y0 y1 y2 y3 y4 y5 y6 y7 y8 y9 y10 y11
      unfold umpirelaw14_TermsBack.j0
      repeat' first | (with_reducible exact ih1 _) | (with_reducible exact terms_Login.mono _ _) | (with_reducible exact terms_Put.mono _ _ _ _ _ _ _ _ _ _ _) | (with_reducible exact terms_Read.mono _ _) | (with_reducible exact umpirelaw14_awake.mono _) | (with_reducible exact LeO.refl _) | (with_reducible refine LeO.ite ?_ ?_) | (with_reducible refine LeO.bind ?_ (fun _ => ?_))
    · intro y0
      unfold umpirelaw14_TermsBack.j1
      repeat' first | (with_reducible exact ih2 _ _ _ _) | (with_reducible exact terms_Bad.mono _ _) | (with_reducible exact terms_Read.mono _ _) | (with_reducible exact umpireref12_Within.mono _ _ _) | (with_reducible refine LeO.ite ?_ ?_) | (with_reducible refine LeO.bind ?_ (fun _ => ?_))
    · intro y0 y1 y2 y3
      unfold umpirelaw14_TermsBack.j2
      repeat' first | (with_reducible exact ih3 _ _ _ _ _) | (with_reducible exact LeO.refl _) | (with_reducible refine LeO.ite ?_ ?_)
    · intro y0 y1 y2 y3 y4
      unfold umpirelaw14_TermsBack.l0
      repeat' first | (with_reducible exact ih3 _ _ _ _ _) | (with_reducible exact terms_Read.mono _ _) | (with_reducible exact terms_Right.mono _ _ _) | (with_reducible exact umpireref12_Find.mono _ _ _) | (with_reducible exact LeO.refl _) | (with_reducible refine LeO.ite ?_ ?_) | (with_reducible refine LeO.bind ?_ (fun _ => ?_))
theorem umpirelaw14_TermsBack.mono : ∀ a0 a1 a2 a3 a4 a5 a6 a7 a8 a9 a10 k, LeO (umpirelaw14_TermsBack.f k a0 a1 a2 a3 a4 a5 a6 a7 a8 a9 a10) (umpirelaw14_TermsBack.f (k + 1) a0 a1 a2 a3 a4 a5 a6 a7 a8 a9 a10) := by
  intro a0 a1 a2 a3 a4 a5 a6 a7 a8 a9 a10 k
  obtain ⟨ih0, ih1, ih2, ih3⟩ := umpirelaw14_TermsBack.mono_l k
  unfold umpirelaw14_TermsBack.f
  repeat' first | (with_reducible exact ih0 _ _ _ _ _ _ _ _ _ _ _ _) | (with_reducible exact umpirelaw14_awake.mono _) | (with_reducible exact umpireref12_Few.mono _ _) | (with_reducible refine LeO.ite ?_ ?_) | (with_reducible refine LeO.bind ?_ (fun _ => ?_))
def umpirelaw14_TermsBack.T6 : Bool × List (List Nat × List Nat) := (true, [([], []), ([0], [0]), ([1], [1]), ([2], [2]), ([2], [2]), ([3, 4, 2], [2, 3, 4]), ([2, 5], [2, 5]), ([6, 2], [6]), ([7], [7]), ([8, 7, 7], [7, 8]), ([7], [7]), ([10, 7], [7, 10]), ([9, 11, 7], [7, 9, 11]), ([7, 12], [7, 12])])
def umpirelaw14_TermsBack.B6 : List Nat := [0, 1, 3, 7, 7, 31, 63, 127, 255, 511, 255, 1279, 4095, 8191]
theorem umpirelaw14_TermsBack.tab6 : rtab .any (opsOf Try.f13 6) = umpirelaw14_TermsBack.T6 := by kernel_rfl
theorem umpirelaw14_TermsBack.bits6 : waitsOk umpirelaw14_TermsBack.T6.2 umpirelaw14_TermsBack.B6 = true := by kernel_rfl
def umpirelaw14_TermsBack.T16 : Bool × List (List Nat × List Nat) := (true, [([], []), ([], []), ([0, 1], [0, 1]), ([2], [2]), ([3], [3]), ([4, 4], [4]), ([5], [5]), ([5], [5]), ([6, 7, 5], [5, 6, 7]), ([5], [5]), ([5], [5]), ([9, 10, 5], [5, 9, 10]), ([11, 5], [5, 11]), ([12, 5], [5, 12]), ([8, 13, 5, 5], [5, 8, 13]), ([14, 5], [5, 14]), ([5, 15], [5, 15])])
def umpirelaw14_TermsBack.B16 : List Nat := [0, 0, 3, 7, 15, 31, 63, 63, 255, 63, 63, 1599, 3647, 7743, 16383, 32767, 65535]
theorem umpirelaw14_TermsBack.tab16 : rtab .any (opsOf Try.f13 16) = umpirelaw14_TermsBack.T16 := by kernel_rfl
theorem umpirelaw14_TermsBack.bits16 : waitsOk umpirelaw14_TermsBack.T16.2 umpirelaw14_TermsBack.B16 = true := by kernel_rfl
set_option maxHeartbeats 8000000 in
set_option maxRecDepth 100000 in
theorem umpirelaw14_TermsBack.calls (k : Nat) (a0_0 : Bool) (a0_1 : Int) (a0_2 : Bool) (a0_3 : Int) (a0_4 : Int) (a0_5 : Bool) (a0_6 : Bool) (a0_7 : Int) (a0_8 : Bool) (a0_9 : Bool) (P1_ : Nat → Prop) (A1 : Option Addr) (c1 : Nat) (l1 : List (S55)) (r : Bool) (w : World) (hs1 : Kd.V k55 55 w w.heap.size (fun k_ => P1_ k_) (.slice A1 l1.length c1) l1) (h : umpirelaw14_TermsBack.f k a0_0 a0_1 a0_2 a0_3 a0_4 a0_5 a0_6 a0_7 a0_8 a0_9 l1 = some r) :
    Calls Try.prog 13 #[.agg #[.bool a0_0, .int .i64 a0_1, .bool a0_2, .int .u32 a0_3, .int .i64 a0_4, .bool a0_5, .bool a0_6, .int .u32 a0_7, .bool a0_8, .bool a0_9], .slice A1 l1.length c1] w fun e w' => e = .returned (.bool r) ∧ Below w.heap.size w w' := by
  have hu61 := Try.underlying61
  have hu55 := Try.underlying55
  have HO1 := Aside0.mk (show Kd.V k55 55 w w.heap.size (fun k_ => (P1_ k_ ∨ w.heap.size ≤ k_)) (.slice A1 l1.length c1) l1 from Kd.V_mono hs1 (fun k_ hk => .inl hk))
  have HB := Aside0.mk (Below.refl w.heap.size w)
  have H : ((umpirelaw14_awake.f k).bind fun t762 => (if t762 = true then ((umpireref12_Few.f k l1).bind fun t763 => (umpirelaw14_TermsBack.j0 k l1 (!t763) a0_0 a0_1 a0_2 a0_3 a0_4 a0_5 a0_6 a0_7 a0_8 a0_9)) else (umpirelaw14_TermsBack.j0 k l1 true a0_0 a0_1 a0_2 a0_3 a0_4 a0_5 a0_6 a0_7 a0_8 a0_9))) = some r := h
  clear h
  have HC3 := Aside0.mk H
  clear H
  go_enter Try.func13, Try.ntmps13
  go_upto_region 1 with (first | ((with_reducible refine gate_dst (N := 2) rfl ?_); (try (refine gate_guard (by rfl) ?_; dsimp only)); refine box_event ?hg (N := 2) ?hd (cs := #[.bool a0_0, .int .i64 a0_1, .bool a0_2, .int .u32 a0_3, .int .i64 a0_4, .bool a0_5, .bool a0_6, .int .u32 a0_7, .bool a0_8, .bool a0_9]) (t := 61) ?hr ?_; (case hd => rfl); (case hg => rfl); (case hr => (go_simp; done)); intro gb761 hg w4 hbox hb; have n0_ := Aside0.mk (Kd.V_below (Kd.V_elderB (by exact HO1.out) gb761 (Nat.le_of_eq hg.symm)) hb); have n1_ := Aside0.mk (below_step (by exact HB.out) hb); have n2_ := Aside0.mk (hbox); have n3_ := Aside0.mk ((by rw [hg]; exact (below_size (by exact HB.out)) : w.heap.size ≤ gb761)); have n4_ := Aside0.mk ((by rw [hg]; exact (below_size (by exact HB.out)) : w.heap.size ≤ gb761)); clear HO1; clear HB; have HO1 := n0_; have HB := n1_; have BK761 := n2_; have GW761 := n3_; have GE761 := n4_; clear n0_ n1_ n2_ n3_ n4_; clear hb hbox hg))
  (skip)
  go_cut [23] (fun v23 wc => ∃ (kq : Nat) (x23_2 : Bool), v23 = .bool x23_2 ∧ Aside0 (umpirelaw14_TermsBack.j0 kq l1 x23_2 a0_0 a0_1 a0_2 a0_3 a0_4 a0_5 a0_6 a0_7 a0_8 a0_9 = some r) ∧ Aside0 (kq ≤ k) ∧ Aside0 (Kd.V k55 55 wc w.heap.size (fun k_ => (P1_ k_ ∨ w.heap.size ≤ k_) ∧ k_ ≠ gb761) (.slice A1 l1.length c1) l1) ∧ Aside0 (wc.heap[gb761]? = some (.cells #[.bool a0_0, .int .i64 a0_1, .bool a0_2, .int .u32 a0_3, .int .i64 a0_4, .bool a0_5, .bool a0_6, .int .u32 a0_7, .bool a0_8, .bool a0_9] 61 (0, 0))) ∧ Aside0 (Below w.heap.size w wc))
  case first =>
    have H := HC3.out
    clear HC3
    replace H := Option.bind_eq_some_iff.mp H
    obtain ⟨t762, A50, H⟩ := H
    replace H : (if t762 = true then ((umpireref12_Few.f k l1).bind fun t763 => (umpirelaw14_TermsBack.j0 k l1 (!t763) a0_0 a0_1 a0_2 a0_3 a0_4 a0_5 a0_6 a0_7 a0_8 a0_9)) else (umpirelaw14_TermsBack.j0 k l1 true a0_0 a0_1 a0_2 a0_3 a0_4 a0_5 a0_6 a0_7 a0_8 a0_9)) = some r := H
    have A5 := Aside0.mk A50
    clear A50
    by_cases c6 : t762 = true
    · subst c6
      have H1 : ((umpireref12_Few.f k l1).bind fun t763 => (umpirelaw14_TermsBack.j0 k l1 (!t763) a0_0 a0_1 a0_2 a0_3 a0_4 a0_5 a0_6 a0_7 a0_8 a0_9)) = some r := by rw [if_pos rfl] at H; exact H
      clear H
      have H := H1
      clear H1
      replace H := Option.bind_eq_some_iff.mp H
      obtain ⟨t763, A70, H⟩ := H
      replace H : (umpirelaw14_TermsBack.j0 k l1 (!t763) a0_0 a0_1 a0_2 a0_3 a0_4 a0_5 a0_6 a0_7 a0_8 a0_9) = some r := H
      have A7 := Aside0.mk A70
      clear A70
      have H' := Aside0.mk H
      clear H
      go_wp2_with (first | ((with_reducible refine gate_callee (f := 26) rfl ?_); refine goesL_ (some 17) rfl rfl Try.func26 (by kernel_rfl) rfl #[] rfl (by (try simp only [List.map_toArray, List.map_cons, List.map_nil]); (done)) ?_; (with_reducible refine (umpirelaw14_awake.calls k  true _ A5.out).mono ?_); rintro e w8 ⟨rfl, hb⟩; refine ⟨_, rfl, ?_⟩; have n0_ := Aside0.mk (Kd.V_below (by exact HO1.out) hb); have n1_ := Aside0.mk (blk_below (g := gb761) (o := .cells #[.bool a0_0, .int .i64 a0_1, .bool a0_2, .int .u32 a0_3, .int .i64 a0_4, .bool a0_5, .bool a0_6, .int .u32 a0_7, .bool a0_8, .bool a0_9] 61 (0, 0)) (by exact BK761.out) hb); have n2_ := Aside0.mk (below_step (by exact HB.out) hb); clear HO1; clear BK761; clear HB; have HO1 := n0_; have BK761 := n1_; have HB := n2_; clear n0_ n1_ n2_; (try clear hb)) | (go_at_call 31; (with_reducible refine (umpireref12_Few.calls k _ _ l1 t763 _ ?side1 ?side2 A7.out).mono ?_); (case side1 => exact (Kd.V_reads' HO1.out).2.2); (case side2 => exact (Kd.V_reads' HO1.out).2.1); rintro e w' ⟨rfl, ⟨nd, rfl⟩⟩))
      go_meet
      case rel => exact ⟨_, (!t763), (by (rfl)), H', ⟨by (omega)⟩, ⟨by (with_reducible repeat (apply Kd.V_drewN)); exact HO1.out⟩, ⟨by (with_reducible repeat (refine blk_drewN ?_ _)); exact BK761.out⟩, ⟨by repeat (with_reducible first | exact HB.out | apply pw_below_drewN)⟩⟩
    · replace c6 := Bool.eq_false_iff.mpr c6
      subst c6
      have H1 : (umpirelaw14_TermsBack.j0 k l1 true a0_0 a0_1 a0_2 a0_3 a0_4 a0_5 a0_6 a0_7 a0_8 a0_9) = some r := by rw [if_neg (show ¬ (false = true) by decide)] at H; exact H
      clear H
      have H := H1
      clear H1
      have H' := Aside0.mk H
      clear H
      go_wp2_with (first | ((with_reducible refine gate_callee (f := 26) rfl ?_); refine goesL_ (some 17) rfl rfl Try.func26 (by kernel_rfl) rfl #[] rfl (by (try simp only [List.map_toArray, List.map_cons, List.map_nil]); (done)) ?_; (with_reducible refine (umpirelaw14_awake.calls k  false _ A5.out).mono ?_); rintro e w9 ⟨rfl, hb⟩; refine ⟨_, rfl, ?_⟩; have n0_ := Aside0.mk (Kd.V_below (by exact HO1.out) hb); have n1_ := Aside0.mk (blk_below (g := gb761) (o := .cells #[.bool a0_0, .int .i64 a0_1, .bool a0_2, .int .u32 a0_3, .int .i64 a0_4, .bool a0_5, .bool a0_6, .int .u32 a0_7, .bool a0_8, .bool a0_9] 61 (0, 0)) (by exact BK761.out) hb); have n2_ := Aside0.mk (below_step (by exact HB.out) hb); clear HO1; clear BK761; clear HB; have HO1 := n0_; have BK761 := n1_; have HB := n2_; clear n0_ n1_ n2_; (try clear hb)))
      go_meet
      case rel => exact ⟨_, (true), (by (rfl)), H', ⟨by (omega)⟩, ⟨by exact HO1.out⟩, ⟨by exact BK761.out⟩, ⟨by exact HB.out⟩⟩
  case rest =>
    clear HC3
    obtain ⟨kq, x23_2, rfl, HA, HJ2, HO_1, BK761, HB⟩ := hcut
    cases kq with
    | zero => exact absurd HA.out (by simp [umpirelaw14_TermsBack.j0])
    | succ kj2 =>
      have H := HA.out
      clear HA
      simp only [umpirelaw14_TermsBack.j0] at H
      by_cases c10 : x23_2 = true
      · subst c10
        have H1 : ((umpirelaw14_awake.f kj2).bind fun t764 => (some t764)) = some r := by rw [if_pos rfl] at H; exact H
        clear H
        have H := H1
        clear H1
        replace H := Option.bind_eq_some_iff.mp H
        obtain ⟨t764, A110, H⟩ := H
        replace H : (some t764) = some r := H
        have A11 := Aside0.mk A110
        clear A110
        obtain rfl := Option.some.inj H
        go_wp2_with (first | ((with_reducible refine gate_callee (f := 26) rfl ?_); refine goesL_ (some 24) rfl rfl Try.func26 (by kernel_rfl) rfl #[] rfl (by (try simp only [List.map_toArray, List.map_cons, List.map_nil]); (done)) ?_; (with_reducible refine (umpirelaw14_awake.calls kj2  t764 _ A11.out).mono ?_); rintro e w12 ⟨rfl, hb⟩; refine ⟨_, rfl, ?_⟩; have n0_ := Aside0.mk (Kd.V_below (by exact HO_1.out) hb); have n1_ := Aside0.mk (blk_below (g := gb761) (o := .cells #[.bool a0_0, .int .i64 a0_1, .bool a0_2, .int .u32 a0_3, .int .i64 a0_4, .bool a0_5, .bool a0_6, .int .u32 a0_7, .bool a0_8, .bool a0_9] 61 (0, 0)) (by exact BK761.out) hb); have n2_ := Aside0.mk (below_step (by exact HB.out) hb); clear HO_1; clear BK761; clear HB; have HO_1 := n0_; have BK761 := n1_; have HB := n2_; clear n0_ n1_ n2_; (try clear hb)))
        go_ret
        exact ⟨by (rfl), by exact HB.out⟩
      · replace c10 := Bool.eq_false_iff.mpr c10
        subst c10
        have H1 : ((terms_Put.f kj2 a0_0 a0_1 a0_2 a0_3 a0_4 a0_5 a0_6 a0_7 a0_8 a0_9).bind fun bt765 => (if bt765.2 = true then ((terms_Read.f kj2 bt765.1).bind fun bt769 => (if bt769.2.2.2.2.2.2.2.2.2.2 = true then (if (!(bt769.1 == a0_0) || (!(bt769.2.1 == a0_1) || (!(bt769.2.2.1 == a0_2) || (!(bt769.2.2.2.1 == a0_3) || (!(bt769.2.2.2.2.1 == a0_4) || (!(bt769.2.2.2.2.2.1 == a0_5) || (!(bt769.2.2.2.2.2.2.1 == a0_6) || (!(bt769.2.2.2.2.2.2.2.1 == a0_7) || (!(bt769.2.2.2.2.2.2.2.2.1 == a0_8) || (!(bt769.2.2.2.2.2.2.2.2.2.1 == a0_9))))))))))) = true then (none) else ((terms_Login.f kj2 bt765.1).bind fun t781 => (if t781 = a0_4 then (umpirelaw14_TermsBack.j1 kj2 l1) else (none)))) else (none))) else (umpirelaw14_TermsBack.j1 kj2 l1))) = some r := by rw [if_neg (show ¬ (false = true) by decide)] at H; exact H
        clear H
        have H := H1
        clear H1
        replace H := Option.bind_eq_some_iff.mp H
        obtain ⟨⟨t765, t768⟩, A130, H⟩ := H
        replace H : (if t768 = true then ((terms_Read.f kj2 t765).bind fun bt769 => (if bt769.2.2.2.2.2.2.2.2.2.2 = true then (if (!(bt769.1 == a0_0) || (!(bt769.2.1 == a0_1) || (!(bt769.2.2.1 == a0_2) || (!(bt769.2.2.2.1 == a0_3) || (!(bt769.2.2.2.2.1 == a0_4) || (!(bt769.2.2.2.2.2.1 == a0_5) || (!(bt769.2.2.2.2.2.2.1 == a0_6) || (!(bt769.2.2.2.2.2.2.2.1 == a0_7) || (!(bt769.2.2.2.2.2.2.2.2.1 == a0_8) || (!(bt769.2.2.2.2.2.2.2.2.2.1 == a0_9))))))))))) = true then (none) else ((terms_Login.f kj2 t765).bind fun t781 => (if t781 = a0_4 then (umpirelaw14_TermsBack.j1 kj2 l1) else (none)))) else (none))) else (umpirelaw14_TermsBack.j1 kj2 l1)) = some r := H
        have A13 := Aside0.mk A130
        clear A130
        have HC14 := Aside0.mk H
        clear H
        have hcz15_0 : wc.cell? ⟨gb761, 0, none⟩ = some (.bool a0_0) := (blk_cell BK761.out 0).trans rfl
        have hcz15_1 : wc.cell? ⟨gb761, 1, none⟩ = some (.int .i64 a0_1) := (blk_cell BK761.out 1).trans rfl
        have hcz15_2 : wc.cell? ⟨gb761, 2, none⟩ = some (.bool a0_2) := (blk_cell BK761.out 2).trans rfl
        have hcz15_3 : wc.cell? ⟨gb761, 3, none⟩ = some (.int .u32 a0_3) := (blk_cell BK761.out 3).trans rfl
        have hcz15_4 : wc.cell? ⟨gb761, 4, none⟩ = some (.int .i64 a0_4) := (blk_cell BK761.out 4).trans rfl
        have hcz15_5 : wc.cell? ⟨gb761, 5, none⟩ = some (.bool a0_5) := (blk_cell BK761.out 5).trans rfl
        have hcz15_6 : wc.cell? ⟨gb761, 6, none⟩ = some (.bool a0_6) := (blk_cell BK761.out 6).trans rfl
        have hcz15_7 : wc.cell? ⟨gb761, 7, none⟩ = some (.int .u32 a0_7) := (blk_cell BK761.out 7).trans rfl
        have hcz15_8 : wc.cell? ⟨gb761, 8, none⟩ = some (.bool a0_8) := (blk_cell BK761.out 8).trans rfl
        have hcz15_9 : wc.cell? ⟨gb761, 9, none⟩ = some (.bool a0_9) := (blk_cell BK761.out 9).trans rfl
        have hfz15_0 := blk_frozen BK761.out 0
        have hfz15_1 := blk_frozen BK761.out 1
        have hfz15_2 := blk_frozen BK761.out 2
        have hfz15_3 := blk_frozen BK761.out 3
        have hfz15_4 := blk_frozen BK761.out 4
        have hfz15_5 := blk_frozen BK761.out 5
        have hfz15_6 := blk_frozen BK761.out 6
        have hfz15_7 := blk_frozen BK761.out 7
        have hfz15_8 := blk_frozen BK761.out 8
        have hfz15_9 := blk_frozen BK761.out 9
        go_upto_if 30 with (first | ((with_reducible refine gate_callee (f := 36) rfl ?_); refine goesL_ (some 27) rfl rfl Try.func36 (by kernel_rfl) rfl #[.agg #[.bool a0_0, .int .i64 a0_1, .bool a0_2, .int .u32 a0_3, .int .i64 a0_4, .bool a0_5, .bool a0_6, .int .u32 a0_7, .bool a0_8, .bool a0_9]] rfl (by (try simp only [List.map_toArray, List.map_cons, List.map_nil]); (rfl)) ?_; (with_reducible refine (terms_Put.calls kj2 a0_0 a0_1 a0_2 a0_3 a0_4 a0_5 a0_6 a0_7 a0_8 a0_9 t765 t768 _ A13.out).mono ?_); rintro e w16 ⟨v766, rfl, ho0, hb⟩; refine ⟨_, rfl, ?_⟩; have n0_ := Aside0.mk (Kd.V_elder' (by exact HO_1.out) (by (exact Kd.N_base (Kd.S_N (Kd.S_bound ho0)))) hb); have n1_ := Aside0.mk (Kd.N_lower (Kd.N_mono (ok' := fun k_ => (P1_ k_ ∨ w.heap.size ≤ k_) ∧ k_ ≠ gb761) (Kd.S_N (Kd.S_bound ho0)) (fun k_ hk_ => ⟨(.inr (Nat.le_trans (below_size (by exact HB.out)) hk_.2.1)), (Kd.freshB (g := gb761) (o := .cells #[.bool a0_0, .int .i64 a0_1, .bool a0_2, .int .u32 a0_3, .int .i64 a0_4, .bool a0_5, .bool a0_6, .int .u32 a0_7, .bool a0_8, .bool a0_9] 61 (0, 0)) (by exact BK761.out) k_ hk_.2.1)⟩)) (below_size (by exact HB.out))); have n2_ := Aside0.mk (blk_below (g := gb761) (o := .cells #[.bool a0_0, .int .i64 a0_1, .bool a0_2, .int .u32 a0_3, .int .i64 a0_4, .bool a0_5, .bool a0_6, .int .u32 a0_7, .bool a0_8, .bool a0_9] 61 (0, 0)) (by exact BK761.out) hb); have n3_ := Aside0.mk (below_step (by exact HB.out) hb); clear HO_1; clear BK761; clear HB; have HO_1 := n0_; have HO767 := n1_; have BK761 := n2_; have HB := n3_; clear n0_ n1_ n2_ n3_; (try clear hb); (try clear ho0)))
        (skip)
        go_cut [] (fun wc => ∃ (kq : Nat), Aside0 (umpirelaw14_TermsBack.j1 kq l1 = some r) ∧ Aside0 (kq ≤ kj2) ∧ Aside0 (Kd.V k55 55 wc w.heap.size (fun k_ => (P1_ k_ ∨ w.heap.size ≤ k_) ∧ k_ ≠ gb761) (.slice A1 l1.length c1) l1) ∧ Aside0 (wc.heap[gb761]? = some (.cells #[.bool a0_0, .int .i64 a0_1, .bool a0_2, .int .u32 a0_3, .int .i64 a0_4, .bool a0_5, .bool a0_6, .int .u32 a0_7, .bool a0_8, .bool a0_9] 61 (0, 0))) ∧ Aside0 (Below w.heap.size w wc))
        case first =>
          have H := HC14.out
          clear HC14
          by_cases c17 : t768 = true
          · subst c17
            have H1 : ((terms_Read.f kj2 t765).bind fun bt769 => (if bt769.2.2.2.2.2.2.2.2.2.2 = true then (if (!(bt769.1 == a0_0) || (!(bt769.2.1 == a0_1) || (!(bt769.2.2.1 == a0_2) || (!(bt769.2.2.2.1 == a0_3) || (!(bt769.2.2.2.2.1 == a0_4) || (!(bt769.2.2.2.2.2.1 == a0_5) || (!(bt769.2.2.2.2.2.2.1 == a0_6) || (!(bt769.2.2.2.2.2.2.2.1 == a0_7) || (!(bt769.2.2.2.2.2.2.2.2.1 == a0_8) || (!(bt769.2.2.2.2.2.2.2.2.2.1 == a0_9))))))))))) = true then (none) else ((terms_Login.f kj2 t765).bind fun t781 => (if t781 = a0_4 then (umpirelaw14_TermsBack.j1 kj2 l1) else (none)))) else (none))) = some r := by rw [if_pos rfl] at H; exact H
            clear H
            have H := H1
            clear H1
            replace H := Option.bind_eq_some_iff.mp H
            obtain ⟨⟨t769, t770, t771, t772, t773, t774, t775, t776, t777, t778, t779⟩, A180, H⟩ := H
            replace H : (if t779 = true then (if (!(t769 == a0_0) || (!(t770 == a0_1) || (!(t771 == a0_2) || (!(t772 == a0_3) || (!(t773 == a0_4) || (!(t774 == a0_5) || (!(t775 == a0_6) || (!(t776 == a0_7) || (!(t777 == a0_8) || (!(t778 == a0_9))))))))))) = true then (none) else ((terms_Login.f kj2 t765).bind fun t781 => (if t781 = a0_4 then (umpirelaw14_TermsBack.j1 kj2 l1) else (none)))) else (none)) = some r := H
            have A18 := Aside0.mk A180
            clear A180
            by_cases c19 : t779 = true
            · subst c19
              have H1 : (if (!(t769 == a0_0) || (!(t770 == a0_1) || (!(t771 == a0_2) || (!(t772 == a0_3) || (!(t773 == a0_4) || (!(t774 == a0_5) || (!(t775 == a0_6) || (!(t776 == a0_7) || (!(t777 == a0_8) || (!(t778 == a0_9))))))))))) = true then (none) else ((terms_Login.f kj2 t765).bind fun t781 => (if t781 = a0_4 then (umpirelaw14_TermsBack.j1 kj2 l1) else (none)))) = some r := by rw [if_pos rfl] at H; exact H
              clear H
              have H := H1
              clear H1
              by_cases c20 : (!(t769 == a0_0) || (!(t770 == a0_1) || (!(t771 == a0_2) || (!(t772 == a0_3) || (!(t773 == a0_4) || (!(t774 == a0_5) || (!(t775 == a0_6) || (!(t776 == a0_7) || (!(t777 == a0_8) || (!(t778 == a0_9))))))))))) = true
              · rw [if_pos c20] at H
                exact absurd H (by simp)
              · rw [if_neg c20] at H
                have c20b0 : (!(t769 == a0_0) || (!(t770 == a0_1) || (!(t771 == a0_2) || (!(t772 == a0_3) || (!(t773 == a0_4) || (!(t774 == a0_5) || (!(t775 == a0_6) || (!(t776 == a0_7) || (!(t777 == a0_8) || (!(t778 == a0_9))))))))))) = false := by simpa using c20
                clear c20
                (skip)
                replace H := Option.bind_eq_some_iff.mp H
                obtain ⟨t781, A210, H⟩ := H
                replace H : (if t781 = a0_4 then (umpirelaw14_TermsBack.j1 kj2 l1) else (none)) = some r := H
                have A21 := Aside0.mk A210
                clear A210
                by_cases c22 : t781 = a0_4
                · rw [if_pos c22] at H
                  have c22b0 : (t781 == a0_4) = true := beq_iff_eq.mpr c22
                  have c22b1 : (t781 != a0_4) = false := bne_eq_false_iff_eq.mpr c22
                  clear c22
                  have H' := Aside0.mk H
                  clear H
                  obtain ⟨Ao23, co23, eo23⟩ := Kd.N_slice HO767.out
                  subst eo23
                  try go_wp2_with (first | ((with_reducible refine gate_callee (f := 32) rfl ?_); refine goesL_ (some 33) rfl rfl Try.func32 (by kernel_rfl) rfl #[.slice Ao23 t765.length co23] rfl (by (try simp only [List.map_toArray, List.map_cons, List.map_nil]); (rfl)) ?_; (with_reducible refine (terms_Read.calls kj2 _ _ t765 t769 t770 t771 t772 t773 t774 t775 t776 t777 t778 true _ ?side1 ?side2 A18.out).mono ?_); (case side1 => exact (Kd.N_reads' HO767.out).2.2); (case side2 => exact (Kd.N_reads' HO767.out).2.1); rintro e w24 ⟨rfl, hb⟩; refine ⟨_, rfl, ?_⟩; have n0_ := Aside0.mk (Kd.V_below (by exact HO_1.out) hb); have n1_ := Aside0.mk (Kd.N_below (by exact HO767.out) hb); have n2_ := Aside0.mk (blk_below (g := gb761) (o := .cells #[.bool a0_0, .int .i64 a0_1, .bool a0_2, .int .u32 a0_3, .int .i64 a0_4, .bool a0_5, .bool a0_6, .int .u32 a0_7, .bool a0_8, .bool a0_9] 61 (0, 0)) (by exact BK761.out) hb); have n3_ := Aside0.mk (below_step (by exact HB.out) hb); clear HO_1; clear HO767; clear BK761; clear HB; have HO_1 := n0_; have HO767 := n1_; have BK761 := n2_; have HB := n3_; clear n0_ n1_ n2_ n3_; (try clear hb)) | ((with_reducible refine gate_dst (N := 7) rfl ?_); (try (refine gate_guard (by rfl) ?_; dsimp only)); refine box_event ?hg (N := 7) ?hd (cs := #[.bool false, .int .i64 0, .bool false, .int .u32 0, .int .i64 0, .bool false, .bool false, .int .u32 0, .bool false, .bool false]) (t := 61) ?hr ?_; (case hd => rfl); (case hg => rfl); (case hr => (go_simp; done)); intro gb780 hg w25 hbox hb; have n0_ := Aside0.mk (Kd.V_below (Kd.V_elderB (by exact HO_1.out) gb780 (Nat.le_of_eq hg.symm)) hb); have n1_ := Aside0.mk (Kd.N_below (Kd.N_elderB (by exact HO767.out) gb780 (Nat.le_of_eq hg.symm)) hb); have n2_ := Aside0.mk (blk_below (g := gb761) (o := .cells #[.bool a0_0, .int .i64 a0_1, .bool a0_2, .int .u32 a0_3, .int .i64 a0_4, .bool a0_5, .bool a0_6, .int .u32 a0_7, .bool a0_8, .bool a0_9] 61 (0, 0)) (by exact BK761.out) hb); have n3_ := Aside0.mk (below_step (by exact HB.out) hb); have n4_ := Aside0.mk (hbox); have n5_ := Aside0.mk ((by rw [hg]; exact (below_size (by exact HB.out)) : w.heap.size ≤ gb780)); have n6_ := Aside0.mk ((by rw [hg]; exact (below_size (by exact HB.out)) : w.heap.size ≤ gb780)); have n7_ := Aside0.mk ((by rw [hg]; exact Nat.ne_of_lt (blk_lt (g := gb761) (o := .cells #[.bool a0_0, .int .i64 a0_1, .bool a0_2, .int .u32 a0_3, .int .i64 a0_4, .bool a0_5, .bool a0_6, .int .u32 a0_7, .bool a0_8, .bool a0_9] 61 (0, 0)) (by exact BK761.out)) : gb761 ≠ gb780)); have n8_ := Aside0.mk ((by rw [hg]; exact Nat.ne_of_gt (blk_lt (g := gb761) (o := .cells #[.bool a0_0, .int .i64 a0_1, .bool a0_2, .int .u32 a0_3, .int .i64 a0_4, .bool a0_5, .bool a0_6, .int .u32 a0_7, .bool a0_8, .bool a0_9] 61 (0, 0)) (by exact BK761.out)) : gb780 ≠ gb761)); clear HO_1; clear HO767; clear BK761; clear HB; have HO_1 := n0_; have HO767 := n1_; have BK761 := n2_; have HB := n3_; have BK780 := n4_; have GW780 := n5_; have GE780 := n6_; have NB761_780 := n7_; have NB780_761 := n8_; clear n0_ n1_ n2_ n3_ n4_ n5_ n6_ n7_ n8_; clear hb hbox hg; have hnb26 := NB780_761.out; have hnc26 := NB761_780.out; have hcz27_0 : w25.cell? ⟨gb780, 0, none⟩ = some (.bool false) := (blk_cell BK780.out 0).trans rfl; have hcz27_1 : w25.cell? ⟨gb780, 1, none⟩ = some (.int .i64 0) := (blk_cell BK780.out 1).trans rfl; have hcz27_2 : w25.cell? ⟨gb780, 2, none⟩ = some (.bool false) := (blk_cell BK780.out 2).trans rfl; have hcz27_3 : w25.cell? ⟨gb780, 3, none⟩ = some (.int .u32 0) := (blk_cell BK780.out 3).trans rfl; have hcz27_4 : w25.cell? ⟨gb780, 4, none⟩ = some (.int .i64 0) := (blk_cell BK780.out 4).trans rfl; have hcz27_5 : w25.cell? ⟨gb780, 5, none⟩ = some (.bool false) := (blk_cell BK780.out 5).trans rfl; have hcz27_6 : w25.cell? ⟨gb780, 6, none⟩ = some (.bool false) := (blk_cell BK780.out 6).trans rfl; have hcz27_7 : w25.cell? ⟨gb780, 7, none⟩ = some (.int .u32 0) := (blk_cell BK780.out 7).trans rfl; have hcz27_8 : w25.cell? ⟨gb780, 8, none⟩ = some (.bool false) := (blk_cell BK780.out 8).trans rfl; have hcz27_9 : w25.cell? ⟨gb780, 9, none⟩ = some (.bool false) := (blk_cell BK780.out 9).trans rfl; have hfz27_0 := blk_frozen BK780.out 0; have hfz27_1 := blk_frozen BK780.out 1; have hfz27_2 := blk_frozen BK780.out 2; have hfz27_3 := blk_frozen BK780.out 3; have hfz27_4 := blk_frozen BK780.out 4; have hfz27_5 := blk_frozen BK780.out 5; have hfz27_6 := blk_frozen BK780.out 6; have hfz27_7 := blk_frozen BK780.out 7; have hfz27_8 := blk_frozen BK780.out 8; have hfz27_9 := blk_frozen BK780.out 9))
                  have n0_ : Aside0 (Kd.V k55 55 ((((((((((w25.setCell ⟨gb780, 0, none⟩ (.bool t769)).setCell ⟨gb780, 1, none⟩ (.int .i64 t770)).setCell ⟨gb780, 2, none⟩ (.bool t771)).setCell ⟨gb780, 3, none⟩ (.int .u32 t772)).setCell ⟨gb780, 4, none⟩ (.int .i64 t773)).setCell ⟨gb780, 5, none⟩ (.bool t774)).setCell ⟨gb780, 6, none⟩ (.bool t775)).setCell ⟨gb780, 7, none⟩ (.int .u32 t776)).setCell ⟨gb780, 8, none⟩ (.bool t777)).setCell ⟨gb780, 9, none⟩ (.bool t778)) w.heap.size (fun k_ => (P1_ k_ ∨ w.heap.size ≤ k_) ∧ some k_ ≠ (.slice Ao23 t765.length co23 : Value).ownBlock ∧ k_ ≠ gb761 ∧ k_ ≠ gb780) (.slice A1 l1.length c1) l1) := ⟨by exact Kd.V_mono (Kd.V_far (p := ⟨gb780, 9, none⟩) (Kd.V_far (p := ⟨gb780, 8, none⟩) (Kd.V_far (p := ⟨gb780, 7, none⟩) (Kd.V_far (p := ⟨gb780, 6, none⟩) (Kd.V_far (p := ⟨gb780, 5, none⟩) (Kd.V_far (p := ⟨gb780, 4, none⟩) (Kd.V_far (p := ⟨gb780, 3, none⟩) (Kd.V_far (p := ⟨gb780, 2, none⟩) (Kd.V_far (p := ⟨gb780, 1, none⟩) (Kd.V_far (p := ⟨gb780, 0, none⟩) (Kd.V_mono HO_1.out (fun k_ hk => (⟨hk, hk.2⟩ : _ ∧ k_ ≠ gb780))) (fun _ hk => hk.2) (.bool t769)) (fun _ hk => hk.2) (.int .i64 t770)) (fun _ hk => hk.2) (.bool t771)) (fun _ hk => hk.2) (.int .u32 t772)) (fun _ hk => hk.2) (.int .i64 t773)) (fun _ hk => hk.2) (.bool t774)) (fun _ hk => hk.2) (.bool t775)) (fun _ hk => hk.2) (.int .u32 t776)) (fun _ hk => hk.2) (.bool t777)) (fun _ hk => hk.2) (.bool t778)) (fun _ hk => ⟨hk.1.1.1.1, ⟨hk.1.1.2, ⟨hk.1.1.1.2, hk.1.2⟩⟩⟩)⟩
                  have n1_ : Aside0 (Kd.N k55 55 ((((((((((w25.setCell ⟨gb780, 0, none⟩ (.bool t769)).setCell ⟨gb780, 1, none⟩ (.int .i64 t770)).setCell ⟨gb780, 2, none⟩ (.bool t771)).setCell ⟨gb780, 3, none⟩ (.int .u32 t772)).setCell ⟨gb780, 4, none⟩ (.int .i64 t773)).setCell ⟨gb780, 5, none⟩ (.bool t774)).setCell ⟨gb780, 6, none⟩ (.bool t775)).setCell ⟨gb780, 7, none⟩ (.int .u32 t776)).setCell ⟨gb780, 8, none⟩ (.bool t777)).setCell ⟨gb780, 9, none⟩ (.bool t778)) w.heap.size (fun k_ => (P1_ k_ ∨ w.heap.size ≤ k_) ∧ k_ ≠ gb761 ∧ k_ ≠ gb780) (.slice Ao23 t765.length co23) t765) := ⟨by exact Kd.N_mono (Kd.N_far (p := ⟨gb780, 9, none⟩) (Kd.N_far (p := ⟨gb780, 8, none⟩) (Kd.N_far (p := ⟨gb780, 7, none⟩) (Kd.N_far (p := ⟨gb780, 6, none⟩) (Kd.N_far (p := ⟨gb780, 5, none⟩) (Kd.N_far (p := ⟨gb780, 4, none⟩) (Kd.N_far (p := ⟨gb780, 3, none⟩) (Kd.N_far (p := ⟨gb780, 2, none⟩) (Kd.N_far (p := ⟨gb780, 1, none⟩) (Kd.N_far (p := ⟨gb780, 0, none⟩) (Kd.N_mono HO767.out (fun k_ hk => (⟨hk, hk.2⟩ : _ ∧ k_ ≠ gb780))) (fun _ hk => hk.2) (.bool t769)) (fun _ hk => hk.2) (.int .i64 t770)) (fun _ hk => hk.2) (.bool t771)) (fun _ hk => hk.2) (.int .u32 t772)) (fun _ hk => hk.2) (.int .i64 t773)) (fun _ hk => hk.2) (.bool t774)) (fun _ hk => hk.2) (.bool t775)) (fun _ hk => hk.2) (.int .u32 t776)) (fun _ hk => hk.2) (.bool t777)) (fun _ hk => hk.2) (.bool t778)) (fun _ hk => ⟨hk.1.1.1, ⟨hk.1.1.2, hk.1.2⟩⟩)⟩
                  have n2_ : Aside0 (((((((((((w25.setCell ⟨gb780, 0, none⟩ (.bool t769)).setCell ⟨gb780, 1, none⟩ (.int .i64 t770)).setCell ⟨gb780, 2, none⟩ (.bool t771)).setCell ⟨gb780, 3, none⟩ (.int .u32 t772)).setCell ⟨gb780, 4, none⟩ (.int .i64 t773)).setCell ⟨gb780, 5, none⟩ (.bool t774)).setCell ⟨gb780, 6, none⟩ (.bool t775)).setCell ⟨gb780, 7, none⟩ (.int .u32 t776)).setCell ⟨gb780, 8, none⟩ (.bool t777)).setCell ⟨gb780, 9, none⟩ (.bool t778)).heap[gb761]? = some (.cells #[.bool a0_0, .int .i64 a0_1, .bool a0_2, .int .u32 a0_3, .int .i64 a0_4, .bool a0_5, .bool a0_6, .int .u32 a0_7, .bool a0_8, .bool a0_9] 61 (0, 0))) := ⟨by refine blk_far ?_ NB761_780.out _; refine blk_far ?_ NB761_780.out _; refine blk_far ?_ NB761_780.out _; refine blk_far ?_ NB761_780.out _; refine blk_far ?_ NB761_780.out _; refine blk_far ?_ NB761_780.out _; refine blk_far ?_ NB761_780.out _; refine blk_far ?_ NB761_780.out _; refine blk_far ?_ NB761_780.out _; refine blk_far ?_ NB761_780.out _; exact BK761.out⟩
                  have n3_ : Aside0 (((((((((((w25.setCell ⟨gb780, 0, none⟩ (.bool t769)).setCell ⟨gb780, 1, none⟩ (.int .i64 t770)).setCell ⟨gb780, 2, none⟩ (.bool t771)).setCell ⟨gb780, 3, none⟩ (.int .u32 t772)).setCell ⟨gb780, 4, none⟩ (.int .i64 t773)).setCell ⟨gb780, 5, none⟩ (.bool t774)).setCell ⟨gb780, 6, none⟩ (.bool t775)).setCell ⟨gb780, 7, none⟩ (.int .u32 t776)).setCell ⟨gb780, 8, none⟩ (.bool t777)).setCell ⟨gb780, 9, none⟩ (.bool t778)).heap[gb780]? = some (.cells #[.bool t769, .int .i64 t770, .bool t771, .int .u32 t772, .int .i64 t773, .bool t774, .bool t775, .int .u32 t776, .bool t777, .bool t778] 61 (0, 0))) := ⟨by refine blk_put (cs := #[.bool t769, .int .i64 t770, .bool t771, .int .u32 t772, .int .i64 t773, .bool t774, .bool t775, .int .u32 t776, .bool t777, .bool false]) ?_ 9 _ rfl; refine blk_put (cs := #[.bool t769, .int .i64 t770, .bool t771, .int .u32 t772, .int .i64 t773, .bool t774, .bool t775, .int .u32 t776, .bool false, .bool false]) ?_ 8 _ rfl; refine blk_put (cs := #[.bool t769, .int .i64 t770, .bool t771, .int .u32 t772, .int .i64 t773, .bool t774, .bool t775, .int .u32 0, .bool false, .bool false]) ?_ 7 _ rfl; refine blk_put (cs := #[.bool t769, .int .i64 t770, .bool t771, .int .u32 t772, .int .i64 t773, .bool t774, .bool false, .int .u32 0, .bool false, .bool false]) ?_ 6 _ rfl; refine blk_put (cs := #[.bool t769, .int .i64 t770, .bool t771, .int .u32 t772, .int .i64 t773, .bool false, .bool false, .int .u32 0, .bool false, .bool false]) ?_ 5 _ rfl; refine blk_put (cs := #[.bool t769, .int .i64 t770, .bool t771, .int .u32 t772, .int .i64 0, .bool false, .bool false, .int .u32 0, .bool false, .bool false]) ?_ 4 _ rfl; refine blk_put (cs := #[.bool t769, .int .i64 t770, .bool t771, .int .u32 0, .int .i64 0, .bool false, .bool false, .int .u32 0, .bool false, .bool false]) ?_ 3 _ rfl; refine blk_put (cs := #[.bool t769, .int .i64 t770, .bool false, .int .u32 0, .int .i64 0, .bool false, .bool false, .int .u32 0, .bool false, .bool false]) ?_ 2 _ rfl; refine blk_put (cs := #[.bool t769, .int .i64 0, .bool false, .int .u32 0, .int .i64 0, .bool false, .bool false, .int .u32 0, .bool false, .bool false]) ?_ 1 _ rfl; refine blk_put (cs := #[.bool false, .int .i64 0, .bool false, .int .u32 0, .int .i64 0, .bool false, .bool false, .int .u32 0, .bool false, .bool false]) ?_ 0 _ rfl; exact BK780.out⟩
                  have n4_ : Aside0 (Below w.heap.size w ((((((((((w25.setCell ⟨gb780, 0, none⟩ (.bool t769)).setCell ⟨gb780, 1, none⟩ (.int .i64 t770)).setCell ⟨gb780, 2, none⟩ (.bool t771)).setCell ⟨gb780, 3, none⟩ (.int .u32 t772)).setCell ⟨gb780, 4, none⟩ (.int .i64 t773)).setCell ⟨gb780, 5, none⟩ (.bool t774)).setCell ⟨gb780, 6, none⟩ (.bool t775)).setCell ⟨gb780, 7, none⟩ (.int .u32 t776)).setCell ⟨gb780, 8, none⟩ (.bool t777)).setCell ⟨gb780, 9, none⟩ (.bool t778))) := ⟨by repeat (with_reducible first | exact HB.out | refine below_set ?_ GE780.out)⟩
                  (try clear HO_1)
                  (try clear HO767)
                  (try clear BK761)
                  (try clear BK780)
                  (try clear HB)
                  generalize ((((((((((w25.setCell ⟨gb780, 0, none⟩ (.bool t769)).setCell ⟨gb780, 1, none⟩ (.int .i64 t770)).setCell ⟨gb780, 2, none⟩ (.bool t771)).setCell ⟨gb780, 3, none⟩ (.int .u32 t772)).setCell ⟨gb780, 4, none⟩ (.int .i64 t773)).setCell ⟨gb780, 5, none⟩ (.bool t774)).setCell ⟨gb780, 6, none⟩ (.bool t775)).setCell ⟨gb780, 7, none⟩ (.int .u32 t776)).setCell ⟨gb780, 8, none⟩ (.bool t777)).setCell ⟨gb780, 9, none⟩ (.bool t778)) = w28 at n0_ n1_ n2_ n3_ n4_ ⊢
                  have HO_1 := n0_
                  have HO767 := n1_
                  have BK761 := n2_
                  have BK780 := n3_
                  have HB := n4_
                  clear n0_ n1_ n2_ n3_ n4_
                  have n0_ := Aside0.mk (Kd.V_drew HO_1.out)
                  have n1_ := Aside0.mk (Kd.N_drew HO767.out)
                  have n2_ := Aside0.mk (blk_drew BK761.out)
                  have n3_ := Aside0.mk (blk_drew BK780.out)
                  have n4_ := Aside0.mk (below_drew1 HB.out)
                  clear HO_1
                  clear HO767
                  clear BK761
                  clear BK780
                  clear HB
                  have HO_1 := n0_
                  have HO767 := n1_
                  have BK761 := n2_
                  have BK780 := n3_
                  have HB := n4_
                  clear n0_ n1_ n2_ n3_ n4_
                  refine start_ (n := 14) (S := fun w' => w'.cell? ⟨gb780, 0, none⟩ = some (.bool t769) ∧ w'.cell? ⟨gb780, 1, none⟩ = some (.int .i64 t770) ∧ w'.cell? ⟨gb780, 2, none⟩ = some (.bool t771) ∧ w'.cell? ⟨gb780, 3, none⟩ = some (.int .u32 t772) ∧ w'.cell? ⟨gb780, 4, none⟩ = some (.int .i64 t773) ∧ w'.cell? ⟨gb780, 5, none⟩ = some (.bool t774) ∧ w'.cell? ⟨gb780, 6, none⟩ = some (.bool t775) ∧ w'.cell? ⟨gb780, 7, none⟩ = some (.int .u32 t776) ∧ w'.cell? ⟨gb780, 8, none⟩ = some (.bool t777) ∧ w'.cell? ⟨gb780, 9, none⟩ = some (.bool t778) ∧ w'.cell? ⟨gb761, 0, none⟩ = some (.bool a0_0) ∧ w'.cell? ⟨gb761, 1, none⟩ = some (.int .i64 a0_1) ∧ w'.cell? ⟨gb761, 2, none⟩ = some (.bool a0_2) ∧ w'.cell? ⟨gb761, 3, none⟩ = some (.int .u32 a0_3) ∧ w'.cell? ⟨gb761, 4, none⟩ = some (.int .i64 a0_4) ∧ w'.cell? ⟨gb761, 5, none⟩ = some (.bool a0_5) ∧ w'.cell? ⟨gb761, 6, none⟩ = some (.bool a0_6) ∧ w'.cell? ⟨gb761, 7, none⟩ = some (.int .u32 a0_7) ∧ w'.cell? ⟨gb761, 8, none⟩ = some (.bool a0_8) ∧ w'.cell? ⟨gb761, 9, none⟩ = some (.bool a0_9)) (ds := []) #[false, false, false, false, false, false, false, false, false, false, false, false, false, false] (by kernel_rfl) rfl rfl ⟨(blk_cell BK780.out 0).trans rfl, (blk_cell BK780.out 1).trans rfl, (blk_cell BK780.out 2).trans rfl, (blk_cell BK780.out 3).trans rfl, (blk_cell BK780.out 4).trans rfl, (blk_cell BK780.out 5).trans rfl, (blk_cell BK780.out 6).trans rfl, (blk_cell BK780.out 7).trans rfl, (blk_cell BK780.out 8).trans rfl, (blk_cell BK780.out 9).trans rfl, (blk_cell BK761.out 0).trans rfl, (blk_cell BK761.out 1).trans rfl, (blk_cell BK761.out 2).trans rfl, (blk_cell BK761.out 3).trans rfl, (blk_cell BK761.out 4).trans rfl, (blk_cell BK761.out 5).trans rfl, (blk_cell BK761.out 6).trans rfl, (blk_cell BK761.out 7).trans rfl, (blk_cell BK761.out 8).trans rfl, (blk_cell BK761.out 9).trans rfl⟩ (fun hHeld => ?_); refine with_tabW umpirelaw14_TermsBack.tab6 umpirelaw14_TermsBack.bits6 (fun HT_ HW_ => ?_)
                  generalize w28.drew = w29 at HO_1 HO767 BK761 BK780 HB hHeld ⊢
                  refine pure_ (i := 0) (N := some 36) (v := ?_) (a' := ?_) #[true, false, false, false, false, false, false, false, false, false, false, false, false, false] rfl rfl (any_of HT_.out (by kernel_rfl)) (fun _ _ _ h => h) (Or.inl ⟨by rfl, ?_⟩) ?_ ?_
                  rotate_left
                  · intro w'
                    go_simp
                    with_reducible rfl
                  rotate_left
                  · simp only [Act.put, List.setIfInBounds_toArray, List.set_cons_zero, List.set_cons_succ, i64_w, i32_w]
                    rfl
                  refine pure_ (i := 1) (N := some 37) (v := ?_) (a' := ?_) #[true, true, false, false, false, false, false, false, false, false, false, false, false, false] rfl rfl (any_of HT_.out (by kernel_rfl)) (fun _ _ _ h => h) (Or.inl ⟨by rfl, ?_⟩) ?_ ?_
                  rotate_left
                  · intro w'
                    go_simp
                    with_reducible rfl
                  rotate_left
                  · simp only [Act.put, List.setIfInBounds_toArray, List.set_cons_zero, List.set_cons_succ, i64_w, i32_w]
                    rfl
                  refine pure_ (i := 2) (N := some 38) (v := ?_) (a' := ?_) #[true, true, true, false, false, false, false, false, false, false, false, false, false, false] rfl rfl (any_of HT_.out (by kernel_rfl)) (fun _ _ _ h => h) (Or.inl ⟨by rfl, ?_⟩) ?_ ?_
                  rotate_left
                  · intro w'
                    go_simp
                    with_reducible rfl
                  rotate_left
                  · simp only [Act.put, List.setIfInBounds_toArray, List.set_cons_zero, List.set_cons_succ, i64_w, i32_w]
                    rfl
                  refine take_ (i := 3) (N := some 39) (v := ?_) (a' := ?_) #[true, true, true, true, false, false, false, false, false, false, false, false, false, false] rfl rfl (take_ofW HT_.out HW_.out (by kernel_rfl)) (fun _ _ _ h => h) (Or.inl ⟨by rfl, ?_⟩) hHeld ?_ ?_
                  rotate_left
                  · rintro w' ⟨s0, s1, s2, s3, s4, s5, s6, s7, s8, s9, s10, s11, s12, s13, s14, s15, s16, s17, s18, s19⟩
                    go_simp
                    with_reducible rfl
                  rotate_left
                  · simp only [Act.put, List.setIfInBounds_toArray, List.set_cons_zero, List.set_cons_succ, i64_w, i32_w]
                    rfl
                  refine take_ (i := 4) (N := some 40) (v := ?_) (a' := ?_) #[true, true, true, true, true, false, false, false, false, false, false, false, false, false] rfl rfl (take_ofW HT_.out HW_.out (by kernel_rfl)) (fun _ _ _ h => h) (Or.inl ⟨by rfl, ?_⟩) hHeld ?_ ?_
                  rotate_left
                  · rintro w' ⟨s0, s1, s2, s3, s4, s5, s6, s7, s8, s9, s10, s11, s12, s13, s14, s15, s16, s17, s18, s19⟩
                    go_simp
                    with_reducible rfl
                  rotate_left
                  · simp only [Act.put, List.setIfInBounds_toArray, List.set_cons_zero, List.set_cons_succ, i64_w, i32_w]
                    rfl
                  refine pure_ (i := 5) (N := some 41) (v := ?_) (a' := ?_) #[true, true, true, true, true, true, false, false, false, false, false, false, false, false] rfl rfl (any_of HT_.out (by kernel_rfl)) (fun _ _ _ h => h) (Or.inl ⟨by rfl, ?_⟩) ?_ ?_
                  rotate_left
                  · intro w'
                    go_simp
                    with_reducible rfl
                  rotate_left
                  · simp only [Act.put, List.setIfInBounds_toArray, List.set_cons_zero, List.set_cons_succ, i64_w, i32_w]
                    rfl
                  refine pure_ (i := 6) (N := some 42) (v := ?_) (a' := ?_) #[true, true, true, true, true, true, true, false, false, false, false, false, false, false] rfl rfl (any_of HT_.out (by kernel_rfl)) (fun _ _ _ h => h) (Or.inl ⟨by rfl, ?_⟩) ?_ ?_
                  rotate_left
                  · intro w'
                    go_simp
                    with_reducible rfl
                  rotate_left
                  · simp only [Act.put, List.setIfInBounds_toArray, List.set_cons_zero, List.set_cons_succ, i64_w, i32_w]
                    rfl
                  refine pure_ (i := 7) (N := some 43) (v := ?_) (a' := ?_) #[true, true, true, true, true, true, true, true, false, false, false, false, false, false] rfl rfl (any_of HT_.out (by kernel_rfl)) (fun _ _ _ h => h) (Or.inl ⟨by rfl, ?_⟩) ?_ ?_
                  rotate_left
                  · intro w'
                    go_simp
                    with_reducible rfl
                  rotate_left
                  · simp only [Act.put, List.setIfInBounds_toArray, List.set_cons_zero, List.set_cons_succ, i64_w, i32_w]
                    rfl
                  refine pure_ (i := 8) (N := some 44) (v := ?_) (a' := ?_) #[true, true, true, true, true, true, true, true, true, false, false, false, false, false] rfl rfl (any_of HT_.out (by kernel_rfl)) (fun _ _ _ h => h) (Or.inl ⟨by rfl, ?_⟩) ?_ ?_
                  rotate_left
                  · intro w'
                    go_simp
                    with_reducible rfl
                  rotate_left
                  · simp only [Act.put, List.setIfInBounds_toArray, List.set_cons_zero, List.set_cons_succ, i64_w, i32_w]
                    rfl
                  refine pure_ (i := 10) (N := some 46) (v := ?_) (a' := ?_) #[true, true, true, true, true, true, true, true, true, false, true, false, false, false] rfl rfl (any_of HT_.out (by kernel_rfl)) (fun _ _ _ h => h) (Or.inl ⟨by rfl, ?_⟩) ?_ ?_
                  rotate_left
                  · intro w'
                    go_simp
                    with_reducible rfl
                  rotate_left
                  · simp only [Act.put, List.setIfInBounds_toArray, List.set_cons_zero, List.set_cons_succ, i64_w, i32_w]
                    rfl
                  refine take_ (i := 11) (N := some 47) (v := ?_) (a' := ?_) #[true, true, true, true, true, true, true, true, true, false, true, true, false, false] rfl rfl (take_ofW HT_.out HW_.out (by kernel_rfl)) (fun _ _ _ h => h) (Or.inl ⟨by rfl, ?_⟩) hHeld ?_ ?_
                  rotate_left
                  · rintro w' ⟨s0, s1, s2, s3, s4, s5, s6, s7, s8, s9, s10, s11, s12, s13, s14, s15, s16, s17, s18, s19⟩
                    go_simp
                    with_reducible rfl
                  rotate_left
                  · simp only [Act.put, List.setIfInBounds_toArray, List.set_cons_zero, List.set_cons_succ, i64_w, i32_w]
                    rfl
                  refine one_ (i := 9) (N := some 45) #[true, true, true, true, true, true, true, true, true, true, true, true, false, false] rfl rfl (one_of HT_.out (by kernel_rfl)) (by decide) (fun K hK => ?_)
                  refine goes_ Try.func34 (by kernel_rfl) rfl #[.slice Ao23 t765.length co23] (by rfl) rfl rfl (by (try simp only [List.map_toArray, List.map_cons, List.map_nil]); (rfl)) ?_
                  with_reducible refine (terms_Login.calls kj2 _ _ t765 t781 _ ?side1 ?side2 A21.out).mono ?_
                  (case side1 => exact (Kd.N_reads' HO767.out).2.2)
                  (case side2 => exact (Kd.N_reads' HO767.out).2.1)
                  rintro e w30 ⟨rfl, hb⟩
                  refine ⟨_, rfl, ?_⟩
                  have n0_ := Aside0.mk (Kd.V_below (by exact HO_1.out) hb)
                  have n1_ := Aside0.mk (Kd.N_below (by exact HO767.out) hb)
                  have n2_ := Aside0.mk (blk_below (g := gb761) (o := .cells #[.bool a0_0, .int .i64 a0_1, .bool a0_2, .int .u32 a0_3, .int .i64 a0_4, .bool a0_5, .bool a0_6, .int .u32 a0_7, .bool a0_8, .bool a0_9] 61 (0, 0)) (by exact BK761.out) hb)
                  have n3_ := Aside0.mk (blk_below (g := gb780) (o := .cells #[.bool t769, .int .i64 t770, .bool t771, .int .u32 t772, .int .i64 t773, .bool t774, .bool t775, .int .u32 t776, .bool t777, .bool t778] 61 (0, 0)) (by exact BK780.out) hb)
                  have n4_ := Aside0.mk (below_step (by exact HB.out) hb)
                  clear HO_1
                  clear HO767
                  clear BK761
                  clear BK780
                  clear HB
                  have HO_1 := n0_
                  have HO767 := n1_
                  have BK761 := n2_
                  have BK780 := n3_
                  have HB := n4_
                  clear n0_ n1_ n2_ n3_ n4_
                  (try clear hb)
                  (skip)
                  (skip)
                  (skip)
                  refine hK.out _ _ ⟨(blk_cell BK780.out 0).trans rfl, (blk_cell BK780.out 1).trans rfl, (blk_cell BK780.out 2).trans rfl, (blk_cell BK780.out 3).trans rfl, (blk_cell BK780.out 4).trans rfl, (blk_cell BK780.out 5).trans rfl, (blk_cell BK780.out 6).trans rfl, (blk_cell BK780.out 7).trans rfl, (blk_cell BK780.out 8).trans rfl, (blk_cell BK780.out 9).trans rfl, (blk_cell BK761.out 0).trans rfl, (blk_cell BK761.out 1).trans rfl, (blk_cell BK761.out 2).trans rfl, (blk_cell BK761.out 3).trans rfl, (blk_cell BK761.out 4).trans rfl, (blk_cell BK761.out 5).trans rfl, (blk_cell BK761.out 6).trans rfl, (blk_cell BK761.out 7).trans rfl, (blk_cell BK761.out 8).trans rfl, (blk_cell BK761.out 9).trans rfl⟩ (fun hHeld => ?_)
                  clear hK K
                  refine norm_ (a' := ?_) ?_ ?_
                  rotate_left
                  · show Act.put _ (some 45) _ = _
                    simp only [Act.put, List.setIfInBounds_toArray, List.set_cons_zero, List.set_cons_succ, i64_w, i32_w]
                    rfl
                  refine pure_ (i := 12) (N := some 48) (v := ?_) (a' := ?_) #[true, true, true, true, true, true, true, true, true, true, true, true, true, false] rfl rfl (any_of HT_.out (by kernel_rfl)) (fun _ _ _ h => h) (Or.inl ⟨by rfl, ?_⟩) ?_ ?_
                  rotate_left
                  · intro w'
                    go_simp
                    with_reducible rfl
                  rotate_left
                  · simp only [Act.put, List.setIfInBounds_toArray, List.set_cons_zero, List.set_cons_succ, i64_w, i32_w]
                    rfl
                  refine pure_ (i := 13) (N := some 49) (v := ?_) (a' := ?_) #[true, true, true, true, true, true, true, true, true, true, true, true, true, true] rfl rfl (any_of HT_.out (by kernel_rfl)) (fun _ _ _ h => h) (Or.inl ⟨by rfl, ?_⟩) ?_ ?_
                  rotate_left
                  · intro w'
                    go_simp
                    with_reducible rfl
                  rotate_left
                  · simp only [Act.put, List.setIfInBounds_toArray, List.set_cons_zero, List.set_cons_succ, i64_w, i32_w]
                    rfl
                  refine done_ (done_of HT_.out (by kernel_rfl)) ?_
                  try go_wp2
                  go_meet
                  case rel => exact ⟨_, H', ⟨by have := HJ2.out; (omega)⟩, ⟨by exact Kd.V_mono HO_1.out (fun _ hk => ⟨hk.1, hk.2.2.1⟩)⟩, ⟨by exact BK761.out⟩, ⟨by exact HB.out⟩⟩
                · rw [if_neg c22] at H
                  exact absurd H (by simp)
            · replace c19 := Bool.eq_false_iff.mpr c19
              subst c19
              have H1 : (none) = some r := by rw [if_neg (show ¬ (false = true) by decide)] at H; exact H
              clear H
              have H := H1
              clear H1
              exact absurd H (by simp)
          · replace c17 := Bool.eq_false_iff.mpr c17
            subst c17
            have H1 : (umpirelaw14_TermsBack.j1 kj2 l1) = some r := by rw [if_neg (show ¬ (false = true) by decide)] at H; exact H
            clear H
            have H := H1
            clear H1
            have H' := Aside0.mk H
            clear H
            go_wp2
            go_meet
            case rel => exact ⟨_, H', ⟨by have := HJ2.out; (omega)⟩, ⟨by exact Kd.V_mono HO_1.out (fun _ hk => ⟨hk.1.1, hk.1.2⟩)⟩, ⟨by exact BK761.out⟩, ⟨by exact HB.out⟩⟩
        case rest =>
          clear HC14
          try clear hcz15_0
          try clear hcz15_1
          try clear hcz15_2
          try clear hcz15_3
          try clear hcz15_4
          try clear hcz15_5
          try clear hcz15_6
          try clear hcz15_7
          try clear hcz15_8
          try clear hcz15_9
          try clear hfz15_0
          try clear hfz15_1
          try clear hfz15_2
          try clear hfz15_3
          try clear hfz15_4
          try clear hfz15_5
          try clear hfz15_6
          try clear hfz15_7
          try clear hfz15_8
          try clear hfz15_9
          obtain ⟨kq, HA, HJ13, HO_1, BK761, HB⟩ := hcut
          cases kq with
          | zero => exact absurd HA.out (by simp [umpirelaw14_TermsBack.j1])
          | succ kj13 =>
            have H := HA.out
            clear HA
            simp only [umpirelaw14_TermsBack.j1] at H
            replace H := Option.bind_eq_some_iff.mp H
            obtain ⟨⟨t782, t783⟩, A310, H⟩ := H
            replace H : ((terms_Read.f kj13 l1).bind fun bt788 => (if (t782.length : Int) = 0 then (if (bt788.2.2.2.2.2.2.2.2.2.2 != ((t783.length : Int) == 0)) = true then (umpirelaw14_TermsBack.j2 kj13 l1 t782 t783 true) else ((umpireref12_Within.f kj13 t782 l1).bind fun t800 => (umpirelaw14_TermsBack.j2 kj13 l1 t782 t783 (!t800)))) else (if (bt788.2.2.2.2.2.2.2.2.2.2 != false) = true then (umpirelaw14_TermsBack.j2 kj13 l1 t782 t783 true) else ((umpireref12_Within.f kj13 t782 l1).bind fun t801 => (umpirelaw14_TermsBack.j2 kj13 l1 t782 t783 (!t801)))))) = some r := H
            have A31 := Aside0.mk A310
            clear A310
            replace H := Option.bind_eq_some_iff.mp H
            obtain ⟨⟨t788, t789, t790, t791, t792, t793, t794, t795, t796, t797, t798⟩, A320, H⟩ := H
            replace H : (if (t782.length : Int) = 0 then (if (t798 != ((t783.length : Int) == 0)) = true then (umpirelaw14_TermsBack.j2 kj13 l1 t782 t783 true) else ((umpireref12_Within.f kj13 t782 l1).bind fun t800 => (umpirelaw14_TermsBack.j2 kj13 l1 t782 t783 (!t800)))) else (if (t798 != false) = true then (umpirelaw14_TermsBack.j2 kj13 l1 t782 t783 true) else ((umpireref12_Within.f kj13 t782 l1).bind fun t801 => (umpirelaw14_TermsBack.j2 kj13 l1 t782 t783 (!t801))))) = some r := H
            have A32 := Aside0.mk A320
            clear A320
            have HC33 := Aside0.mk H
            clear H
            go_upto_region 10 with (first | ((with_reducible refine gate_callee (f := 40) rfl ?_); refine goesL_ (some 52) rfl rfl Try.func40 (by kernel_rfl) rfl #[.slice A1 l1.length c1] rfl (by (try simp only [List.map_toArray, List.map_cons, List.map_nil]); (rfl)) ?_; (with_reducible refine (terms_Bad.calls kj13 _ _ l1 t782 t783 _ ?side1 ?side2 A31.out).mono ?_); (case side1 => exact (Kd.V_reads' HO_1.out).2.2); (case side2 => exact (Kd.V_reads' HO_1.out).2.1); rintro e w34 ⟨v784, v786, rfl, ho0, ho1, hb⟩; refine ⟨_, rfl, ?_⟩; have n0_ := Aside0.mk (Kd.V_mono (Kd.V_told (Kd.V_told (Kd.V_old (by exact HO_1.out) hb) (by (exact Kd.N_base (Kd.S_N (Kd.S_bound ho0))))) (by (exact Kd.N_base (Kd.S_N (Kd.S_bound ho1))))) (fun _ h_ => h_.1)); have n1_ := Aside0.mk (Kd.N_lower (Kd.N_mono (ok' := fun k_ => (P1_ k_ ∨ w.heap.size ≤ k_) ∧ some k_ ≠ (v786 : Value).ownBlock ∧ k_ ≠ gb761) (Kd.S_N (Kd.S_bound ho0)) (fun k_ hk_ => ⟨(.inr (Nat.le_trans (below_size (by exact HB.out)) hk_.2.1)), hk_.1, (Kd.freshB (g := gb761) (o := .cells #[.bool a0_0, .int .i64 a0_1, .bool a0_2, .int .u32 a0_3, .int .i64 a0_4, .bool a0_5, .bool a0_6, .int .u32 a0_7, .bool a0_8, .bool a0_9] 61 (0, 0)) (by exact BK761.out) k_ hk_.2.1)⟩)) (below_size (by exact HB.out))); have n2_ := Aside0.mk (Kd.N_lower (Kd.N_mono (ok' := fun k_ => (P1_ k_ ∨ w.heap.size ≤ k_) ∧ some k_ ≠ (v784 : Value).ownBlock ∧ k_ ≠ gb761) (Kd.S_N (Kd.S_bound ho1)) (fun k_ hk_ => ⟨(.inr (Nat.le_trans (below_size (by exact HB.out)) hk_.2.1)), hk_.1, (Kd.freshB (g := gb761) (o := .cells #[.bool a0_0, .int .i64 a0_1, .bool a0_2, .int .u32 a0_3, .int .i64 a0_4, .bool a0_5, .bool a0_6, .int .u32 a0_7, .bool a0_8, .bool a0_9] 61 (0, 0)) (by exact BK761.out) k_ hk_.2.1)⟩)) (below_size (by exact HB.out))); have n3_ := Aside0.mk (blk_below (g := gb761) (o := .cells #[.bool a0_0, .int .i64 a0_1, .bool a0_2, .int .u32 a0_3, .int .i64 a0_4, .bool a0_5, .bool a0_6, .int .u32 a0_7, .bool a0_8, .bool a0_9] 61 (0, 0)) (by exact BK761.out) hb); have n4_ := Aside0.mk (below_step (by exact HB.out) hb); clear HO_1; clear BK761; clear HB; have HO_1 := n0_; have HO785 := n1_; have HO787 := n2_; have BK761 := n3_; have HB := n4_; clear n0_ n1_ n2_ n3_ n4_; (try clear hb); (try clear ho0); (try clear ho1)) | ((with_reducible refine gate_callee (f := 32) rfl ?_); refine goesL_ (some 57) rfl rfl Try.func32 (by kernel_rfl) rfl #[.slice A1 l1.length c1] rfl (by (try simp only [List.map_toArray, List.map_cons, List.map_nil]); (rfl)) ?_; (with_reducible refine (terms_Read.calls kj13 _ _ l1 t788 t789 t790 t791 t792 t793 t794 t795 t796 t797 t798 _ ?side1 ?side2 A32.out).mono ?_); (case side1 => exact (Kd.V_reads' HO_1.out).2.2); (case side2 => exact (Kd.V_reads' HO_1.out).2.1); rintro e w35 ⟨rfl, hb⟩; refine ⟨_, rfl, ?_⟩; have n0_ := Aside0.mk (Kd.V_below (by exact HO_1.out) hb); have n1_ := Aside0.mk (Kd.N_below (by exact HO785.out) hb); have n2_ := Aside0.mk (Kd.N_below (by exact HO787.out) hb); have n3_ := Aside0.mk (blk_below (g := gb761) (o := .cells #[.bool a0_0, .int .i64 a0_1, .bool a0_2, .int .u32 a0_3, .int .i64 a0_4, .bool a0_5, .bool a0_6, .int .u32 a0_7, .bool a0_8, .bool a0_9] 61 (0, 0)) (by exact BK761.out) hb); have n4_ := Aside0.mk (below_step (by exact HB.out) hb); clear HO_1; clear HO785; clear HO787; clear BK761; clear HB; have HO_1 := n0_; have HO785 := n1_; have HO787 := n2_; have BK761 := n3_; have HB := n4_; clear n0_ n1_ n2_ n3_ n4_; (try clear hb)) | ((with_reducible refine gate_dst (N := 11) rfl ?_); (try (refine gate_guard (by rfl) ?_; dsimp only)); refine box_event ?hg (N := 11) ?hd (cs := #[.bool false, .int .i64 0, .bool false, .int .u32 0, .int .i64 0, .bool false, .bool false, .int .u32 0, .bool false, .bool false]) (t := 61) ?hr ?_; (case hd => rfl); (case hg => rfl); (case hr => (go_simp; done)); intro gb799 hg w36 hbox hb; have n0_ := Aside0.mk (Kd.V_below (Kd.V_elderB (by exact HO_1.out) gb799 (Nat.le_of_eq hg.symm)) hb); have n1_ := Aside0.mk (Kd.N_below (Kd.N_elderB (by exact HO785.out) gb799 (Nat.le_of_eq hg.symm)) hb); have n2_ := Aside0.mk (Kd.N_below (Kd.N_elderB (by exact HO787.out) gb799 (Nat.le_of_eq hg.symm)) hb); have n3_ := Aside0.mk (blk_below (g := gb761) (o := .cells #[.bool a0_0, .int .i64 a0_1, .bool a0_2, .int .u32 a0_3, .int .i64 a0_4, .bool a0_5, .bool a0_6, .int .u32 a0_7, .bool a0_8, .bool a0_9] 61 (0, 0)) (by exact BK761.out) hb); have n4_ := Aside0.mk (below_step (by exact HB.out) hb); have n5_ := Aside0.mk (hbox); have n6_ := Aside0.mk ((by rw [hg]; exact (below_size (by exact HB.out)) : w.heap.size ≤ gb799)); have n7_ := Aside0.mk ((by rw [hg]; exact (below_size (by exact HB.out)) : w.heap.size ≤ gb799)); have n8_ := Aside0.mk ((by rw [hg]; exact Nat.ne_of_lt (blk_lt (g := gb761) (o := .cells #[.bool a0_0, .int .i64 a0_1, .bool a0_2, .int .u32 a0_3, .int .i64 a0_4, .bool a0_5, .bool a0_6, .int .u32 a0_7, .bool a0_8, .bool a0_9] 61 (0, 0)) (by exact BK761.out)) : gb761 ≠ gb799)); have n9_ := Aside0.mk ((by rw [hg]; exact Nat.ne_of_gt (blk_lt (g := gb761) (o := .cells #[.bool a0_0, .int .i64 a0_1, .bool a0_2, .int .u32 a0_3, .int .i64 a0_4, .bool a0_5, .bool a0_6, .int .u32 a0_7, .bool a0_8, .bool a0_9] 61 (0, 0)) (by exact BK761.out)) : gb799 ≠ gb761)); clear HO_1; clear HO785; clear HO787; clear BK761; clear HB; have HO_1 := n0_; have HO785 := n1_; have HO787 := n2_; have BK761 := n3_; have HB := n4_; have BK799 := n5_; have GW799 := n6_; have GE799 := n7_; have NB761_799 := n8_; have NB799_761 := n9_; clear n0_ n1_ n2_ n3_ n4_ n5_ n6_ n7_ n8_ n9_; clear hb hbox hg; have hnb37 := NB799_761.out; have hnc37 := NB761_799.out; have hcz38_0 : w36.cell? ⟨gb799, 0, none⟩ = some (.bool false) := (blk_cell BK799.out 0).trans rfl; have hcz38_1 : w36.cell? ⟨gb799, 1, none⟩ = some (.int .i64 0) := (blk_cell BK799.out 1).trans rfl; have hcz38_2 : w36.cell? ⟨gb799, 2, none⟩ = some (.bool false) := (blk_cell BK799.out 2).trans rfl; have hcz38_3 : w36.cell? ⟨gb799, 3, none⟩ = some (.int .u32 0) := (blk_cell BK799.out 3).trans rfl; have hcz38_4 : w36.cell? ⟨gb799, 4, none⟩ = some (.int .i64 0) := (blk_cell BK799.out 4).trans rfl; have hcz38_5 : w36.cell? ⟨gb799, 5, none⟩ = some (.bool false) := (blk_cell BK799.out 5).trans rfl; have hcz38_6 : w36.cell? ⟨gb799, 6, none⟩ = some (.bool false) := (blk_cell BK799.out 6).trans rfl; have hcz38_7 : w36.cell? ⟨gb799, 7, none⟩ = some (.int .u32 0) := (blk_cell BK799.out 7).trans rfl; have hcz38_8 : w36.cell? ⟨gb799, 8, none⟩ = some (.bool false) := (blk_cell BK799.out 8).trans rfl; have hcz38_9 : w36.cell? ⟨gb799, 9, none⟩ = some (.bool false) := (blk_cell BK799.out 9).trans rfl; have hfz38_0 := blk_frozen BK799.out 0; have hfz38_1 := blk_frozen BK799.out 1; have hfz38_2 := blk_frozen BK799.out 2; have hfz38_3 := blk_frozen BK799.out 3; have hfz38_4 := blk_frozen BK799.out 4; have hfz38_5 := blk_frozen BK799.out 5; have hfz38_6 := blk_frozen BK799.out 6; have hfz38_7 := blk_frozen BK799.out 7; have hfz38_8 := blk_frozen BK799.out 8; have hfz38_9 := blk_frozen BK799.out 9))
            (skip)
            go_cut [75] (fun v75 wc => ∃ (kq : Nat) (x75_32 : Bool), v75 = .bool x75_32 ∧ Aside0 (umpirelaw14_TermsBack.j2 kq l1 t782 t783 x75_32 = some r) ∧ Aside0 (kq ≤ kj13) ∧ Aside0 (Kd.V k55 55 wc w.heap.size (fun k_ => (P1_ k_ ∨ w.heap.size ≤ k_) ∧ some k_ ≠ (v784 : Value).ownBlock ∧ some k_ ≠ (v786 : Value).ownBlock ∧ k_ ≠ gb761 ∧ k_ ≠ gb799) (.slice A1 l1.length c1) l1) ∧ Aside0 (Kd.N k55 55 wc w.heap.size (fun k_ => (P1_ k_ ∨ w.heap.size ≤ k_) ∧ some k_ ≠ (v786 : Value).ownBlock ∧ k_ ≠ gb761 ∧ k_ ≠ gb799) v784 t782) ∧ Aside0 (Kd.N k55 55 wc w.heap.size (fun k_ => (P1_ k_ ∨ w.heap.size ≤ k_) ∧ some k_ ≠ (v784 : Value).ownBlock ∧ k_ ≠ gb761 ∧ k_ ≠ gb799) v786 t783) ∧ Aside0 (wc.heap[gb761]? = some (.cells #[.bool a0_0, .int .i64 a0_1, .bool a0_2, .int .u32 a0_3, .int .i64 a0_4, .bool a0_5, .bool a0_6, .int .u32 a0_7, .bool a0_8, .bool a0_9] 61 (0, 0))) ∧ Aside0 (wc.heap[gb799]? = some (.cells #[.bool t788, .int .i64 t789, .bool t790, .int .u32 t791, .int .i64 t792, .bool t793, .bool t794, .int .u32 t795, .bool t796, .bool t797] 61 (0, 0))) ∧ Aside0 (Below w.heap.size w wc))
            case first =>
              have H := HC33.out
              clear HC33
              by_cases c39 : (t782.length : Int) = 0
              · rw [if_pos c39] at H
                have c39b0 : ((t782.length : Int) == 0) = true := beq_iff_eq.mpr c39
                have c39b1 : ((t782.length : Int) != 0) = false := bne_eq_false_iff_eq.mpr c39
                clear c39
                (skip)
                by_cases c40 : (t798 != ((t783.length : Int) == 0)) = true
                · rw [if_pos c40] at H
                  have c40b0 : (t798 != ((t783.length : Int) == 0)) = true := c40
                  (try (have c40b1 : decide (t798 = ((t783.length : Int) == 0)) = false := by simpa using c40))
                  (try (have c40b2 : (t798 == ((t783.length : Int) == 0)) = false := by simpa using c40))
                  (try (have c40b3 : ¬ (t798 = ((t783.length : Int) == 0)) := by simpa using c40))
                  clear c40
                  have H' := Aside0.mk H
                  clear H
                  obtain ⟨Ao41, co41, eo41⟩ := Kd.N_slice HO785.out
                  subst eo41
                  obtain ⟨Ao42, co42, eo42⟩ := Kd.N_slice HO787.out
                  subst eo42
                  go_wp2
                  go_meet
                  case rel => exact ⟨_, (true), (by (rfl)), H', ⟨by have := HJ2.out; have := HJ13.out; (omega)⟩, ⟨by exact Kd.V_mono (Kd.V_far (p := ⟨gb799, 9, none⟩) (Kd.V_far (p := ⟨gb799, 8, none⟩) (Kd.V_far (p := ⟨gb799, 7, none⟩) (Kd.V_far (p := ⟨gb799, 6, none⟩) (Kd.V_far (p := ⟨gb799, 5, none⟩) (Kd.V_far (p := ⟨gb799, 4, none⟩) (Kd.V_far (p := ⟨gb799, 3, none⟩) (Kd.V_far (p := ⟨gb799, 2, none⟩) (Kd.V_far (p := ⟨gb799, 1, none⟩) (Kd.V_far (p := ⟨gb799, 0, none⟩) (Kd.V_mono HO_1.out (fun k_ hk => (⟨hk, hk.2⟩ : _ ∧ k_ ≠ gb799))) (fun _ hk => hk.2) (.bool t788)) (fun _ hk => hk.2) (.int .i64 t789)) (fun _ hk => hk.2) (.bool t790)) (fun _ hk => hk.2) (.int .u32 t791)) (fun _ hk => hk.2) (.int .i64 t792)) (fun _ hk => hk.2) (.bool t793)) (fun _ hk => hk.2) (.bool t794)) (fun _ hk => hk.2) (.int .u32 t795)) (fun _ hk => hk.2) (.bool t796)) (fun _ hk => hk.2) (.bool t797)) (fun _ hk => ⟨hk.1.1.1.1.1, ⟨hk.1.1.1.2, ⟨hk.1.1.2, ⟨hk.1.1.1.1.2, hk.1.2⟩⟩⟩⟩)⟩, ⟨by exact Kd.N_mono (Kd.N_far (p := ⟨gb799, 9, none⟩) (Kd.N_far (p := ⟨gb799, 8, none⟩) (Kd.N_far (p := ⟨gb799, 7, none⟩) (Kd.N_far (p := ⟨gb799, 6, none⟩) (Kd.N_far (p := ⟨gb799, 5, none⟩) (Kd.N_far (p := ⟨gb799, 4, none⟩) (Kd.N_far (p := ⟨gb799, 3, none⟩) (Kd.N_far (p := ⟨gb799, 2, none⟩) (Kd.N_far (p := ⟨gb799, 1, none⟩) (Kd.N_far (p := ⟨gb799, 0, none⟩) (Kd.N_mono HO785.out (fun k_ hk => (⟨hk, hk.2⟩ : _ ∧ k_ ≠ gb799))) (fun _ hk => hk.2) (.bool t788)) (fun _ hk => hk.2) (.int .i64 t789)) (fun _ hk => hk.2) (.bool t790)) (fun _ hk => hk.2) (.int .u32 t791)) (fun _ hk => hk.2) (.int .i64 t792)) (fun _ hk => hk.2) (.bool t793)) (fun _ hk => hk.2) (.bool t794)) (fun _ hk => hk.2) (.int .u32 t795)) (fun _ hk => hk.2) (.bool t796)) (fun _ hk => hk.2) (.bool t797)) (fun _ hk => ⟨hk.1.1.1, ⟨hk.1.1.2.1, ⟨hk.1.1.2.2, hk.1.2⟩⟩⟩)⟩, ⟨by exact Kd.N_mono (Kd.N_far (p := ⟨gb799, 9, none⟩) (Kd.N_far (p := ⟨gb799, 8, none⟩) (Kd.N_far (p := ⟨gb799, 7, none⟩) (Kd.N_far (p := ⟨gb799, 6, none⟩) (Kd.N_far (p := ⟨gb799, 5, none⟩) (Kd.N_far (p := ⟨gb799, 4, none⟩) (Kd.N_far (p := ⟨gb799, 3, none⟩) (Kd.N_far (p := ⟨gb799, 2, none⟩) (Kd.N_far (p := ⟨gb799, 1, none⟩) (Kd.N_far (p := ⟨gb799, 0, none⟩) (Kd.N_mono HO787.out (fun k_ hk => (⟨hk, hk.2⟩ : _ ∧ k_ ≠ gb799))) (fun _ hk => hk.2) (.bool t788)) (fun _ hk => hk.2) (.int .i64 t789)) (fun _ hk => hk.2) (.bool t790)) (fun _ hk => hk.2) (.int .u32 t791)) (fun _ hk => hk.2) (.int .i64 t792)) (fun _ hk => hk.2) (.bool t793)) (fun _ hk => hk.2) (.bool t794)) (fun _ hk => hk.2) (.int .u32 t795)) (fun _ hk => hk.2) (.bool t796)) (fun _ hk => hk.2) (.bool t797)) (fun _ hk => ⟨hk.1.1.1, ⟨hk.1.1.2.1, ⟨hk.1.1.2.2, hk.1.2⟩⟩⟩)⟩, ⟨by refine blk_far ?_ NB761_799.out _; refine blk_far ?_ NB761_799.out _; refine blk_far ?_ NB761_799.out _; refine blk_far ?_ NB761_799.out _; refine blk_far ?_ NB761_799.out _; refine blk_far ?_ NB761_799.out _; refine blk_far ?_ NB761_799.out _; refine blk_far ?_ NB761_799.out _; refine blk_far ?_ NB761_799.out _; refine blk_far ?_ NB761_799.out _; exact BK761.out⟩, ⟨by refine blk_put (cs := #[.bool t788, .int .i64 t789, .bool t790, .int .u32 t791, .int .i64 t792, .bool t793, .bool t794, .int .u32 t795, .bool t796, .bool false]) ?_ 9 _ rfl; refine blk_put (cs := #[.bool t788, .int .i64 t789, .bool t790, .int .u32 t791, .int .i64 t792, .bool t793, .bool t794, .int .u32 t795, .bool false, .bool false]) ?_ 8 _ rfl; refine blk_put (cs := #[.bool t788, .int .i64 t789, .bool t790, .int .u32 t791, .int .i64 t792, .bool t793, .bool t794, .int .u32 0, .bool false, .bool false]) ?_ 7 _ rfl; refine blk_put (cs := #[.bool t788, .int .i64 t789, .bool t790, .int .u32 t791, .int .i64 t792, .bool t793, .bool false, .int .u32 0, .bool false, .bool false]) ?_ 6 _ rfl; refine blk_put (cs := #[.bool t788, .int .i64 t789, .bool t790, .int .u32 t791, .int .i64 t792, .bool false, .bool false, .int .u32 0, .bool false, .bool false]) ?_ 5 _ rfl; refine blk_put (cs := #[.bool t788, .int .i64 t789, .bool t790, .int .u32 t791, .int .i64 0, .bool false, .bool false, .int .u32 0, .bool false, .bool false]) ?_ 4 _ rfl; refine blk_put (cs := #[.bool t788, .int .i64 t789, .bool t790, .int .u32 0, .int .i64 0, .bool false, .bool false, .int .u32 0, .bool false, .bool false]) ?_ 3 _ rfl; refine blk_put (cs := #[.bool t788, .int .i64 t789, .bool false, .int .u32 0, .int .i64 0, .bool false, .bool false, .int .u32 0, .bool false, .bool false]) ?_ 2 _ rfl; refine blk_put (cs := #[.bool t788, .int .i64 0, .bool false, .int .u32 0, .int .i64 0, .bool false, .bool false, .int .u32 0, .bool false, .bool false]) ?_ 1 _ rfl; refine blk_put (cs := #[.bool false, .int .i64 0, .bool false, .int .u32 0, .int .i64 0, .bool false, .bool false, .int .u32 0, .bool false, .bool false]) ?_ 0 _ rfl; exact BK799.out⟩, ⟨by repeat (with_reducible first | exact HB.out | refine below_set ?_ GE799.out)⟩⟩
                · rw [if_neg c40] at H
                  have c40b0 : (t798 != ((t783.length : Int) == 0)) = false := by simpa using c40
                  (try (have c40b1 : decide (t798 = ((t783.length : Int) == 0)) = true := by simpa using c40))
                  (try (have c40b2 : (t798 == ((t783.length : Int) == 0)) = true := by simpa using c40))
                  clear c40
                  replace H := Option.bind_eq_some_iff.mp H
                  obtain ⟨t800, A430, H⟩ := H
                  replace H : (umpirelaw14_TermsBack.j2 kj13 l1 t782 t783 (!t800)) = some r := H
                  have A43 := Aside0.mk A430
                  clear A430
                  have H' := Aside0.mk H
                  clear H
                  obtain ⟨Ao44, co44, eo44⟩ := Kd.N_slice HO785.out
                  subst eo44
                  obtain ⟨Ao45, co45, eo45⟩ := Kd.N_slice HO787.out
                  subst eo45
                  go_wp2_with (first | (go_at_call 42; (with_reducible refine (umpireref12_Within.calls kj13 _ _ t782 _ _ l1 t800 _ ?side1 ?side2 ?side3 ?side4 A43.out).mono ?_); (case side1 => refine (Kd.N_reads' (e := 55) (base := w.heap.size) (ok := fun k_ => (((P1_ k_ ∨ w.heap.size ≤ k_) ∧ (some k_ ≠ (.slice Ao45 t783.length co45 : Value).ownBlock ∧ k_ ≠ gb761)) ∧ k_ ≠ gb799)) (n := t782.length) (c := co44) ?_).2.2; exact (by exact (Kd.N_mono (Kd.N_far (p := ⟨gb799, 9, none⟩) (Kd.N_far (p := ⟨gb799, 8, none⟩) (Kd.N_far (p := ⟨gb799, 7, none⟩) (Kd.N_far (p := ⟨gb799, 6, none⟩) (Kd.N_far (p := ⟨gb799, 5, none⟩) (Kd.N_far (p := ⟨gb799, 4, none⟩) (Kd.N_far (p := ⟨gb799, 3, none⟩) (Kd.N_far (p := ⟨gb799, 2, none⟩) (Kd.N_far (p := ⟨gb799, 1, none⟩) (Kd.N_far (p := ⟨gb799, 0, none⟩) (Kd.N_mono HO785.out (fun k_ hk => (⟨hk, hk.2⟩ : _ ∧ k_ ≠ gb799))) (fun _ hk => hk.2) (.bool t788)) (fun _ hk => hk.2) (.int .i64 t789)) (fun _ hk => hk.2) (.bool t790)) (fun _ hk => hk.2) (.int .u32 t791)) (fun _ hk => hk.2) (.int .i64 t792)) (fun _ hk => hk.2) (.bool t793)) (fun _ hk => hk.2) (.bool t794)) (fun _ hk => hk.2) (.int .u32 t795)) (fun _ hk => hk.2) (.bool t796)) (fun _ hk => hk.2) (.bool t797)) (fun _ h_ => h_.1)))); (case side2 => exact (Kd.N_reads' HO785.out).2.1); (case side3 => refine (Kd.V_reads' (e := 55) (base := w.heap.size) (ok := fun k_ => (((((P1_ k_ ∨ w.heap.size ≤ k_) ∧ k_ ≠ gb761) ∧ some k_ ≠ (.slice Ao44 t782.length co44 : Value).ownBlock) ∧ some k_ ≠ (.slice Ao45 t783.length co45 : Value).ownBlock) ∧ k_ ≠ gb799)) (n := l1.length) (c := c1) ?_).2.2; exact (by exact (Kd.V_mono (Kd.V_far (p := ⟨gb799, 9, none⟩) (Kd.V_far (p := ⟨gb799, 8, none⟩) (Kd.V_far (p := ⟨gb799, 7, none⟩) (Kd.V_far (p := ⟨gb799, 6, none⟩) (Kd.V_far (p := ⟨gb799, 5, none⟩) (Kd.V_far (p := ⟨gb799, 4, none⟩) (Kd.V_far (p := ⟨gb799, 3, none⟩) (Kd.V_far (p := ⟨gb799, 2, none⟩) (Kd.V_far (p := ⟨gb799, 1, none⟩) (Kd.V_far (p := ⟨gb799, 0, none⟩) (Kd.V_mono HO_1.out (fun k_ hk => (⟨hk, hk.2⟩ : _ ∧ k_ ≠ gb799))) (fun _ hk => hk.2) (.bool t788)) (fun _ hk => hk.2) (.int .i64 t789)) (fun _ hk => hk.2) (.bool t790)) (fun _ hk => hk.2) (.int .u32 t791)) (fun _ hk => hk.2) (.int .i64 t792)) (fun _ hk => hk.2) (.bool t793)) (fun _ hk => hk.2) (.bool t794)) (fun _ hk => hk.2) (.int .u32 t795)) (fun _ hk => hk.2) (.bool t796)) (fun _ hk => hk.2) (.bool t797)) (fun _ h_ => h_.1)))); (case side4 => exact (Kd.V_reads' HO_1.out).2.1); rintro e w46 ⟨rfl, hb⟩; have n0_ := Aside0.mk (Kd.V_below (by exact (Kd.V_mono (Kd.V_far (p := ⟨gb799, 9, none⟩) (Kd.V_far (p := ⟨gb799, 8, none⟩) (Kd.V_far (p := ⟨gb799, 7, none⟩) (Kd.V_far (p := ⟨gb799, 6, none⟩) (Kd.V_far (p := ⟨gb799, 5, none⟩) (Kd.V_far (p := ⟨gb799, 4, none⟩) (Kd.V_far (p := ⟨gb799, 3, none⟩) (Kd.V_far (p := ⟨gb799, 2, none⟩) (Kd.V_far (p := ⟨gb799, 1, none⟩) (Kd.V_far (p := ⟨gb799, 0, none⟩) (Kd.V_mono HO_1.out (fun k_ hk => (⟨hk, hk.2⟩ : _ ∧ k_ ≠ gb799))) (fun _ hk => hk.2) (.bool t788)) (fun _ hk => hk.2) (.int .i64 t789)) (fun _ hk => hk.2) (.bool t790)) (fun _ hk => hk.2) (.int .u32 t791)) (fun _ hk => hk.2) (.int .i64 t792)) (fun _ hk => hk.2) (.bool t793)) (fun _ hk => hk.2) (.bool t794)) (fun _ hk => hk.2) (.int .u32 t795)) (fun _ hk => hk.2) (.bool t796)) (fun _ hk => hk.2) (.bool t797)) (fun _ h_ => h_.1))) hb); have n1_ := Aside0.mk (Kd.N_below (by exact (Kd.N_mono (Kd.N_far (p := ⟨gb799, 9, none⟩) (Kd.N_far (p := ⟨gb799, 8, none⟩) (Kd.N_far (p := ⟨gb799, 7, none⟩) (Kd.N_far (p := ⟨gb799, 6, none⟩) (Kd.N_far (p := ⟨gb799, 5, none⟩) (Kd.N_far (p := ⟨gb799, 4, none⟩) (Kd.N_far (p := ⟨gb799, 3, none⟩) (Kd.N_far (p := ⟨gb799, 2, none⟩) (Kd.N_far (p := ⟨gb799, 1, none⟩) (Kd.N_far (p := ⟨gb799, 0, none⟩) (Kd.N_mono HO785.out (fun k_ hk => (⟨hk, hk.2⟩ : _ ∧ k_ ≠ gb799))) (fun _ hk => hk.2) (.bool t788)) (fun _ hk => hk.2) (.int .i64 t789)) (fun _ hk => hk.2) (.bool t790)) (fun _ hk => hk.2) (.int .u32 t791)) (fun _ hk => hk.2) (.int .i64 t792)) (fun _ hk => hk.2) (.bool t793)) (fun _ hk => hk.2) (.bool t794)) (fun _ hk => hk.2) (.int .u32 t795)) (fun _ hk => hk.2) (.bool t796)) (fun _ hk => hk.2) (.bool t797)) (fun _ h_ => h_.1))) hb); have n2_ := Aside0.mk (Kd.N_below (by exact (Kd.N_mono (Kd.N_far (p := ⟨gb799, 9, none⟩) (Kd.N_far (p := ⟨gb799, 8, none⟩) (Kd.N_far (p := ⟨gb799, 7, none⟩) (Kd.N_far (p := ⟨gb799, 6, none⟩) (Kd.N_far (p := ⟨gb799, 5, none⟩) (Kd.N_far (p := ⟨gb799, 4, none⟩) (Kd.N_far (p := ⟨gb799, 3, none⟩) (Kd.N_far (p := ⟨gb799, 2, none⟩) (Kd.N_far (p := ⟨gb799, 1, none⟩) (Kd.N_far (p := ⟨gb799, 0, none⟩) (Kd.N_mono HO787.out (fun k_ hk => (⟨hk, hk.2⟩ : _ ∧ k_ ≠ gb799))) (fun _ hk => hk.2) (.bool t788)) (fun _ hk => hk.2) (.int .i64 t789)) (fun _ hk => hk.2) (.bool t790)) (fun _ hk => hk.2) (.int .u32 t791)) (fun _ hk => hk.2) (.int .i64 t792)) (fun _ hk => hk.2) (.bool t793)) (fun _ hk => hk.2) (.bool t794)) (fun _ hk => hk.2) (.int .u32 t795)) (fun _ hk => hk.2) (.bool t796)) (fun _ hk => hk.2) (.bool t797)) (fun _ h_ => h_.1))) hb); have n3_ := Aside0.mk (blk_below (g := gb761) (o := .cells #[.bool a0_0, .int .i64 a0_1, .bool a0_2, .int .u32 a0_3, .int .i64 a0_4, .bool a0_5, .bool a0_6, .int .u32 a0_7, .bool a0_8, .bool a0_9] 61 (0, 0)) (by refine blk_far ?_ NB761_799.out _; refine blk_far ?_ NB761_799.out _; refine blk_far ?_ NB761_799.out _; refine blk_far ?_ NB761_799.out _; refine blk_far ?_ NB761_799.out _; refine blk_far ?_ NB761_799.out _; refine blk_far ?_ NB761_799.out _; refine blk_far ?_ NB761_799.out _; refine blk_far ?_ NB761_799.out _; refine blk_far ?_ NB761_799.out _; exact BK761.out) hb); have n4_ := Aside0.mk (blk_below (g := gb799) (o := .cells #[.bool t788, .int .i64 t789, .bool t790, .int .u32 t791, .int .i64 t792, .bool t793, .bool t794, .int .u32 t795, .bool t796, .bool t797] 61 (0, 0)) (by refine blk_put (cs := #[.bool t788, .int .i64 t789, .bool t790, .int .u32 t791, .int .i64 t792, .bool t793, .bool t794, .int .u32 t795, .bool t796, .bool false]) ?_ 9 _ rfl; refine blk_put (cs := #[.bool t788, .int .i64 t789, .bool t790, .int .u32 t791, .int .i64 t792, .bool t793, .bool t794, .int .u32 t795, .bool false, .bool false]) ?_ 8 _ rfl; refine blk_put (cs := #[.bool t788, .int .i64 t789, .bool t790, .int .u32 t791, .int .i64 t792, .bool t793, .bool t794, .int .u32 0, .bool false, .bool false]) ?_ 7 _ rfl; refine blk_put (cs := #[.bool t788, .int .i64 t789, .bool t790, .int .u32 t791, .int .i64 t792, .bool t793, .bool false, .int .u32 0, .bool false, .bool false]) ?_ 6 _ rfl; refine blk_put (cs := #[.bool t788, .int .i64 t789, .bool t790, .int .u32 t791, .int .i64 t792, .bool false, .bool false, .int .u32 0, .bool false, .bool false]) ?_ 5 _ rfl; refine blk_put (cs := #[.bool t788, .int .i64 t789, .bool t790, .int .u32 t791, .int .i64 0, .bool false, .bool false, .int .u32 0, .bool false, .bool false]) ?_ 4 _ rfl; refine blk_put (cs := #[.bool t788, .int .i64 t789, .bool t790, .int .u32 0, .int .i64 0, .bool false, .bool false, .int .u32 0, .bool false, .bool false]) ?_ 3 _ rfl; refine blk_put (cs := #[.bool t788, .int .i64 t789, .bool false, .int .u32 0, .int .i64 0, .bool false, .bool false, .int .u32 0, .bool false, .bool false]) ?_ 2 _ rfl; refine blk_put (cs := #[.bool t788, .int .i64 0, .bool false, .int .u32 0, .int .i64 0, .bool false, .bool false, .int .u32 0, .bool false, .bool false]) ?_ 1 _ rfl; refine blk_put (cs := #[.bool false, .int .i64 0, .bool false, .int .u32 0, .int .i64 0, .bool false, .bool false, .int .u32 0, .bool false, .bool false]) ?_ 0 _ rfl; exact BK799.out) hb); have n5_ := Aside0.mk (below_step (by repeat (with_reducible first | exact HB.out | refine below_set ?_ GE799.out)) hb); clear HO_1; clear HO785; clear HO787; clear BK761; clear BK799; clear HB; have HO_1 := n0_; have HO785 := n1_; have HO787 := n2_; have BK761 := n3_; have BK799 := n4_; have HB := n5_; clear n0_ n1_ n2_ n3_ n4_ n5_; (try clear hb)))
                  go_meet
                  case rel => exact ⟨_, (!t800), (by (rfl)), H', ⟨by have := HJ2.out; have := HJ13.out; (omega)⟩, ⟨by exact Kd.V_mono HO_1.out (fun _ hk => ⟨hk.1.1.1.1, ⟨hk.1.1.2, ⟨hk.1.2, ⟨hk.1.1.1.2, hk.2⟩⟩⟩⟩)⟩, ⟨by exact Kd.N_mono HO785.out (fun _ hk => ⟨hk.1.1, ⟨hk.1.2.1, ⟨hk.1.2.2, hk.2⟩⟩⟩)⟩, ⟨by exact Kd.N_mono HO787.out (fun _ hk => ⟨hk.1.1, ⟨hk.1.2.1, ⟨hk.1.2.2, hk.2⟩⟩⟩)⟩, ⟨by exact BK761.out⟩, ⟨by exact BK799.out⟩, ⟨by exact HB.out⟩⟩
              · rw [if_neg c39] at H
                have c39b0 : ((t782.length : Int) == 0) = false := beq_eq_false_iff_ne.mpr c39
                have c39b1 : ((t782.length : Int) != 0) = true := bne_iff_ne.mpr c39
                have c39b2 : ¬ (t782 = []) := fun h_ => c39 (by rw [h_]; rfl)
                (skip)
                by_cases c47 : (t798 != false) = true
                · rw [if_pos c47] at H
                  have c47b0 : (t798 != false) = true := c47
                  (try (have c47b1 : decide (t798 = false) = false := by simpa using c47))
                  (try (have c47b2 : (t798 == false) = false := by simpa using c47))
                  (try (have c47b3 : ¬ (t798 = false) := by simpa using c47))
                  clear c47
                  have H' := Aside0.mk H
                  clear H
                  obtain ⟨Ao48, co48, eo48⟩ := Kd.N_slice HO785.out
                  subst eo48
                  go_wp2
                  go_meet
                  case rel => exact ⟨_, (true), (by (rfl)), H', ⟨by have := HJ2.out; have := HJ13.out; (omega)⟩, ⟨by exact Kd.V_mono (Kd.V_far (p := ⟨gb799, 9, none⟩) (Kd.V_far (p := ⟨gb799, 8, none⟩) (Kd.V_far (p := ⟨gb799, 7, none⟩) (Kd.V_far (p := ⟨gb799, 6, none⟩) (Kd.V_far (p := ⟨gb799, 5, none⟩) (Kd.V_far (p := ⟨gb799, 4, none⟩) (Kd.V_far (p := ⟨gb799, 3, none⟩) (Kd.V_far (p := ⟨gb799, 2, none⟩) (Kd.V_far (p := ⟨gb799, 1, none⟩) (Kd.V_far (p := ⟨gb799, 0, none⟩) (Kd.V_mono HO_1.out (fun k_ hk => (⟨hk, hk.2⟩ : _ ∧ k_ ≠ gb799))) (fun _ hk => hk.2) (.bool t788)) (fun _ hk => hk.2) (.int .i64 t789)) (fun _ hk => hk.2) (.bool t790)) (fun _ hk => hk.2) (.int .u32 t791)) (fun _ hk => hk.2) (.int .i64 t792)) (fun _ hk => hk.2) (.bool t793)) (fun _ hk => hk.2) (.bool t794)) (fun _ hk => hk.2) (.int .u32 t795)) (fun _ hk => hk.2) (.bool t796)) (fun _ hk => hk.2) (.bool t797)) (fun _ hk => ⟨hk.1.1.1.1.1, ⟨hk.1.1.1.2, ⟨hk.1.1.2, ⟨hk.1.1.1.1.2, hk.1.2⟩⟩⟩⟩)⟩, ⟨by exact Kd.N_mono (Kd.N_far (p := ⟨gb799, 9, none⟩) (Kd.N_far (p := ⟨gb799, 8, none⟩) (Kd.N_far (p := ⟨gb799, 7, none⟩) (Kd.N_far (p := ⟨gb799, 6, none⟩) (Kd.N_far (p := ⟨gb799, 5, none⟩) (Kd.N_far (p := ⟨gb799, 4, none⟩) (Kd.N_far (p := ⟨gb799, 3, none⟩) (Kd.N_far (p := ⟨gb799, 2, none⟩) (Kd.N_far (p := ⟨gb799, 1, none⟩) (Kd.N_far (p := ⟨gb799, 0, none⟩) (Kd.N_mono HO785.out (fun k_ hk => (⟨hk, hk.2⟩ : _ ∧ k_ ≠ gb799))) (fun _ hk => hk.2) (.bool t788)) (fun _ hk => hk.2) (.int .i64 t789)) (fun _ hk => hk.2) (.bool t790)) (fun _ hk => hk.2) (.int .u32 t791)) (fun _ hk => hk.2) (.int .i64 t792)) (fun _ hk => hk.2) (.bool t793)) (fun _ hk => hk.2) (.bool t794)) (fun _ hk => hk.2) (.int .u32 t795)) (fun _ hk => hk.2) (.bool t796)) (fun _ hk => hk.2) (.bool t797)) (fun _ hk => ⟨hk.1.1.1, ⟨hk.1.1.2.1, ⟨hk.1.1.2.2, hk.1.2⟩⟩⟩)⟩, ⟨by exact Kd.N_mono (Kd.N_far (p := ⟨gb799, 9, none⟩) (Kd.N_far (p := ⟨gb799, 8, none⟩) (Kd.N_far (p := ⟨gb799, 7, none⟩) (Kd.N_far (p := ⟨gb799, 6, none⟩) (Kd.N_far (p := ⟨gb799, 5, none⟩) (Kd.N_far (p := ⟨gb799, 4, none⟩) (Kd.N_far (p := ⟨gb799, 3, none⟩) (Kd.N_far (p := ⟨gb799, 2, none⟩) (Kd.N_far (p := ⟨gb799, 1, none⟩) (Kd.N_far (p := ⟨gb799, 0, none⟩) (Kd.N_mono HO787.out (fun k_ hk => (⟨hk, hk.2⟩ : _ ∧ k_ ≠ gb799))) (fun _ hk => hk.2) (.bool t788)) (fun _ hk => hk.2) (.int .i64 t789)) (fun _ hk => hk.2) (.bool t790)) (fun _ hk => hk.2) (.int .u32 t791)) (fun _ hk => hk.2) (.int .i64 t792)) (fun _ hk => hk.2) (.bool t793)) (fun _ hk => hk.2) (.bool t794)) (fun _ hk => hk.2) (.int .u32 t795)) (fun _ hk => hk.2) (.bool t796)) (fun _ hk => hk.2) (.bool t797)) (fun _ hk => ⟨hk.1.1.1, ⟨hk.1.1.2.1, ⟨hk.1.1.2.2, hk.1.2⟩⟩⟩)⟩, ⟨by refine blk_far ?_ NB761_799.out _; refine blk_far ?_ NB761_799.out _; refine blk_far ?_ NB761_799.out _; refine blk_far ?_ NB761_799.out _; refine blk_far ?_ NB761_799.out _; refine blk_far ?_ NB761_799.out _; refine blk_far ?_ NB761_799.out _; refine blk_far ?_ NB761_799.out _; refine blk_far ?_ NB761_799.out _; refine blk_far ?_ NB761_799.out _; exact BK761.out⟩, ⟨by refine blk_put (cs := #[.bool t788, .int .i64 t789, .bool t790, .int .u32 t791, .int .i64 t792, .bool t793, .bool t794, .int .u32 t795, .bool t796, .bool false]) ?_ 9 _ rfl; refine blk_put (cs := #[.bool t788, .int .i64 t789, .bool t790, .int .u32 t791, .int .i64 t792, .bool t793, .bool t794, .int .u32 t795, .bool false, .bool false]) ?_ 8 _ rfl; refine blk_put (cs := #[.bool t788, .int .i64 t789, .bool t790, .int .u32 t791, .int .i64 t792, .bool t793, .bool t794, .int .u32 0, .bool false, .bool false]) ?_ 7 _ rfl; refine blk_put (cs := #[.bool t788, .int .i64 t789, .bool t790, .int .u32 t791, .int .i64 t792, .bool t793, .bool false, .int .u32 0, .bool false, .bool false]) ?_ 6 _ rfl; refine blk_put (cs := #[.bool t788, .int .i64 t789, .bool t790, .int .u32 t791, .int .i64 t792, .bool false, .bool false, .int .u32 0, .bool false, .bool false]) ?_ 5 _ rfl; refine blk_put (cs := #[.bool t788, .int .i64 t789, .bool t790, .int .u32 t791, .int .i64 0, .bool false, .bool false, .int .u32 0, .bool false, .bool false]) ?_ 4 _ rfl; refine blk_put (cs := #[.bool t788, .int .i64 t789, .bool t790, .int .u32 0, .int .i64 0, .bool false, .bool false, .int .u32 0, .bool false, .bool false]) ?_ 3 _ rfl; refine blk_put (cs := #[.bool t788, .int .i64 t789, .bool false, .int .u32 0, .int .i64 0, .bool false, .bool false, .int .u32 0, .bool false, .bool false]) ?_ 2 _ rfl; refine blk_put (cs := #[.bool t788, .int .i64 0, .bool false, .int .u32 0, .int .i64 0, .bool false, .bool false, .int .u32 0, .bool false, .bool false]) ?_ 1 _ rfl; refine blk_put (cs := #[.bool false, .int .i64 0, .bool false, .int .u32 0, .int .i64 0, .bool false, .bool false, .int .u32 0, .bool false, .bool false]) ?_ 0 _ rfl; exact BK799.out⟩, ⟨by repeat (with_reducible first | exact HB.out | refine below_set ?_ GE799.out)⟩⟩
                · rw [if_neg c47] at H
                  have c47b0 : (t798 != false) = false := by simpa using c47
                  (try (have c47b1 : decide (t798 = false) = true := by simpa using c47))
                  (try (have c47b2 : (t798 == false) = true := by simpa using c47))
                  clear c47
                  replace H := Option.bind_eq_some_iff.mp H
                  obtain ⟨t801, A490, H⟩ := H
                  replace H : (umpirelaw14_TermsBack.j2 kj13 l1 t782 t783 (!t801)) = some r := H
                  have A49 := Aside0.mk A490
                  clear A490
                  have H' := Aside0.mk H
                  clear H
                  obtain ⟨Ao50, co50, eo50⟩ := Kd.N_slice HO785.out
                  subst eo50
                  go_wp2_with (first | (go_at_call 42; (with_reducible refine (umpireref12_Within.calls kj13 _ _ t782 _ _ l1 t801 _ ?side1 ?side2 ?side3 ?side4 A49.out).mono ?_); (case side1 => refine (Kd.N_reads' (e := 55) (base := w.heap.size) (ok := fun k_ => (((P1_ k_ ∨ w.heap.size ≤ k_) ∧ (some k_ ≠ (v786 : Value).ownBlock ∧ k_ ≠ gb761)) ∧ k_ ≠ gb799)) (n := t782.length) (c := co50) ?_).2.2; exact (by exact (Kd.N_mono (Kd.N_far (p := ⟨gb799, 9, none⟩) (Kd.N_far (p := ⟨gb799, 8, none⟩) (Kd.N_far (p := ⟨gb799, 7, none⟩) (Kd.N_far (p := ⟨gb799, 6, none⟩) (Kd.N_far (p := ⟨gb799, 5, none⟩) (Kd.N_far (p := ⟨gb799, 4, none⟩) (Kd.N_far (p := ⟨gb799, 3, none⟩) (Kd.N_far (p := ⟨gb799, 2, none⟩) (Kd.N_far (p := ⟨gb799, 1, none⟩) (Kd.N_far (p := ⟨gb799, 0, none⟩) (Kd.N_mono HO785.out (fun k_ hk => (⟨hk, hk.2⟩ : _ ∧ k_ ≠ gb799))) (fun _ hk => hk.2) (.bool t788)) (fun _ hk => hk.2) (.int .i64 t789)) (fun _ hk => hk.2) (.bool t790)) (fun _ hk => hk.2) (.int .u32 t791)) (fun _ hk => hk.2) (.int .i64 t792)) (fun _ hk => hk.2) (.bool t793)) (fun _ hk => hk.2) (.bool t794)) (fun _ hk => hk.2) (.int .u32 t795)) (fun _ hk => hk.2) (.bool t796)) (fun _ hk => hk.2) (.bool t797)) (fun _ h_ => h_.1)))); (case side2 => exact (Kd.N_reads' HO785.out).2.1); (case side3 => refine (Kd.V_reads' (e := 55) (base := w.heap.size) (ok := fun k_ => (((((P1_ k_ ∨ w.heap.size ≤ k_) ∧ k_ ≠ gb761) ∧ some k_ ≠ (.slice Ao50 t782.length co50 : Value).ownBlock) ∧ some k_ ≠ (v786 : Value).ownBlock) ∧ k_ ≠ gb799)) (n := l1.length) (c := c1) ?_).2.2; exact (by exact (Kd.V_mono (Kd.V_far (p := ⟨gb799, 9, none⟩) (Kd.V_far (p := ⟨gb799, 8, none⟩) (Kd.V_far (p := ⟨gb799, 7, none⟩) (Kd.V_far (p := ⟨gb799, 6, none⟩) (Kd.V_far (p := ⟨gb799, 5, none⟩) (Kd.V_far (p := ⟨gb799, 4, none⟩) (Kd.V_far (p := ⟨gb799, 3, none⟩) (Kd.V_far (p := ⟨gb799, 2, none⟩) (Kd.V_far (p := ⟨gb799, 1, none⟩) (Kd.V_far (p := ⟨gb799, 0, none⟩) (Kd.V_mono HO_1.out (fun k_ hk => (⟨hk, hk.2⟩ : _ ∧ k_ ≠ gb799))) (fun _ hk => hk.2) (.bool t788)) (fun _ hk => hk.2) (.int .i64 t789)) (fun _ hk => hk.2) (.bool t790)) (fun _ hk => hk.2) (.int .u32 t791)) (fun _ hk => hk.2) (.int .i64 t792)) (fun _ hk => hk.2) (.bool t793)) (fun _ hk => hk.2) (.bool t794)) (fun _ hk => hk.2) (.int .u32 t795)) (fun _ hk => hk.2) (.bool t796)) (fun _ hk => hk.2) (.bool t797)) (fun _ h_ => h_.1)))); (case side4 => exact (Kd.V_reads' HO_1.out).2.1); rintro e w51 ⟨rfl, hb⟩; have n0_ := Aside0.mk (Kd.V_below (by exact (Kd.V_mono (Kd.V_far (p := ⟨gb799, 9, none⟩) (Kd.V_far (p := ⟨gb799, 8, none⟩) (Kd.V_far (p := ⟨gb799, 7, none⟩) (Kd.V_far (p := ⟨gb799, 6, none⟩) (Kd.V_far (p := ⟨gb799, 5, none⟩) (Kd.V_far (p := ⟨gb799, 4, none⟩) (Kd.V_far (p := ⟨gb799, 3, none⟩) (Kd.V_far (p := ⟨gb799, 2, none⟩) (Kd.V_far (p := ⟨gb799, 1, none⟩) (Kd.V_far (p := ⟨gb799, 0, none⟩) (Kd.V_mono HO_1.out (fun k_ hk => (⟨hk, hk.2⟩ : _ ∧ k_ ≠ gb799))) (fun _ hk => hk.2) (.bool t788)) (fun _ hk => hk.2) (.int .i64 t789)) (fun _ hk => hk.2) (.bool t790)) (fun _ hk => hk.2) (.int .u32 t791)) (fun _ hk => hk.2) (.int .i64 t792)) (fun _ hk => hk.2) (.bool t793)) (fun _ hk => hk.2) (.bool t794)) (fun _ hk => hk.2) (.int .u32 t795)) (fun _ hk => hk.2) (.bool t796)) (fun _ hk => hk.2) (.bool t797)) (fun _ h_ => h_.1))) hb); have n1_ := Aside0.mk (Kd.N_below (by exact (Kd.N_mono (Kd.N_far (p := ⟨gb799, 9, none⟩) (Kd.N_far (p := ⟨gb799, 8, none⟩) (Kd.N_far (p := ⟨gb799, 7, none⟩) (Kd.N_far (p := ⟨gb799, 6, none⟩) (Kd.N_far (p := ⟨gb799, 5, none⟩) (Kd.N_far (p := ⟨gb799, 4, none⟩) (Kd.N_far (p := ⟨gb799, 3, none⟩) (Kd.N_far (p := ⟨gb799, 2, none⟩) (Kd.N_far (p := ⟨gb799, 1, none⟩) (Kd.N_far (p := ⟨gb799, 0, none⟩) (Kd.N_mono HO785.out (fun k_ hk => (⟨hk, hk.2⟩ : _ ∧ k_ ≠ gb799))) (fun _ hk => hk.2) (.bool t788)) (fun _ hk => hk.2) (.int .i64 t789)) (fun _ hk => hk.2) (.bool t790)) (fun _ hk => hk.2) (.int .u32 t791)) (fun _ hk => hk.2) (.int .i64 t792)) (fun _ hk => hk.2) (.bool t793)) (fun _ hk => hk.2) (.bool t794)) (fun _ hk => hk.2) (.int .u32 t795)) (fun _ hk => hk.2) (.bool t796)) (fun _ hk => hk.2) (.bool t797)) (fun _ h_ => h_.1))) hb); have n2_ := Aside0.mk (Kd.N_below (by exact (Kd.N_mono (Kd.N_far (p := ⟨gb799, 9, none⟩) (Kd.N_far (p := ⟨gb799, 8, none⟩) (Kd.N_far (p := ⟨gb799, 7, none⟩) (Kd.N_far (p := ⟨gb799, 6, none⟩) (Kd.N_far (p := ⟨gb799, 5, none⟩) (Kd.N_far (p := ⟨gb799, 4, none⟩) (Kd.N_far (p := ⟨gb799, 3, none⟩) (Kd.N_far (p := ⟨gb799, 2, none⟩) (Kd.N_far (p := ⟨gb799, 1, none⟩) (Kd.N_far (p := ⟨gb799, 0, none⟩) (Kd.N_mono HO787.out (fun k_ hk => (⟨hk, hk.2⟩ : _ ∧ k_ ≠ gb799))) (fun _ hk => hk.2) (.bool t788)) (fun _ hk => hk.2) (.int .i64 t789)) (fun _ hk => hk.2) (.bool t790)) (fun _ hk => hk.2) (.int .u32 t791)) (fun _ hk => hk.2) (.int .i64 t792)) (fun _ hk => hk.2) (.bool t793)) (fun _ hk => hk.2) (.bool t794)) (fun _ hk => hk.2) (.int .u32 t795)) (fun _ hk => hk.2) (.bool t796)) (fun _ hk => hk.2) (.bool t797)) (fun _ h_ => h_.1))) hb); have n3_ := Aside0.mk (blk_below (g := gb761) (o := .cells #[.bool a0_0, .int .i64 a0_1, .bool a0_2, .int .u32 a0_3, .int .i64 a0_4, .bool a0_5, .bool a0_6, .int .u32 a0_7, .bool a0_8, .bool a0_9] 61 (0, 0)) (by refine blk_far ?_ NB761_799.out _; refine blk_far ?_ NB761_799.out _; refine blk_far ?_ NB761_799.out _; refine blk_far ?_ NB761_799.out _; refine blk_far ?_ NB761_799.out _; refine blk_far ?_ NB761_799.out _; refine blk_far ?_ NB761_799.out _; refine blk_far ?_ NB761_799.out _; refine blk_far ?_ NB761_799.out _; refine blk_far ?_ NB761_799.out _; exact BK761.out) hb); have n4_ := Aside0.mk (blk_below (g := gb799) (o := .cells #[.bool t788, .int .i64 t789, .bool t790, .int .u32 t791, .int .i64 t792, .bool t793, .bool t794, .int .u32 t795, .bool t796, .bool t797] 61 (0, 0)) (by refine blk_put (cs := #[.bool t788, .int .i64 t789, .bool t790, .int .u32 t791, .int .i64 t792, .bool t793, .bool t794, .int .u32 t795, .bool t796, .bool false]) ?_ 9 _ rfl; refine blk_put (cs := #[.bool t788, .int .i64 t789, .bool t790, .int .u32 t791, .int .i64 t792, .bool t793, .bool t794, .int .u32 t795, .bool false, .bool false]) ?_ 8 _ rfl; refine blk_put (cs := #[.bool t788, .int .i64 t789, .bool t790, .int .u32 t791, .int .i64 t792, .bool t793, .bool t794, .int .u32 0, .bool false, .bool false]) ?_ 7 _ rfl; refine blk_put (cs := #[.bool t788, .int .i64 t789, .bool t790, .int .u32 t791, .int .i64 t792, .bool t793, .bool false, .int .u32 0, .bool false, .bool false]) ?_ 6 _ rfl; refine blk_put (cs := #[.bool t788, .int .i64 t789, .bool t790, .int .u32 t791, .int .i64 t792, .bool false, .bool false, .int .u32 0, .bool false, .bool false]) ?_ 5 _ rfl; refine blk_put (cs := #[.bool t788, .int .i64 t789, .bool t790, .int .u32 t791, .int .i64 0, .bool false, .bool false, .int .u32 0, .bool false, .bool false]) ?_ 4 _ rfl; refine blk_put (cs := #[.bool t788, .int .i64 t789, .bool t790, .int .u32 0, .int .i64 0, .bool false, .bool false, .int .u32 0, .bool false, .bool false]) ?_ 3 _ rfl; refine blk_put (cs := #[.bool t788, .int .i64 t789, .bool false, .int .u32 0, .int .i64 0, .bool false, .bool false, .int .u32 0, .bool false, .bool false]) ?_ 2 _ rfl; refine blk_put (cs := #[.bool t788, .int .i64 0, .bool false, .int .u32 0, .int .i64 0, .bool false, .bool false, .int .u32 0, .bool false, .bool false]) ?_ 1 _ rfl; refine blk_put (cs := #[.bool false, .int .i64 0, .bool false, .int .u32 0, .int .i64 0, .bool false, .bool false, .int .u32 0, .bool false, .bool false]) ?_ 0 _ rfl; exact BK799.out) hb); have n5_ := Aside0.mk (below_step (by repeat (with_reducible first | exact HB.out | refine below_set ?_ GE799.out)) hb); clear HO_1; clear HO785; clear HO787; clear BK761; clear BK799; clear HB; have HO_1 := n0_; have HO785 := n1_; have HO787 := n2_; have BK761 := n3_; have BK799 := n4_; have HB := n5_; clear n0_ n1_ n2_ n3_ n4_ n5_; (try clear hb)))
                  go_meet
                  case rel => exact ⟨_, (!t801), (by (rfl)), H', ⟨by have := HJ2.out; have := HJ13.out; (omega)⟩, ⟨by exact Kd.V_mono HO_1.out (fun _ hk => ⟨hk.1.1.1.1, ⟨hk.1.1.2, ⟨hk.1.2, ⟨hk.1.1.1.2, hk.2⟩⟩⟩⟩)⟩, ⟨by exact Kd.N_mono HO785.out (fun _ hk => ⟨hk.1.1, ⟨hk.1.2.1, ⟨hk.1.2.2, hk.2⟩⟩⟩)⟩, ⟨by exact Kd.N_mono HO787.out (fun _ hk => ⟨hk.1.1, ⟨hk.1.2.1, ⟨hk.1.2.2, hk.2⟩⟩⟩)⟩, ⟨by exact BK761.out⟩, ⟨by exact BK799.out⟩, ⟨by exact HB.out⟩⟩
            case rest =>
              clear HC33
              try clear hcz38_0
              try clear hcz38_1
              try clear hcz38_2
              try clear hcz38_3
              try clear hcz38_4
              try clear hcz38_5
              try clear hcz38_6
              try clear hcz38_7
              try clear hcz38_8
              try clear hcz38_9
              try clear hfz38_0
              try clear hfz38_1
              try clear hfz38_2
              try clear hfz38_3
              try clear hfz38_4
              try clear hfz38_5
              try clear hfz38_6
              try clear hfz38_7
              try clear hfz38_8
              try clear hfz38_9
              obtain ⟨kq, x75_32, rfl, HA, HJ32, HO_1, HO_9, HO_10, BK761, BK799, HB⟩ := hcut
              cases kq with
              | zero => exact absurd HA.out (by simp [umpirelaw14_TermsBack.j2])
              | succ kj32 =>
                have H := HA.out
                clear HA
                simp only [umpirelaw14_TermsBack.j2] at H
                by_cases c52 : x75_32 = true
                · subst c52
                  have H1 : (none) = some r := by rw [if_pos rfl] at H; exact H
                  clear H
                  have H := H1
                  clear H1
                  exact absurd H (by simp)
                · replace c52 := Bool.eq_false_iff.mpr c52
                  subst c52
                  have H1 : (umpirelaw14_TermsBack.l0 kj32 l1 t782 t783 ([] : List (S55)) 0) = some r := by rw [if_neg (show ¬ (false = true) by decide)] at H; exact H
                  clear H
                  have H := H1
                  clear H1
                  have H' := Aside0.mk H
                  clear H
                  go_wp2
                  go_loopg [13, 14] kj32 (fun kq v13 v14 w' => ∃ (x13_4 : List (S55)) (x14_4 : Int), v14 = .int .i64 x14_4 ∧ Aside0 (umpirelaw14_TermsBack.l0 kq l1 t782 t783 x13_4 x14_4 = some r) ∧ Aside0 (kq ≤ kj32) ∧ Aside0 (Kd.V k55 55 w' w.heap.size (fun k_ => (P1_ k_ ∨ w.heap.size ≤ k_) ∧ some k_ ≠ (v784 : Value).ownBlock ∧ some k_ ≠ (v786 : Value).ownBlock ∧ some k_ ≠ (v13 : Value).ownBlock ∧ k_ ≠ gb761 ∧ k_ ≠ gb799) (.slice A1 l1.length c1) l1) ∧ Aside0 (Kd.N k55 55 w' w.heap.size (fun k_ => (P1_ k_ ∨ w.heap.size ≤ k_) ∧ some k_ ≠ (v786 : Value).ownBlock ∧ some k_ ≠ (v13 : Value).ownBlock ∧ k_ ≠ gb761 ∧ k_ ≠ gb799) v784 t782) ∧ Aside0 (Kd.N k55 55 w' w.heap.size (fun k_ => (P1_ k_ ∨ w.heap.size ≤ k_) ∧ some k_ ≠ (v784 : Value).ownBlock ∧ some k_ ≠ (v13 : Value).ownBlock ∧ k_ ≠ gb761 ∧ k_ ≠ gb799) v786 t783) ∧ Aside0 (Kd.N k55 55 w' w.heap.size (fun k_ => (P1_ k_ ∨ w.heap.size ≤ k_) ∧ some k_ ≠ (v784 : Value).ownBlock ∧ some k_ ≠ (v786 : Value).ownBlock ∧ k_ ≠ gb761 ∧ k_ ≠ gb799) v13 x13_4) ∧ Aside0 (w'.heap[gb761]? = some (.cells #[.bool a0_0, .int .i64 a0_1, .bool a0_2, .int .u32 a0_3, .int .i64 a0_4, .bool a0_5, .bool a0_6, .int .u32 a0_7, .bool a0_8, .bool a0_9] 61 (0, 0))) ∧ Aside0 (w'.heap[gb799]? = some (.cells #[.bool t788, .int .i64 t789, .bool t790, .int .u32 t791, .int .i64 t792, .bool t793, .bool t794, .int .u32 t795, .bool t796, .bool t797] 61 (0, 0))) ∧ Aside0 (Below w.heap.size w w'))
                  case atStart => exact ⟨([] : List (S55)), (0), (by (rfl)), H', ⟨Nat.le_refl _⟩, ⟨by exact Kd.V_mono HO_1.out (fun _ hk => ⟨hk.1, ⟨hk.2.1, ⟨hk.2.2.1, ⟨(by simp [Value.ownBlock]), ⟨hk.2.2.2.1, hk.2.2.2.2⟩⟩⟩⟩⟩)⟩, ⟨by exact Kd.N_mono HO_9.out (fun _ hk => ⟨hk.1, ⟨hk.2.1, ⟨(by simp [Value.ownBlock]), ⟨hk.2.2.1, hk.2.2.2⟩⟩⟩⟩)⟩, ⟨by exact Kd.N_mono HO_10.out (fun _ hk => ⟨hk.1, ⟨hk.2.1, ⟨(by simp [Value.ownBlock]), ⟨hk.2.2.1, hk.2.2.2⟩⟩⟩⟩)⟩, ⟨by (exact Kd.N_nil _ _ _ _ _)⟩, ⟨by exact BK761.out⟩, ⟨by exact BK799.out⟩, ⟨by exact HB.out⟩⟩
                  case round =>
                    clear H'
                    obtain ⟨x13_4, x14_4, rfl, HA, HK4, HO_1, HO_9, HO_10, HO_13, BK761, BK799, HB⟩ := hrel
                    cases gk with
                    | zero => exact absurd HA.out (by simp [umpirelaw14_TermsBack.l0])
                    | succ k4 =>
                      have H := HA.out
                      clear HA
                      simp only [umpirelaw14_TermsBack.l0] at H
                      by_cases c53 : x14_4 < (l1.length : Int)
                      · rw [if_pos c53] at H
                        have c53b0 : decide (x14_4 < (l1.length : Int)) = true := decide_eq_true c53
                        clear c53
                        by_cases c54 : 0 ≤ x14_4
                        · rw [if_pos c54] at H
                          have c54b0 : decide (0 ≤ x14_4) = true := decide_eq_true c54
                          clear c54
                          replace H := Option.bind_eq_some_iff.mp H
                          obtain ⟨t818, A550, H⟩ := H
                          replace H : (if t818 = true then (if x14_4 ≤ (l1.length : Int) then ((umpireref12_Find.f k4 (l1.take (x14_4 : Int).toNat) ((rd_T55 l1 x14_4).f0)).bind fun t825 => (if t825 < 0 then (if x13_4.length < 4398046511104 then (umpirelaw14_TermsBack.l0 k4 l1 t782 t783 (x13_4 ++ [(⟨(rd_T55 l1 x14_4).f0, (rd_T55 l1 x14_4).f1⟩ : S55)]) (wrap64 (x14_4 + 1))) else (none)) else (umpirelaw14_TermsBack.l0 k4 l1 t782 t783 x13_4 (wrap64 (x14_4 + 1))))) else (none)) else (umpirelaw14_TermsBack.l0 k4 l1 t782 t783 x13_4 (wrap64 (x14_4 + 1)))) = some r := H
                          have A55 := Aside0.mk A550
                          clear A550
                          by_cases c56 : t818 = true
                          · subst c56
                            have H1 : (if x14_4 ≤ (l1.length : Int) then ((umpireref12_Find.f k4 (l1.take (x14_4 : Int).toNat) ((rd_T55 l1 x14_4).f0)).bind fun t825 => (if t825 < 0 then (if x13_4.length < 4398046511104 then (umpirelaw14_TermsBack.l0 k4 l1 t782 t783 (x13_4 ++ [(⟨(rd_T55 l1 x14_4).f0, (rd_T55 l1 x14_4).f1⟩ : S55)]) (wrap64 (x14_4 + 1))) else (none)) else (umpirelaw14_TermsBack.l0 k4 l1 t782 t783 x13_4 (wrap64 (x14_4 + 1))))) else (none)) = some r := by rw [if_pos rfl] at H; exact H
                            clear H
                            have H := H1
                            clear H1
                            have c57b0 := eq_true (of_decide_eq_true (by (with_reducible assumption)) : 0 ≤ x14_4)
                            by_cases c58 : x14_4 ≤ (l1.length : Int)
                            · rw [if_pos c58] at H
                              have c58b0 := eq_true c58
                              have c58b1 : decide (x14_4 ≤ (l1.length : Int)) = true := decide_eq_true c58
                              clear c58
                              obtain ⟨y819, hy819⟩ : ∃ y_ : List (S55), y_ = (l1.take (x14_4 : Int).toNat) := ⟨_, rfl⟩
                              replace H : ((umpireref12_Find.f k4 y819 ((rd_T55 l1 x14_4).f0)).bind fun t825 => (if t825 < 0 then (if x13_4.length < 4398046511104 then (umpirelaw14_TermsBack.l0 k4 l1 t782 t783 (x13_4 ++ [(⟨(rd_T55 l1 x14_4).f0, (rd_T55 l1 x14_4).f1⟩ : S55)]) (wrap64 (x14_4 + 1))) else (none)) else (umpirelaw14_TermsBack.l0 k4 l1 t782 t783 x13_4 (wrap64 (x14_4 + 1))))) = some r := by (rw [hy819]; with_reducible exact H)
                              have Ny819 := Aside0.mk hy819
                              clear hy819
                              replace H := Option.bind_eq_some_iff.mp H
                              obtain ⟨t825, A590, H⟩ := H
                              replace H : (if t825 < 0 then (if x13_4.length < 4398046511104 then (umpirelaw14_TermsBack.l0 k4 l1 t782 t783 (x13_4 ++ [(⟨(rd_T55 l1 x14_4).f0, (rd_T55 l1 x14_4).f1⟩ : S55)]) (wrap64 (x14_4 + 1))) else (none)) else (umpirelaw14_TermsBack.l0 k4 l1 t782 t783 x13_4 (wrap64 (x14_4 + 1)))) = some r := H
                              have A59 := Aside0.mk A590
                              clear A590
                              by_cases c60 : t825 < 0
                              · rw [if_pos c60] at H
                                have c60b0 : decide (t825 < 0) = true := decide_eq_true c60
                                clear c60
                                by_cases c61 : x13_4.length < 4398046511104
                                · rw [if_pos c61] at H
                                  have LMc61 := Aside0.mk c61
                                  clear c61
                                  obtain ⟨y827, hy827⟩ : ∃ y_ : List (S55), y_ = (x13_4 ++ [(⟨(rd_T55 l1 x14_4).f0, (rd_T55 l1 x14_4).f1⟩ : S55)]) := ⟨_, rfl⟩
                                  replace H : (umpirelaw14_TermsBack.l0 k4 l1 t782 t783 y827 (wrap64 (x14_4 + 1))) = some r := by (rw [hy827]; with_reducible exact H)
                                  have Ny827 := Aside0.mk hy827
                                  clear hy827
                                  have H' := Aside0.mk H
                                  clear H
                                  try go_wp2
                                  have n0_ := Aside0.mk (Kd.V_drew HO_1.out)
                                  have n1_ := Aside0.mk (Kd.N_drew HO_9.out)
                                  have n2_ := Aside0.mk (Kd.N_drew HO_10.out)
                                  have n3_ := Aside0.mk (Kd.N_drew HO_13.out)
                                  have n4_ := Aside0.mk (blk_drew BK761.out)
                                  have n5_ := Aside0.mk (blk_drew BK799.out)
                                  have n6_ := Aside0.mk (below_drew1 HB.out)
                                  clear HO_1
                                  clear HO_9
                                  clear HO_10
                                  clear HO_13
                                  clear BK761
                                  clear BK799
                                  clear HB
                                  have HO_1 := n0_
                                  have HO_9 := n1_
                                  have HO_10 := n2_
                                  have HO_13 := n3_
                                  have BK761 := n4_
                                  have BK799 := n5_
                                  have HB := n6_
                                  clear n0_ n1_ n2_ n3_ n4_ n5_ n6_
                                  have p817 : 0 ≤ (x14_4 : Int) := of_decide_eq_true (by (with_reducible assumption))
                                  have q817 : x14_4 < (l1.length : Int) := of_decide_eq_true (by (with_reducible assumption))
                                  obtain ⟨ad817, A817_1, c817_1, e817, hx817_0, hx817_1, hl817_1, hi817_1⟩ := at_T55 (Kd.V_reads' HO_1.out).2.2 x14_4 p817 q817
                                  cases e817
                                  obtain ⟨ce817, hce817, hMe817, hcc817⟩ := Kd.V_get HO_1.out z55 x14_4 p817 (by (exact q817))
                                  obtain ⟨ua817_1, uc817_1, rfl, ul817_1, ge817_1⟩ := k55_openF hMe817
                                  have hv817_1 := hcc817 1 _ rfl
                                  rw [add_field _ _ 1 (by omega)] at hv817_1
                                  replace hv817_1 := Option.some.inj (hv817_1.symm.trans hx817_1)
                                  injection hv817_1 with hva_ hvn_ hvc_
                                  rw [hva_] at ge817_1
                                  rw [hvc_] at ul817_1
                                  have HL817_1 := Aside0.mk (show Kd.V (Kd.int .u8) 5 _ w.heap.size _ _ ((rd_T55 l1 x14_4).f1) from Kd.V_mk ul817_1 ge817_1)
                                  clear hva_ hvn_ hvc_ ge817_1 ul817_1
                                  clear hcc817 hce817
                                  have HR817_1 := Aside0.mk hi817_1
                                  have HC817_1 := Aside0.mk hl817_1
                                  clear hi817_1 hl817_1
                                  replace p817 := eq_true p817
                                  replace q817 := eq_true q817
                                  have p824 : 0 ≤ (x14_4 : Int) := of_decide_eq_true (by (with_reducible assumption))
                                  have q824 : x14_4 < (l1.length : Int) := of_decide_eq_true (by (with_reducible assumption))
                                  obtain ⟨ad824, A824_1, c824_1, e824, hx824_0, hx824_1, hl824_1, hi824_1⟩ := at_T55 (Kd.V_reads' HO_1.out).2.2 x14_4 p824 q824
                                  obtain rfl : ad817 = ad824 := (by injection e824)
                                  obtain ⟨ce824, hce824, hMe824, hcc824⟩ := Kd.V_get HO_1.out z55 x14_4 p824 (by (exact q824))
                                  obtain ⟨ua824_1, uc824_1, rfl, ul824_1, ge824_1⟩ := k55_openF hMe824
                                  have hv824_1 := hcc824 1 _ rfl
                                  rw [add_field _ _ 1 (by omega)] at hv824_1
                                  replace hv824_1 := Option.some.inj (hv824_1.symm.trans hx824_1)
                                  injection hv824_1 with hva_ hvn_ hvc_
                                  rw [hva_] at ge824_1
                                  rw [hvc_] at ul824_1
                                  have HL824_1 := Aside0.mk (show Kd.V (Kd.int .u8) 5 _ w.heap.size _ _ ((rd_T55 l1 x14_4).f1) from Kd.V_mk ul824_1 ge824_1)
                                  clear hva_ hvn_ hvc_ ge824_1 ul824_1
                                  clear hcc824 hce824
                                  have HR824_1 := Aside0.mk hi824_1
                                  have HC824_1 := Aside0.mk hl824_1
                                  clear hi824_1 hl824_1
                                  replace p824 := eq_true p824
                                  replace q824 := eq_true q824
                                  refine start_ (n := 17) (S := fun w' => w'.cell? (ad817.add ((x14_4).toNat * 2)) = some (.int .i64 ((rd_T55 l1 x14_4).f0)) ∧ w'.cell? ⟨(ad817.add ((x14_4).toNat * 2)).block, (ad817.add ((x14_4).toNat * 2)).off + 1, none⟩ = some (.slice A817_1 ((rd_T55 l1 x14_4).f1).length c817_1) ∧ w'.cell? (ad817.add ((x14_4).toNat * 2)) = some (.int .i64 ((rd_T55 l1 x14_4).f0)) ∧ w'.cell? ⟨(ad817.add ((x14_4).toNat * 2)).block, (ad817.add ((x14_4).toNat * 2)).off + 1, none⟩ = some (.slice A824_1 ((rd_T55 l1 x14_4).f1).length c824_1)) (ds := []) #[false, false, false, false, false, false, false, false, false, false, false, false, false, false, false, false, false] (by kernel_rfl) rfl rfl ⟨hx817_0, hx817_1, hx824_0, hx824_1⟩ (fun hHeld => ?_); refine with_tabW umpirelaw14_TermsBack.tab16 umpirelaw14_TermsBack.bits16 (fun HT_ HW_ => ?_)
                                  generalize wr.drew = w62 at HO_1 HO_9 HO_10 HO_13 BK761 BK799 HB HL817_1 HL824_1 HR817_1 HR824_1 hx817_0 hx817_1 hx824_0 hx824_1 hHeld ⊢
                                  refine pure_ (i := 0) (N := some 82) (v := ?_) (a' := ?_) #[true, false, false, false, false, false, false, false, false, false, false, false, false, false, false, false, false] rfl rfl (any_of HT_.out (by kernel_rfl)) (fun _ _ _ h => h) (Or.inl ⟨by rfl, ?_⟩) ?_ ?_
                                  rotate_left
                                  · intro w'
                                    go_simp
                                    with_reducible rfl
                                  rotate_left
                                  · simp only [Act.put, List.setIfInBounds_toArray, List.set_cons_zero, List.set_cons_succ, i64_w, i32_w]
                                    rfl
                                  refine pure_ (i := 1) (N := some 83) (v := ?_) (a' := ?_) #[true, true, false, false, false, false, false, false, false, false, false, false, false, false, false, false, false] rfl rfl (any_of HT_.out (by kernel_rfl)) (fun _ _ _ h => h) (Or.inl ⟨by rfl, ?_⟩) ?_ ?_
                                  rotate_left
                                  · intro w'
                                    go_simp
                                    with_reducible rfl
                                  rotate_left
                                  · simp only [Act.put, List.setIfInBounds_toArray, List.set_cons_zero, List.set_cons_succ, i64_w, i32_w]
                                    rfl
                                  refine pure_ (i := 2) (N := some 84) (v := ?_) (a' := ?_) #[true, true, true, false, false, false, false, false, false, false, false, false, false, false, false, false, false] rfl rfl (any_of HT_.out (by kernel_rfl)) (fun _ _ _ h => h) (Or.inl ⟨by rfl, ?_⟩) ?_ ?_
                                  rotate_left
                                  · intro w'
                                    go_simp
                                    with_reducible rfl
                                  rotate_left
                                  · simp only [Act.put, List.setIfInBounds_toArray, List.set_cons_zero, List.set_cons_succ, i64_w, i32_w]
                                    rfl
                                  refine take_ (i := 3) (N := some 85) (v := ?_) (a' := ?_) #[true, true, true, true, false, false, false, false, false, false, false, false, false, false, false, false, false] rfl rfl (take_ofW HT_.out HW_.out (by kernel_rfl)) (fun _ _ _ h => h) (Or.inl ⟨by rfl, ?_⟩) hHeld ?_ ?_
                                  rotate_left
                                  · rintro w' ⟨s0, s1, s2, s3⟩
                                    go_simp
                                    with_reducible rfl
                                  rotate_left
                                  · simp only [Act.put, List.setIfInBounds_toArray, List.set_cons_zero, List.set_cons_succ, i64_w, i32_w]
                                    rfl
                                  refine one_ (i := 4) (N := some 86) #[true, true, true, true, true, false, false, false, false, false, false, false, false, false, false, false, false] rfl rfl (one_of HT_.out (by kernel_rfl)) (by decide) (fun K hK => ?_)
                                  refine goes_ Try.func29 (by kernel_rfl) rfl #[.agg #[.int .i64 ((rd_T55 l1 x14_4).f0), .slice A817_1 ((rd_T55 l1 x14_4).f1).length c817_1]] (by rfl) rfl rfl (by (try simp only [List.map_toArray, List.map_cons, List.map_nil]); (rfl)) ?_
                                  with_reducible refine (terms_Right.calls k4 ((rd_T55 l1 x14_4).f0) _ _ ((rd_T55 l1 x14_4).f1) true _ ?side1 ?side2 A55.out).mono ?_
                                  (case side1 => repeat ((exact (by repeat (with_reducible exact HR817_1.out)))))
                                  (case side2 => exact HC817_1.out)
                                  rintro e w63 ⟨rfl, hb⟩
                                  have HS0_ := (hb.cell (World.block_lt_of_cell? _ _ (hHeld.1))).trans (hHeld.1)
                                  have HS1_ := (hb.cell (World.block_lt_of_cell? _ _ (hHeld.2.1))).trans (hHeld.2.1)
                                  have HS2_ := (hb.cell (World.block_lt_of_cell? _ _ (hHeld.2.2.1))).trans (hHeld.2.2.1)
                                  have HS3_ := (hb.cell (World.block_lt_of_cell? _ _ (hHeld.2.2.2))).trans (hHeld.2.2.2)
                                  refine ⟨_, rfl, ?_⟩
                                  have n0_ := Aside0.mk (Kd.V_below (by exact HO_1.out) hb)
                                  have n1_ := Aside0.mk (Kd.N_below (by exact HO_9.out) hb)
                                  have n2_ := Aside0.mk (Kd.N_below (by exact HO_10.out) hb)
                                  have n3_ := Aside0.mk (Kd.N_below (by exact HO_13.out) hb)
                                  have n4_ := Aside0.mk (Kd.V_below (by exact HL817_1.out) hb)
                                  have n5_ := Aside0.mk (blk_below (g := gb761) (o := .cells #[.bool a0_0, .int .i64 a0_1, .bool a0_2, .int .u32 a0_3, .int .i64 a0_4, .bool a0_5, .bool a0_6, .int .u32 a0_7, .bool a0_8, .bool a0_9] 61 (0, 0)) (by exact BK761.out) hb)
                                  have n6_ := Aside0.mk (blk_below (g := gb799) (o := .cells #[.bool t788, .int .i64 t789, .bool t790, .int .u32 t791, .int .i64 t792, .bool t793, .bool t794, .int .u32 t795, .bool t796, .bool t797] 61 (0, 0)) (by exact BK799.out) hb)
                                  have n7_ := Aside0.mk (Kd.C_below (by repeat (with_reducible exact HR817_1.out)) hb)
                                  have n8_ := Aside0.mk (below_step (by exact HB.out) hb)
                                  clear HO_1
                                  clear HO_9
                                  clear HO_10
                                  clear HO_13
                                  clear HL817_1
                                  clear BK761
                                  clear BK799
                                  clear HR817_1
                                  clear HB
                                  have HO_1 := n0_
                                  have HO_9 := n1_
                                  have HO_10 := n2_
                                  have HO_13 := n3_
                                  have HL817_1 := n4_
                                  have BK761 := n5_
                                  have BK799 := n6_
                                  have HR817_1 := n7_
                                  have HB := n8_
                                  clear n0_ n1_ n2_ n3_ n4_ n5_ n6_ n7_ n8_
                                  (try clear hb)
                                  (skip)
                                  (skip)
                                  (skip)
                                  have q64 : (x14_4 : Int) ≤ ((l1.length : Int) : Int) := of_decide_eq_true (by (with_reducible assumption))
                                  obtain ⟨i064, hi064, _, hsz64, _⟩ := info_parts info55
                                  have hroom64 : l1.length ≤ c1 := (Kd.V_reads' HO_1.out).2.1
                                  have hC64 : Kd.F k55 _ _ (some ad817) l1.length l1 := (Kd.V_at (base := w.heap.size) HO_1.out).2.2
                                  have hcut64 := cut_to (P := Try.prog) 58 55 .i64 Try.underlying58 hi064 (some ad817) l1.length c1 x14_4 (of_decide_eq_true (by (with_reducible assumption))) q64 hroom64
                                  have hr64 := Kd.F_take (m := (x14_4 : Int).toNat) hC64 (by omega)
                                  have hy64 : y819.length = (x14_4 : Int).toNat := (by rw [Ny819.out, List.length_take]; omega)
                                  rw [← Ny819.out] at hr64
                                  rw [← hy64] at hcut64
                                  have HO823 := Aside0.mk (show Kd.V k55 55 _ w.heap.size _ (.slice (some ad817) y819.length c1) y819 from Kd.V_mk (by omega) hr64)
                                  have HC823 := Aside0.mk (show y819.length ≤ c1 from by omega)
                                  clear hr64 hC64 hroom64 hi064 hsz64
                                  have KY64 := Aside0.mk hy64
                                  clear hy64
                                  replace q64 := eq_true q64
                                  refine hK.out _ _ ⟨HS0_, HS1_, HS2_, HS3_⟩ (fun hHeld => ?_)
                                  clear hK K
                                  refine norm_ (a' := ?_) ?_ ?_
                                  rotate_left
                                  · show Act.put _ (some 86) _ = _
                                    simp only [Act.put, List.setIfInBounds_toArray, List.set_cons_zero, List.set_cons_succ, i64_w, i32_w]
                                    rfl
                                  refine pure_ (i := 5) (N := some 87) (v := ?_) (a' := ?_) #[true, true, true, true, true, true, false, false, false, false, false, false, false, false, false, false, false] rfl rfl (any_of HT_.out (by kernel_rfl)) (fun _ _ _ h => h) (Or.inl ⟨by rfl, ?_⟩) ?_ ?_
                                  rotate_left
                                  · intro w'
                                    go_simp
                                    with_reducible rfl
                                  rotate_left
                                  · simp only [Act.put, List.setIfInBounds_toArray, List.set_cons_zero, List.set_cons_succ, i64_w, i32_w]
                                    rfl
                                  refine pure_ (i := 6) (N := some 88) (v := ?_) (a' := ?_) #[true, true, true, true, true, true, true, false, false, false, false, false, false, false, false, false, false] rfl rfl (any_of HT_.out (by kernel_rfl)) (fun _ _ _ h => h) (Or.inl ⟨by rfl, ?_⟩) ?_ ?_
                                  rotate_left
                                  · intro w'
                                    go_simp
                                    with_reducible rfl
                                  rotate_left
                                  · simp only [Act.put, List.setIfInBounds_toArray, List.set_cons_zero, List.set_cons_succ, i64_w, i32_w]
                                    rfl
                                  refine pure_ (i := 7) (N := some 89) (v := ?_) (a' := ?_) #[true, true, true, true, true, true, true, true, false, false, false, false, false, false, false, false, false] rfl rfl (any_of HT_.out (by kernel_rfl)) (fun _ _ _ h => h) (Or.inl ⟨by rfl, ?_⟩) ?_ ?_
                                  rotate_left
                                  · intro w'
                                    go_simp
                                    with_reducible rfl
                                  rotate_left
                                  · simp only [Act.put, List.setIfInBounds_toArray, List.set_cons_zero, List.set_cons_succ, i64_w, i32_w]
                                    rfl
                                  refine pure_ (i := 8) (N := some 90) (v := ?_) (a' := ?_) #[true, true, true, true, true, true, true, true, true, false, false, false, false, false, false, false, false] rfl rfl (any_of HT_.out (by kernel_rfl)) (fun _ _ _ h => h) (Or.inl ⟨by rfl, ?_⟩) ?_ ?_
                                  rotate_left
                                  · intro w'
                                    go_simp
                                    with_reducible rfl
                                  rotate_left
                                  · simp only [Act.put, List.setIfInBounds_toArray, List.set_cons_zero, List.set_cons_succ, i64_w, i32_w]
                                    rfl
                                  refine pure_ (i := 9) (N := some 91) (v := ?_) (a' := ?_) #[true, true, true, true, true, true, true, true, true, true, false, false, false, false, false, false, false] rfl rfl (any_of HT_.out (by kernel_rfl)) (fun _ _ _ h => h) (Or.inl ⟨by rfl, ?_⟩) ?_ ?_
                                  rotate_left
                                  · intro w'
                                    go_simp
                                    with_reducible rfl
                                  rotate_left
                                  · simp only [Act.put, List.setIfInBounds_toArray, List.set_cons_zero, List.set_cons_succ, i64_w, i32_w]
                                    rfl
                                  refine pure_ (i := 10) (N := some 92) (v := ?_) (a' := ?_) #[true, true, true, true, true, true, true, true, true, true, true, false, false, false, false, false, false] rfl rfl (any_of HT_.out (by kernel_rfl)) (fun _ _ _ h => h) (Or.inl ⟨by rfl, ?_⟩) ?_ ?_
                                  rotate_left
                                  · intro w'
                                    go_simp
                                    with_reducible rfl
                                  rotate_left
                                  · simp only [Act.put, List.setIfInBounds_toArray, List.set_cons_zero, List.set_cons_succ, i64_w, i32_w]
                                    rfl
                                  refine pure_ (i := 11) (N := some 93) (v := ?_) (a' := ?_) #[true, true, true, true, true, true, true, true, true, true, true, true, false, false, false, false, false] rfl rfl (any_of HT_.out (by kernel_rfl)) (fun _ _ _ h => h) (Or.inl ⟨by rfl, ?_⟩) ?_ ?_
                                  rotate_left
                                  · intro w'
                                    go_simp
                                    with_reducible rfl
                                  rotate_left
                                  · simp only [Act.put, List.setIfInBounds_toArray, List.set_cons_zero, List.set_cons_succ, i64_w, i32_w]
                                    rfl
                                  refine pure_ (i := 12) (N := some 94) (v := ?_) (a' := ?_) #[true, true, true, true, true, true, true, true, true, true, true, true, true, false, false, false, false] rfl rfl (any_of HT_.out (by kernel_rfl)) (fun _ _ _ h => h) (Or.inl ⟨by rfl, ?_⟩) ?_ ?_
                                  rotate_left
                                  · intro w'
                                    go_simp
                                    with_reducible rfl
                                  rotate_left
                                  · simp only [Act.put, List.setIfInBounds_toArray, List.set_cons_zero, List.set_cons_succ, i64_w, i32_w]
                                    rfl
                                  refine take_ (i := 13) (N := some 95) (v := ?_) (a' := ?_) #[true, true, true, true, true, true, true, true, true, true, true, true, true, true, false, false, false] rfl rfl (take_ofW HT_.out HW_.out (by kernel_rfl)) (fun _ _ _ h => h) (Or.inl ⟨by rfl, ?_⟩) hHeld ?_ ?_
                                  rotate_left
                                  · rintro w' ⟨s0, s1, s2, s3⟩
                                    go_simp
                                    with_reducible rfl
                                  rotate_left
                                  · simp only [Act.put, List.setIfInBounds_toArray, List.set_cons_zero, List.set_cons_succ, i64_w, i32_w]
                                    rfl
                                  refine one_ (i := 14) (N := some 96) #[true, true, true, true, true, true, true, true, true, true, true, true, true, true, true, false, false] rfl rfl (one_of HT_.out (by kernel_rfl)) (by decide) (fun K hK => ?_)
                                  refine goes_ Try.func43 (by kernel_rfl) rfl #[.slice (some ad817) y819.length c1, .int .i64 ((rd_T55 l1 x14_4).f0)] (by rfl) rfl rfl (by (try simp only [List.map_toArray, List.map_cons, List.map_nil]); (rfl)) ?_
                                  with_reducible refine (umpireref12_Find.calls k4 _ _ y819 ((rd_T55 l1 x14_4).f0) t825 _ ?side1 ?side2 A59.out).mono ?_
                                  (case side1 => exact (Kd.V_reads' HO823.out).2.2)
                                  (case side2 => exact (Kd.V_reads' HO823.out).2.1)
                                  rintro e w' ⟨rfl, ⟨nd, rfl⟩⟩
                                  refine ⟨_, rfl, ?_⟩
                                  refine hK.out _ _ ⟨hHeld.1, hHeld.2.1, hHeld.2.2.1, hHeld.2.2.2⟩ (fun hHeld => ?_)
                                  clear hK K
                                  refine norm_ (a' := ?_) ?_ ?_
                                  rotate_left
                                  · show Act.put _ (some 96) _ = _
                                    simp only [Act.put, List.setIfInBounds_toArray, List.set_cons_zero, List.set_cons_succ, i64_w, i32_w]
                                    rfl
                                  refine pure_ (i := 15) (N := some 97) (v := ?_) (a' := ?_) #[true, true, true, true, true, true, true, true, true, true, true, true, true, true, true, true, false] rfl rfl (any_of HT_.out (by kernel_rfl)) (fun _ _ _ h => h) (Or.inl ⟨by rfl, ?_⟩) ?_ ?_
                                  rotate_left
                                  · intro w'
                                    go_simp
                                    with_reducible rfl
                                  rotate_left
                                  · simp only [Act.put, List.setIfInBounds_toArray, List.set_cons_zero, List.set_cons_succ, i64_w, i32_w]
                                    rfl
                                  refine pure_ (i := 16) (N := some 98) (v := ?_) (a' := ?_) #[true, true, true, true, true, true, true, true, true, true, true, true, true, true, true, true, true] rfl rfl (any_of HT_.out (by kernel_rfl)) (fun _ _ _ h => h) (Or.inl ⟨by rfl, ?_⟩) ?_ ?_
                                  rotate_left
                                  · intro w'
                                    go_simp
                                    with_reducible rfl
                                  rotate_left
                                  · simp only [Act.put, List.setIfInBounds_toArray, List.set_cons_zero, List.set_cons_succ, i64_w, i32_w]
                                    rfl
                                  refine done_ (done_of HT_.out (by kernel_rfl)) ?_
                                  have p826 : 0 ≤ (x14_4 : Int) := of_decide_eq_true (by (with_reducible assumption))
                                  have q826 : x14_4 < (l1.length : Int) := of_decide_eq_true (by (with_reducible assumption))
                                  obtain ⟨ad826, A826_1, c826_1, e826, hx826_0, hx826_1, hl826_1, hi826_1⟩ := at_T55 (Kd.V_reads' HO_1.out).2.2 x14_4 p826 q826
                                  obtain rfl : ad817 = ad826 := (by injection e826)
                                  obtain ⟨ce826, hce826, hMe826, hcc826⟩ := Kd.V_get HO_1.out z55 x14_4 p826 (by (exact q826))
                                  obtain ⟨ua826_1, uc826_1, rfl, ul826_1, ge826_1⟩ := k55_openF hMe826
                                  have hv826_1 := hcc826 1 _ rfl
                                  rw [add_field _ _ 1 (by omega)] at hv826_1
                                  replace hv826_1 := Option.some.inj (hv826_1.symm.trans hx826_1)
                                  injection hv826_1 with hva_ hvn_ hvc_
                                  rw [hva_] at ge826_1
                                  rw [hvc_] at ul826_1
                                  have HL826_1 := Aside0.mk (show Kd.V (Kd.int .u8) 5 _ w.heap.size _ _ ((rd_T55 l1 x14_4).f1) from Kd.V_mk ul826_1 ge826_1)
                                  clear hva_ hvn_ hvc_ ge826_1 ul826_1
                                  clear hcc826 hce826
                                  have HR826_1 := Aside0.mk hi826_1
                                  have HC826_1 := Aside0.mk hl826_1
                                  clear hi826_1 hl826_1
                                  replace p826 := eq_true p826
                                  replace q826 := eq_true q826
                                  have ea_ := Option.some.inj (Eq.trans (by (exact HS3_.symm)) hx826_1)
                                  injection ea_ with ea_ en_ ec_
                                  subst ea_
                                  subst ec_
                                  clear en_
                                  have eb_ := Option.some.inj (HS3_.symm.trans HS1_)
                                  injection eb_ with eb_ en_ ec_
                                  subst eb_
                                  subst ec_
                                  clear en_
                                  have HL824_1 := HL826_1
                                  have HR824_1 := HR826_1
                                  try go_wp2_with (first | ((with_reducible refine gate_builtin (b := .append) (xs := #[.tmp 99, .tmp 104]) rfl ?_); (try (refine gate_guard (by rfl) ?_; dsimp only)); at_builtin; refine Kd.N_append k55 (w0 := w) w.heap.size rfl (.tmp 99) (.tmp 104) 58 55 (.agg #[(.int .i64 0), (.slice none 0 0)]) 32 rfl Try.underlying58 info55 rfl (by decide) (by omega) u13 x13_4 (⟨(rd_T55 l1 x14_4).f0, (rd_T55 l1 x14_4).f1⟩ : S55) [.int .i64 ((rd_T55 l1 x14_4).f0), .slice A824_1 ((rd_T55 l1 x14_4).f1).length c824_1] (fun k_ => (P1_ k_ ∨ w.heap.size ≤ k_) ∧ some k_ ≠ (v784 : Value).ownBlock ∧ some k_ ≠ (v786 : Value).ownBlock ∧ k_ ≠ gb761 ∧ k_ ≠ gb799) (fun k_ => (fun k_ => (P1_ k_ ∨ w.heap.size ≤ k_) ∧ some k_ ≠ (v784 : Value).ownBlock ∧ some k_ ≠ (v786 : Value).ownBlock ∧ k_ ≠ gb761 ∧ k_ ≠ gb799) k_ ∧ some k_ ≠ (u13 : Value).ownBlock) rfl rfl ?aP (fun _ hk => hk) ?aF ?aO ?aB ?aS ?aL ?_; (case aP => exact (k55_mkF _ _ (⟨(rd_T55 l1 x14_4).f0, (rd_T55 l1 x14_4).f1⟩ : S55) (Kd.V_reads' (Kd.V_mono (ok' := (fun k_ => (fun k_ => (P1_ k_ ∨ w.heap.size ≤ k_) ∧ some k_ ≠ (v784 : Value).ownBlock ∧ some k_ ≠ (v786 : Value).ownBlock ∧ k_ ≠ gb761 ∧ k_ ≠ gb799) k_ ∧ some k_ ≠ (u13 : Value).ownBlock)) (HL826_1.out) (fun k_ hk => ⟨⟨hk.1, ⟨hk.2.1, ⟨hk.2.2.1, ⟨hk.2.2.2.2.1, hk.2.2.2.2.2⟩⟩⟩⟩, hk.2.2.2.1⟩))).2.1 (Kd.V_F (Kd.V_mono (ok' := (fun k_ => (fun k_ => (P1_ k_ ∨ w.heap.size ≤ k_) ∧ some k_ ≠ (v784 : Value).ownBlock ∧ some k_ ≠ (v786 : Value).ownBlock ∧ k_ ≠ gb761 ∧ k_ ≠ gb799) k_ ∧ some k_ ≠ (u13 : Value).ownBlock)) (Kd.V_drewN HL826_1.out nd) (fun k_ hk => ⟨⟨hk.1, ⟨hk.2.1, ⟨hk.2.2.1, ⟨hk.2.2.2.2.1, hk.2.2.2.2.2⟩⟩⟩⟩, hk.2.2.2.1⟩))))); (case aB => exact (by repeat (with_reducible first | exact HB.out | apply pw_below_drewN))); (case aF => exact (fun k_ hk => ⟨(.inr (Nat.le_trans (below_size (by repeat (with_reducible first | exact HB.out | apply pw_below_drewN))) hk)), Kd.fresh' (Kd.N_lt (by (with_reducible repeat (apply Kd.N_drewN)); exact HO_9.out)) k_ hk, Kd.fresh' (Kd.N_lt (by (with_reducible repeat (apply Kd.N_drewN)); exact HO_10.out)) k_ hk, Kd.freshB (g := gb761) (o := .cells #[.bool a0_0, .int .i64 a0_1, .bool a0_2, .int .u32 a0_3, .int .i64 a0_4, .bool a0_5, .bool a0_6, .int .u32 a0_7, .bool a0_8, .bool a0_9] 61 (0, 0)) (by (with_reducible repeat (refine blk_drewN ?_ _)); exact BK761.out) k_ hk, Kd.freshB (g := gb799) (o := .cells #[.bool t788, .int .i64 t789, .bool t790, .int .u32 t791, .int .i64 t792, .bool t793, .bool t794, .int .u32 t795, .bool t796, .bool t797] 61 (0, 0)) (by (with_reducible repeat (refine blk_drewN ?_ _)); exact BK799.out) k_ hk⟩)); (case aO => exact (by (with_reducible repeat (apply Kd.N_drewN)); exact HO_13.out)); (case aS => exact (below_size (by repeat (with_reducible first | exact HB.out | apply pw_below_drewN)))); (case aL => have := LMc61.out; omega); intro v828 w65 ho hb hg hat; rw [← Ny827.out] at ho; have n0_ := Aside0.mk (Kd.V_afterv (ok := (fun k_ => (P1_ k_ ∨ w.heap.size ≤ k_) ∧ some k_ ≠ (v784 : Value).ownBlock ∧ some k_ ≠ (v786 : Value).ownBlock ∧ k_ ≠ gb761 ∧ k_ ≠ gb799)) (by (with_reducible repeat (apply Kd.V_drewN)); exact Kd.V_mono HO_1.out (fun _ hk => ⟨⟨hk.1, ⟨hk.2.1, ⟨hk.2.2.1, ⟨hk.2.2.2.2.1, hk.2.2.2.2.2⟩⟩⟩⟩, hk.2.2.2.1⟩)) hg hat); have n1_ := Aside0.mk (Kd.N_afterv (ok := (fun k_ => (P1_ k_ ∨ w.heap.size ≤ k_) ∧ some k_ ≠ (v786 : Value).ownBlock ∧ k_ ≠ gb761 ∧ k_ ≠ gb799)) (by (with_reducible repeat (apply Kd.N_drewN)); exact Kd.N_mono HO_9.out (fun _ hk => ⟨⟨hk.1, ⟨hk.2.1, ⟨hk.2.2.2.1, hk.2.2.2.2⟩⟩⟩, hk.2.2.1⟩)) hg hat); have n2_ := Aside0.mk (Kd.N_afterv (ok := (fun k_ => (P1_ k_ ∨ w.heap.size ≤ k_) ∧ some k_ ≠ (v784 : Value).ownBlock ∧ k_ ≠ gb761 ∧ k_ ≠ gb799)) (by (with_reducible repeat (apply Kd.N_drewN)); exact Kd.N_mono HO_10.out (fun _ hk => ⟨⟨hk.1, ⟨hk.2.1, ⟨hk.2.2.2.1, hk.2.2.2.2⟩⟩⟩, hk.2.2.1⟩)) hg hat); have n3_ := Aside0.mk (blk_grown (g := gb761) (o := .cells #[.bool a0_0, .int .i64 a0_1, .bool a0_2, .int .u32 a0_3, .int .i64 a0_4, .bool a0_5, .bool a0_6, .int .u32 a0_7, .bool a0_8, .bool a0_9] 61 (0, 0)) (by (with_reducible repeat (refine blk_drewN ?_ _)); exact BK761.out) hg (Kd.N_ne HO_13.out BK761.out (by decide))); have n4_ := Aside0.mk (blk_grown (g := gb799) (o := .cells #[.bool t788, .int .i64 t789, .bool t790, .int .u32 t791, .int .i64 t792, .bool t793, .bool t794, .int .u32 t795, .bool t796, .bool t797] 61 (0, 0)) (by (with_reducible repeat (refine blk_drewN ?_ _)); exact BK799.out) hg (Kd.N_ne HO_13.out BK799.out (by decide))); have n5_ := Aside0.mk (Kd.V_afterv (ok := (fun k_ => (P1_ k_ ∨ w.heap.size ≤ k_) ∧ some k_ ≠ (v784 : Value).ownBlock ∧ some k_ ≠ (v786 : Value).ownBlock ∧ k_ ≠ gb761 ∧ k_ ≠ gb799)) (by (with_reducible repeat (apply Kd.V_drewN)); exact Kd.V_mono HL817_1.out (fun _ hk => ⟨⟨hk.1, ⟨hk.2.1, ⟨hk.2.2.1, ⟨hk.2.2.2.2.1, hk.2.2.2.2.2⟩⟩⟩⟩, hk.2.2.2.1⟩)) hg hat); have n6_ := Aside0.mk (Kd.V_afterv (ok := (fun k_ => (P1_ k_ ∨ w.heap.size ≤ k_) ∧ some k_ ≠ (v784 : Value).ownBlock ∧ some k_ ≠ (v786 : Value).ownBlock ∧ k_ ≠ gb761 ∧ k_ ≠ gb799)) (by (with_reducible repeat (apply Kd.V_drewN)); exact Kd.V_mono HO823.out (fun _ hk => ⟨⟨hk.1, ⟨hk.2.1, ⟨hk.2.2.1, ⟨hk.2.2.2.2.1, hk.2.2.2.2.2⟩⟩⟩⟩, hk.2.2.2.1⟩)) hg hat); have n7_ := Aside0.mk (Kd.V_afterv (ok := (fun k_ => (P1_ k_ ∨ w.heap.size ≤ k_) ∧ some k_ ≠ (v784 : Value).ownBlock ∧ some k_ ≠ (v786 : Value).ownBlock ∧ k_ ≠ gb761 ∧ k_ ≠ gb799)) (by (with_reducible repeat (apply Kd.V_drewN)); exact Kd.V_mono HL824_1.out (fun _ hk => ⟨⟨hk.1, ⟨hk.2.1, ⟨hk.2.2.1, ⟨hk.2.2.2.2.1, hk.2.2.2.2.2⟩⟩⟩⟩, hk.2.2.2.1⟩)) hg hat); have n8_ := Aside0.mk (Kd.V_afterv (ok := (fun k_ => (P1_ k_ ∨ w.heap.size ≤ k_) ∧ some k_ ≠ (v784 : Value).ownBlock ∧ some k_ ≠ (v786 : Value).ownBlock ∧ k_ ≠ gb761 ∧ k_ ≠ gb799)) (by (with_reducible repeat (apply Kd.V_drewN)); exact Kd.V_mono HL826_1.out (fun _ hk => ⟨⟨hk.1, ⟨hk.2.1, ⟨hk.2.2.1, ⟨hk.2.2.2.2.1, hk.2.2.2.2.2⟩⟩⟩⟩, hk.2.2.2.1⟩)) hg hat); have n9_ := Aside0.mk (hb); have n10_ := Aside0.mk (ho); clear HO_1; clear HO_9; clear HO_10; clear BK761; clear BK799; clear HL817_1; clear HO823; clear HL824_1; clear HL826_1; clear HB; clear HO_13; have HO_1 := n0_; have HO_9 := n1_; have HO_10 := n2_; have BK761 := n3_; have BK799 := n4_; have HL817_1 := n5_; have HO823 := n6_; have HL824_1 := n7_; have HL826_1 := n8_; have HB := n9_; have HO829 := n10_; clear n0_ n1_ n2_ n3_ n4_ n5_ n6_ n7_ n8_ n9_ n10_; clear ho hb hg hat))
                                  go_roundg k4
                                  case measure => have := HJ2.out; have := HJ13.out; have := HJ32.out; have := HK4.out; omega
                                  case rel => exact ⟨(y827), (wrap64 (x14_4 + 1)), (by (rfl)), H', ⟨by have := HJ2.out; have := HJ13.out; have := HJ32.out; have := HK4.out; omega⟩, ⟨by exact Kd.V_mono HO_1.out (fun _ hk => ⟨hk.1.1, ⟨hk.1.2.1, ⟨hk.1.2.2.1, ⟨hk.2, ⟨hk.1.2.2.2.1, hk.1.2.2.2.2⟩⟩⟩⟩⟩)⟩, ⟨by exact Kd.N_mono HO_9.out (fun _ hk => ⟨hk.1.1, ⟨hk.1.2.1, ⟨hk.2, ⟨hk.1.2.2.1, hk.1.2.2.2⟩⟩⟩⟩)⟩, ⟨by exact Kd.N_mono HO_10.out (fun _ hk => ⟨hk.1.1, ⟨hk.1.2.1, ⟨hk.2, ⟨hk.1.2.2.1, hk.1.2.2.2⟩⟩⟩⟩)⟩, ⟨by exact HO829.out⟩, ⟨by exact BK761.out⟩, ⟨by exact BK799.out⟩, ⟨by exact HB.out⟩⟩
                                · rw [if_neg c61] at H
                                  exact absurd H (by simp)
                              · rw [if_neg c60] at H
                                have c60b0 : decide (t825 < 0) = false := decide_eq_false c60
                                clear c60
                                have H' := Aside0.mk H
                                clear H
                                try go_wp2
                                have n0_ := Aside0.mk (Kd.V_drew HO_1.out)
                                have n1_ := Aside0.mk (Kd.N_drew HO_9.out)
                                have n2_ := Aside0.mk (Kd.N_drew HO_10.out)
                                have n3_ := Aside0.mk (Kd.N_drew HO_13.out)
                                have n4_ := Aside0.mk (blk_drew BK761.out)
                                have n5_ := Aside0.mk (blk_drew BK799.out)
                                have n6_ := Aside0.mk (below_drew1 HB.out)
                                clear HO_1
                                clear HO_9
                                clear HO_10
                                clear HO_13
                                clear BK761
                                clear BK799
                                clear HB
                                have HO_1 := n0_
                                have HO_9 := n1_
                                have HO_10 := n2_
                                have HO_13 := n3_
                                have BK761 := n4_
                                have BK799 := n5_
                                have HB := n6_
                                clear n0_ n1_ n2_ n3_ n4_ n5_ n6_
                                have p817 : 0 ≤ (x14_4 : Int) := of_decide_eq_true (by (with_reducible assumption))
                                have q817 : x14_4 < (l1.length : Int) := of_decide_eq_true (by (with_reducible assumption))
                                obtain ⟨ad817, A817_1, c817_1, e817, hx817_0, hx817_1, hl817_1, hi817_1⟩ := at_T55 (Kd.V_reads' HO_1.out).2.2 x14_4 p817 q817
                                cases e817
                                obtain ⟨ce817, hce817, hMe817, hcc817⟩ := Kd.V_get HO_1.out z55 x14_4 p817 (by (exact q817))
                                obtain ⟨ua817_1, uc817_1, rfl, ul817_1, ge817_1⟩ := k55_openF hMe817
                                have hv817_1 := hcc817 1 _ rfl
                                rw [add_field _ _ 1 (by omega)] at hv817_1
                                replace hv817_1 := Option.some.inj (hv817_1.symm.trans hx817_1)
                                injection hv817_1 with hva_ hvn_ hvc_
                                rw [hva_] at ge817_1
                                rw [hvc_] at ul817_1
                                have HL817_1 := Aside0.mk (show Kd.V (Kd.int .u8) 5 _ w.heap.size _ _ ((rd_T55 l1 x14_4).f1) from Kd.V_mk ul817_1 ge817_1)
                                clear hva_ hvn_ hvc_ ge817_1 ul817_1
                                clear hcc817 hce817
                                have HR817_1 := Aside0.mk hi817_1
                                have HC817_1 := Aside0.mk hl817_1
                                clear hi817_1 hl817_1
                                replace p817 := eq_true p817
                                replace q817 := eq_true q817
                                have p824 : 0 ≤ (x14_4 : Int) := of_decide_eq_true (by (with_reducible assumption))
                                have q824 : x14_4 < (l1.length : Int) := of_decide_eq_true (by (with_reducible assumption))
                                obtain ⟨ad824, A824_1, c824_1, e824, hx824_0, hx824_1, hl824_1, hi824_1⟩ := at_T55 (Kd.V_reads' HO_1.out).2.2 x14_4 p824 q824
                                obtain rfl : ad817 = ad824 := (by injection e824)
                                obtain ⟨ce824, hce824, hMe824, hcc824⟩ := Kd.V_get HO_1.out z55 x14_4 p824 (by (exact q824))
                                obtain ⟨ua824_1, uc824_1, rfl, ul824_1, ge824_1⟩ := k55_openF hMe824
                                have hv824_1 := hcc824 1 _ rfl
                                rw [add_field _ _ 1 (by omega)] at hv824_1
                                replace hv824_1 := Option.some.inj (hv824_1.symm.trans hx824_1)
                                injection hv824_1 with hva_ hvn_ hvc_
                                rw [hva_] at ge824_1
                                rw [hvc_] at ul824_1
                                have HL824_1 := Aside0.mk (show Kd.V (Kd.int .u8) 5 _ w.heap.size _ _ ((rd_T55 l1 x14_4).f1) from Kd.V_mk ul824_1 ge824_1)
                                clear hva_ hvn_ hvc_ ge824_1 ul824_1
                                clear hcc824 hce824
                                have HR824_1 := Aside0.mk hi824_1
                                have HC824_1 := Aside0.mk hl824_1
                                clear hi824_1 hl824_1
                                replace p824 := eq_true p824
                                replace q824 := eq_true q824
                                refine start_ (n := 17) (S := fun w' => w'.cell? (ad817.add ((x14_4).toNat * 2)) = some (.int .i64 ((rd_T55 l1 x14_4).f0)) ∧ w'.cell? ⟨(ad817.add ((x14_4).toNat * 2)).block, (ad817.add ((x14_4).toNat * 2)).off + 1, none⟩ = some (.slice A817_1 ((rd_T55 l1 x14_4).f1).length c817_1) ∧ w'.cell? (ad817.add ((x14_4).toNat * 2)) = some (.int .i64 ((rd_T55 l1 x14_4).f0)) ∧ w'.cell? ⟨(ad817.add ((x14_4).toNat * 2)).block, (ad817.add ((x14_4).toNat * 2)).off + 1, none⟩ = some (.slice A824_1 ((rd_T55 l1 x14_4).f1).length c824_1)) (ds := []) #[false, false, false, false, false, false, false, false, false, false, false, false, false, false, false, false, false] (by kernel_rfl) rfl rfl ⟨hx817_0, hx817_1, hx824_0, hx824_1⟩ (fun hHeld => ?_); refine with_tabW umpirelaw14_TermsBack.tab16 umpirelaw14_TermsBack.bits16 (fun HT_ HW_ => ?_)
                                generalize wr.drew = w66 at HO_1 HO_9 HO_10 HO_13 BK761 BK799 HB HL817_1 HL824_1 HR817_1 HR824_1 hx817_0 hx817_1 hx824_0 hx824_1 hHeld ⊢
                                refine pure_ (i := 0) (N := some 82) (v := ?_) (a' := ?_) #[true, false, false, false, false, false, false, false, false, false, false, false, false, false, false, false, false] rfl rfl (any_of HT_.out (by kernel_rfl)) (fun _ _ _ h => h) (Or.inl ⟨by rfl, ?_⟩) ?_ ?_
                                rotate_left
                                · intro w'
                                  go_simp
                                  with_reducible rfl
                                rotate_left
                                · simp only [Act.put, List.setIfInBounds_toArray, List.set_cons_zero, List.set_cons_succ, i64_w, i32_w]
                                  rfl
                                refine pure_ (i := 1) (N := some 83) (v := ?_) (a' := ?_) #[true, true, false, false, false, false, false, false, false, false, false, false, false, false, false, false, false] rfl rfl (any_of HT_.out (by kernel_rfl)) (fun _ _ _ h => h) (Or.inl ⟨by rfl, ?_⟩) ?_ ?_
                                rotate_left
                                · intro w'
                                  go_simp
                                  with_reducible rfl
                                rotate_left
                                · simp only [Act.put, List.setIfInBounds_toArray, List.set_cons_zero, List.set_cons_succ, i64_w, i32_w]
                                  rfl
                                refine pure_ (i := 2) (N := some 84) (v := ?_) (a' := ?_) #[true, true, true, false, false, false, false, false, false, false, false, false, false, false, false, false, false] rfl rfl (any_of HT_.out (by kernel_rfl)) (fun _ _ _ h => h) (Or.inl ⟨by rfl, ?_⟩) ?_ ?_
                                rotate_left
                                · intro w'
                                  go_simp
                                  with_reducible rfl
                                rotate_left
                                · simp only [Act.put, List.setIfInBounds_toArray, List.set_cons_zero, List.set_cons_succ, i64_w, i32_w]
                                  rfl
                                refine take_ (i := 3) (N := some 85) (v := ?_) (a' := ?_) #[true, true, true, true, false, false, false, false, false, false, false, false, false, false, false, false, false] rfl rfl (take_ofW HT_.out HW_.out (by kernel_rfl)) (fun _ _ _ h => h) (Or.inl ⟨by rfl, ?_⟩) hHeld ?_ ?_
                                rotate_left
                                · rintro w' ⟨s0, s1, s2, s3⟩
                                  go_simp
                                  with_reducible rfl
                                rotate_left
                                · simp only [Act.put, List.setIfInBounds_toArray, List.set_cons_zero, List.set_cons_succ, i64_w, i32_w]
                                  rfl
                                refine one_ (i := 4) (N := some 86) #[true, true, true, true, true, false, false, false, false, false, false, false, false, false, false, false, false] rfl rfl (one_of HT_.out (by kernel_rfl)) (by decide) (fun K hK => ?_)
                                refine goes_ Try.func29 (by kernel_rfl) rfl #[.agg #[.int .i64 ((rd_T55 l1 x14_4).f0), .slice A817_1 ((rd_T55 l1 x14_4).f1).length c817_1]] (by rfl) rfl rfl (by (try simp only [List.map_toArray, List.map_cons, List.map_nil]); (rfl)) ?_
                                with_reducible refine (terms_Right.calls k4 ((rd_T55 l1 x14_4).f0) _ _ ((rd_T55 l1 x14_4).f1) true _ ?side1 ?side2 A55.out).mono ?_
                                (case side1 => repeat ((exact (by repeat (with_reducible exact HR817_1.out)))))
                                (case side2 => exact HC817_1.out)
                                rintro e w67 ⟨rfl, hb⟩
                                have HS0_ := (hb.cell (World.block_lt_of_cell? _ _ (hHeld.1))).trans (hHeld.1)
                                have HS1_ := (hb.cell (World.block_lt_of_cell? _ _ (hHeld.2.1))).trans (hHeld.2.1)
                                have HS2_ := (hb.cell (World.block_lt_of_cell? _ _ (hHeld.2.2.1))).trans (hHeld.2.2.1)
                                have HS3_ := (hb.cell (World.block_lt_of_cell? _ _ (hHeld.2.2.2))).trans (hHeld.2.2.2)
                                refine ⟨_, rfl, ?_⟩
                                have n0_ := Aside0.mk (Kd.V_below (by exact HO_1.out) hb)
                                have n1_ := Aside0.mk (Kd.N_below (by exact HO_9.out) hb)
                                have n2_ := Aside0.mk (Kd.N_below (by exact HO_10.out) hb)
                                have n3_ := Aside0.mk (Kd.N_below (by exact HO_13.out) hb)
                                have n4_ := Aside0.mk (Kd.V_below (by exact HL817_1.out) hb)
                                have n5_ := Aside0.mk (blk_below (g := gb761) (o := .cells #[.bool a0_0, .int .i64 a0_1, .bool a0_2, .int .u32 a0_3, .int .i64 a0_4, .bool a0_5, .bool a0_6, .int .u32 a0_7, .bool a0_8, .bool a0_9] 61 (0, 0)) (by exact BK761.out) hb)
                                have n6_ := Aside0.mk (blk_below (g := gb799) (o := .cells #[.bool t788, .int .i64 t789, .bool t790, .int .u32 t791, .int .i64 t792, .bool t793, .bool t794, .int .u32 t795, .bool t796, .bool t797] 61 (0, 0)) (by exact BK799.out) hb)
                                have n7_ := Aside0.mk (Kd.C_below (by repeat (with_reducible exact HR817_1.out)) hb)
                                have n8_ := Aside0.mk (below_step (by exact HB.out) hb)
                                clear HO_1
                                clear HO_9
                                clear HO_10
                                clear HO_13
                                clear HL817_1
                                clear BK761
                                clear BK799
                                clear HR817_1
                                clear HB
                                have HO_1 := n0_
                                have HO_9 := n1_
                                have HO_10 := n2_
                                have HO_13 := n3_
                                have HL817_1 := n4_
                                have BK761 := n5_
                                have BK799 := n6_
                                have HR817_1 := n7_
                                have HB := n8_
                                clear n0_ n1_ n2_ n3_ n4_ n5_ n6_ n7_ n8_
                                (try clear hb)
                                (skip)
                                (skip)
                                (skip)
                                have q68 : (x14_4 : Int) ≤ ((l1.length : Int) : Int) := of_decide_eq_true (by (with_reducible assumption))
                                obtain ⟨i068, hi068, _, hsz68, _⟩ := info_parts info55
                                have hroom68 : l1.length ≤ c1 := (Kd.V_reads' HO_1.out).2.1
                                have hC68 : Kd.F k55 _ _ (some ad817) l1.length l1 := (Kd.V_at (base := w.heap.size) HO_1.out).2.2
                                have hcut68 := cut_to (P := Try.prog) 58 55 .i64 Try.underlying58 hi068 (some ad817) l1.length c1 x14_4 (of_decide_eq_true (by (with_reducible assumption))) q68 hroom68
                                have hr68 := Kd.F_take (m := (x14_4 : Int).toNat) hC68 (by omega)
                                have hy68 : y819.length = (x14_4 : Int).toNat := (by rw [Ny819.out, List.length_take]; omega)
                                rw [← Ny819.out] at hr68
                                rw [← hy68] at hcut68
                                have HO823 := Aside0.mk (show Kd.V k55 55 _ w.heap.size _ (.slice (some ad817) y819.length c1) y819 from Kd.V_mk (by omega) hr68)
                                have HC823 := Aside0.mk (show y819.length ≤ c1 from by omega)
                                clear hr68 hC68 hroom68 hi068 hsz68
                                have KY68 := Aside0.mk hy68
                                clear hy68
                                replace q68 := eq_true q68
                                refine hK.out _ _ ⟨HS0_, HS1_, HS2_, HS3_⟩ (fun hHeld => ?_)
                                clear hK K
                                refine norm_ (a' := ?_) ?_ ?_
                                rotate_left
                                · show Act.put _ (some 86) _ = _
                                  simp only [Act.put, List.setIfInBounds_toArray, List.set_cons_zero, List.set_cons_succ, i64_w, i32_w]
                                  rfl
                                refine pure_ (i := 5) (N := some 87) (v := ?_) (a' := ?_) #[true, true, true, true, true, true, false, false, false, false, false, false, false, false, false, false, false] rfl rfl (any_of HT_.out (by kernel_rfl)) (fun _ _ _ h => h) (Or.inl ⟨by rfl, ?_⟩) ?_ ?_
                                rotate_left
                                · intro w'
                                  go_simp
                                  with_reducible rfl
                                rotate_left
                                · simp only [Act.put, List.setIfInBounds_toArray, List.set_cons_zero, List.set_cons_succ, i64_w, i32_w]
                                  rfl
                                refine pure_ (i := 6) (N := some 88) (v := ?_) (a' := ?_) #[true, true, true, true, true, true, true, false, false, false, false, false, false, false, false, false, false] rfl rfl (any_of HT_.out (by kernel_rfl)) (fun _ _ _ h => h) (Or.inl ⟨by rfl, ?_⟩) ?_ ?_
                                rotate_left
                                · intro w'
                                  go_simp
                                  with_reducible rfl
                                rotate_left
                                · simp only [Act.put, List.setIfInBounds_toArray, List.set_cons_zero, List.set_cons_succ, i64_w, i32_w]
                                  rfl
                                refine pure_ (i := 7) (N := some 89) (v := ?_) (a' := ?_) #[true, true, true, true, true, true, true, true, false, false, false, false, false, false, false, false, false] rfl rfl (any_of HT_.out (by kernel_rfl)) (fun _ _ _ h => h) (Or.inl ⟨by rfl, ?_⟩) ?_ ?_
                                rotate_left
                                · intro w'
                                  go_simp
                                  with_reducible rfl
                                rotate_left
                                · simp only [Act.put, List.setIfInBounds_toArray, List.set_cons_zero, List.set_cons_succ, i64_w, i32_w]
                                  rfl
                                refine pure_ (i := 8) (N := some 90) (v := ?_) (a' := ?_) #[true, true, true, true, true, true, true, true, true, false, false, false, false, false, false, false, false] rfl rfl (any_of HT_.out (by kernel_rfl)) (fun _ _ _ h => h) (Or.inl ⟨by rfl, ?_⟩) ?_ ?_
                                rotate_left
                                · intro w'
                                  go_simp
                                  with_reducible rfl
                                rotate_left
                                · simp only [Act.put, List.setIfInBounds_toArray, List.set_cons_zero, List.set_cons_succ, i64_w, i32_w]
                                  rfl
                                refine pure_ (i := 9) (N := some 91) (v := ?_) (a' := ?_) #[true, true, true, true, true, true, true, true, true, true, false, false, false, false, false, false, false] rfl rfl (any_of HT_.out (by kernel_rfl)) (fun _ _ _ h => h) (Or.inl ⟨by rfl, ?_⟩) ?_ ?_
                                rotate_left
                                · intro w'
                                  go_simp
                                  with_reducible rfl
                                rotate_left
                                · simp only [Act.put, List.setIfInBounds_toArray, List.set_cons_zero, List.set_cons_succ, i64_w, i32_w]
                                  rfl
                                refine pure_ (i := 10) (N := some 92) (v := ?_) (a' := ?_) #[true, true, true, true, true, true, true, true, true, true, true, false, false, false, false, false, false] rfl rfl (any_of HT_.out (by kernel_rfl)) (fun _ _ _ h => h) (Or.inl ⟨by rfl, ?_⟩) ?_ ?_
                                rotate_left
                                · intro w'
                                  go_simp
                                  with_reducible rfl
                                rotate_left
                                · simp only [Act.put, List.setIfInBounds_toArray, List.set_cons_zero, List.set_cons_succ, i64_w, i32_w]
                                  rfl
                                refine pure_ (i := 11) (N := some 93) (v := ?_) (a' := ?_) #[true, true, true, true, true, true, true, true, true, true, true, true, false, false, false, false, false] rfl rfl (any_of HT_.out (by kernel_rfl)) (fun _ _ _ h => h) (Or.inl ⟨by rfl, ?_⟩) ?_ ?_
                                rotate_left
                                · intro w'
                                  go_simp
                                  with_reducible rfl
                                rotate_left
                                · simp only [Act.put, List.setIfInBounds_toArray, List.set_cons_zero, List.set_cons_succ, i64_w, i32_w]
                                  rfl
                                refine pure_ (i := 12) (N := some 94) (v := ?_) (a' := ?_) #[true, true, true, true, true, true, true, true, true, true, true, true, true, false, false, false, false] rfl rfl (any_of HT_.out (by kernel_rfl)) (fun _ _ _ h => h) (Or.inl ⟨by rfl, ?_⟩) ?_ ?_
                                rotate_left
                                · intro w'
                                  go_simp
                                  with_reducible rfl
                                rotate_left
                                · simp only [Act.put, List.setIfInBounds_toArray, List.set_cons_zero, List.set_cons_succ, i64_w, i32_w]
                                  rfl
                                refine take_ (i := 13) (N := some 95) (v := ?_) (a' := ?_) #[true, true, true, true, true, true, true, true, true, true, true, true, true, true, false, false, false] rfl rfl (take_ofW HT_.out HW_.out (by kernel_rfl)) (fun _ _ _ h => h) (Or.inl ⟨by rfl, ?_⟩) hHeld ?_ ?_
                                rotate_left
                                · rintro w' ⟨s0, s1, s2, s3⟩
                                  go_simp
                                  with_reducible rfl
                                rotate_left
                                · simp only [Act.put, List.setIfInBounds_toArray, List.set_cons_zero, List.set_cons_succ, i64_w, i32_w]
                                  rfl
                                refine one_ (i := 14) (N := some 96) #[true, true, true, true, true, true, true, true, true, true, true, true, true, true, true, false, false] rfl rfl (one_of HT_.out (by kernel_rfl)) (by decide) (fun K hK => ?_)
                                refine goes_ Try.func43 (by kernel_rfl) rfl #[.slice (some ad817) y819.length c1, .int .i64 ((rd_T55 l1 x14_4).f0)] (by rfl) rfl rfl (by (try simp only [List.map_toArray, List.map_cons, List.map_nil]); (rfl)) ?_
                                with_reducible refine (umpireref12_Find.calls k4 _ _ y819 ((rd_T55 l1 x14_4).f0) t825 _ ?side1 ?side2 A59.out).mono ?_
                                (case side1 => exact (Kd.V_reads' HO823.out).2.2)
                                (case side2 => exact (Kd.V_reads' HO823.out).2.1)
                                rintro e w' ⟨rfl, ⟨nd, rfl⟩⟩
                                refine ⟨_, rfl, ?_⟩
                                refine hK.out _ _ ⟨hHeld.1, hHeld.2.1, hHeld.2.2.1, hHeld.2.2.2⟩ (fun hHeld => ?_)
                                clear hK K
                                refine norm_ (a' := ?_) ?_ ?_
                                rotate_left
                                · show Act.put _ (some 96) _ = _
                                  simp only [Act.put, List.setIfInBounds_toArray, List.set_cons_zero, List.set_cons_succ, i64_w, i32_w]
                                  rfl
                                refine pure_ (i := 15) (N := some 97) (v := ?_) (a' := ?_) #[true, true, true, true, true, true, true, true, true, true, true, true, true, true, true, true, false] rfl rfl (any_of HT_.out (by kernel_rfl)) (fun _ _ _ h => h) (Or.inl ⟨by rfl, ?_⟩) ?_ ?_
                                rotate_left
                                · intro w'
                                  go_simp
                                  with_reducible rfl
                                rotate_left
                                · simp only [Act.put, List.setIfInBounds_toArray, List.set_cons_zero, List.set_cons_succ, i64_w, i32_w]
                                  rfl
                                refine pure_ (i := 16) (N := some 98) (v := ?_) (a' := ?_) #[true, true, true, true, true, true, true, true, true, true, true, true, true, true, true, true, true] rfl rfl (any_of HT_.out (by kernel_rfl)) (fun _ _ _ h => h) (Or.inl ⟨by rfl, ?_⟩) ?_ ?_
                                rotate_left
                                · intro w'
                                  go_simp
                                  with_reducible rfl
                                rotate_left
                                · simp only [Act.put, List.setIfInBounds_toArray, List.set_cons_zero, List.set_cons_succ, i64_w, i32_w]
                                  rfl
                                refine done_ (done_of HT_.out (by kernel_rfl)) ?_
                                try go_wp2
                                go_roundg k4
                                case measure => have := HJ2.out; have := HJ13.out; have := HJ32.out; have := HK4.out; omega
                                case rel => exact ⟨(x13_4), (wrap64 (x14_4 + 1)), (by (rfl)), H', ⟨by have := HJ2.out; have := HJ13.out; have := HJ32.out; have := HK4.out; omega⟩, ⟨by (with_reducible repeat (apply Kd.V_drewN)); exact HO_1.out⟩, ⟨by (with_reducible repeat (apply Kd.N_drewN)); exact HO_9.out⟩, ⟨by (with_reducible repeat (apply Kd.N_drewN)); exact HO_10.out⟩, ⟨by (with_reducible repeat (apply Kd.N_drewN)); exact HO_13.out⟩, ⟨by (with_reducible repeat (refine blk_drewN ?_ _)); exact BK761.out⟩, ⟨by (with_reducible repeat (refine blk_drewN ?_ _)); exact BK799.out⟩, ⟨by repeat (with_reducible first | exact HB.out | apply pw_below_drewN)⟩⟩
                            · rw [if_neg c58] at H
                              exact absurd H (by simp)
                          · replace c56 := Bool.eq_false_iff.mpr c56
                            subst c56
                            have H1 : (umpirelaw14_TermsBack.l0 k4 l1 t782 t783 x13_4 (wrap64 (x14_4 + 1))) = some r := by rw [if_neg (show ¬ (false = true) by decide)] at H; exact H
                            clear H
                            have H := H1
                            clear H1
                            have H' := Aside0.mk H
                            clear H
                            try go_wp2
                            have n0_ := Aside0.mk (Kd.V_drew HO_1.out)
                            have n1_ := Aside0.mk (Kd.N_drew HO_9.out)
                            have n2_ := Aside0.mk (Kd.N_drew HO_10.out)
                            have n3_ := Aside0.mk (Kd.N_drew HO_13.out)
                            have n4_ := Aside0.mk (blk_drew BK761.out)
                            have n5_ := Aside0.mk (blk_drew BK799.out)
                            have n6_ := Aside0.mk (below_drew1 HB.out)
                            clear HO_1
                            clear HO_9
                            clear HO_10
                            clear HO_13
                            clear BK761
                            clear BK799
                            clear HB
                            have HO_1 := n0_
                            have HO_9 := n1_
                            have HO_10 := n2_
                            have HO_13 := n3_
                            have BK761 := n4_
                            have BK799 := n5_
                            have HB := n6_
                            clear n0_ n1_ n2_ n3_ n4_ n5_ n6_
                            have p817 : 0 ≤ (x14_4 : Int) := of_decide_eq_true (by (with_reducible assumption))
                            have q817 : x14_4 < (l1.length : Int) := of_decide_eq_true (by (with_reducible assumption))
                            obtain ⟨ad817, A817_1, c817_1, e817, hx817_0, hx817_1, hl817_1, hi817_1⟩ := at_T55 (Kd.V_reads' HO_1.out).2.2 x14_4 p817 q817
                            cases e817
                            obtain ⟨ce817, hce817, hMe817, hcc817⟩ := Kd.V_get HO_1.out z55 x14_4 p817 (by (exact q817))
                            obtain ⟨ua817_1, uc817_1, rfl, ul817_1, ge817_1⟩ := k55_openF hMe817
                            have hv817_1 := hcc817 1 _ rfl
                            rw [add_field _ _ 1 (by omega)] at hv817_1
                            replace hv817_1 := Option.some.inj (hv817_1.symm.trans hx817_1)
                            injection hv817_1 with hva_ hvn_ hvc_
                            rw [hva_] at ge817_1
                            rw [hvc_] at ul817_1
                            have HL817_1 := Aside0.mk (show Kd.V (Kd.int .u8) 5 _ w.heap.size _ _ ((rd_T55 l1 x14_4).f1) from Kd.V_mk ul817_1 ge817_1)
                            clear hva_ hvn_ hvc_ ge817_1 ul817_1
                            clear hcc817 hce817
                            have HR817_1 := Aside0.mk hi817_1
                            have HC817_1 := Aside0.mk hl817_1
                            clear hi817_1 hl817_1
                            replace p817 := eq_true p817
                            replace q817 := eq_true q817
                            refine start_ (n := 17) (S := fun w' => w'.cell? (ad817.add ((x14_4).toNat * 2)) = some (.int .i64 ((rd_T55 l1 x14_4).f0)) ∧ w'.cell? ⟨(ad817.add ((x14_4).toNat * 2)).block, (ad817.add ((x14_4).toNat * 2)).off + 1, none⟩ = some (.slice A817_1 ((rd_T55 l1 x14_4).f1).length c817_1)) (ds := []) #[false, false, false, false, false, false, false, false, false, false, false, false, false, false, false, false, false] (by kernel_rfl) rfl rfl ⟨hx817_0, hx817_1⟩ (fun hHeld => ?_); refine with_tabW umpirelaw14_TermsBack.tab16 umpirelaw14_TermsBack.bits16 (fun HT_ HW_ => ?_)
                            generalize wr.drew = w69 at HO_1 HO_9 HO_10 HO_13 BK761 BK799 HB HL817_1 HR817_1 hx817_0 hx817_1 hHeld ⊢
                            refine pure_ (i := 0) (N := some 82) (v := ?_) (a' := ?_) #[true, false, false, false, false, false, false, false, false, false, false, false, false, false, false, false, false] rfl rfl (any_of HT_.out (by kernel_rfl)) (fun _ _ _ h => h) (Or.inl ⟨by rfl, ?_⟩) ?_ ?_
                            rotate_left
                            · intro w'
                              go_simp
                              with_reducible rfl
                            rotate_left
                            · simp only [Act.put, List.setIfInBounds_toArray, List.set_cons_zero, List.set_cons_succ, i64_w, i32_w]
                              rfl
                            refine pure_ (i := 1) (N := some 83) (v := ?_) (a' := ?_) #[true, true, false, false, false, false, false, false, false, false, false, false, false, false, false, false, false] rfl rfl (any_of HT_.out (by kernel_rfl)) (fun _ _ _ h => h) (Or.inl ⟨by rfl, ?_⟩) ?_ ?_
                            rotate_left
                            · intro w'
                              go_simp
                              with_reducible rfl
                            rotate_left
                            · simp only [Act.put, List.setIfInBounds_toArray, List.set_cons_zero, List.set_cons_succ, i64_w, i32_w]
                              rfl
                            refine pure_ (i := 2) (N := some 84) (v := ?_) (a' := ?_) #[true, true, true, false, false, false, false, false, false, false, false, false, false, false, false, false, false] rfl rfl (any_of HT_.out (by kernel_rfl)) (fun _ _ _ h => h) (Or.inl ⟨by rfl, ?_⟩) ?_ ?_
                            rotate_left
                            · intro w'
                              go_simp
                              with_reducible rfl
                            rotate_left
                            · simp only [Act.put, List.setIfInBounds_toArray, List.set_cons_zero, List.set_cons_succ, i64_w, i32_w]
                              rfl
                            refine take_ (i := 3) (N := some 85) (v := ?_) (a' := ?_) #[true, true, true, true, false, false, false, false, false, false, false, false, false, false, false, false, false] rfl rfl (take_ofW HT_.out HW_.out (by kernel_rfl)) (fun _ _ _ h => h) (Or.inl ⟨by rfl, ?_⟩) hHeld ?_ ?_
                            rotate_left
                            · rintro w' ⟨s0, s1⟩
                              go_simp
                              with_reducible rfl
                            rotate_left
                            · simp only [Act.put, List.setIfInBounds_toArray, List.set_cons_zero, List.set_cons_succ, i64_w, i32_w]
                              rfl
                            refine one_ (i := 4) (N := some 86) #[true, true, true, true, true, false, false, false, false, false, false, false, false, false, false, false, false] rfl rfl (one_of HT_.out (by kernel_rfl)) (by decide) (fun K hK => ?_)
                            refine goes_ Try.func29 (by kernel_rfl) rfl #[.agg #[.int .i64 ((rd_T55 l1 x14_4).f0), .slice A817_1 ((rd_T55 l1 x14_4).f1).length c817_1]] (by rfl) rfl rfl (by (try simp only [List.map_toArray, List.map_cons, List.map_nil]); (rfl)) ?_
                            with_reducible refine (terms_Right.calls k4 ((rd_T55 l1 x14_4).f0) _ _ ((rd_T55 l1 x14_4).f1) false _ ?side1 ?side2 A55.out).mono ?_
                            (case side1 => repeat ((exact (by repeat (with_reducible exact HR817_1.out)))))
                            (case side2 => exact HC817_1.out)
                            rintro e w70 ⟨rfl, hb⟩
                            have HS0_ := (hb.cell (World.block_lt_of_cell? _ _ (hHeld.1))).trans (hHeld.1)
                            have HS1_ := (hb.cell (World.block_lt_of_cell? _ _ (hHeld.2))).trans (hHeld.2)
                            refine ⟨_, rfl, ?_⟩
                            have n0_ := Aside0.mk (Kd.V_below (by exact HO_1.out) hb)
                            have n1_ := Aside0.mk (Kd.N_below (by exact HO_9.out) hb)
                            have n2_ := Aside0.mk (Kd.N_below (by exact HO_10.out) hb)
                            have n3_ := Aside0.mk (Kd.N_below (by exact HO_13.out) hb)
                            have n4_ := Aside0.mk (Kd.V_below (by exact HL817_1.out) hb)
                            have n5_ := Aside0.mk (blk_below (g := gb761) (o := .cells #[.bool a0_0, .int .i64 a0_1, .bool a0_2, .int .u32 a0_3, .int .i64 a0_4, .bool a0_5, .bool a0_6, .int .u32 a0_7, .bool a0_8, .bool a0_9] 61 (0, 0)) (by exact BK761.out) hb)
                            have n6_ := Aside0.mk (blk_below (g := gb799) (o := .cells #[.bool t788, .int .i64 t789, .bool t790, .int .u32 t791, .int .i64 t792, .bool t793, .bool t794, .int .u32 t795, .bool t796, .bool t797] 61 (0, 0)) (by exact BK799.out) hb)
                            have n7_ := Aside0.mk (Kd.C_below (by repeat (with_reducible exact HR817_1.out)) hb)
                            have n8_ := Aside0.mk (below_step (by exact HB.out) hb)
                            clear HO_1
                            clear HO_9
                            clear HO_10
                            clear HO_13
                            clear HL817_1
                            clear BK761
                            clear BK799
                            clear HR817_1
                            clear HB
                            have HO_1 := n0_
                            have HO_9 := n1_
                            have HO_10 := n2_
                            have HO_13 := n3_
                            have HL817_1 := n4_
                            have BK761 := n5_
                            have BK799 := n6_
                            have HR817_1 := n7_
                            have HB := n8_
                            clear n0_ n1_ n2_ n3_ n4_ n5_ n6_ n7_ n8_
                            (try clear hb)
                            (skip)
                            (skip)
                            (skip)
                            refine hK.out _ _ ⟨HS0_, HS1_⟩ (fun hHeld => ?_)
                            clear hK K
                            refine norm_ (a' := ?_) ?_ ?_
                            rotate_left
                            · show Act.put _ (some 86) _ = _
                              simp only [Act.put, List.setIfInBounds_toArray, List.set_cons_zero, List.set_cons_succ, i64_w, i32_w]
                              rfl
                            refine pure_ (i := 5) (N := some 87) (v := ?_) (a' := ?_) #[true, true, true, true, true, true, false, false, false, false, false, false, false, false, false, false, false] rfl rfl (any_of HT_.out (by kernel_rfl)) (fun _ _ _ h => h) (Or.inl ⟨by rfl, ?_⟩) ?_ ?_
                            rotate_left
                            · intro w'
                              go_simp
                              with_reducible rfl
                            rotate_left
                            · simp only [Act.put, List.setIfInBounds_toArray, List.set_cons_zero, List.set_cons_succ, i64_w, i32_w]
                              rfl
                            refine pure_ (i := 6) (N := some 88) (v := undef) (a' := ?_) #[true, true, true, true, true, true, true, false, false, false, false, false, false, false, false, false, false] rfl rfl (any_of HT_.out (by kernel_rfl)) (fun _ _ _ h => h) (Or.inr ⟨by rfl, rfl⟩) ?_ ?_
                            rotate_left
                            · simp only [Act.put, List.setIfInBounds_toArray, List.set_cons_zero, List.set_cons_succ, i64_w, i32_w]
                              rfl
                            refine pure_ (i := 7) (N := some 89) (v := undef) (a' := ?_) #[true, true, true, true, true, true, true, true, false, false, false, false, false, false, false, false, false] rfl rfl (any_of HT_.out (by kernel_rfl)) (fun _ _ _ h => h) (Or.inr ⟨by rfl, rfl⟩) ?_ ?_
                            rotate_left
                            · simp only [Act.put, List.setIfInBounds_toArray, List.set_cons_zero, List.set_cons_succ, i64_w, i32_w]
                              rfl
                            refine pure_ (i := 8) (N := some 90) (v := undef) (a' := ?_) #[true, true, true, true, true, true, true, true, true, false, false, false, false, false, false, false, false] rfl rfl (any_of HT_.out (by kernel_rfl)) (fun _ _ _ h => h) (Or.inr ⟨by rfl, rfl⟩) ?_ ?_
                            rotate_left
                            · simp only [Act.put, List.setIfInBounds_toArray, List.set_cons_zero, List.set_cons_succ, i64_w, i32_w]
                              rfl
                            refine pure_ (i := 9) (N := some 91) (v := undef) (a' := ?_) #[true, true, true, true, true, true, true, true, true, true, false, false, false, false, false, false, false] rfl rfl (any_of HT_.out (by kernel_rfl)) (fun _ _ _ h => h) (Or.inr ⟨by rfl, rfl⟩) ?_ ?_
                            rotate_left
                            · simp only [Act.put, List.setIfInBounds_toArray, List.set_cons_zero, List.set_cons_succ, i64_w, i32_w]
                              rfl
                            refine pure_ (i := 10) (N := some 92) (v := undef) (a' := ?_) #[true, true, true, true, true, true, true, true, true, true, true, false, false, false, false, false, false] rfl rfl (any_of HT_.out (by kernel_rfl)) (fun _ _ _ h => h) (Or.inr ⟨by rfl, rfl⟩) ?_ ?_
                            rotate_left
                            · simp only [Act.put, List.setIfInBounds_toArray, List.set_cons_zero, List.set_cons_succ, i64_w, i32_w]
                              rfl
                            refine pure_ (i := 11) (N := some 93) (v := undef) (a' := ?_) #[true, true, true, true, true, true, true, true, true, true, true, true, false, false, false, false, false] rfl rfl (any_of HT_.out (by kernel_rfl)) (fun _ _ _ h => h) (Or.inr ⟨by rfl, rfl⟩) ?_ ?_
                            rotate_left
                            · simp only [Act.put, List.setIfInBounds_toArray, List.set_cons_zero, List.set_cons_succ, i64_w, i32_w]
                              rfl
                            refine pure_ (i := 12) (N := some 94) (v := undef) (a' := ?_) #[true, true, true, true, true, true, true, true, true, true, true, true, true, false, false, false, false] rfl rfl (any_of HT_.out (by kernel_rfl)) (fun _ _ _ h => h) (Or.inr ⟨by rfl, rfl⟩) ?_ ?_
                            rotate_left
                            · simp only [Act.put, List.setIfInBounds_toArray, List.set_cons_zero, List.set_cons_succ, i64_w, i32_w]
                              rfl
                            refine pure_ (i := 13) (N := some 95) (v := undef) (a' := ?_) #[true, true, true, true, true, true, true, true, true, true, true, true, true, true, false, false, false] rfl rfl (any_of HT_.out (by kernel_rfl)) (fun _ _ _ h => h) (Or.inr ⟨by rfl, rfl⟩) ?_ ?_
                            rotate_left
                            · simp only [Act.put, List.setIfInBounds_toArray, List.set_cons_zero, List.set_cons_succ, i64_w, i32_w]
                              rfl
                            refine pure_ (i := 14) (N := some 96) (v := undef) (a' := ?_) #[true, true, true, true, true, true, true, true, true, true, true, true, true, true, true, false, false] rfl rfl (any_of HT_.out (by kernel_rfl)) (fun _ _ _ h => h) (Or.inr ⟨by rfl, rfl⟩) ?_ ?_
                            rotate_left
                            · simp only [Act.put, List.setIfInBounds_toArray, List.set_cons_zero, List.set_cons_succ, i64_w, i32_w]
                              rfl
                            refine pure_ (i := 15) (N := some 97) (v := undef) (a' := ?_) #[true, true, true, true, true, true, true, true, true, true, true, true, true, true, true, true, false] rfl rfl (any_of HT_.out (by kernel_rfl)) (fun _ _ _ h => h) (Or.inr ⟨by rfl, rfl⟩) ?_ ?_
                            rotate_left
                            · simp only [Act.put, List.setIfInBounds_toArray, List.set_cons_zero, List.set_cons_succ, i64_w, i32_w]
                              rfl
                            refine pure_ (i := 16) (N := some 98) (v := ?_) (a' := ?_) #[true, true, true, true, true, true, true, true, true, true, true, true, true, true, true, true, true] rfl rfl (any_of HT_.out (by kernel_rfl)) (fun _ _ _ h => h) (Or.inl ⟨by rfl, ?_⟩) ?_ ?_
                            rotate_left
                            · intro w'
                              go_simp
                              with_reducible rfl
                            rotate_left
                            · simp only [Act.put, List.setIfInBounds_toArray, List.set_cons_zero, List.set_cons_succ, i64_w, i32_w]
                              rfl
                            refine done_ (done_of HT_.out (by kernel_rfl)) ?_
                            try go_wp2
                            go_roundg k4
                            case measure => have := HJ2.out; have := HJ13.out; have := HJ32.out; have := HK4.out; omega
                            case rel => exact ⟨(x13_4), (wrap64 (x14_4 + 1)), (by (rfl)), H', ⟨by have := HJ2.out; have := HJ13.out; have := HJ32.out; have := HK4.out; omega⟩, ⟨by exact HO_1.out⟩, ⟨by exact HO_9.out⟩, ⟨by exact HO_10.out⟩, ⟨by exact HO_13.out⟩, ⟨by exact BK761.out⟩, ⟨by exact BK799.out⟩, ⟨by exact HB.out⟩⟩
                        · rw [if_neg c54] at H
                          exact absurd H (by simp)
                      · rw [if_neg c53] at H
                        have c53b0 : decide (x14_4 < (l1.length : Int)) = false := decide_eq_false c53
                        clear c53
                        by_cases c71 : x13_4.length + t783.length < 4398046511104
                        · rw [if_pos c71] at H
                          have LMc71 := Aside0.mk c71
                          clear c71
                          obtain ⟨y802, hy802⟩ : ∃ y_ : List (S55), y_ = (x13_4 ++ t783) := ⟨_, rfl⟩
                          replace H : ((terms_Read.f k4 y802).bind fun bt805 => (if bt805.2.2.2.2.2.2.2.2.2.2 = true then (some ((wrap64 ((wrap64 ((x13_4.length : Int) + (t782.length : Int))) + (t783.length : Int))) == (l1.length : Int))) else (none))) = some r := by (rw [hy802]; with_reducible exact H)
                          have Ny802 := Aside0.mk hy802
                          clear hy802
                          replace H := Option.bind_eq_some_iff.mp H
                          obtain ⟨⟨t805, t806, t807, t808, t809, t810, t811, t812, t813, t814, t815⟩, A720, H⟩ := H
                          replace H : (if t815 = true then (some ((wrap64 ((wrap64 ((x13_4.length : Int) + (t782.length : Int))) + (t783.length : Int))) == (l1.length : Int))) else (none)) = some r := H
                          have A72 := Aside0.mk A720
                          clear A720
                          by_cases c73 : t815 = true
                          · subst c73
                            have H1 : (some ((wrap64 ((wrap64 ((x13_4.length : Int) + (t782.length : Int))) + (t783.length : Int))) == (l1.length : Int))) = some r := by rw [if_pos rfl] at H; exact H
                            clear H
                            have H := H1
                            clear H1
                            obtain rfl := Option.some.inj H
                            obtain ⟨Ao75, co75, eo75⟩ := Kd.N_slice HO_10.out
                            subst eo75
                            obtain ⟨Ao13, co13, eo13⟩ := Kd.N_slice HO_13.out
                            subst eo13
                            obtain ⟨Ao9, co9, eo9⟩ := Kd.N_slice HO_9.out
                            subst eo9
                            go_wp2_with (first | ((with_reducible refine gate_builtin (b := .append) (xs := #[.tmp 107, .tmp 108]) rfl ?_); (try (refine gate_guard (by rfl) ?_; dsimp only)); at_builtin; refine Kd.N_append_rows k55 (w0 := w) w.heap.size rfl (.tmp 107) (.tmp 108) 58 55 (.agg #[(.int .i64 0), (.slice none 0 0)]) 32 rfl Try.underlying58 info55 rfl (by decide) (by omega) (.slice Ao13 x13_4.length co13) x13_4 t783 _ _ _ (fun k_ => (P1_ k_ ∨ w.heap.size ≤ k_) ∧ some k_ ≠ (.slice Ao9 t782.length co9 : Value).ownBlock ∧ k_ ≠ gb761 ∧ k_ ≠ gb799) (fun k_ => (fun k_ => (P1_ k_ ∨ w.heap.size ≤ k_) ∧ some k_ ≠ (.slice Ao9 t782.length co9 : Value).ownBlock ∧ k_ ≠ gb761 ∧ k_ ≠ gb799) k_ ∧ some k_ ≠ (.slice Ao13 x13_4.length co13 : Value).ownBlock) rfl rfl ?aO ?aR (fun _ hk => hk) ?aF ?aB ?aS ?aL ?_; (case aR => exact (by exact Kd.N_F (Kd.N_mono (ok' := (fun k_ => (fun k_ => (P1_ k_ ∨ w.heap.size ≤ k_) ∧ some k_ ≠ (.slice Ao9 t782.length co9 : Value).ownBlock ∧ k_ ≠ gb761 ∧ k_ ≠ gb799) k_ ∧ some k_ ≠ (.slice Ao13 x13_4.length co13 : Value).ownBlock)) (HO_10.out) (fun k_ hk => ⟨⟨hk.1, ⟨hk.2.1, ⟨hk.2.2.2.1, hk.2.2.2.2⟩⟩⟩, hk.2.2.1⟩)))); (case aB => exact (by exact HB.out)); (case aF => exact (fun k_ hk => ⟨(.inr (Nat.le_trans (below_size (by exact HB.out)) hk)), Kd.fresh' (Kd.N_lt (by exact HO_9.out)) k_ hk, Kd.freshB (g := gb761) (o := .cells #[.bool a0_0, .int .i64 a0_1, .bool a0_2, .int .u32 a0_3, .int .i64 a0_4, .bool a0_5, .bool a0_6, .int .u32 a0_7, .bool a0_8, .bool a0_9] 61 (0, 0)) (by exact BK761.out) k_ hk, Kd.freshB (g := gb799) (o := .cells #[.bool t788, .int .i64 t789, .bool t790, .int .u32 t791, .int .i64 t792, .bool t793, .bool t794, .int .u32 t795, .bool t796, .bool t797] 61 (0, 0)) (by exact BK799.out) k_ hk⟩)); (case aO => exact (by exact Kd.N_mono HO_13.out (fun _ hk => ⟨hk.1, ⟨hk.2.1, ⟨hk.2.2.2.1, hk.2.2.2.2⟩⟩⟩))); (case aS => exact (below_size (by exact HB.out))); (case aL => have := LMc71.out; omega); intro v803 w74 ho hb hg hat; rw [← Ny802.out] at ho; have n0_ := Aside0.mk (Kd.V_afterv (ok := (fun k_ => (P1_ k_ ∨ w.heap.size ≤ k_) ∧ some k_ ≠ (.slice Ao9 t782.length co9 : Value).ownBlock ∧ some k_ ≠ (.slice Ao75 t783.length co75 : Value).ownBlock ∧ k_ ≠ gb761 ∧ k_ ≠ gb799)) (by exact Kd.V_mono HO_1.out (fun _ hk => ⟨⟨hk.1, ⟨hk.2.1, ⟨hk.2.2.1, ⟨hk.2.2.2.2.1, hk.2.2.2.2.2⟩⟩⟩⟩, hk.2.2.2.1⟩)) hg hat); have n1_ := Aside0.mk (Kd.N_afterv (ok := (fun k_ => (P1_ k_ ∨ w.heap.size ≤ k_) ∧ some k_ ≠ (.slice Ao75 t783.length co75 : Value).ownBlock ∧ k_ ≠ gb761 ∧ k_ ≠ gb799)) (by exact Kd.N_mono HO_9.out (fun _ hk => ⟨⟨hk.1, ⟨hk.2.1, ⟨hk.2.2.2.1, hk.2.2.2.2⟩⟩⟩, hk.2.2.1⟩)) hg hat); have n2_ := Aside0.mk (Kd.N_afterv (ok := (fun k_ => (P1_ k_ ∨ w.heap.size ≤ k_) ∧ some k_ ≠ (.slice Ao9 t782.length co9 : Value).ownBlock ∧ k_ ≠ gb761 ∧ k_ ≠ gb799)) (by exact Kd.N_mono HO_10.out (fun _ hk => ⟨⟨hk.1, ⟨hk.2.1, ⟨hk.2.2.2.1, hk.2.2.2.2⟩⟩⟩, hk.2.2.1⟩)) hg hat); have n3_ := Aside0.mk (blk_grown (g := gb761) (o := .cells #[.bool a0_0, .int .i64 a0_1, .bool a0_2, .int .u32 a0_3, .int .i64 a0_4, .bool a0_5, .bool a0_6, .int .u32 a0_7, .bool a0_8, .bool a0_9] 61 (0, 0)) (by exact BK761.out) hg (Kd.N_ne HO_13.out BK761.out (by decide))); have n4_ := Aside0.mk (blk_grown (g := gb799) (o := .cells #[.bool t788, .int .i64 t789, .bool t790, .int .u32 t791, .int .i64 t792, .bool t793, .bool t794, .int .u32 t795, .bool t796, .bool t797] 61 (0, 0)) (by exact BK799.out) hg (Kd.N_ne HO_13.out BK799.out (by decide))); have n5_ := Aside0.mk (hb); have n6_ := Aside0.mk (ho); clear HO_1; clear HO_9; clear HO_10; clear BK761; clear BK799; clear HB; clear HO_13; have HO_1 := n0_; have HO_9 := n1_; have HO_10 := n2_; have BK761 := n3_; have BK799 := n4_; have HB := n5_; have HO804 := n6_; clear n0_ n1_ n2_ n3_ n4_ n5_ n6_; clear ho hb hg hat; obtain ⟨Ao76, co76, eo76⟩ := Kd.N_slice HO804.out; subst eo76) | ((with_reducible refine gate_callee (f := 32) rfl ?_); refine goesL_ (some 110) rfl rfl Try.func32 (by kernel_rfl) rfl #[.slice Ao76 y802.length co76] rfl (by (try simp only [List.map_toArray, List.map_cons, List.map_nil]); (rfl)) ?_; (with_reducible refine (terms_Read.calls k4 _ _ y802 t805 t806 t807 t808 t809 t810 t811 t812 t813 t814 true _ ?side1 ?side2 A72.out).mono ?_); (case side1 => exact (Kd.N_reads' HO804.out).2.2); (case side2 => exact (Kd.N_reads' HO804.out).2.1); rintro e w77 ⟨rfl, hb⟩; refine ⟨_, rfl, ?_⟩; have n0_ := Aside0.mk (Kd.V_below (by exact HO_1.out) hb); have n1_ := Aside0.mk (Kd.N_below (by exact HO_9.out) hb); have n2_ := Aside0.mk (Kd.N_below (by exact HO_10.out) hb); have n3_ := Aside0.mk (Kd.N_below (by exact HO804.out) hb); have n4_ := Aside0.mk (blk_below (g := gb761) (o := .cells #[.bool a0_0, .int .i64 a0_1, .bool a0_2, .int .u32 a0_3, .int .i64 a0_4, .bool a0_5, .bool a0_6, .int .u32 a0_7, .bool a0_8, .bool a0_9] 61 (0, 0)) (by exact BK761.out) hb); have n5_ := Aside0.mk (blk_below (g := gb799) (o := .cells #[.bool t788, .int .i64 t789, .bool t790, .int .u32 t791, .int .i64 t792, .bool t793, .bool t794, .int .u32 t795, .bool t796, .bool t797] 61 (0, 0)) (by exact BK799.out) hb); have n6_ := Aside0.mk (below_step (by exact HB.out) hb); clear HO_1; clear HO_9; clear HO_10; clear HO804; clear BK761; clear BK799; clear HB; have HO_1 := n0_; have HO_9 := n1_; have HO_10 := n2_; have HO804 := n3_; have BK761 := n4_; have BK799 := n5_; have HB := n6_; clear n0_ n1_ n2_ n3_ n4_ n5_ n6_; (try clear hb)))
                            go_ret
                            exact ⟨by (rfl), by repeat (with_reducible first | exact HB.out | apply below_alloc)⟩
                          · replace c73 := Bool.eq_false_iff.mpr c73
                            subst c73
                            have H1 : (none) = some r := by rw [if_neg (show ¬ (false = true) by decide)] at H; exact H
                            clear H
                            have H := H1
                            clear H1
                            exact absurd H (by simp)
                        · rw [if_neg c71] at H
                          exact absurd H (by simp)

end Go.Proofs.Ytnjimecjpnjojaa.Print
