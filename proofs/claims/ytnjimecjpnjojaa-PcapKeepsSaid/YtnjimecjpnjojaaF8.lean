-- laid by this session's own program (wip/mkprint.sh) for this claim
import Derived.Test.Ytnjimecjpnjojaa0
import Derived.Test.YtnjimecjpnjojaaF15
import Derived.Test.YtnjimecjpnjojaaF19
import Derived.Test.YtnjimecjpnjojaaF20
import Derived.Test.YtnjimecjpnjojaaF23
namespace Go.Proofs.Ytnjimecjpnjojaa.Print
open Go.RowKit Go.Proofs.YtnjimecjpnjojaaW.PrintWords Go.Proofs.YtnjimecjpnjojaaW.PrintLast Go.Proofs.YtnjimecjpnjojaaW.PrintMore
attribute [local go_sem] max2_int min2_int max_two min_two max_three min_three max_four min_four   -- for this text's walks alone
set_option linter.unusedVariables false
set_option linter.unusedSimpArgs false

/-! ### umpirelaw09_PcapKeeps: function 8 -/
mutual
def umpirelaw09_PcapKeeps.j0 : Nat → List Int → Bool → Option (Bool)
  | 0, _, _ => none
  | k + 1, x0, x17 => if x17 = true then ((umpirelaw09_awake.f k).bind fun t520 => (some t520)) else ((some (([] : List Int) : List Int)).bind fun y521 => (if y521.length + x0.length < 140737488355328 then ((some (y521 ++ x0 : List Int)).bind fun y524 => ((pcap_Read.f k y524).bind fun bt527 => (if (strOfNums y524).toList = (strOfNums x0).toList then (umpirelaw09_PcapKeeps.l0 k x0 y524 bt527.2.2.2.2.1 0) else (none)))) else (none)))
def umpirelaw09_PcapKeeps.l0 : Nat → List Int → List Int → List (S46) → Int → Option (Bool)
  | 0, _, _, _, _ => none
  | k + 1, x0, x3, x5, x7 => if x7 < (x3.length : Int) then (if 0 ≤ x7 then (umpirelaw09_PcapKeeps.l0 k x0 (x3.set (x7 : Int).toNat (((rd x3 x7) + 1) % 256)) x5 (wrap64 (x7 + 1))) else (none)) else ((umpireref09_Read.f k x0).bind fun bt540 => ((umpireref09_Same.f k x5 bt540.2.2.2.2.1).bind fun t551 => (some t551)))
end
def umpirelaw09_PcapKeeps.f (k : Nat) (l0 : List Int) : Option (Bool) := (umpirelaw09_awake.f k).bind fun t519 => (if t519 = true then (umpirelaw09_PcapKeeps.j0 k l0 (decide ((l0.length : Int) > 140000))) else (umpirelaw09_PcapKeeps.j0 k l0 true))
theorem umpirelaw09_PcapKeeps.mono_l : ∀ k, (∀ y0 y1, LeO (umpirelaw09_PcapKeeps.j0 k y0 y1) (umpirelaw09_PcapKeeps.j0 (k + 1) y0 y1)) ∧ (∀ y0 y1 y2 y3, LeO (umpirelaw09_PcapKeeps.l0 k y0 y1 y2 y3) (umpirelaw09_PcapKeeps.l0 (k + 1) y0 y1 y2 y3))
  | 0 => ⟨fun _ _ r h => by simp [umpirelaw09_PcapKeeps.j0] at h, fun _ _ _ _ r h => by simp [umpirelaw09_PcapKeeps.l0] at h⟩
  | k + 1 => by
    obtain ⟨ih0, ih1⟩ := umpirelaw09_PcapKeeps.mono_l k
    refine ⟨?_, ?_⟩
    · intro y0 y1
      unfold umpirelaw09_PcapKeeps.j0
      repeat' first
      | (with_reducible exact ih0 _ _)
      | (with_reducible exact ih1 _ _ _ _)
      | (with_reducible exact pcap_Read.mono _ _)
      | (with_reducible exact umpirelaw09_awake.mono _)
      | (with_reducible exact umpireref09_Read.mono _ _)
      | (with_reducible exact umpireref09_Same.mono _ _ _)
      | (with_reducible exact LeO.refl _)
      | (with_reducible exact LeO.none _)
      | (with_reducible refine LeO.ite ?_ ?_)
      | (with_reducible refine LeO.bind ?_ (fun _ => ?_))
      | exact ih0 _ _
      | exact ih1 _ _ _ _
      | exact pcap_Read.mono _ _
      | exact umpirelaw09_awake.mono _
      | exact umpireref09_Read.mono _ _
      | exact umpireref09_Same.mono _ _ _
      | exact LeO.none _
      | refine LeO.ite ?_ ?_
      | refine LeO.bind ?_ (fun _ => ?_)
    · intro y0 y1 y2 y3
      unfold umpirelaw09_PcapKeeps.l0
      repeat' first
      | (with_reducible exact ih0 _ _)
      | (with_reducible exact ih1 _ _ _ _)
      | (with_reducible exact pcap_Read.mono _ _)
      | (with_reducible exact umpirelaw09_awake.mono _)
      | (with_reducible exact umpireref09_Read.mono _ _)
      | (with_reducible exact umpireref09_Same.mono _ _ _)
      | (with_reducible exact LeO.refl _)
      | (with_reducible exact LeO.none _)
      | (with_reducible refine LeO.ite ?_ ?_)
      | (with_reducible refine LeO.bind ?_ (fun _ => ?_))
      | exact ih0 _ _
      | exact ih1 _ _ _ _
      | exact pcap_Read.mono _ _
      | exact umpirelaw09_awake.mono _
      | exact umpireref09_Read.mono _ _
      | exact umpireref09_Same.mono _ _ _
      | exact LeO.none _
      | refine LeO.ite ?_ ?_
      | refine LeO.bind ?_ (fun _ => ?_)
theorem umpirelaw09_PcapKeeps.mono : ∀ a0 k, LeO (umpirelaw09_PcapKeeps.f k a0) (umpirelaw09_PcapKeeps.f (k + 1) a0) := by
  intro a0 k
  obtain ⟨ih0, ih1⟩ := umpirelaw09_PcapKeeps.mono_l k
  unfold umpirelaw09_PcapKeeps.f
  repeat' first
      | (with_reducible exact ih0 _ _)
      | (with_reducible exact ih1 _ _ _ _)
      | (with_reducible exact pcap_Read.mono _ _)
      | (with_reducible exact umpirelaw09_awake.mono _)
      | (with_reducible exact umpireref09_Read.mono _ _)
      | (with_reducible exact umpireref09_Same.mono _ _ _)
      | (with_reducible exact LeO.refl _)
      | (with_reducible exact LeO.none _)
      | (with_reducible refine LeO.ite ?_ ?_)
      | (with_reducible refine LeO.bind ?_ (fun _ => ?_))
      | exact ih0 _ _
      | exact ih1 _ _ _ _
      | exact pcap_Read.mono _ _
      | exact umpirelaw09_awake.mono _
      | exact umpireref09_Read.mono _ _
      | exact umpireref09_Same.mono _ _ _
      | exact LeO.none _
      | refine LeO.ite ?_ ?_
      | refine LeO.bind ?_ (fun _ => ?_)
set_option maxHeartbeats 8000000 in
set_option maxRecDepth 100000 in
theorem umpirelaw09_PcapKeeps.calls (k : Nat) (A0 : Option Addr) (c0 : Nat) (l0 : List Int) (r : Bool) (w : World) (hr0 : Kd.C (Kd.int .u8) w A0 l0.length l0) (hc0 : l0.length ≤ c0) (h : umpirelaw09_PcapKeeps.f k l0 = some r) :
    Calls Try.prog 8 #[.slice A0 l0.length c0] w fun e w' => e = .returned (.bool r) ∧ Below w.heap.size w w' := by
  have hu24 := Try.underlying24
  have hu36 := Try.underlying36
  have HR0 := Aside0.mk hr0
  have HC0 := Aside0.mk hc0
  clear hr0 hc0
  have HB := Aside0.mk (Below.refl w.heap.size w)
  have H : ((umpirelaw09_awake.f k).bind fun t519 => (if t519 = true then (umpirelaw09_PcapKeeps.j0 k l0 (decide ((l0.length : Int) > 140000))) else (umpirelaw09_PcapKeeps.j0 k l0 true))) = some r := h
  clear h
  have HC2 := Aside0.mk H
  clear H
  go_enter Try.func8, Try.ntmps8
  go_upto_region 1 with (fail)
  go_cut [17] (fun v17 wc => ∃ (kq : Nat) (x17_1 : Bool), v17 = .bool x17_1 ∧ Aside0 (umpirelaw09_PcapKeeps.j0 kq l0 x17_1 = some r) ∧ Aside0 (kq ≤ k) ∧ Aside0 (Below w.heap.size w wc))
  case first =>
    have H := HC2.out
    clear HC2
    replace H := Option.bind_eq_some_iff.mp H
    obtain ⟨t519, A30, H⟩ := H
    replace H : (if t519 = true then (umpirelaw09_PcapKeeps.j0 k l0 (decide ((l0.length : Int) > 140000))) else (umpirelaw09_PcapKeeps.j0 k l0 true)) = some r := H
    have A3 := Aside0.mk A30
    clear A30
    by_cases c4 : t519 = true
    · subst c4
      have H1 : (umpirelaw09_PcapKeeps.j0 k l0 (decide ((l0.length : Int) > 140000))) = some r := by rw [if_pos rfl] at H; exact H
      clear H
      have H := H1
      clear H1
      have H' := Aside0.mk H
      clear H
      go_wp2_with (first | ((with_reducible refine gate_callee (f := 15) rfl ?_); refine goesL_ (some 11) rfl rfl Try.func15 (by kernel_rfl) rfl #[] rfl (by (try simp only [List.map_toArray, List.map_cons, List.map_nil]); first | done | rfl | (simp only [List.length_drop, List.length_take]; rfl)) ?_; (with_reducible refine (umpirelaw09_awake.calls k  true _ A3.out).mono ?_); rintro e w5 ⟨rfl, hb⟩; refine ⟨_, rfl, ?_⟩; have n0_ := Aside0.mk (below_step (by repeat (first | (with_reducible first | exact HB.out | apply below_alloc | apply pw_below_drewN | apply below_drew1) | exact HB.out)) hb); clear HB; have HB := n0_; clear n0_; (try clear hb); (try clear hb2); (try clear hk); (try clear hi)))
      go_meet
      case rel => exact ⟨_, (decide ((l0.length : Int) > 140000)), (by first | rfl | (simp; done) | (simp [*]; done)), H', ⟨by first | omega | exact Nat.le_refl _⟩, ⟨by repeat (first | (with_reducible first | exact HB.out | apply below_alloc | apply pw_below_drewN | apply below_drew1) | exact HB.out)⟩⟩
    · replace c4 := Bool.eq_false_iff.mpr c4
      subst c4
      have H1 : (umpirelaw09_PcapKeeps.j0 k l0 true) = some r := by rw [if_neg (show ¬ (false = true) by decide)] at H; exact H
      clear H
      have H := H1
      clear H1
      have H' := Aside0.mk H
      clear H
      go_wp2_with (first | ((with_reducible refine gate_callee (f := 15) rfl ?_); refine goesL_ (some 11) rfl rfl Try.func15 (by kernel_rfl) rfl #[] rfl (by (try simp only [List.map_toArray, List.map_cons, List.map_nil]); first | done | rfl | (simp only [List.length_drop, List.length_take]; rfl)) ?_; (with_reducible refine (umpirelaw09_awake.calls k  false _ A3.out).mono ?_); rintro e w6 ⟨rfl, hb⟩; refine ⟨_, rfl, ?_⟩; have n0_ := Aside0.mk (below_step (by repeat (first | (with_reducible first | exact HB.out | apply below_alloc | apply pw_below_drewN | apply below_drew1) | exact HB.out)) hb); clear HB; have HB := n0_; clear n0_; (try clear hb); (try clear hb2); (try clear hk); (try clear hi)))
      go_meet
      case rel => exact ⟨_, (true), (by first | rfl | (simp; done) | (simp [*]; done)), H', ⟨by first | omega | exact Nat.le_refl _⟩, ⟨by repeat (first | (with_reducible first | exact HB.out | apply below_alloc | apply pw_below_drewN | apply below_drew1) | exact HB.out)⟩⟩
  case rest =>
    clear HC2
    try clear c1
    try clear p2
    try clear c4
    obtain ⟨kq, x17_1, rfl, HA, HJ1, HB⟩ := hcut
    cases kq with
    | zero => exact absurd HA.out (by simp [umpirelaw09_PcapKeeps.j0])
    | succ kj1 =>
      have H := HA.out
      clear HA
      simp only [umpirelaw09_PcapKeeps.j0] at H
      by_cases c7 : x17_1 = true
      · subst c7
        have H1 : ((umpirelaw09_awake.f kj1).bind fun t520 => (some t520)) = some r := by rw [if_pos rfl] at H; exact H
        clear H
        have H := H1
        clear H1
        replace H := Option.bind_eq_some_iff.mp H
        obtain ⟨t520, A80, H⟩ := H
        replace H : (some t520) = some r := H
        have A8 := Aside0.mk A80
        clear A80
        obtain rfl := Option.some.inj H
        go_wp2_with (first | ((with_reducible refine gate_callee (f := 15) rfl ?_); refine goesL_ (some 18) rfl rfl Try.func15 (by kernel_rfl) rfl #[] rfl (by (try simp only [List.map_toArray, List.map_cons, List.map_nil]); first | done | rfl | (simp only [List.length_drop, List.length_take]; rfl)) ?_; (with_reducible refine (umpirelaw09_awake.calls kj1  t520 _ A8.out).mono ?_); rintro e w9 ⟨rfl, hb⟩; refine ⟨_, rfl, ?_⟩; have n0_ := Aside0.mk (below_step (by repeat (first | (with_reducible first | exact HB.out | apply below_alloc | apply pw_below_drewN | apply below_drew1) | exact HB.out)) hb); clear HB; have HB := n0_; clear n0_; (try clear hb); (try clear hb2); (try clear hk); (try clear hi)))
        go_ret
        exact ⟨by first | rfl | (simp [errW_none, errW_some] <;> rfl) | (simp [*, errW_none, errW_some] <;> rfl), by repeat (first | (with_reducible first | exact HB.out | apply below_alloc | apply pw_below_drewN | apply below_drew1) | exact HB.out)⟩
      · replace c7 := Bool.eq_false_iff.mpr c7
        subst c7
        have H1 : ((some (([] : List Int) : List Int)).bind fun y521 => (if y521.length + l0.length < 140737488355328 then ((some (y521 ++ l0 : List Int)).bind fun y524 => ((pcap_Read.f kj1 y524).bind fun bt527 => (if (strOfNums y524).toList = (strOfNums l0).toList then (umpirelaw09_PcapKeeps.l0 kj1 l0 y524 bt527.2.2.2.2.1 0) else (none)))) else (none))) = some r := by rw [if_neg (show ¬ (false = true) by decide)] at H; exact H
        clear H
        have H := H1
        clear H1
        obtain ⟨y521, hy521⟩ : ∃ y_ : List Int, y_ = (([] : List Int)) := ⟨_, rfl⟩
        replace H : (if y521.length + l0.length < 140737488355328 then ((some (y521 ++ l0 : List Int)).bind fun y524 => ((pcap_Read.f kj1 y524).bind fun bt527 => (if (strOfNums y524).toList = (strOfNums l0).toList then (umpirelaw09_PcapKeeps.l0 kj1 l0 y524 bt527.2.2.2.2.1 0) else (none)))) else (none)) = some r := by first | (rw [hy521]; with_reducible exact H) | (have H2_ := (Option.bind_some _ _).symm.trans H; rw [hy521]; with_reducible exact H2_) | (have H2_ := (Option.bind_some _ _).symm.trans H; with_reducible exact H2_) | with_reducible exact H | (rw [hy521]; exact H) | exact H
        have Ny521 := Aside0.mk hy521
        clear hy521
        by_cases c10 : y521.length + l0.length < 140737488355328
        · rw [if_pos c10] at H
          have LMc10 := Aside0.mk c10
          clear c10
          obtain ⟨y524, hy524⟩ : ∃ y_ : List Int, y_ = (y521 ++ l0) := ⟨_, rfl⟩
          replace H : ((pcap_Read.f kj1 y524).bind fun bt527 => (if (strOfNums y524).toList = (strOfNums l0).toList then (umpirelaw09_PcapKeeps.l0 kj1 l0 y524 bt527.2.2.2.2.1 0) else (none))) = some r := by first | (rw [hy524]; with_reducible exact H) | (have H2_ := (Option.bind_some _ _).symm.trans H; rw [hy524]; with_reducible exact H2_) | (have H2_ := (Option.bind_some _ _).symm.trans H; with_reducible exact H2_) | with_reducible exact H | (rw [hy524]; exact H) | exact H
          have Ny524 := Aside0.mk hy524
          clear hy524
          replace H := Option.bind_eq_some_iff.mp H
          obtain ⟨⟨t527, t528, t529, t530, t531, t534, t535⟩, A110, H⟩ := H
          replace H : (if (strOfNums y524).toList = (strOfNums l0).toList then (umpirelaw09_PcapKeeps.l0 kj1 l0 y524 t531 0) else (none)) = some r := H
          have A11 := Aside0.mk A110
          clear A110
          by_cases c12 : (strOfNums y524).toList = (strOfNums l0).toList
          · rw [if_pos c12] at H
            have c12b0 : ((strOfNums y524).toList == (strOfNums l0).toList) = true := beq_iff_eq.mpr c12
            have c12b1 : ((strOfNums y524).toList != (strOfNums l0).toList) = false := bne_eq_false_iff_eq.mpr c12
            clear c12
            have H' := Aside0.mk H
            clear H
            go_wp2_with (first | ((with_reducible refine gate_dst (N := 19) rfl ?_); (try (refine gate_guard (by rfl) ?_; dsimp only)); refine Kd.R_lit (Kd.int .u8) _ 5 ?hg (N := 19) ?hd (xs := ([] : List Int)) (inner := []) (ok := fun _ => True) (okp := fun _ => True) ?hr ?hp (fun _ hk => hk) trivial (Below.refl _ _) (Nat.le_refl _) (by simp) ?_; (case hd => rfl); (case hg => rfl); (case hr => first | (go_simp; done) | (go_simp; rfl)); (case hp => exact (Reps.none _ _)); intro v522 w13 ho14 hb hg_ hnew_; clear hg_ hnew_; (first | rw [← Ny521.out] at ho14 | (simp only [Int.reduceToNat] at ho14; rw [← Ny521.out] at ho14)); have n0_ := Aside0.mk (Kd.R_lower ho14 (below_size (by repeat (first | (with_reducible first | exact HB.out | apply below_alloc | apply pw_below_drewN | apply below_drew1) | exact HB.out)))); have n1_ := Aside0.mk (below_step (by repeat (first | (with_reducible first | exact HB.out | apply below_alloc | apply pw_below_drewN | apply below_drew1) | exact HB.out)) hb); clear HB; have HO523 := n0_; have HB := n1_; clear n0_ n1_; clear hb ho14) | ((with_reducible refine gate_builtin (b := .append) (xs := #[.tmp 19, .tmp 20]) rfl ?_); (try (refine gate_guard (by rfl) ?_; dsimp only)); at_builtin; refine Kd.R_append_rows (Kd.int .u8) (w0 := w) w.heap.size rfl (.tmp 19) (.tmp 20) 28 5 (.int .u8 0) 1 rfl Try.underlying28 info5 rfl (by decide) (by omega) v522 y521 l0 _ _ _ (fun _ => True) (fun _ => False) rfl rfl ?aO ?aR (fun _ _ h => h) (fun _ h => h.elim) ?aF ?aB ?aS ?aL ?_; (case aR => repeat (first | exact (Kd.C_below HR0.out HB.out) | (with_reducible refine Kd.C_alloc ?_ _) | (with_reducible refine Kd.C_drewN ?_ _) | (with_reducible refine Kd.C_drew ?_))); (case aB => exact (by repeat (first | (with_reducible first | exact HB.out | apply below_alloc | apply pw_below_drewN | apply below_drew1) | exact HB.out))); (case aF => exact (fun _ _ => trivial)); (case aO => exact (by (with_reducible repeat (first | apply Kd.R_alloc | apply Kd.R_drewN | apply Kd.R_drew)); exact HO523.out)); (case aS => exact (below_size (by repeat (first | (with_reducible first | exact HB.out | apply below_alloc | apply pw_below_drewN | apply below_drew1) | exact HB.out)))); (case aL => have := LMc10.out; omega); intro v525 w15 ho hb hg hat; rw [← Ny524.out] at ho; have n0_ := Aside0.mk (hb); have n1_ := Aside0.mk (ho); clear HB; clear HO523; have HB := n0_; have HO526 := n1_; clear n0_ n1_; clear ho hb hg hat; obtain ⟨Ao16, co16, eo16⟩ := Kd.R_slice HO526.out; subst eo16) | ((with_reducible refine gate_callee (f := 19) rfl ?_); refine goesL_ (some 24) rfl rfl Try.func19 (by kernel_rfl) rfl #[.slice Ao16 y524.length co16] rfl (by (try simp only [List.map_toArray, List.map_cons, List.map_nil]); first | done | rfl | (simp only [List.length_drop, List.length_take]; rfl)) ?_; (with_reducible refine (pcap_Read.calls kj1 _ _ y524 t527 t528 t529 t530 t531 t534 t535 _ ?side1 ?side2 A11.out).mono ?_); (case side1 => repeat (first | exact (Kd.R_reads' HO526.out).2.2 | (with_reducible refine Kd.C_alloc ?_ _) | (with_reducible refine Kd.C_drewN ?_ _) | (with_reducible refine Kd.C_drew ?_))); (case side2 => exact (Kd.R_reads' HO526.out).2.1); rintro e w17 ⟨v532, rfl, ho0, hb⟩; refine ⟨_, rfl, ?_⟩; have n0_ := Aside0.mk (Kd.R_below (by (with_reducible repeat (first | apply Kd.R_alloc | apply Kd.R_drewN | apply Kd.R_drew)); exact HO526.out) hb); have n1_ := Aside0.mk (Kd.S_lower (Kd.S_new' ho0 (Kd.R_lt (by (with_reducible repeat (first | apply Kd.R_alloc | apply Kd.R_drewN | apply Kd.R_drew)); exact HO526.out))) (below_size (by repeat (first | (with_reducible first | exact HB.out | apply below_alloc | apply pw_below_drewN | apply below_drew1) | exact HB.out)))); have n2_ := Aside0.mk (below_step (by repeat (first | (with_reducible first | exact HB.out | apply below_alloc | apply pw_below_drewN | apply below_drew1) | exact HB.out)) hb); clear HO526; clear HB; have HO526 := n0_; have HO533 := n1_; have HB := n2_; clear n0_ n1_ n2_; (try clear hb); (try clear hb2); (try clear hk); (try clear hi); (try clear ho0)) | ((with_reducible refine gate_dst (N := 4) rfl ?_); (try (refine gate_guard (by rfl) ?_; dsimp only)); refine box_event ?hg (N := 4) ?hd (cs := #[.bool false, .bool false, .int .u32 0, .int .u32 0]) (t := 24) ?hr ?_; (case hd => rfl); (case hg => rfl); (case hr => first | (go_simp; done) | (go_simp; rfl)); intro gb536 hg w18 hbox hb; have n0_ := Aside0.mk (Kd.R_below (by (with_reducible repeat (first | apply Kd.R_alloc | apply Kd.R_drewN | apply Kd.R_drew)); exact HO526.out) hb); have n1_ := Aside0.mk (Kd.S_below (by (with_reducible repeat (first | apply Kd.S_alloc | apply Kd.S_drewN | apply Kd.S_drew)); exact HO533.out) hb); have n2_ := Aside0.mk (below_step (by repeat (first | (with_reducible first | exact HB.out | apply below_alloc | apply pw_below_drewN | apply below_drew1) | exact HB.out)) hb); have n3_ := Aside0.mk (hbox); have n4_ := Aside0.mk ((by rw [hg]; exact (below_size (by repeat (first | (with_reducible first | exact HB.out | apply below_alloc | apply pw_below_drewN | apply below_drew1) | exact HB.out))) : w.heap.size ≤ gb536)); have n5_ := Aside0.mk ((by rw [hg]; exact (below_size (by repeat (first | (with_reducible first | exact HB.out | apply below_alloc | apply pw_below_drewN | apply below_drew1) | exact HB.out))) : w.heap.size ≤ gb536)); clear HO526; clear HO533; clear HB; have HO526 := n0_; have HO533 := n1_; have HB := n2_; have BK536 := n3_; have GW536 := n4_; have GE536 := n5_; clear n0_ n1_ n2_ n3_ n4_ n5_; clear hb hbox hg) | ((with_reducible refine gate_dst (N := 6) rfl ?_); (try (refine gate_guard (by rfl) ?_; dsimp only)); refine box_event ?hg (N := 6) ?hd (cs := #[.int .i64 0, .int .i64 0]) (t := 36) ?hr ?_; (case hd => rfl); (case hg => rfl); (case hr => first | (go_simp; done) | (go_simp; rfl)); intro gb537 hg w19 hbox hb; have n0_ := Aside0.mk (Kd.R_below (by (with_reducible repeat (first | apply Kd.R_alloc | apply Kd.R_drewN | apply Kd.R_drew)); exact HO526.out) hb); have n1_ := Aside0.mk (Kd.S_below (by (with_reducible repeat (first | apply Kd.S_alloc | apply Kd.S_drewN | apply Kd.S_drew)); exact HO533.out) hb); have n2_ := Aside0.mk (blk_below (g := gb536) (o := .cells #[.bool false, .bool false, .int .u32 0, .int .u32 0] 24 (0, 0)) (by (with_reducible repeat (first | refine blk_drewN ?_ _ | refine blk_drew ?_ | refine blk_alloc ?_ _)); exact BK536.out) hb); have n3_ := Aside0.mk (below_step (by repeat (first | (with_reducible first | exact HB.out | apply below_alloc | apply pw_below_drewN | apply below_drew1 | refine below_set ?_ GE536.out) | exact HB.out)) hb); have n4_ := Aside0.mk (hbox); have n5_ := Aside0.mk ((by rw [hg]; exact (below_size (by repeat (first | (with_reducible first | exact HB.out | apply below_alloc | apply pw_below_drewN | apply below_drew1 | refine below_set ?_ GE536.out) | exact HB.out))) : w.heap.size ≤ gb537)); have n6_ := Aside0.mk ((by rw [hg]; exact (below_size (by repeat (first | (with_reducible first | exact HB.out | apply below_alloc | apply pw_below_drewN | apply below_drew1 | refine below_set ?_ GE536.out) | exact HB.out))) : w.heap.size ≤ gb537)); have n7_ := Aside0.mk ((by rw [hg]; exact Nat.ne_of_lt (blk_lt (g := gb536) (o := .cells #[.bool false, .bool false, .int .u32 0, .int .u32 0] 24 (0, 0)) (by (with_reducible repeat (first | refine blk_drewN ?_ _ | refine blk_drew ?_ | refine blk_alloc ?_ _)); exact BK536.out)) : gb536 ≠ gb537)); have n8_ := Aside0.mk ((by rw [hg]; exact Nat.ne_of_gt (blk_lt (g := gb536) (o := .cells #[.bool false, .bool false, .int .u32 0, .int .u32 0] 24 (0, 0)) (by (with_reducible repeat (first | refine blk_drewN ?_ _ | refine blk_drew ?_ | refine blk_alloc ?_ _)); exact BK536.out)) : gb537 ≠ gb536)); clear HO526; clear HO533; clear BK536; clear HB; have HO526 := n0_; have HO533 := n1_; have BK536 := n2_; have HB := n3_; have BK537 := n4_; have GW537 := n5_; have GE537 := n6_; have NB536_537 := n7_; have NB537_536 := n8_; clear n0_ n1_ n2_ n3_ n4_ n5_ n6_ n7_ n8_; clear hb hbox hg; have hnb20 := NB536_537.out; have hnc20 := NB537_536.out; have hcz21_0 : w19.cell? ⟨gb536, 0, none⟩ = some (.bool false) := (blk_cell BK536.out 0).trans rfl; have hcz21_1 : w19.cell? ⟨gb536, 1, none⟩ = some (.bool false) := (blk_cell BK536.out 1).trans rfl; have hcz21_2 : w19.cell? ⟨gb536, 2, none⟩ = some (.int .u32 0) := (blk_cell BK536.out 2).trans rfl; have hcz21_3 : w19.cell? ⟨gb536, 3, none⟩ = some (.int .u32 0) := (blk_cell BK536.out 3).trans rfl; have hfz21_0 := blk_frozen BK536.out 0; have hfz21_1 := blk_frozen BK536.out 1; have hfz21_2 := blk_frozen BK536.out 2; have hfz21_3 := blk_frozen BK536.out 3; have hcz22_0 : w19.cell? ⟨gb537, 0, none⟩ = some (.int .i64 0) := (blk_cell BK537.out 0).trans rfl; have hcz22_1 : w19.cell? ⟨gb537, 1, none⟩ = some (.int .i64 0) := (blk_cell BK537.out 1).trans rfl; have hfz22_0 := blk_frozen BK537.out 0; have hfz22_1 := blk_frozen BK537.out 1; have hcv23 : ∀ m_ : Nat, (convert 28 9 (.slice Ao16 y524.length co16)).run Try.prog (World.drewN ((((((w19.setCell ⟨gb536, 0, none⟩ (.bool t527)).setCell ⟨gb536, 1, none⟩ (.bool t528)).setCell ⟨gb536, 2, none⟩ (.int .u32 t529)).setCell ⟨gb536, 3, none⟩ (.int .u32 t530)).setCell ⟨gb537, 0, none⟩ (.int .i64 t534)).setCell ⟨gb537, 1, none⟩ (.int .i64 t535)) m_) = .ok (.string (strOfNums y524)) (World.drewN ((((((w19.setCell ⟨gb536, 0, none⟩ (.bool t527)).setCell ⟨gb536, 1, none⟩ (.bool t528)).setCell ⟨gb536, 2, none⟩ (.int .u32 t529)).setCell ⟨gb536, 3, none⟩ (.int .u32 t530)).setCell ⟨gb537, 0, none⟩ (.int .i64 t534)).setCell ⟨gb537, 1, none⟩ (.int .i64 t535)) m_) := fun m_ => own_string (P := Try.prog) Try.underlying28 Try.underlying5 Try.underlying9 (Kd.own_of_R (Kd.R_drewN (by (with_reducible repeat (first | apply Kd.R_alloc | apply Kd.R_drewN | apply Kd.R_drew)); exact (Kd.R_mono (Kd.R_mono (Kd.R_far (p := ⟨gb537, 1, none⟩) (Kd.R_far (p := ⟨gb537, 0, none⟩) (Kd.R_far (p := ⟨gb536, 3, none⟩) (Kd.R_far (p := ⟨gb536, 2, none⟩) (Kd.R_far (p := ⟨gb536, 1, none⟩) (Kd.R_far (p := ⟨gb536, 0, none⟩) (Kd.R_types (Kd.R_types HO526.out BK536.out (by decide)) BK537.out (by decide)) (fun _ hk => hk.1.2) (.bool t527)) (fun _ hk => hk.1.2) (.bool t528)) (fun _ hk => hk.1.2) (.int .u32 t529)) (fun _ hk => hk.1.2) (.int .u32 t530)) (fun _ hk => hk.2) (.int .i64 t534)) (fun _ hk => hk.2) (.int .i64 t535)) (fun _ h_ => h_.1)) (fun _ h_ => h_.1))) m_)); have hcv23z := hcv23 0; (try simp only [World.drewN_zero] at hcv23z); have hcv24p : ∀ m_ : Nat, (convert 28 9 (.slice A0 l0.length c0)).run Try.prog (World.drewN ((((((w19.setCell ⟨gb536, 0, none⟩ (.bool t527)).setCell ⟨gb536, 1, none⟩ (.bool t528)).setCell ⟨gb536, 2, none⟩ (.int .u32 t529)).setCell ⟨gb536, 3, none⟩ (.int .u32 t530)).setCell ⟨gb537, 0, none⟩ (.int .i64 t534)).setCell ⟨gb537, 1, none⟩ (.int .i64 t535)) m_) = .ok (.string (strOfNums l0)) (World.drewN ((((((w19.setCell ⟨gb536, 0, none⟩ (.bool t527)).setCell ⟨gb536, 1, none⟩ (.bool t528)).setCell ⟨gb536, 2, none⟩ (.int .u32 t529)).setCell ⟨gb536, 3, none⟩ (.int .u32 t530)).setCell ⟨gb537, 0, none⟩ (.int .i64 t534)).setCell ⟨gb537, 1, none⟩ (.int .i64 t535)) m_) := fun m_ => Kd.C_string (P := Try.prog) (A := A0) (c := c0) Try.underlying28 Try.underlying5 Try.underlying9 (Kd.C_drewN (Kd.C_below HR0.out (by repeat (first | (with_reducible first | exact HB.out | apply below_alloc | apply pw_below_drewN | apply below_drew1 | refine below_set ?_ GE536.out | refine below_set ?_ GE537.out) | exact HB.out))) m_); (try simp only [List.length_drop, List.length_take] at hcv24p); have hcv24pz := hcv24p 0; (try simp only [World.drewN_zero] at hcv24pz); have hcv24 := fun m_ : Nat => Kd.C_string (P := Try.prog) (A := A0) (c := c0) Try.underlying28 Try.underlying5 Try.underlying9 (Kd.C_drewN (Kd.C_below HR0.out HB.out) m_); have hcv26 := Kd.C_string (P := Try.prog) (A := A0) (c := c0) Try.underlying28 Try.underlying5 Try.underlying9 (Kd.C_below HR0.out HB.out)))
            go_loopg [7] kj1 (fun kq v7 w' => ∃ (x3_2 : List Int) (x7_2 : Int), v7 = .int .i64 x7_2 ∧ Aside0 (umpirelaw09_PcapKeeps.l0 kq l0 x3_2 t531 x7_2 = some r) ∧ Aside0 (kq ≤ kj1) ∧ Aside0 (Kd.R (Kd.int .u8) 5 w' w.heap.size (fun _ => True) (.slice Ao16 y524.length co16) x3_2) ∧ Aside0 (Kd.S k46 46 w' w.heap.size (fun k_ => some k_ ≠ ((.slice Ao16 y524.length co16) : Value).ownBlock) v532 t531) ∧ Aside0 (w'.heap[gb536]? = some (.cells #[.bool t527, .bool t528, .int .u32 t529, .int .u32 t530] 24 (0, 0))) ∧ Aside0 (w'.heap[gb537]? = some (.cells #[.int .i64 t534, .int .i64 t535] 36 (0, 0))) ∧ Aside0 (Below w.heap.size w w'))
            case atStart => exact ⟨(y524), (0), (by first | rfl | (simp; done) | (simp [*]; done)), H', ⟨Nat.le_refl _⟩, ⟨by (with_reducible repeat (first | apply Kd.R_alloc | apply Kd.R_drewN | apply Kd.R_drew)); exact Kd.R_mono (Kd.R_far (p := ⟨gb537, 1, none⟩) (Kd.R_far (p := ⟨gb537, 0, none⟩) (Kd.R_far (p := ⟨gb536, 3, none⟩) (Kd.R_far (p := ⟨gb536, 2, none⟩) (Kd.R_far (p := ⟨gb536, 1, none⟩) (Kd.R_far (p := ⟨gb536, 0, none⟩) (Kd.R_types (Kd.R_types HO526.out BK536.out (by decide)) BK537.out (by decide)) (fun _ hk => hk.1.2) (.bool t527)) (fun _ hk => hk.1.2) (.bool t528)) (fun _ hk => hk.1.2) (.int .u32 t529)) (fun _ hk => hk.1.2) (.int .u32 t530)) (fun _ hk => hk.2) (.int .i64 t534)) (fun _ hk => hk.2) (.int .i64 t535)) (fun _ hk => trivial)⟩, ⟨by (with_reducible repeat (first | apply Kd.S_alloc | apply Kd.S_drewN | apply Kd.S_drew)); exact Kd.S_mono (Kd.S_far (p := ⟨gb537, 1, none⟩) (Kd.S_far (p := ⟨gb537, 0, none⟩) (Kd.S_far (p := ⟨gb536, 3, none⟩) (Kd.S_far (p := ⟨gb536, 2, none⟩) (Kd.S_far (p := ⟨gb536, 1, none⟩) (Kd.S_far (p := ⟨gb536, 0, none⟩) (Kd.S_types (Kd.S_types HO533.out BK536.out (by decide)) BK537.out (by decide)) (fun _ hk => hk.1.2) (.bool t527)) (fun _ hk => hk.1.2) (.bool t528)) (fun _ hk => hk.1.2) (.int .u32 t529)) (fun _ hk => hk.1.2) (.int .u32 t530)) (fun _ hk => hk.2) (.int .i64 t534)) (fun _ hk => hk.2) (.int .i64 t535)) (fun _ hk => hk.1.1.2)⟩, ⟨by (with_reducible repeat (first | refine blk_drewN ?_ _ | refine blk_drew ?_ | refine blk_alloc ?_ _)); refine blk_far ?_ NB536_537.out _; (with_reducible repeat (first | refine blk_drewN ?_ _ | refine blk_drew ?_ | refine blk_alloc ?_ _)); refine blk_far ?_ NB536_537.out _; (with_reducible repeat (first | refine blk_drewN ?_ _ | refine blk_drew ?_ | refine blk_alloc ?_ _)); refine blk_put (cs := #[.bool t527, .bool t528, .int .u32 t529, .int .u32 0]) ?_ 3 _ rfl; (with_reducible repeat (first | refine blk_drewN ?_ _ | refine blk_drew ?_ | refine blk_alloc ?_ _)); refine blk_put (cs := #[.bool t527, .bool t528, .int .u32 0, .int .u32 0]) ?_ 2 _ rfl; (with_reducible repeat (first | refine blk_drewN ?_ _ | refine blk_drew ?_ | refine blk_alloc ?_ _)); refine blk_put (cs := #[.bool t527, .bool false, .int .u32 0, .int .u32 0]) ?_ 1 _ rfl; (with_reducible repeat (first | refine blk_drewN ?_ _ | refine blk_drew ?_ | refine blk_alloc ?_ _)); refine blk_put (cs := #[.bool false, .bool false, .int .u32 0, .int .u32 0]) ?_ 0 _ rfl; (with_reducible repeat (first | refine blk_drewN ?_ _ | refine blk_drew ?_ | refine blk_alloc ?_ _)); exact BK536.out⟩, ⟨by (with_reducible repeat (first | refine blk_drewN ?_ _ | refine blk_drew ?_ | refine blk_alloc ?_ _)); refine blk_put (cs := #[.int .i64 t534, .int .i64 0]) ?_ 1 _ rfl; (with_reducible repeat (first | refine blk_drewN ?_ _ | refine blk_drew ?_ | refine blk_alloc ?_ _)); refine blk_put (cs := #[.int .i64 0, .int .i64 0]) ?_ 0 _ rfl; (with_reducible repeat (first | refine blk_drewN ?_ _ | refine blk_drew ?_ | refine blk_alloc ?_ _)); refine blk_far ?_ NB537_536.out _; (with_reducible repeat (first | refine blk_drewN ?_ _ | refine blk_drew ?_ | refine blk_alloc ?_ _)); refine blk_far ?_ NB537_536.out _; (with_reducible repeat (first | refine blk_drewN ?_ _ | refine blk_drew ?_ | refine blk_alloc ?_ _)); refine blk_far ?_ NB537_536.out _; (with_reducible repeat (first | refine blk_drewN ?_ _ | refine blk_drew ?_ | refine blk_alloc ?_ _)); refine blk_far ?_ NB537_536.out _; (with_reducible repeat (first | refine blk_drewN ?_ _ | refine blk_drew ?_ | refine blk_alloc ?_ _)); exact BK537.out⟩, ⟨by repeat (first | (with_reducible first | exact HB.out | apply below_alloc | apply pw_below_drewN | apply below_drew1 | refine below_set ?_ GE536.out | refine below_set ?_ GE537.out) | exact HB.out)⟩⟩
            case round =>
              clear H'
              try clear c1
              try clear c2
              try clear p2
              try clear hcv2
              try clear c4
              try clear c7
              try clear c8
              try clear c10
              try clear c12
              try clear c12b0
              try clear c12b1
              try clear c15
              try clear c19
              try clear c20
              try clear hcv23
              try clear hcv24
              try clear hcv26
              try clear hcz21_0
              try clear hcz21_1
              try clear hcz21_2
              try clear hcz21_3
              try clear hcz22_0
              try clear hcz22_1
              try clear hfz21_0
              try clear hfz21_1
              try clear hfz21_2
              try clear hfz21_3
              try clear hfz22_0
              try clear hfz22_1
              try clear p2
              obtain ⟨x3_2, x7_2, rfl, HA, HK2, HO_3, HO_5, BK536, BK537, HB⟩ := hrel
              have hl3_2 := (Kd.R_reads' HO_3.out).1
              rw [hl3_2] at HO_3
              (try simp only [hl3_2])
              (try simp only [hl3_2] at BK536)
              (try simp only [hl3_2] at BK537)
              (try simp only [hl3_2] at HO_5)
              cases gk with
              | zero => exact absurd HA.out (by simp [umpirelaw09_PcapKeeps.l0])
              | succ k2 =>
                have H := HA.out
                clear HA
                simp only [umpirelaw09_PcapKeeps.l0] at H
                by_cases c27 : x7_2 < (x3_2.length : Int)
                · rw [if_pos c27] at H
                  have c27b0 : decide (x7_2 < (x3_2.length : Int)) = true := decide_eq_true c27
                  clear c27
                  by_cases c28 : 0 ≤ x7_2
                  · rw [if_pos c28] at H
                    have c28b0 : decide (0 ≤ x7_2) = true := decide_eq_true c28
                    clear c28
                    obtain ⟨y539, hy539⟩ : ∃ y_ : List Int, y_ = (x3_2.set (x7_2 : Int).toNat (((rd x3_2 x7_2) + 1) % 256)) := ⟨_, rfl⟩
                    replace H : (umpirelaw09_PcapKeeps.l0 k2 l0 y539 t531 (wrap64 (x7_2 + 1))) = some r := by first | (rw [hy539]; with_reducible exact H) | (have H2_ := (Option.bind_some _ _).symm.trans H; rw [hy539]; with_reducible exact H2_) | (have H2_ := (Option.bind_some _ _).symm.trans H; with_reducible exact H2_) | with_reducible exact H | (rw [hy539]; exact H) | exact H
                    have Ny539 := Aside0.mk hy539
                    clear hy539
                    have H' := Aside0.mk H
                    clear H
                    have p538 : 0 ≤ (x7_2 : Int) := of_decide_eq_true (by first | (with_reducible assumption) | assumption)
                    have q538 : x7_2 < (x3_2.length : Int) := of_decide_eq_true (by first | (with_reducible assumption) | assumption)
                    obtain ⟨ad538, e538, hx538_0⟩ := Kd.at_int (Kd.R_reads' HO_3.out).2.2 x7_2 p538 q538
                    cases e538
                    replace p538 := eq_true p538
                    replace q538 := eq_true q538
                    have p29 : 0 ≤ (x7_2 : Int) := of_decide_eq_true (by first | (with_reducible assumption) | assumption)
                    have q29 : (x7_2 : Int) < ((x3_2.length : Int) : Int) := of_decide_eq_true (by first | (with_reducible assumption) | assumption)
                    obtain ⟨go29, co29, eo29, gb29, gl29, cl29, HG29⟩ := Kd.R_form HO_3.out (by omega)
                    (first | cases eo29 | (injection eo29 with ea_ en_ ec_; (first | subst ea_ | (injection ea_ with ea_; subst ea_)); subst ec_; clear en_))
                    have GB29 := Aside0.mk gb29
                    have GG29 := Aside0.mk HG29
                    clear gb29 gl29 HG29
                    (first | simp only [add_plain] at hx538_0 | skip)
                    obtain ⟨hx29_0, hf29_0⟩ := Kd.R_celln 0 HO_3.out (x7_2 : Int) p29 q29
                    replace p29 := eq_true p29
                    replace q29 := eq_true q29
                    have HP30 := Kd.R_putg HO_3.out (x7_2 : Int) (((rd x3_2 x7_2) + 1) % 256)
                    go_wp2_with (first | ((with_reducible refine gate_store (t := 5) (p := 46) rfl ?_); refine store_event (t := 5) (p := 46) (v := ?vo_w31) (w1 := (wr.setCell ⟨go29, (x7_2 : Int).toNat, none⟩ (.int .u8 (((rd x3_2 x7_2) + 1) % 256)))) ?hg ?ho ?hn ?hr ?_; (case ho => rfl); (case hg => rfl); (case hn => rfl); (case hr => first | (go_simp; done) | (go_simp; rfl)); intro w31 hw; have hg : wr.grownBy w31 (some go29) := (by rw [hw]; exact HP30.2); have hp_ : Kd.R (Kd.int .u8) 5 w31 w.heap.size (fun _ => True) (.slice (some ⟨go29, 0, none⟩) x3_2.length co16) y539 := (by rw [hw, Ny539.out]; exact HP30.1); clear HP30; have n0_ := Aside0.mk (hp_); have n1_ := Aside0.mk (Kd.S_after (v := (.slice (some ⟨go29, 0, none⟩) x3_2.length co16)) (v1 := (.slice (some ⟨go29, 0, none⟩) x3_2.length co16)) (ok := (fun _ => True)) (by (with_reducible repeat (first | apply Kd.S_alloc | apply Kd.S_drewN | apply Kd.S_drew)); exact Kd.S_mono HO_5.out (fun _ hk => ⟨trivial, hk⟩)) hg (.inl rfl)); have n2_ := Aside0.mk (blk_grown (g := gb536) (o := .cells #[.bool t527, .bool t528, .int .u32 t529, .int .u32 t530] 24 (0, 0)) (by (with_reducible repeat (first | refine blk_drewN ?_ _ | refine blk_drew ?_ | refine blk_alloc ?_ _)); exact BK536.out) hg (Kd.R_ne HO_3.out BK536.out (by decide))); have n3_ := Aside0.mk (blk_grown (g := gb537) (o := .cells #[.int .i64 t534, .int .i64 t535] 36 (0, 0)) (by (with_reducible repeat (first | refine blk_drewN ?_ _ | refine blk_drew ?_ | refine blk_alloc ?_ _)); exact BK537.out) hg (Kd.R_ne HO_3.out BK537.out (by decide))); have n4_ := Aside0.mk ((by rw [hw]; exact below_set (HB.out) GB29.out : Below w.heap.size w w31)); clear HO_3; clear HO_5; clear BK536; clear BK537; clear HB; have HO_3 := n0_; have HO_5 := n1_; have BK536 := n2_; have BK537 := n3_; have HB := n4_; clear n0_ n1_ n2_ n3_ n4_; clear hg hw hp_))
                    (try simp only [← hl3_2])
                    go_roundg k2
                    case measure => have := HJ1.out; have := HK2.out; omega
                    case rel => exact ⟨(y539), (wrap64 (x7_2 + 1)), (by first | rfl | (simp; done) | (simp [*]; done)), H', ⟨by have := HJ1.out; have := HK2.out; omega⟩, ⟨by (try simp only [hl3_2]); (with_reducible repeat (first | apply Kd.R_alloc | apply Kd.R_drewN | apply Kd.R_drew)); exact HO_3.out⟩, ⟨by (try simp only [hl3_2]); (with_reducible repeat (first | apply Kd.S_alloc | apply Kd.S_drewN | apply Kd.S_drew)); exact Kd.S_mono HO_5.out (fun _ hk => hk.2)⟩, ⟨by (try simp only [hl3_2]); (with_reducible repeat (first | refine blk_drewN ?_ _ | refine blk_drew ?_ | refine blk_alloc ?_ _)); exact BK536.out⟩, ⟨by (try simp only [hl3_2]); (with_reducible repeat (first | refine blk_drewN ?_ _ | refine blk_drew ?_ | refine blk_alloc ?_ _)); exact BK537.out⟩, ⟨by repeat (first | (with_reducible first | exact HB.out | apply below_alloc | apply pw_below_drewN | apply below_drew1 | refine below_set ?_ GE536.out | refine below_set ?_ GE537.out) | exact HB.out)⟩⟩
                  · rw [if_neg c28] at H
                    exact absurd H (by simp)
                · rw [if_neg c27] at H
                  have c27b0 : decide (x7_2 < (x3_2.length : Int)) = false := decide_eq_false c27
                  clear c27
                  replace H := Option.bind_eq_some_iff.mp H
                  obtain ⟨⟨t540, t541, t542, t543, t544, t547, t548⟩, A320, H⟩ := H
                  replace H : ((umpireref09_Same.f k2 t531 t544).bind fun t551 => (some t551)) = some r := H
                  have A32 := Aside0.mk A320
                  clear A320
                  replace H := Option.bind_eq_some_iff.mp H
                  obtain ⟨t551, A330, H⟩ := H
                  replace H : (some t551) = some r := H
                  have A33 := Aside0.mk A330
                  clear A330
                  obtain rfl := Option.some.inj H
                  go_wp2_with (first | ((with_reducible refine gate_callee (f := 20) rfl ?_); refine goesL_ (some 49) rfl rfl Try.func20 (by kernel_rfl) rfl #[.slice A0 l0.length c0] rfl (by (try simp only [List.map_toArray, List.map_cons, List.map_nil]); first | done | rfl | (simp only [List.length_drop, List.length_take]; rfl)) ?_; (with_reducible refine (umpireref09_Read.calls k2 _ _ l0 t540 t541 t542 t543 t544 t547 t548 _ ?side1 ?side2 A32.out).mono ?_); (case side1 => repeat (first | exact (Kd.C_below HR0.out HB.out) | (with_reducible refine Kd.C_alloc ?_ _) | (with_reducible refine Kd.C_drewN ?_ _) | (with_reducible refine Kd.C_drew ?_))); (case side2 => exact HC0.out); rintro e w34 ⟨v545, rfl, ho0, hb⟩; refine ⟨_, rfl, ?_⟩; have n0_ := Aside0.mk (Kd.R_below (by (with_reducible repeat (first | apply Kd.R_alloc | apply Kd.R_drewN | apply Kd.R_drew)); exact HO_3.out) hb); have n1_ := Aside0.mk (Kd.S_elder' (by (with_reducible repeat (first | apply Kd.S_alloc | apply Kd.S_drewN | apply Kd.S_drew)); exact HO_5.out) (by first | exact Kd.S_base ho0 | exact Kd.N_base (Kd.S_N (Kd.S_bound ho0)) | exact Kd.R_base ho0 | exact Kd.S_base ho0) hb); have n2_ := Aside0.mk (Kd.S_lower (Kd.S_new' (Kd.S_new' ho0 (Kd.R_lt (by (with_reducible repeat (first | apply Kd.R_alloc | apply Kd.R_drewN | apply Kd.R_drew)); exact HO_3.out))) (Kd.S_lt (by (with_reducible repeat (first | apply Kd.S_alloc | apply Kd.S_drewN | apply Kd.S_drew)); exact HO_5.out))) (below_size (by repeat (first | (with_reducible first | exact HB.out | apply below_alloc | apply pw_below_drewN | apply below_drew1 | refine below_set ?_ GE536.out | refine below_set ?_ GE537.out) | exact HB.out)))); have n3_ := Aside0.mk (blk_below (g := gb536) (o := .cells #[.bool t527, .bool t528, .int .u32 t529, .int .u32 t530] 24 (0, 0)) (by (with_reducible repeat (first | refine blk_drewN ?_ _ | refine blk_drew ?_ | refine blk_alloc ?_ _)); exact BK536.out) hb); have n4_ := Aside0.mk (blk_below (g := gb537) (o := .cells #[.int .i64 t534, .int .i64 t535] 36 (0, 0)) (by (with_reducible repeat (first | refine blk_drewN ?_ _ | refine blk_drew ?_ | refine blk_alloc ?_ _)); exact BK537.out) hb); have n5_ := Aside0.mk (below_step (by repeat (first | (with_reducible first | exact HB.out | apply below_alloc | apply pw_below_drewN | apply below_drew1 | refine below_set ?_ GE536.out | refine below_set ?_ GE537.out) | exact HB.out)) hb); clear HO_3; clear HO_5; clear BK536; clear BK537; clear HB; have HO_3 := n0_; have HO_5 := n1_; have HO546 := n2_; have BK536 := n3_; have BK537 := n4_; have HB := n5_; clear n0_ n1_ n2_ n3_ n4_ n5_; (try clear hb); (try clear hb2); (try clear hk); (try clear hi); (try clear ho0)) | ((with_reducible refine gate_dst (N := 8) rfl ?_); (try (refine gate_guard (by rfl) ?_; dsimp only)); refine box_event ?hg (N := 8) ?hd (cs := #[.bool false, .bool false, .int .u32 0, .int .u32 0]) (t := 24) ?hr ?_; (case hd => rfl); (case hg => rfl); (case hr => first | (go_simp; done) | (go_simp; rfl)); intro gb549 hg w35 hbox hb; have n0_ := Aside0.mk (Kd.R_below (by (with_reducible repeat (first | apply Kd.R_alloc | apply Kd.R_drewN | apply Kd.R_drew)); exact HO_3.out) hb); have n1_ := Aside0.mk (Kd.S_below (by (with_reducible repeat (first | apply Kd.S_alloc | apply Kd.S_drewN | apply Kd.S_drew)); exact HO_5.out) hb); have n2_ := Aside0.mk (Kd.S_below (by (with_reducible repeat (first | apply Kd.S_alloc | apply Kd.S_drewN | apply Kd.S_drew)); exact HO546.out) hb); have n3_ := Aside0.mk (blk_below (g := gb536) (o := .cells #[.bool t527, .bool t528, .int .u32 t529, .int .u32 t530] 24 (0, 0)) (by (with_reducible repeat (first | refine blk_drewN ?_ _ | refine blk_drew ?_ | refine blk_alloc ?_ _)); exact BK536.out) hb); have n4_ := Aside0.mk (blk_below (g := gb537) (o := .cells #[.int .i64 t534, .int .i64 t535] 36 (0, 0)) (by (with_reducible repeat (first | refine blk_drewN ?_ _ | refine blk_drew ?_ | refine blk_alloc ?_ _)); exact BK537.out) hb); have n5_ := Aside0.mk (below_step (by repeat (first | (with_reducible first | exact HB.out | apply below_alloc | apply pw_below_drewN | apply below_drew1 | refine below_set ?_ GE536.out | refine below_set ?_ GE537.out) | exact HB.out)) hb); have n6_ := Aside0.mk (hbox); have n7_ := Aside0.mk ((by rw [hg]; exact (below_size (by repeat (first | (with_reducible first | exact HB.out | apply below_alloc | apply pw_below_drewN | apply below_drew1 | refine below_set ?_ GE536.out | refine below_set ?_ GE537.out) | exact HB.out))) : w.heap.size ≤ gb549)); have n8_ := Aside0.mk ((by rw [hg]; exact (below_size (by repeat (first | (with_reducible first | exact HB.out | apply below_alloc | apply pw_below_drewN | apply below_drew1 | refine below_set ?_ GE536.out | refine below_set ?_ GE537.out) | exact HB.out))) : w.heap.size ≤ gb549)); have n9_ := Aside0.mk ((by rw [hg]; exact Nat.ne_of_lt (blk_lt (g := gb536) (o := .cells #[.bool t527, .bool t528, .int .u32 t529, .int .u32 t530] 24 (0, 0)) (by (with_reducible repeat (first | refine blk_drewN ?_ _ | refine blk_drew ?_ | refine blk_alloc ?_ _)); exact BK536.out)) : gb536 ≠ gb549)); have n10_ := Aside0.mk ((by rw [hg]; exact Nat.ne_of_gt (blk_lt (g := gb536) (o := .cells #[.bool t527, .bool t528, .int .u32 t529, .int .u32 t530] 24 (0, 0)) (by (with_reducible repeat (first | refine blk_drewN ?_ _ | refine blk_drew ?_ | refine blk_alloc ?_ _)); exact BK536.out)) : gb549 ≠ gb536)); have n11_ := Aside0.mk ((by rw [hg]; exact Nat.ne_of_lt (blk_lt (g := gb537) (o := .cells #[.int .i64 t534, .int .i64 t535] 36 (0, 0)) (by (with_reducible repeat (first | refine blk_drewN ?_ _ | refine blk_drew ?_ | refine blk_alloc ?_ _)); exact BK537.out)) : gb537 ≠ gb549)); have n12_ := Aside0.mk ((by rw [hg]; exact Nat.ne_of_gt (blk_lt (g := gb537) (o := .cells #[.int .i64 t534, .int .i64 t535] 36 (0, 0)) (by (with_reducible repeat (first | refine blk_drewN ?_ _ | refine blk_drew ?_ | refine blk_alloc ?_ _)); exact BK537.out)) : gb549 ≠ gb537)); clear HO_3; clear HO_5; clear HO546; clear BK536; clear BK537; clear HB; have HO_3 := n0_; have HO_5 := n1_; have HO546 := n2_; have BK536 := n3_; have BK537 := n4_; have HB := n5_; have BK549 := n6_; have GW549 := n7_; have GE549 := n8_; have NB536_549 := n9_; have NB549_536 := n10_; have NB537_549 := n11_; have NB549_537 := n12_; clear n0_ n1_ n2_ n3_ n4_ n5_ n6_ n7_ n8_ n9_ n10_ n11_ n12_; clear hb hbox hg) | ((with_reducible refine gate_dst (N := 10) rfl ?_); (try (refine gate_guard (by rfl) ?_; dsimp only)); refine box_event ?hg (N := 10) ?hd (cs := #[.int .i64 0, .int .i64 0]) (t := 36) ?hr ?_; (case hd => rfl); (case hg => rfl); (case hr => first | (go_simp; done) | (go_simp; rfl)); intro gb550 hg w36 hbox hb; have n0_ := Aside0.mk (Kd.R_below (by (with_reducible repeat (first | apply Kd.R_alloc | apply Kd.R_drewN | apply Kd.R_drew)); exact HO_3.out) hb); have n1_ := Aside0.mk (Kd.S_below (by (with_reducible repeat (first | apply Kd.S_alloc | apply Kd.S_drewN | apply Kd.S_drew)); exact HO_5.out) hb); have n2_ := Aside0.mk (Kd.S_below (by (with_reducible repeat (first | apply Kd.S_alloc | apply Kd.S_drewN | apply Kd.S_drew)); exact HO546.out) hb); have n3_ := Aside0.mk (blk_below (g := gb536) (o := .cells #[.bool t527, .bool t528, .int .u32 t529, .int .u32 t530] 24 (0, 0)) (by (with_reducible repeat (first | refine blk_drewN ?_ _ | refine blk_drew ?_ | refine blk_alloc ?_ _)); exact BK536.out) hb); have n4_ := Aside0.mk (blk_below (g := gb537) (o := .cells #[.int .i64 t534, .int .i64 t535] 36 (0, 0)) (by (with_reducible repeat (first | refine blk_drewN ?_ _ | refine blk_drew ?_ | refine blk_alloc ?_ _)); exact BK537.out) hb); have n5_ := Aside0.mk (blk_below (g := gb549) (o := .cells #[.bool false, .bool false, .int .u32 0, .int .u32 0] 24 (0, 0)) (by (with_reducible repeat (first | refine blk_drewN ?_ _ | refine blk_drew ?_ | refine blk_alloc ?_ _)); exact BK549.out) hb); have n6_ := Aside0.mk (below_step (by repeat (first | (with_reducible first | exact HB.out | apply below_alloc | apply pw_below_drewN | apply below_drew1 | refine below_set ?_ GE536.out | refine below_set ?_ GE537.out | refine below_set ?_ GE549.out) | exact HB.out)) hb); have n7_ := Aside0.mk (hbox); have n8_ := Aside0.mk ((by rw [hg]; exact (below_size (by repeat (first | (with_reducible first | exact HB.out | apply below_alloc | apply pw_below_drewN | apply below_drew1 | refine below_set ?_ GE536.out | refine below_set ?_ GE537.out | refine below_set ?_ GE549.out) | exact HB.out))) : w.heap.size ≤ gb550)); have n9_ := Aside0.mk ((by rw [hg]; exact (below_size (by repeat (first | (with_reducible first | exact HB.out | apply below_alloc | apply pw_below_drewN | apply below_drew1 | refine below_set ?_ GE536.out | refine below_set ?_ GE537.out | refine below_set ?_ GE549.out) | exact HB.out))) : w.heap.size ≤ gb550)); have n10_ := Aside0.mk ((by rw [hg]; exact Nat.ne_of_lt (blk_lt (g := gb536) (o := .cells #[.bool t527, .bool t528, .int .u32 t529, .int .u32 t530] 24 (0, 0)) (by (with_reducible repeat (first | refine blk_drewN ?_ _ | refine blk_drew ?_ | refine blk_alloc ?_ _)); exact BK536.out)) : gb536 ≠ gb550)); have n11_ := Aside0.mk ((by rw [hg]; exact Nat.ne_of_gt (blk_lt (g := gb536) (o := .cells #[.bool t527, .bool t528, .int .u32 t529, .int .u32 t530] 24 (0, 0)) (by (with_reducible repeat (first | refine blk_drewN ?_ _ | refine blk_drew ?_ | refine blk_alloc ?_ _)); exact BK536.out)) : gb550 ≠ gb536)); have n12_ := Aside0.mk ((by rw [hg]; exact Nat.ne_of_lt (blk_lt (g := gb537) (o := .cells #[.int .i64 t534, .int .i64 t535] 36 (0, 0)) (by (with_reducible repeat (first | refine blk_drewN ?_ _ | refine blk_drew ?_ | refine blk_alloc ?_ _)); exact BK537.out)) : gb537 ≠ gb550)); have n13_ := Aside0.mk ((by rw [hg]; exact Nat.ne_of_gt (blk_lt (g := gb537) (o := .cells #[.int .i64 t534, .int .i64 t535] 36 (0, 0)) (by (with_reducible repeat (first | refine blk_drewN ?_ _ | refine blk_drew ?_ | refine blk_alloc ?_ _)); exact BK537.out)) : gb550 ≠ gb537)); have n14_ := Aside0.mk ((by rw [hg]; exact Nat.ne_of_lt (blk_lt (g := gb549) (o := .cells #[.bool false, .bool false, .int .u32 0, .int .u32 0] 24 (0, 0)) (by (with_reducible repeat (first | refine blk_drewN ?_ _ | refine blk_drew ?_ | refine blk_alloc ?_ _)); exact BK549.out)) : gb549 ≠ gb550)); have n15_ := Aside0.mk ((by rw [hg]; exact Nat.ne_of_gt (blk_lt (g := gb549) (o := .cells #[.bool false, .bool false, .int .u32 0, .int .u32 0] 24 (0, 0)) (by (with_reducible repeat (first | refine blk_drewN ?_ _ | refine blk_drew ?_ | refine blk_alloc ?_ _)); exact BK549.out)) : gb550 ≠ gb549)); clear HO_3; clear HO_5; clear HO546; clear BK536; clear BK537; clear BK549; clear HB; have HO_3 := n0_; have HO_5 := n1_; have HO546 := n2_; have BK536 := n3_; have BK537 := n4_; have BK549 := n5_; have HB := n6_; have BK550 := n7_; have GW550 := n8_; have GE550 := n9_; have NB536_550 := n10_; have NB550_536 := n11_; have NB537_550 := n12_; have NB550_537 := n13_; have NB549_550 := n14_; have NB550_549 := n15_; clear n0_ n1_ n2_ n3_ n4_ n5_ n6_ n7_ n8_ n9_ n10_ n11_ n12_ n13_ n14_ n15_; clear hb hbox hg; have hnb37 := NB549_536.out; have hnc37 := NB536_549.out; have hnb38 := NB549_537.out; have hnc38 := NB537_549.out; have hnb39 := NB549_550.out; have hnc39 := NB550_549.out; have hcz40_0 : w36.cell? ⟨gb549, 0, none⟩ = some (.bool false) := (blk_cell BK549.out 0).trans rfl; have hcz40_1 : w36.cell? ⟨gb549, 1, none⟩ = some (.bool false) := (blk_cell BK549.out 1).trans rfl; have hcz40_2 : w36.cell? ⟨gb549, 2, none⟩ = some (.int .u32 0) := (blk_cell BK549.out 2).trans rfl; have hcz40_3 : w36.cell? ⟨gb549, 3, none⟩ = some (.int .u32 0) := (blk_cell BK549.out 3).trans rfl; have hfz40_0 := blk_frozen BK549.out 0; have hfz40_1 := blk_frozen BK549.out 1; have hfz40_2 := blk_frozen BK549.out 2; have hfz40_3 := blk_frozen BK549.out 3; have hnb41 := NB550_536.out; have hnc41 := NB536_550.out; have hnb42 := NB550_537.out; have hnc42 := NB537_550.out; have hcz43_0 : w36.cell? ⟨gb550, 0, none⟩ = some (.int .i64 0) := (blk_cell BK550.out 0).trans rfl; have hcz43_1 : w36.cell? ⟨gb550, 1, none⟩ = some (.int .i64 0) := (blk_cell BK550.out 1).trans rfl; have hfz43_0 := blk_frozen BK550.out 0; have hfz43_1 := blk_frozen BK550.out 1; obtain ⟨Ao44, co44, eo44⟩ := Kd.S_slice HO_5.out; subst eo44; obtain ⟨Ao45, co45, eo45⟩ := Kd.S_slice HO546.out; subst eo45) | ((with_reducible refine gate_callee (f := 23) rfl ?_); refine goesL_ (some 55) rfl rfl Try.func23 (by kernel_rfl) rfl #[.slice Ao44 t531.length co44, .slice Ao45 t544.length co45] rfl (by (try simp only [List.map_toArray, List.map_cons, List.map_nil]); first | done | rfl | (simp only [List.length_drop, List.length_take]; rfl)) ?_; (with_reducible refine (umpireref09_Same.calls k2 _ _ t531 _ _ t544 t551 _ ?side1 ?side2 ?side3 ?side4 A33.out).mono ?_); (case side1 => refine (Kd.S_reads' (e := 46) (base := w.heap.size) (ok := fun k_ => (some k_ ≠ (.slice Ao16 x3_2.length co16 : Value).ownBlock ∧ some k_ ≠ (.slice Ao45 t544.length co45 : Value).ownBlock)) (n := t531.length) (c := co44) ?_).2.2; exact (by (with_reducible repeat (first | apply Kd.S_alloc | apply Kd.S_drewN | apply Kd.S_drew)); exact (Kd.S_mono (Kd.S_mono (Kd.S_far (p := ⟨gb550, 1, none⟩) (Kd.S_far (p := ⟨gb550, 0, none⟩) (Kd.S_far (p := ⟨gb549, 3, none⟩) (Kd.S_far (p := ⟨gb549, 2, none⟩) (Kd.S_far (p := ⟨gb549, 1, none⟩) (Kd.S_far (p := ⟨gb549, 0, none⟩) (Kd.S_types (Kd.S_types HO_5.out BK549.out (by decide)) BK550.out (by decide)) (fun _ hk => hk.1.2) (.bool t540)) (fun _ hk => hk.1.2) (.bool t541)) (fun _ hk => hk.1.2) (.int .u32 t542)) (fun _ hk => hk.1.2) (.int .u32 t543)) (fun _ hk => hk.2) (.int .i64 t547)) (fun _ hk => hk.2) (.int .i64 t548)) (fun _ h_ => h_.1)) (fun _ h_ => h_.1)))); (case side2 => exact (Kd.S_reads' HO_5.out).2.1); (case side3 => refine (Kd.S_reads' (e := 46) (base := w.heap.size) (ok := fun k_ => ((True ∧ some k_ ≠ (.slice Ao16 x3_2.length co16 : Value).ownBlock) ∧ some k_ ≠ (.slice Ao44 t531.length co44 : Value).ownBlock)) (n := t544.length) (c := co45) ?_).2.2; exact (by (with_reducible repeat (first | apply Kd.S_alloc | apply Kd.S_drewN | apply Kd.S_drew)); exact (Kd.S_mono (Kd.S_mono (Kd.S_far (p := ⟨gb550, 1, none⟩) (Kd.S_far (p := ⟨gb550, 0, none⟩) (Kd.S_far (p := ⟨gb549, 3, none⟩) (Kd.S_far (p := ⟨gb549, 2, none⟩) (Kd.S_far (p := ⟨gb549, 1, none⟩) (Kd.S_far (p := ⟨gb549, 0, none⟩) (Kd.S_types (Kd.S_types HO546.out BK549.out (by decide)) BK550.out (by decide)) (fun _ hk => hk.1.2) (.bool t540)) (fun _ hk => hk.1.2) (.bool t541)) (fun _ hk => hk.1.2) (.int .u32 t542)) (fun _ hk => hk.1.2) (.int .u32 t543)) (fun _ hk => hk.2) (.int .i64 t547)) (fun _ hk => hk.2) (.int .i64 t548)) (fun _ h_ => h_.1)) (fun _ h_ => h_.1)))); (case side4 => exact (Kd.S_reads' HO546.out).2.1); rintro e w' ⟨rfl, ⟨nd, rfl⟩⟩; refine ⟨_, rfl, ?_⟩))
                  go_ret
                  exact ⟨by first | rfl | (simp [errW_none, errW_some] <;> rfl) | (simp [*, errW_none, errW_some] <;> rfl), by repeat (first | (with_reducible first | exact HB.out | apply below_alloc | apply pw_below_drewN | apply below_drew1 | refine below_set ?_ GE536.out | refine below_set ?_ GE537.out | refine below_set ?_ GE549.out | refine below_set ?_ GE550.out) | exact HB.out)⟩
          · rw [if_neg c12] at H
            exact absurd H (by simp)
        · rw [if_neg c10] at H
          exact absurd H (by simp)

/-- THE ONE PURE STATEMENT of umpirelaw09_PcapKeeps: yours. -/
def umpirelaw09_PcapKeeps.Pure : Prop := ∀ (l0 : List Int), l0.length ≤ maxLen → l0.length * 1 ≤ 140737488351232 → (∀ x ∈ l0, (Lit.int .u8 x).wf = true) → ∃ k, umpirelaw09_PcapKeeps.f k l0 = some true
theorem umpirelaw09_PcapKeeps.walk (P : umpirelaw09_PcapKeeps.Pure) (a0 : Option Addr) (len0 cap0 : Nat) (z0 : List Int) (w : World) (w0 : (a0 = none ∧ len0 = 0 ∧ cap0 = 0 ∧ z0 = []) ∨ ∃ x, a0 = some x ∧ len0 ≤ cap0 ∧ cap0 ≤ maxLen ∧ z0.length = cap0 ∧ (∀ i, i < z0.length → w.cell? (x.add i) = some (.int .u8 (z0.getD i 0))) ∧ ∀ n ∈ z0, (Lit.int .u8 n).wf = true) (y0 : len0 * 1 ≤ 140737488351232) :
    Calls Try.prog 8 #[.slice a0 len0 cap0] w fun e w' => e = .returned (.bool true) ∧ Below w.heap.size w w' := by
  obtain ⟨l0, rfl, hr0, hm0, hw0, hc0⟩ := ReadsInt.ofRowC w0
  obtain ⟨k, h⟩ := P l0 hm0 y0 hw0
  refine (umpirelaw09_PcapKeeps.calls k _ _ l0 true w (Kd.C_of_reads (d := (0 : Int)) (h1 := fun _ => rfl) hr0) hc0 h).mono ?_
  rintro e w' ⟨rfl, hd⟩
  exact ⟨rfl, hd⟩

end Go.Proofs.Ytnjimecjpnjojaa.Print
