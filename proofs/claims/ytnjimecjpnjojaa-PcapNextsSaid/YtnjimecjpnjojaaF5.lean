-- laid by this session's own program (wip/mkprint.sh) for this claim
import Derived.Test.Ytnjimecjpnjojaa0
import Derived.Test.YtnjimecjpnjojaaF15
import Derived.Test.YtnjimecjpnjojaaF23
import Derived.Test.YtnjimecjpnjojaaF24
import Derived.Test.YtnjimecjpnjojaaF25
namespace Go.Proofs.Ytnjimecjpnjojaa.Print
open Go.RowKit Go.Proofs.YtnjimecjpnjojaaW.PrintWords Go.Proofs.YtnjimecjpnjojaaW.PrintLast Go.Proofs.YtnjimecjpnjojaaW.PrintMore
attribute [local go_sem] max2_int min2_int max_two min_two max_three min_three max_four min_four   -- for this text's walks alone
set_option linter.unusedVariables false
set_option linter.unusedSimpArgs false

/-! ### umpirelaw09_PcapNexts: function 5 -/
def umpirelaw09_PcapNexts.j0 : Nat → List Int → Bool → Bool → Option (Bool)
  | 0, _, _, _ => none
  | k + 1, x0, x1, x17 => if x17 = true then ((umpirelaw09_awake.f k).bind fun t383 => (some t383)) else ((pcap_Next.f k x0 x1).bind fun bt384 => ((umpireref09_Next.f k x0 x1).bind fun bt393 => ((umpireref09_Same.f k (([(⟨bt384.1, bt384.2.1, bt384.2.2.1, bt384.2.2.2.1⟩ : S46)] : List (S46))) (([(⟨bt393.1, bt393.2.1, bt393.2.2.1, bt393.2.2.2.1⟩ : S46)] : List (S46)))).bind fun t408 => (if t408 = true then (if bt384.2.2.2.2.1 = bt393.2.2.2.2.1 then (some (bt384.2.2.2.2.2 == bt393.2.2.2.2.2)) else (none)) else (none)))))
def umpirelaw09_PcapNexts.f (k : Nat) (l0 : List Int) (a1 : Bool) : Option (Bool) := (umpirelaw09_awake.f k).bind fun t382 => (if t382 = true then (umpirelaw09_PcapNexts.j0 k l0 a1 (decide ((l0.length : Int) > 140000))) else (umpirelaw09_PcapNexts.j0 k l0 a1 true))
theorem umpirelaw09_PcapNexts.mono_l : ∀ k, (∀ y0 y1 y2, LeO (umpirelaw09_PcapNexts.j0 k y0 y1 y2) (umpirelaw09_PcapNexts.j0 (k + 1) y0 y1 y2))
  | 0 => fun _ _ _ r h => by simp [umpirelaw09_PcapNexts.j0] at h
  | k + 1 => by
    have ih0 := umpirelaw09_PcapNexts.mono_l k
    · intro y0 y1 y2
      unfold umpirelaw09_PcapNexts.j0
      repeat' first
      | (with_reducible exact ih0 _ _ _)
      | (with_reducible exact pcap_Next.mono _ _ _)
      | (with_reducible exact umpirelaw09_awake.mono _)
      | (with_reducible exact umpireref09_Next.mono _ _ _)
      | (with_reducible exact umpireref09_Same.mono _ _ _)
      | (with_reducible exact LeO.refl _)
      | (with_reducible exact LeO.none _)
      | (with_reducible refine LeO.ite ?_ ?_)
      | (with_reducible refine LeO.bind ?_ (fun _ => ?_))
      | exact ih0 _ _ _
      | exact pcap_Next.mono _ _ _
      | exact umpirelaw09_awake.mono _
      | exact umpireref09_Next.mono _ _ _
      | exact umpireref09_Same.mono _ _ _
      | exact LeO.none _
      | refine LeO.ite ?_ ?_
      | refine LeO.bind ?_ (fun _ => ?_)
theorem umpirelaw09_PcapNexts.mono : ∀ a0 a1 k, LeO (umpirelaw09_PcapNexts.f k a0 a1) (umpirelaw09_PcapNexts.f (k + 1) a0 a1) := by
  intro a0 a1 k
  have ih0 := umpirelaw09_PcapNexts.mono_l k
  unfold umpirelaw09_PcapNexts.f
  repeat' first
      | (with_reducible exact ih0 _ _ _)
      | (with_reducible exact pcap_Next.mono _ _ _)
      | (with_reducible exact umpirelaw09_awake.mono _)
      | (with_reducible exact umpireref09_Next.mono _ _ _)
      | (with_reducible exact umpireref09_Same.mono _ _ _)
      | (with_reducible exact LeO.refl _)
      | (with_reducible exact LeO.none _)
      | (with_reducible refine LeO.ite ?_ ?_)
      | (with_reducible refine LeO.bind ?_ (fun _ => ?_))
      | exact ih0 _ _ _
      | exact pcap_Next.mono _ _ _
      | exact umpirelaw09_awake.mono _
      | exact umpireref09_Next.mono _ _ _
      | exact umpireref09_Same.mono _ _ _
      | exact LeO.none _
      | refine LeO.ite ?_ ?_
      | refine LeO.bind ?_ (fun _ => ?_)
set_option maxHeartbeats 8000000 in
set_option maxRecDepth 100000 in
theorem umpirelaw09_PcapNexts.calls (k : Nat) (A0 : Option Addr) (c0 : Nat) (l0 : List Int) (a1 : Bool) (r : Bool) (w : World) (hr0 : Kd.C (Kd.int .u8) w A0 l0.length l0) (hc0 : l0.length ≤ c0) (h : umpirelaw09_PcapNexts.f k l0 a1 = some r) :
    Calls Try.prog 5 #[.slice A0 l0.length c0, .bool a1] w fun e w' => e = .returned (.bool r) ∧ Below w.heap.size w w' := by
  have hu46 := Try.underlying46
  have HR0 := Aside0.mk hr0
  have HC0 := Aside0.mk hc0
  clear hr0 hc0
  have HB := Aside0.mk (Below.refl w.heap.size w)
  have H : ((umpirelaw09_awake.f k).bind fun t382 => (if t382 = true then (umpirelaw09_PcapNexts.j0 k l0 a1 (decide ((l0.length : Int) > 140000))) else (umpirelaw09_PcapNexts.j0 k l0 a1 true))) = some r := h
  clear h
  have HC3 := Aside0.mk H
  clear H
  go_enter Try.func5, Try.ntmps5
  go_upto_region 1 with (fail)
  go_cut [17] (fun v17 wc => ∃ (kq : Nat) (x17_2 : Bool), v17 = .bool x17_2 ∧ Aside0 (umpirelaw09_PcapNexts.j0 kq l0 a1 x17_2 = some r) ∧ Aside0 (kq ≤ k) ∧ Aside0 (Below w.heap.size w wc))
  case first =>
    have H := HC3.out
    clear HC3
    replace H := Option.bind_eq_some_iff.mp H
    obtain ⟨t382, A40, H⟩ := H
    replace H : (if t382 = true then (umpirelaw09_PcapNexts.j0 k l0 a1 (decide ((l0.length : Int) > 140000))) else (umpirelaw09_PcapNexts.j0 k l0 a1 true)) = some r := H
    have A4 := Aside0.mk A40
    clear A40
    by_cases c5 : t382 = true
    · subst c5
      have H1 : (umpirelaw09_PcapNexts.j0 k l0 a1 (decide ((l0.length : Int) > 140000))) = some r := by rw [if_pos rfl] at H; exact H
      clear H
      have H := H1
      clear H1
      have H' := Aside0.mk H
      clear H
      go_wp2_with (first | ((with_reducible refine gate_callee (f := 15) rfl ?_); refine goesL_ (some 11) rfl rfl Try.func15 (by kernel_rfl) rfl #[] rfl (by (try simp only [List.map_toArray, List.map_cons, List.map_nil]); first | done | rfl | (simp only [List.length_drop, List.length_take]; rfl)) ?_; (with_reducible refine (umpirelaw09_awake.calls k  true _ A4.out).mono ?_); rintro e w6 ⟨rfl, hb⟩; refine ⟨_, rfl, ?_⟩; have n0_ := Aside0.mk (below_step (by repeat (first | (with_reducible first | exact HB.out | apply below_alloc | apply pw_below_drewN | apply below_drew1) | exact HB.out)) hb); clear HB; have HB := n0_; clear n0_; (try clear hb); (try clear hb2); (try clear hk); (try clear hi)))
      go_meet
      case rel => exact ⟨_, (decide ((l0.length : Int) > 140000)), (by first | rfl | (simp; done) | (simp [*]; done)), H', ⟨by first | omega | exact Nat.le_refl _⟩, ⟨by repeat (first | (with_reducible first | exact HB.out | apply below_alloc | apply pw_below_drewN | apply below_drew1) | exact HB.out)⟩⟩
    · replace c5 := Bool.eq_false_iff.mpr c5
      subst c5
      have H1 : (umpirelaw09_PcapNexts.j0 k l0 a1 true) = some r := by rw [if_neg (show ¬ (false = true) by decide)] at H; exact H
      clear H
      have H := H1
      clear H1
      have H' := Aside0.mk H
      clear H
      go_wp2_with (first | ((with_reducible refine gate_callee (f := 15) rfl ?_); refine goesL_ (some 11) rfl rfl Try.func15 (by kernel_rfl) rfl #[] rfl (by (try simp only [List.map_toArray, List.map_cons, List.map_nil]); first | done | rfl | (simp only [List.length_drop, List.length_take]; rfl)) ?_; (with_reducible refine (umpirelaw09_awake.calls k  false _ A4.out).mono ?_); rintro e w7 ⟨rfl, hb⟩; refine ⟨_, rfl, ?_⟩; have n0_ := Aside0.mk (below_step (by repeat (first | (with_reducible first | exact HB.out | apply below_alloc | apply pw_below_drewN | apply below_drew1) | exact HB.out)) hb); clear HB; have HB := n0_; clear n0_; (try clear hb); (try clear hb2); (try clear hk); (try clear hi)))
      go_meet
      case rel => exact ⟨_, (true), (by first | rfl | (simp; done) | (simp [*]; done)), H', ⟨by first | omega | exact Nat.le_refl _⟩, ⟨by repeat (first | (with_reducible first | exact HB.out | apply below_alloc | apply pw_below_drewN | apply below_drew1) | exact HB.out)⟩⟩
  case rest =>
    clear HC3
    try clear c1
    try clear p2
    try clear c5
    obtain ⟨kq, x17_2, rfl, HA, HJ2, HB⟩ := hcut
    cases kq with
    | zero => exact absurd HA.out (by simp [umpirelaw09_PcapNexts.j0])
    | succ kj2 =>
      have H := HA.out
      clear HA
      simp only [umpirelaw09_PcapNexts.j0] at H
      by_cases c8 : x17_2 = true
      · subst c8
        have H1 : ((umpirelaw09_awake.f kj2).bind fun t383 => (some t383)) = some r := by rw [if_pos rfl] at H; exact H
        clear H
        have H := H1
        clear H1
        replace H := Option.bind_eq_some_iff.mp H
        obtain ⟨t383, A90, H⟩ := H
        replace H : (some t383) = some r := H
        have A9 := Aside0.mk A90
        clear A90
        obtain rfl := Option.some.inj H
        go_wp2_with (first | ((with_reducible refine gate_callee (f := 15) rfl ?_); refine goesL_ (some 18) rfl rfl Try.func15 (by kernel_rfl) rfl #[] rfl (by (try simp only [List.map_toArray, List.map_cons, List.map_nil]); first | done | rfl | (simp only [List.length_drop, List.length_take]; rfl)) ?_; (with_reducible refine (umpirelaw09_awake.calls kj2  t383 _ A9.out).mono ?_); rintro e w10 ⟨rfl, hb⟩; refine ⟨_, rfl, ?_⟩; have n0_ := Aside0.mk (below_step (by repeat (first | (with_reducible first | exact HB.out | apply below_alloc | apply pw_below_drewN | apply below_drew1) | exact HB.out)) hb); clear HB; have HB := n0_; clear n0_; (try clear hb); (try clear hb2); (try clear hk); (try clear hi)))
        go_ret
        exact ⟨by first | rfl | (simp [errW_none, errW_some] <;> rfl) | (simp [*, errW_none, errW_some] <;> rfl), by repeat (first | (with_reducible first | exact HB.out | apply below_alloc | apply pw_below_drewN | apply below_drew1) | exact HB.out)⟩
      · replace c8 := Bool.eq_false_iff.mpr c8
        subst c8
        have H1 : ((pcap_Next.f kj2 l0 a1).bind fun bt384 => ((umpireref09_Next.f kj2 l0 a1).bind fun bt393 => ((umpireref09_Same.f kj2 (([(⟨bt384.1, bt384.2.1, bt384.2.2.1, bt384.2.2.2.1⟩ : S46)] : List (S46))) (([(⟨bt393.1, bt393.2.1, bt393.2.2.1, bt393.2.2.2.1⟩ : S46)] : List (S46)))).bind fun t408 => (if t408 = true then (if bt384.2.2.2.2.1 = bt393.2.2.2.2.1 then (some (bt384.2.2.2.2.2 == bt393.2.2.2.2.2)) else (none)) else (none))))) = some r := by rw [if_neg (show ¬ (false = true) by decide)] at H; exact H
        clear H
        have H := H1
        clear H1
        replace H := Option.bind_eq_some_iff.mp H
        obtain ⟨⟨t384, t385, t386, t387, t390, t391⟩, A110, H⟩ := H
        replace H : ((umpireref09_Next.f kj2 l0 a1).bind fun bt393 => ((umpireref09_Same.f kj2 (([(⟨t384, t385, t386, t387⟩ : S46)] : List (S46))) (([(⟨bt393.1, bt393.2.1, bt393.2.2.1, bt393.2.2.2.1⟩ : S46)] : List (S46)))).bind fun t408 => (if t408 = true then (if t390 = bt393.2.2.2.2.1 then (some (t391 == bt393.2.2.2.2.2)) else (none)) else (none)))) = some r := H
        have A11 := Aside0.mk A110
        clear A110
        replace H := Option.bind_eq_some_iff.mp H
        obtain ⟨⟨t393, t394, t395, t396, t399, t400⟩, A120, H⟩ := H
        replace H : ((umpireref09_Same.f kj2 (([(⟨t384, t385, t386, t387⟩ : S46)] : List (S46))) (([(⟨t393, t394, t395, t396⟩ : S46)] : List (S46)))).bind fun t408 => (if t408 = true then (if t390 = t399 then (some (t391 == t400)) else (none)) else (none))) = some r := H
        have A12 := Aside0.mk A120
        clear A120
        obtain ⟨y402, hy402⟩ : ∃ y_ : List (S46), y_ = (([(⟨t384, t385, t386, t387⟩ : S46)] : List (S46))) := ⟨_, rfl⟩
        replace H : ((umpireref09_Same.f kj2 y402 (([(⟨t393, t394, t395, t396⟩ : S46)] : List (S46)))).bind fun t408 => (if t408 = true then (if t390 = t399 then (some (t391 == t400)) else (none)) else (none))) = some r := by first | (rw [hy402]; with_reducible exact H) | (have H2_ := (Option.bind_some _ _).symm.trans H; rw [hy402]; with_reducible exact H2_) | (have H2_ := (Option.bind_some _ _).symm.trans H; with_reducible exact H2_) | with_reducible exact H | (rw [hy402]; exact H) | exact H
        have Ny402 := Aside0.mk hy402
        clear hy402
        obtain ⟨y405, hy405⟩ : ∃ y_ : List (S46), y_ = (([(⟨t393, t394, t395, t396⟩ : S46)] : List (S46))) := ⟨_, rfl⟩
        replace H : ((umpireref09_Same.f kj2 y402 y405).bind fun t408 => (if t408 = true then (if t390 = t399 then (some (t391 == t400)) else (none)) else (none))) = some r := by first | (rw [hy405]; with_reducible exact H) | (have H2_ := (Option.bind_some _ _).symm.trans H; rw [hy405]; with_reducible exact H2_) | (have H2_ := (Option.bind_some _ _).symm.trans H; with_reducible exact H2_) | with_reducible exact H | (rw [hy405]; exact H) | exact H
        have Ny405 := Aside0.mk hy405
        clear hy405
        replace H := Option.bind_eq_some_iff.mp H
        obtain ⟨t408, A130, H⟩ := H
        replace H : (if t408 = true then (if t390 = t399 then (some (t391 == t400)) else (none)) else (none)) = some r := H
        have A13 := Aside0.mk A130
        clear A130
        by_cases c14 : t408 = true
        · subst c14
          have H1 : (if t390 = t399 then (some (t391 == t400)) else (none)) = some r := by rw [if_pos rfl] at H; exact H
          clear H
          have H := H1
          clear H1
          by_cases c15 : t390 = t399
          · rw [if_pos c15] at H
            have c15b0 : (t390 == t399) = true := beq_iff_eq.mpr c15
            have c15b1 : (t390 != t399) = false := bne_eq_false_iff_eq.mpr c15
            clear c15
            obtain rfl := Option.some.inj H
            go_wp2_with (first | ((with_reducible refine gate_callee (f := 24) rfl ?_); refine goesL_ (some 22) rfl rfl Try.func24 (by kernel_rfl) rfl #[.slice A0 l0.length c0, .bool a1] rfl (by (try simp only [List.map_toArray, List.map_cons, List.map_nil]); first | done | rfl | (simp only [List.length_drop, List.length_take]; rfl)) ?_; (with_reducible refine (pcap_Next.calls kj2 _ _ l0 a1 t384 t385 t386 t387 t390 t391 _ ?side1 ?side2 A11.out).mono ?_); (case side1 => repeat (first | exact (Kd.C_below HR0.out HB.out) | (with_reducible refine Kd.C_alloc ?_ _) | (with_reducible refine Kd.C_drewN ?_ _) | (with_reducible refine Kd.C_drew ?_))); (case side2 => exact HC0.out); rintro e w16 ⟨v388, rfl, ho0, hb⟩; refine ⟨_, rfl, ?_⟩; have n0_ := Aside0.mk (Kd.R_lower ho0 (below_size (by repeat (first | (with_reducible first | exact HB.out | apply below_alloc | apply pw_below_drewN | apply below_drew1) | exact HB.out)))); have n1_ := Aside0.mk (below_step (by repeat (first | (with_reducible first | exact HB.out | apply below_alloc | apply pw_below_drewN | apply below_drew1) | exact HB.out)) hb); clear HB; have HO389 := n0_; have HB := n1_; clear n0_ n1_; (try clear hb); (try clear hb2); (try clear hk); (try clear hi); (try clear ho0)) | ((with_reducible refine gate_dst (N := 5) rfl ?_); (try (refine gate_guard (by rfl) ?_; dsimp only)); refine box_event ?hg (N := 5) ?hd (cs := #[.int .u32 0, .int .u32 0, .int .u32 0, .slice none 0 0]) (t := 46) ?hr ?_; (case hd => rfl); (case hg => rfl); (case hr => first | (go_simp; done) | (go_simp; rfl)); intro gb392 hg w17 hbox hb; have n0_ := Aside0.mk (Kd.R_below (by (with_reducible repeat (first | apply Kd.R_alloc | apply Kd.R_drewN | apply Kd.R_drew)); exact HO389.out) hb); have n1_ := Aside0.mk (below_step (by repeat (first | (with_reducible first | exact HB.out | apply below_alloc | apply pw_below_drewN | apply below_drew1) | exact HB.out)) hb); have n2_ := Aside0.mk (hbox); have n3_ := Aside0.mk ((by rw [hg]; exact (below_size (by repeat (first | (with_reducible first | exact HB.out | apply below_alloc | apply pw_below_drewN | apply below_drew1) | exact HB.out))) : w.heap.size ≤ gb392)); have n4_ := Aside0.mk ((by rw [hg]; exact (below_size (by repeat (first | (with_reducible first | exact HB.out | apply below_alloc | apply pw_below_drewN | apply below_drew1) | exact HB.out))) : w.heap.size ≤ gb392)); clear HO389; clear HB; have HO389 := n0_; have HB := n1_; have BK392 := n2_; have GW392 := n3_; have GE392 := n4_; clear n0_ n1_ n2_ n3_ n4_; clear hb hbox hg; have hcz18_0 : w17.cell? ⟨gb392, 0, none⟩ = some (.int .u32 0) := (blk_cell BK392.out 0).trans rfl; have hcz18_1 : w17.cell? ⟨gb392, 1, none⟩ = some (.int .u32 0) := (blk_cell BK392.out 1).trans rfl; have hcz18_2 : w17.cell? ⟨gb392, 2, none⟩ = some (.int .u32 0) := (blk_cell BK392.out 2).trans rfl; have hcz18_3 : w17.cell? ⟨gb392, 3, none⟩ = some (.slice none 0 0) := (blk_cell BK392.out 3).trans rfl; have hfz18_0 := blk_frozen BK392.out 0; have hfz18_1 := blk_frozen BK392.out 1; have hfz18_2 := blk_frozen BK392.out 2; have hfz18_3 := blk_frozen BK392.out 3; obtain ⟨Ao19, co19, eo19⟩ := Kd.R_slice HO389.out; subst eo19) | ((with_reducible refine gate_callee (f := 25) rfl ?_); refine goesL_ (some 29) rfl rfl Try.func25 (by kernel_rfl) rfl #[.slice A0 l0.length c0, .bool a1] rfl (by (try simp only [List.map_toArray, List.map_cons, List.map_nil]); first | done | rfl | (simp only [List.length_drop, List.length_take]; rfl)) ?_; (with_reducible refine (umpireref09_Next.calls kj2 _ _ l0 a1 t393 t394 t395 t396 t399 t400 _ ?side1 ?side2 A12.out).mono ?_); (case side1 => exact Kd.C_below HR0.out (by repeat (first | (with_reducible first | exact HB.out | apply below_alloc | apply pw_below_drewN | apply below_drew1 | refine below_set ?_ GE392.out) | exact HB.out))); (case side2 => exact HC0.out); rintro e w20 ⟨v397, rfl, ho0, hb⟩; refine ⟨_, rfl, ?_⟩; have n0_ := Aside0.mk (Kd.R_elder' (by (with_reducible repeat (first | apply Kd.R_alloc | apply Kd.R_drewN | apply Kd.R_drew)); exact (Kd.R_mono (Kd.R_far (p := ⟨gb392, 3, none⟩) (Kd.R_far (p := ⟨gb392, 2, none⟩) (Kd.R_far (p := ⟨gb392, 1, none⟩) (Kd.R_far (p := ⟨gb392, 0, none⟩) (Kd.R_types HO389.out BK392.out (by decide)) (fun _ hk => hk.2) (.int .u32 t384)) (fun _ hk => hk.2) (.int .u32 t385)) (fun _ hk => hk.2) (.int .u32 t386)) (fun _ hk => hk.2) (.slice Ao19 t387.length co19)) (fun _ h_ => h_.1))) (by first | exact Kd.R_base ho0 | exact Kd.N_base (Kd.S_N (Kd.S_bound ho0)) | exact Kd.R_base ho0 | exact Kd.S_base ho0) hb); have n1_ := Aside0.mk (Kd.R_lower (Kd.R_new' ho0 (Kd.R_lt (by (with_reducible repeat (first | apply Kd.R_alloc | apply Kd.R_drewN | apply Kd.R_drew)); exact (Kd.R_mono (Kd.R_far (p := ⟨gb392, 3, none⟩) (Kd.R_far (p := ⟨gb392, 2, none⟩) (Kd.R_far (p := ⟨gb392, 1, none⟩) (Kd.R_far (p := ⟨gb392, 0, none⟩) (Kd.R_types HO389.out BK392.out (by decide)) (fun _ hk => hk.2) (.int .u32 t384)) (fun _ hk => hk.2) (.int .u32 t385)) (fun _ hk => hk.2) (.int .u32 t386)) (fun _ hk => hk.2) (.slice Ao19 t387.length co19)) (fun _ h_ => h_.1))))) (below_size (by repeat (first | (with_reducible first | exact HB.out | apply below_alloc | apply pw_below_drewN | apply below_drew1 | refine below_set ?_ GE392.out) | exact HB.out)))); have n2_ := Aside0.mk (blk_below (g := gb392) (o := .cells #[.int .u32 t384, .int .u32 t385, .int .u32 t386, .slice Ao19 t387.length co19] 46 (0, 0)) (by (with_reducible repeat (first | refine blk_drewN ?_ _ | refine blk_drew ?_ | refine blk_alloc ?_ _)); refine blk_put (cs := #[.int .u32 t384, .int .u32 t385, .int .u32 t386, .slice none 0 0]) ?_ 3 _ rfl; (with_reducible repeat (first | refine blk_drewN ?_ _ | refine blk_drew ?_ | refine blk_alloc ?_ _)); refine blk_put (cs := #[.int .u32 t384, .int .u32 t385, .int .u32 0, .slice none 0 0]) ?_ 2 _ rfl; (with_reducible repeat (first | refine blk_drewN ?_ _ | refine blk_drew ?_ | refine blk_alloc ?_ _)); refine blk_put (cs := #[.int .u32 t384, .int .u32 0, .int .u32 0, .slice none 0 0]) ?_ 1 _ rfl; (with_reducible repeat (first | refine blk_drewN ?_ _ | refine blk_drew ?_ | refine blk_alloc ?_ _)); refine blk_put (cs := #[.int .u32 0, .int .u32 0, .int .u32 0, .slice none 0 0]) ?_ 0 _ rfl; (with_reducible repeat (first | refine blk_drewN ?_ _ | refine blk_drew ?_ | refine blk_alloc ?_ _)); exact BK392.out) hb); have n3_ := Aside0.mk (below_step (by repeat (first | (with_reducible first | exact HB.out | apply below_alloc | apply pw_below_drewN | apply below_drew1 | refine below_set ?_ GE392.out) | exact HB.out)) hb); clear HO389; clear BK392; clear HB; have HO389 := n0_; have HO398 := n1_; have BK392 := n2_; have HB := n3_; clear n0_ n1_ n2_ n3_; (try clear hb); (try clear hb2); (try clear hk); (try clear hi); (try clear ho0)) | ((with_reducible refine gate_dst (N := 8) rfl ?_); (try (refine gate_guard (by rfl) ?_; dsimp only)); refine box_event ?hg (N := 8) ?hd (cs := #[.int .u32 0, .int .u32 0, .int .u32 0, .slice none 0 0]) (t := 46) ?hr ?_; (case hd => rfl); (case hg => rfl); (case hr => first | (go_simp; done) | (go_simp; rfl)); intro gb401 hg w21 hbox hb; have n0_ := Aside0.mk (Kd.R_below (by (with_reducible repeat (first | apply Kd.R_alloc | apply Kd.R_drewN | apply Kd.R_drew)); exact HO389.out) hb); have n1_ := Aside0.mk (Kd.R_below (by (with_reducible repeat (first | apply Kd.R_alloc | apply Kd.R_drewN | apply Kd.R_drew)); exact HO398.out) hb); have n2_ := Aside0.mk (blk_below (g := gb392) (o := .cells #[.int .u32 t384, .int .u32 t385, .int .u32 t386, .slice Ao19 t387.length co19] 46 (0, 0)) (by (with_reducible repeat (first | refine blk_drewN ?_ _ | refine blk_drew ?_ | refine blk_alloc ?_ _)); exact BK392.out) hb); have n3_ := Aside0.mk (below_step (by repeat (first | (with_reducible first | exact HB.out | apply below_alloc | apply pw_below_drewN | apply below_drew1 | refine below_set ?_ GE392.out) | exact HB.out)) hb); have n4_ := Aside0.mk (hbox); have n5_ := Aside0.mk ((by rw [hg]; exact (below_size (by repeat (first | (with_reducible first | exact HB.out | apply below_alloc | apply pw_below_drewN | apply below_drew1 | refine below_set ?_ GE392.out) | exact HB.out))) : w.heap.size ≤ gb401)); have n6_ := Aside0.mk ((by rw [hg]; exact (below_size (by repeat (first | (with_reducible first | exact HB.out | apply below_alloc | apply pw_below_drewN | apply below_drew1 | refine below_set ?_ GE392.out) | exact HB.out))) : w.heap.size ≤ gb401)); have n7_ := Aside0.mk ((by rw [hg]; exact Nat.ne_of_lt (blk_lt (g := gb392) (o := .cells #[.int .u32 t384, .int .u32 t385, .int .u32 t386, .slice Ao19 t387.length co19] 46 (0, 0)) (by (with_reducible repeat (first | refine blk_drewN ?_ _ | refine blk_drew ?_ | refine blk_alloc ?_ _)); exact BK392.out)) : gb392 ≠ gb401)); have n8_ := Aside0.mk ((by rw [hg]; exact Nat.ne_of_gt (blk_lt (g := gb392) (o := .cells #[.int .u32 t384, .int .u32 t385, .int .u32 t386, .slice Ao19 t387.length co19] 46 (0, 0)) (by (with_reducible repeat (first | refine blk_drewN ?_ _ | refine blk_drew ?_ | refine blk_alloc ?_ _)); exact BK392.out)) : gb401 ≠ gb392)); clear HO389; clear HO398; clear BK392; clear HB; have HO389 := n0_; have HO398 := n1_; have BK392 := n2_; have HB := n3_; have BK401 := n4_; have GW401 := n5_; have GE401 := n6_; have NB392_401 := n7_; have NB401_392 := n8_; clear n0_ n1_ n2_ n3_ n4_ n5_ n6_ n7_ n8_; clear hb hbox hg; have hnb22 := NB401_392.out; have hnc22 := NB392_401.out; have hcz23_0 : w21.cell? ⟨gb401, 0, none⟩ = some (.int .u32 0) := (blk_cell BK401.out 0).trans rfl; have hcz23_1 : w21.cell? ⟨gb401, 1, none⟩ = some (.int .u32 0) := (blk_cell BK401.out 1).trans rfl; have hcz23_2 : w21.cell? ⟨gb401, 2, none⟩ = some (.int .u32 0) := (blk_cell BK401.out 2).trans rfl; have hcz23_3 : w21.cell? ⟨gb401, 3, none⟩ = some (.slice none 0 0) := (blk_cell BK401.out 3).trans rfl; have hfz23_0 := blk_frozen BK401.out 0; have hfz23_1 := blk_frozen BK401.out 1; have hfz23_2 := blk_frozen BK401.out 2; have hfz23_3 := blk_frozen BK401.out 3; obtain ⟨Ao24, co24, eo24⟩ := Kd.R_slice HO398.out; subst eo24) | ((with_reducible refine gate_store (t := 46) (p := 8) rfl ?_); refine store_event (t := 46) (p := 8) (v := ?vo_w25) (w1 := ((((w21.setCell ⟨gb401, 0, none⟩ (.int .u32 t393)).setCell ⟨gb401, 1, none⟩ (.int .u32 t394)).setCell ⟨gb401, 2, none⟩ (.int .u32 t395)).setCell ⟨gb401, 3, none⟩ (.slice Ao24 t396.length co24))) ?hg ?ho ?hn ?hr ?_; (case ho => rfl); (case hg => rfl); (case hn => rfl); (case hr => first | (go_simp; done) | (go_simp; rfl)); intro w25 hw; have n0_ : Aside0 (Kd.R (Kd.int .u8) 5 w25 w.heap.size (fun k_ => some k_ ≠ (.slice Ao24 t396.length co24 : Value).ownBlock) (.slice Ao19 t387.length co19) t387) := ⟨(by rw [hw]; exact (by (with_reducible repeat (first | apply Kd.R_alloc | apply Kd.R_drewN | apply Kd.R_drew)); exact Kd.R_mono (Kd.R_far (p := ⟨gb401, 3, none⟩) (Kd.R_far (p := ⟨gb401, 2, none⟩) (Kd.R_far (p := ⟨gb401, 1, none⟩) (Kd.R_far (p := ⟨gb401, 0, none⟩) (Kd.R_types HO389.out BK401.out (by decide)) (fun _ hk => hk.2) (.int .u32 t393)) (fun _ hk => hk.2) (.int .u32 t394)) (fun _ hk => hk.2) (.int .u32 t395)) (fun _ hk => hk.2) (.slice Ao24 t396.length co24)) (fun _ hk => hk.1.2)))⟩; have n1_ : Aside0 (Kd.R (Kd.int .u8) 5 w25 w.heap.size (fun k_ => some k_ ≠ (.slice Ao19 t387.length co19 : Value).ownBlock) (.slice Ao24 t396.length co24) t396) := ⟨(by rw [hw]; exact (by (with_reducible repeat (first | apply Kd.R_alloc | apply Kd.R_drewN | apply Kd.R_drew)); exact Kd.R_mono (Kd.R_far (p := ⟨gb401, 3, none⟩) (Kd.R_far (p := ⟨gb401, 2, none⟩) (Kd.R_far (p := ⟨gb401, 1, none⟩) (Kd.R_far (p := ⟨gb401, 0, none⟩) (Kd.R_types HO398.out BK401.out (by decide)) (fun _ hk => hk.2) (.int .u32 t393)) (fun _ hk => hk.2) (.int .u32 t394)) (fun _ hk => hk.2) (.int .u32 t395)) (fun _ hk => hk.2) (.slice Ao24 t396.length co24)) (fun _ hk => hk.1.2)))⟩; have n2_ : Aside0 (w25.heap[gb392]? = some (.cells #[.int .u32 t384, .int .u32 t385, .int .u32 t386, .slice Ao19 t387.length co19] 46 (0, 0))) := ⟨(by rw [hw]; exact (by (with_reducible repeat (first | refine blk_drewN ?_ _ | refine blk_drew ?_ | refine blk_alloc ?_ _)); refine blk_far ?_ NB392_401.out _; (with_reducible repeat (first | refine blk_drewN ?_ _ | refine blk_drew ?_ | refine blk_alloc ?_ _)); refine blk_far ?_ NB392_401.out _; (with_reducible repeat (first | refine blk_drewN ?_ _ | refine blk_drew ?_ | refine blk_alloc ?_ _)); refine blk_far ?_ NB392_401.out _; (with_reducible repeat (first | refine blk_drewN ?_ _ | refine blk_drew ?_ | refine blk_alloc ?_ _)); refine blk_far ?_ NB392_401.out _; (with_reducible repeat (first | refine blk_drewN ?_ _ | refine blk_drew ?_ | refine blk_alloc ?_ _)); exact BK392.out))⟩; have n3_ : Aside0 (w25.heap[gb401]? = some (.cells #[.int .u32 t393, .int .u32 t394, .int .u32 t395, .slice Ao24 t396.length co24] 46 (0, 0))) := ⟨(by rw [hw]; exact (by (with_reducible repeat (first | refine blk_drewN ?_ _ | refine blk_drew ?_ | refine blk_alloc ?_ _)); refine blk_put (cs := #[.int .u32 t393, .int .u32 t394, .int .u32 t395, .slice none 0 0]) ?_ 3 _ rfl; (with_reducible repeat (first | refine blk_drewN ?_ _ | refine blk_drew ?_ | refine blk_alloc ?_ _)); refine blk_put (cs := #[.int .u32 t393, .int .u32 t394, .int .u32 0, .slice none 0 0]) ?_ 2 _ rfl; (with_reducible repeat (first | refine blk_drewN ?_ _ | refine blk_drew ?_ | refine blk_alloc ?_ _)); refine blk_put (cs := #[.int .u32 t393, .int .u32 0, .int .u32 0, .slice none 0 0]) ?_ 1 _ rfl; (with_reducible repeat (first | refine blk_drewN ?_ _ | refine blk_drew ?_ | refine blk_alloc ?_ _)); refine blk_put (cs := #[.int .u32 0, .int .u32 0, .int .u32 0, .slice none 0 0]) ?_ 0 _ rfl; (with_reducible repeat (first | refine blk_drewN ?_ _ | refine blk_drew ?_ | refine blk_alloc ?_ _)); exact BK401.out))⟩; have n4_ : Aside0 (Below w.heap.size w w25) := ⟨(by rw [hw]; exact (by repeat (first | (with_reducible first | exact HB.out | apply below_alloc | apply pw_below_drewN | apply below_drew1 | refine below_set ?_ GE392.out | refine below_set ?_ GE401.out) | exact HB.out)))⟩; clear hw; clear HO389; clear HO398; clear BK392; clear BK401; clear HB; have HO389 := n0_; have HO398 := n1_; have BK392 := n2_; have BK401 := n3_; have HB := n4_; clear n0_ n1_ n2_ n3_ n4_; have hcz26_0 : w25.cell? ⟨gb392, 0, none⟩ = some (.int .u32 t384) := (blk_cell BK392.out 0).trans rfl; have hcz26_1 : w25.cell? ⟨gb392, 1, none⟩ = some (.int .u32 t385) := (blk_cell BK392.out 1).trans rfl; have hcz26_2 : w25.cell? ⟨gb392, 2, none⟩ = some (.int .u32 t386) := (blk_cell BK392.out 2).trans rfl; have hcz26_3 : w25.cell? ⟨gb392, 3, none⟩ = some (.slice Ao19 t387.length co19) := (blk_cell BK392.out 3).trans rfl; have hfz26_0 := blk_frozen BK392.out 0; have hfz26_1 := blk_frozen BK392.out 1; have hfz26_2 := blk_frozen BK392.out 2; have hfz26_3 := blk_frozen BK392.out 3) | ((with_reducible refine gate_dst (N := 34) rfl ?_); (try (refine gate_guard (by rfl) ?_; dsimp only)); refine Kd.N_lit k46 _ 46 ?hg (N' := 34) ?hd (xs := ([(⟨t384, t385, t386, t387⟩ : S46)] : List (S46))) (inner := [.int .u32 t384, .int .u32 t385, .int .u32 t386, .slice Ao19 t387.length co19]) (ok := (fun k_ => some k_ ≠ (.slice Ao24 t396.length co24 : Value).ownBlock ∧ k_ ≠ gb392 ∧ k_ ≠ gb401)) (okp := (fun k_ => some k_ ≠ (.slice Ao24 t396.length co24 : Value).ownBlock ∧ k_ ≠ gb392 ∧ k_ ≠ gb401)) ?hr ?hp (fun _ hk => hk) ((show ∀ k_, w25.heap.size ≤ k_ → (fun k_ => some k_ ≠ (.slice Ao24 t396.length co24 : Value).ownBlock ∧ k_ ≠ gb392 ∧ k_ ≠ gb401) k_ from fun k_ hk => ⟨Kd.fresh' (Kd.R_lt (by (with_reducible repeat (first | apply Kd.R_alloc | apply Kd.R_drewN | apply Kd.R_drew)); exact HO398.out)) k_ hk, Kd.freshB (g := gb392) (o := .cells #[.int .u32 t384, .int .u32 t385, .int .u32 t386, .slice Ao19 t387.length co19] 46 (0, 0)) (by (with_reducible repeat (first | refine blk_drewN ?_ _ | refine blk_drew ?_ | refine blk_alloc ?_ _)); exact BK392.out) k_ hk, Kd.freshB (g := gb401) (o := .cells #[.int .u32 t393, .int .u32 t394, .int .u32 t395, .slice Ao24 t396.length co24] 46 (0, 0)) (by (with_reducible repeat (first | refine blk_drewN ?_ _ | refine blk_drew ?_ | refine blk_alloc ?_ _)); exact BK401.out) k_ hk⟩) _ (Nat.le_refl _)) (Below.refl _ _) (Nat.le_refl _) (by simp) ?_; (case hd => rfl); (case hg => rfl); (case hr => first | (go_simp; done) | (go_simp; rfl)); (case hp => exact (Reps.c4 (show Kd.FK k46 _ _ (⟨t384, t385, t386, t387⟩ : S46) [.int .u32 t384, .int .u32 t385, .int .u32 t386, .slice Ao19 t387.length co19] from (k46_mkF _ _ (⟨t384, t385, t386, t387⟩ : S46) (Kd.R_reads' (Kd.R_mono (ok' := (fun k_ => some k_ ≠ (.slice Ao24 t396.length co24 : Value).ownBlock ∧ k_ ≠ gb392 ∧ k_ ≠ gb401)) (Kd.R_types (Kd.R_types (HO389.out) BK392.out (by decide)) BK401.out (by decide)) (fun k_ hk => ⟨hk.1.1, ⟨hk.1.2, hk.2⟩⟩))).2.1 (Kd.R_F (Kd.R_mono (ok' := (fun k_ => some k_ ≠ (.slice Ao24 t396.length co24 : Value).ownBlock ∧ k_ ≠ gb392 ∧ k_ ≠ gb401)) (Kd.R_types (Kd.R_types (HO389.out) BK392.out (by decide)) BK401.out (by decide)) (fun k_ hk => ⟨hk.1.1, ⟨hk.1.2, hk.2⟩⟩))))) (Reps.none _ _))); intro v403 w27 ho28 hb hg_ hnew_; clear hg_ hnew_; (first | rw [← Ny402.out] at ho28 | (simp only [Int.reduceToNat] at ho28; rw [← Ny402.out] at ho28)); have n0_ := Aside0.mk (Kd.R_below (by (with_reducible repeat (first | apply Kd.R_alloc | apply Kd.R_drewN | apply Kd.R_drew)); exact HO398.out) hb); have n1_ := Aside0.mk (Kd.N_lower ho28 (below_size (by repeat (first | (with_reducible first | exact HB.out | apply below_alloc | apply pw_below_drewN | apply below_drew1 | refine below_set ?_ GE392.out | refine below_set ?_ GE401.out) | exact HB.out)))); have n2_ := Aside0.mk (blk_below (g := gb392) (o := .cells #[.int .u32 t384, .int .u32 t385, .int .u32 t386, .slice Ao19 t387.length co19] 46 (0, 0)) (by (with_reducible repeat (first | refine blk_drewN ?_ _ | refine blk_drew ?_ | refine blk_alloc ?_ _)); exact BK392.out) hb); have n3_ := Aside0.mk (blk_below (g := gb401) (o := .cells #[.int .u32 t393, .int .u32 t394, .int .u32 t395, .slice Ao24 t396.length co24] 46 (0, 0)) (by (with_reducible repeat (first | refine blk_drewN ?_ _ | refine blk_drew ?_ | refine blk_alloc ?_ _)); exact BK401.out) hb); have n4_ := Aside0.mk (below_step (by repeat (first | (with_reducible first | exact HB.out | apply below_alloc | apply pw_below_drewN | apply below_drew1 | refine below_set ?_ GE392.out | refine below_set ?_ GE401.out) | exact HB.out)) hb); clear HO398; clear BK392; clear BK401; clear HB; clear HO389; have HO398 := n0_; have HO404 := n1_; have BK392 := n2_; have BK401 := n3_; have HB := n4_; clear n0_ n1_ n2_ n3_ n4_; clear hb ho28; have hcz29_0 : w27.cell? ⟨gb401, 0, none⟩ = some (.int .u32 t393) := (blk_cell BK401.out 0).trans rfl; have hcz29_1 : w27.cell? ⟨gb401, 1, none⟩ = some (.int .u32 t394) := (blk_cell BK401.out 1).trans rfl; have hcz29_2 : w27.cell? ⟨gb401, 2, none⟩ = some (.int .u32 t395) := (blk_cell BK401.out 2).trans rfl; have hcz29_3 : w27.cell? ⟨gb401, 3, none⟩ = some (.slice Ao24 t396.length co24) := (blk_cell BK401.out 3).trans rfl; have hfz29_0 := blk_frozen BK401.out 0; have hfz29_1 := blk_frozen BK401.out 1; have hfz29_2 := blk_frozen BK401.out 2; have hfz29_3 := blk_frozen BK401.out 3) | ((with_reducible refine gate_dst (N := 36) rfl ?_); (try (refine gate_guard (by rfl) ?_; dsimp only)); refine Kd.N_lit k46 _ 46 ?hg (N' := 36) ?hd (xs := ([(⟨t393, t394, t395, t396⟩ : S46)] : List (S46))) (inner := [.int .u32 t393, .int .u32 t394, .int .u32 t395, .slice Ao24 t396.length co24]) (ok := (fun k_ => some k_ ≠ (v403 : Value).ownBlock ∧ k_ ≠ gb392 ∧ k_ ≠ gb401)) (okp := (fun k_ => some k_ ≠ (v403 : Value).ownBlock ∧ k_ ≠ gb392 ∧ k_ ≠ gb401)) ?hr ?hp (fun _ hk => hk) ((show ∀ k_, w27.heap.size ≤ k_ → (fun k_ => some k_ ≠ (v403 : Value).ownBlock ∧ k_ ≠ gb392 ∧ k_ ≠ gb401) k_ from fun k_ hk => ⟨Kd.fresh' (Kd.N_lt (by (with_reducible repeat (first | apply Kd.N_alloc | apply Kd.N_drewN | apply Kd.N_drew)); exact HO404.out)) k_ hk, Kd.freshB (g := gb392) (o := .cells #[.int .u32 t384, .int .u32 t385, .int .u32 t386, .slice Ao19 t387.length co19] 46 (0, 0)) (by (with_reducible repeat (first | refine blk_drewN ?_ _ | refine blk_drew ?_ | refine blk_alloc ?_ _)); exact BK392.out) k_ hk, Kd.freshB (g := gb401) (o := .cells #[.int .u32 t393, .int .u32 t394, .int .u32 t395, .slice Ao24 t396.length co24] 46 (0, 0)) (by (with_reducible repeat (first | refine blk_drewN ?_ _ | refine blk_drew ?_ | refine blk_alloc ?_ _)); exact BK401.out) k_ hk⟩) _ (Nat.le_refl _)) (Below.refl _ _) (Nat.le_refl _) (by simp) ?_; (case hd => rfl); (case hg => rfl); (case hr => first | (go_simp; done) | (go_simp; rfl)); (case hp => exact (Reps.c4 (show Kd.FK k46 _ _ (⟨t393, t394, t395, t396⟩ : S46) [.int .u32 t393, .int .u32 t394, .int .u32 t395, .slice Ao24 t396.length co24] from (k46_mkF _ _ (⟨t393, t394, t395, t396⟩ : S46) (Kd.R_reads' (Kd.R_mono (ok' := (fun k_ => some k_ ≠ (v403 : Value).ownBlock ∧ k_ ≠ gb392 ∧ k_ ≠ gb401)) (Kd.R_types (Kd.R_types (Kd.R_apart' (HO398.out) (Kd.N_typed HO404.out) (by decide)) BK392.out (by decide)) BK401.out (by decide)) (fun k_ hk => ⟨hk.1.1.2, ⟨hk.1.2, hk.2⟩⟩))).2.1 (Kd.R_F (Kd.R_mono (ok' := (fun k_ => some k_ ≠ (v403 : Value).ownBlock ∧ k_ ≠ gb392 ∧ k_ ≠ gb401)) (Kd.R_types (Kd.R_types (Kd.R_apart' (HO398.out) (Kd.N_typed HO404.out) (by decide)) BK392.out (by decide)) BK401.out (by decide)) (fun k_ hk => ⟨hk.1.1.2, ⟨hk.1.2, hk.2⟩⟩))))) (Reps.none _ _))); intro v406 w30 ho31 hb hg_ hnew_; clear hg_ hnew_; (first | rw [← Ny405.out] at ho31 | (simp only [Int.reduceToNat] at ho31; rw [← Ny405.out] at ho31)); have n0_ := Aside0.mk (Kd.N_elder' (by (with_reducible repeat (first | apply Kd.N_alloc | apply Kd.N_drewN | apply Kd.N_drew)); exact HO404.out) (by first | exact Kd.N_base ho31 | exact Kd.N_base (Kd.S_N (Kd.S_bound ho31)) | exact Kd.R_base ho31 | exact Kd.S_base ho31) hb); have n1_ := Aside0.mk (Kd.N_lower ho31 (below_size (by repeat (first | (with_reducible first | exact HB.out | apply below_alloc | apply pw_below_drewN | apply below_drew1 | refine below_set ?_ GE392.out | refine below_set ?_ GE401.out) | exact HB.out)))); have n2_ := Aside0.mk (blk_below (g := gb392) (o := .cells #[.int .u32 t384, .int .u32 t385, .int .u32 t386, .slice Ao19 t387.length co19] 46 (0, 0)) (by (with_reducible repeat (first | refine blk_drewN ?_ _ | refine blk_drew ?_ | refine blk_alloc ?_ _)); exact BK392.out) hb); have n3_ := Aside0.mk (blk_below (g := gb401) (o := .cells #[.int .u32 t393, .int .u32 t394, .int .u32 t395, .slice Ao24 t396.length co24] 46 (0, 0)) (by (with_reducible repeat (first | refine blk_drewN ?_ _ | refine blk_drew ?_ | refine blk_alloc ?_ _)); exact BK401.out) hb); have n4_ := Aside0.mk (below_step (by repeat (first | (with_reducible first | exact HB.out | apply below_alloc | apply pw_below_drewN | apply below_drew1 | refine below_set ?_ GE392.out | refine below_set ?_ GE401.out) | exact HB.out)) hb); clear HO404; clear BK392; clear BK401; clear HB; clear HO398; have HO404 := n0_; have HO407 := n1_; have BK392 := n2_; have BK401 := n3_; have HB := n4_; clear n0_ n1_ n2_ n3_ n4_; clear hb ho31; obtain ⟨Ao32, co32, eo32⟩ := Kd.N_slice HO404.out; subst eo32; obtain ⟨Ao33, co33, eo33⟩ := Kd.N_slice HO407.out; subst eo33) | ((with_reducible refine gate_callee (f := 23) rfl ?_); refine goesL_ (some 37) rfl rfl Try.func23 (by kernel_rfl) rfl #[.slice Ao32 y402.length co32, .slice Ao33 y405.length co33] rfl (by (try simp only [List.map_toArray, List.map_cons, List.map_nil]); first | done | rfl | (simp only [List.length_drop, List.length_take]; rfl)) ?_; (with_reducible refine (umpireref09_Same.calls kj2 _ _ y402 _ _ y405 true _ ?side1 ?side2 ?side3 ?side4 A13.out).mono ?_); (case side1 => repeat (first | exact (Kd.N_reads' HO404.out).2.2 | (with_reducible refine Kd.C_alloc ?_ _) | (with_reducible refine Kd.C_drewN ?_ _) | (with_reducible refine Kd.C_drew ?_))); (case side2 => exact (Kd.N_reads' HO404.out).2.1); (case side3 => repeat (first | exact (Kd.N_reads' HO407.out).2.2 | (with_reducible refine Kd.C_alloc ?_ _) | (with_reducible refine Kd.C_drewN ?_ _) | (with_reducible refine Kd.C_drew ?_))); (case side4 => exact (Kd.N_reads' HO407.out).2.1); rintro e w' ⟨rfl, ⟨nd, rfl⟩⟩; refine ⟨_, rfl, ?_⟩))
            go_ret
            exact ⟨by first | rfl | (simp [errW_none, errW_some] <;> rfl) | (simp [*, errW_none, errW_some] <;> rfl), by repeat (first | (with_reducible first | exact HB.out | apply below_alloc | apply pw_below_drewN | apply below_drew1 | refine below_set ?_ GE392.out | refine below_set ?_ GE401.out) | exact HB.out)⟩
          · rw [if_neg c15] at H
            exact absurd H (by simp)
        · replace c14 := Bool.eq_false_iff.mpr c14
          subst c14
          have H1 : (none) = some r := by rw [if_neg (show ¬ (false = true) by decide)] at H; exact H
          clear H
          have H := H1
          clear H1
          exact absurd H (by simp)

/-- THE ONE PURE STATEMENT of umpirelaw09_PcapNexts: yours. -/
def umpirelaw09_PcapNexts.Pure : Prop := ∀ (l0 : List Int) (a1 : Bool), l0.length ≤ maxLen → l0.length * 1 ≤ 140737488351232 → (∀ x ∈ l0, (Lit.int .u8 x).wf = true) → ∃ k, umpirelaw09_PcapNexts.f k l0 a1 = some true
theorem umpirelaw09_PcapNexts.walk (P : umpirelaw09_PcapNexts.Pure) (a0 : Option Addr) (len0 cap0 : Nat) (z0 : List Int) (a1 : Bool) (w : World) (w0 : (a0 = none ∧ len0 = 0 ∧ cap0 = 0 ∧ z0 = []) ∨ ∃ x, a0 = some x ∧ len0 ≤ cap0 ∧ cap0 ≤ maxLen ∧ z0.length = cap0 ∧ (∀ i, i < z0.length → w.cell? (x.add i) = some (.int .u8 (z0.getD i 0))) ∧ ∀ n ∈ z0, (Lit.int .u8 n).wf = true) (y0 : len0 * 1 ≤ 140737488351232) :
    Calls Try.prog 5 #[.slice a0 len0 cap0, .bool a1] w fun e w' => e = .returned (.bool true) ∧ Below w.heap.size w w' := by
  obtain ⟨l0, rfl, hr0, hm0, hw0, hc0⟩ := ReadsInt.ofRowC w0
  obtain ⟨k, h⟩ := P l0 a1 hm0 y0 hw0
  refine (umpirelaw09_PcapNexts.calls k _ _ l0 a1 true w (Kd.C_of_reads (d := (0 : Int)) (h1 := fun _ => rfl) hr0) hc0 h).mono ?_
  rintro e w' ⟨rfl, hd⟩
  exact ⟨rfl, hd⟩

end Go.Proofs.Ytnjimecjpnjojaa.Print
