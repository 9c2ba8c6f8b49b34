-- laid by this session's own program (wip/mkprint.sh) for this claim
import Derived.Test.Ytnjimecjpnjojaa0
import Derived.Test.YtnjimecjpnjojaaF47
import Derived.Test.YtnjimecjpnjojaaF62
namespace Go.Proofs.Ytnjimecjpnjojaa.Print
open Go.RowKit Go.Proofs.YtnjimecjpnjojaaW.PrintWords Go.Proofs.YtnjimecjpnjojaaW.PrintLast Go.Proofs.YtnjimecjpnjojaaW.PrintMore
attribute [local go_sem] max2_int min2_int max_two min_two max_three min_three max_four min_four   -- for this text's walks alone
set_option linter.unusedVariables false
set_option linter.unusedSimpArgs false

/-! ### umpireref09_Header: function 46 -/
def umpireref09_Header.j0 : Nat → Int → Bool → Bool → Int → Int → Option (List Int)
  | 0, _, _, _, _, _ => none
  | k + 1, x3, x267000, x267001, x267002, x267003 => (umpireref09_four.f k ([] : List Int) x3 x267000).bind fun t267 => ((umpireref02_Put.f k 2 2 x267000).bind fun t270 => (if t267.length + t270.length < 140737488355328 then ((some (t267 ++ t270 : List Int)).bind fun y273 => ((umpireref02_Put.f k 4 2 x267000).bind fun t276 => (if y273.length + t276.length < 140737488355328 then ((some (y273 ++ t276 : List Int)).bind fun y279 => ((some (([0, 0, 0, 0, 0, 0, 0, 0] : List Int) : List Int)).bind fun y282 => (if y279.length + y282.length < 140737488355328 then ((umpireref09_four.f k (y279 ++ y282) x267002 x267000).bind fun t288 => ((umpireref09_four.f k t288 x267003 x267000).bind fun t291 => (some t291))) else (none)))) else (none)))) else (none)))
def umpireref09_Header.f (k : Nat) (a0_0 : Bool) (a0_1 : Bool) (a0_2 : Int) (a0_3 : Int) : Option (List Int) := if a0_1 = true then (umpireref09_Header.j0 k 2712812621 a0_0 a0_1 a0_2 a0_3) else (umpireref09_Header.j0 k 2712847316 a0_0 a0_1 a0_2 a0_3)
theorem umpireref09_Header.mono_l : ∀ k, (∀ y0 y1 y2 y3 y4, LeO (umpireref09_Header.j0 k y0 y1 y2 y3 y4) (umpireref09_Header.j0 (k + 1) y0 y1 y2 y3 y4))
  | 0 => fun _ _ _ _ _ r h => by simp [umpireref09_Header.j0] at h
  | k + 1 => by
    have ih0 := umpireref09_Header.mono_l k
    · intro y0 y1 y2 y3 y4
      unfold umpireref09_Header.j0
      repeat' first | (with_reducible exact umpireref02_Put.mono _ _ _ _) | (with_reducible exact umpireref09_four.mono _ _ _ _) | (with_reducible exact LeO.refl _) | (with_reducible refine LeO.ite ?_ ?_) | (with_reducible refine LeO.bind ?_ (fun _ => ?_))
theorem umpireref09_Header.mono : ∀ a0 a1 a2 a3 k, LeO (umpireref09_Header.f k a0 a1 a2 a3) (umpireref09_Header.f (k + 1) a0 a1 a2 a3) := by
  intro a0 a1 a2 a3 k
  have ih0 := umpireref09_Header.mono_l k
  unfold umpireref09_Header.f
  repeat' first | (with_reducible exact ih0 _ _ _ _ _) | (with_reducible refine LeO.ite ?_ ?_)
def umpireref09_Header.T8 : Bool × List (List Nat × List Nat) := (true, [([], []), ([], []), ([1], [1]), ([], []), ([3], [3]), ([0, 2, 4], [0, 2, 4]), ([], []), ([6], [6]), ([], []), ([8], [8]), ([5, 7, 9, 5], [5, 7, 9]), ([10, 10, 0, 1, 2, 3, 4, 5, 6, 7, 8, 9, 10], [10])])
def umpireref09_Header.B8 : List Nat := [0, 0, 2, 0, 8, 31, 0, 64, 0, 256, 1023, 2047]
theorem umpireref09_Header.tab8 : rtab .any (opsOf Try.f46 8) = umpireref09_Header.T8 := by kernel_rfl
theorem umpireref09_Header.bits8 : waitsOk umpireref09_Header.T8.2 umpireref09_Header.B8 = true := by kernel_rfl
set_option maxHeartbeats 8000000 in
set_option maxRecDepth 100000 in
theorem umpireref09_Header.calls (k : Nat) (a0_0 : Bool) (a0_1 : Bool) (a0_2 : Int) (a0_3 : Int) (r : List Int) (w : World) (h : umpireref09_Header.f k a0_0 a0_1 a0_2 a0_3 = some r) :
    Calls Try.prog 46 #[.agg #[.bool a0_0, .bool a0_1, .int .u32 a0_2, .int .u32 a0_3]] w fun e w' => ∃ v0_ : Value, e = .returned (v0_) ∧ Kd.R (Kd.int .u8) 5 w' w.heap.size (fun _ => True) v0_ r ∧ Below w.heap.size w w' := by
  have hu24 := Try.underlying24
  have HB := Aside0.mk (Below.refl w.heap.size w)
  have H : (if a0_1 = true then (umpireref09_Header.j0 k 2712812621 a0_0 a0_1 a0_2 a0_3) else (umpireref09_Header.j0 k 2712847316 a0_0 a0_1 a0_2 a0_3)) = some r := h
  clear h
  have HC2 := Aside0.mk H
  clear H
  go_enter Try.func46, Try.ntmps46
  go_upto_if 6 with (first | ((with_reducible refine gate_dst (N := 1) rfl ?_); refine box_event ?hg (N := 1) ?hd (cs := #[.bool a0_0, .bool a0_1, .int .u32 a0_2, .int .u32 a0_3]) (t := 24) ?hr ?_; (case hd => rfl); (case hg => rfl); (case hr => (go_simp; done)); intro gb266 hg w3 hbox hb; have n0_ := Aside0.mk (below_step (by exact HB.out) hb); have n1_ := Aside0.mk (hbox); have n2_ := Aside0.mk ((by rw [hg]; exact (below_size (by exact HB.out)) : w.heap.size ≤ gb266)); have n3_ := Aside0.mk ((by rw [hg]; exact (below_size (by exact HB.out)) : w.heap.size ≤ gb266)); clear HB; have HB := n0_; have BK266 := n1_; have GW266 := n2_; have GE266 := n3_; clear n0_ n1_ n2_ n3_; clear hb hbox hg; have hcz4_0 : w3.cell? ⟨gb266, 0, none⟩ = some (.bool a0_0) := (blk_cell BK266.out 0).trans rfl; have hcz4_1 : w3.cell? ⟨gb266, 1, none⟩ = some (.bool a0_1) := (blk_cell BK266.out 1).trans rfl; have hcz4_2 : w3.cell? ⟨gb266, 2, none⟩ = some (.int .u32 a0_2) := (blk_cell BK266.out 2).trans rfl; have hcz4_3 : w3.cell? ⟨gb266, 3, none⟩ = some (.int .u32 a0_3) := (blk_cell BK266.out 3).trans rfl; have hfz4_0 := blk_frozen BK266.out 0; have hfz4_1 := blk_frozen BK266.out 1; have hfz4_2 := blk_frozen BK266.out 2; have hfz4_3 := blk_frozen BK266.out 3))
  (skip)
  go_cut [3] (fun v3 wc => ∃ (kq : Nat) (x3_1 : Int), v3 = .int .u32 x3_1 ∧ Aside0 (umpireref09_Header.j0 kq x3_1 a0_0 a0_1 a0_2 a0_3 = some r) ∧ Aside0 (kq ≤ k) ∧ Aside0 (wc.heap[gb266]? = some (.cells #[.bool a0_0, .bool a0_1, .int .u32 a0_2, .int .u32 a0_3] 24 (0, 0))) ∧ Aside0 (Below w.heap.size w wc))
  case first =>
    have H := HC2.out
    clear HC2
    by_cases c5 : a0_1 = true
    · subst c5
      have H1 : (umpireref09_Header.j0 k 2712812621 a0_0 true a0_2 a0_3) = some r := by rw [if_pos rfl] at H; exact H
      clear H
      have H := H1
      clear H1
      have H' := Aside0.mk H
      clear H
      go_wp2
      go_meet
      case rel => exact ⟨_, (2712812621), (by (rfl)), H', ⟨by (omega)⟩, ⟨by exact BK266.out⟩, ⟨by exact HB.out⟩⟩
    · replace c5 := Bool.eq_false_iff.mpr c5
      subst c5
      have H1 : (umpireref09_Header.j0 k 2712847316 a0_0 false a0_2 a0_3) = some r := by rw [if_neg (show ¬ (false = true) by decide)] at H; exact H
      clear H
      have H := H1
      clear H1
      have H' := Aside0.mk H
      clear H
      go_wp2
      go_meet
      case rel => exact ⟨_, (2712847316), (by (rfl)), H', ⟨by (omega)⟩, ⟨by exact BK266.out⟩, ⟨by exact HB.out⟩⟩
  case rest =>
    clear HC2
    try clear hcz4_0
    try clear hcz4_1
    try clear hcz4_2
    try clear hcz4_3
    try clear hfz4_0
    try clear hfz4_1
    try clear hfz4_2
    try clear hfz4_3
    obtain ⟨kq, x3_1, rfl, HA, HJ1, BK266, HB⟩ := hcut
    cases kq with
    | zero => exact absurd HA.out (by simp [umpireref09_Header.j0])
    | succ kj1 =>
      have H := HA.out
      clear HA
      simp only [umpireref09_Header.j0] at H
      replace H := Option.bind_eq_some_iff.mp H
      obtain ⟨t267, A60, H⟩ := H
      replace H : ((umpireref02_Put.f kj1 2 2 a0_0).bind fun t270 => (if t267.length + t270.length < 140737488355328 then ((some (t267 ++ t270 : List Int)).bind fun y273 => ((umpireref02_Put.f kj1 4 2 a0_0).bind fun t276 => (if y273.length + t276.length < 140737488355328 then ((some (y273 ++ t276 : List Int)).bind fun y279 => ((some (([0, 0, 0, 0, 0, 0, 0, 0] : List Int) : List Int)).bind fun y282 => (if y279.length + y282.length < 140737488355328 then ((umpireref09_four.f kj1 (y279 ++ y282) a0_2 a0_0).bind fun t288 => ((umpireref09_four.f kj1 t288 a0_3 a0_0).bind fun t291 => (some t291))) else (none)))) else (none)))) else (none))) = some r := H
      have A6 := Aside0.mk A60
      clear A60
      replace H := Option.bind_eq_some_iff.mp H
      obtain ⟨t270, A70, H⟩ := H
      replace H : (if t267.length + t270.length < 140737488355328 then ((some (t267 ++ t270 : List Int)).bind fun y273 => ((umpireref02_Put.f kj1 4 2 a0_0).bind fun t276 => (if y273.length + t276.length < 140737488355328 then ((some (y273 ++ t276 : List Int)).bind fun y279 => ((some (([0, 0, 0, 0, 0, 0, 0, 0] : List Int) : List Int)).bind fun y282 => (if y279.length + y282.length < 140737488355328 then ((umpireref09_four.f kj1 (y279 ++ y282) a0_2 a0_0).bind fun t288 => ((umpireref09_four.f kj1 t288 a0_3 a0_0).bind fun t291 => (some t291))) else (none)))) else (none)))) else (none)) = some r := H
      have A7 := Aside0.mk A70
      clear A70
      by_cases c8 : t267.length + t270.length < 140737488355328
      · rw [if_pos c8] at H
        have LMc8 := Aside0.mk c8
        clear c8
        obtain ⟨y273, hy273⟩ : ∃ y_ : List Int, y_ = (t267 ++ t270) := ⟨_, rfl⟩
        replace H : ((umpireref02_Put.f kj1 4 2 a0_0).bind fun t276 => (if y273.length + t276.length < 140737488355328 then ((some (y273 ++ t276 : List Int)).bind fun y279 => ((some (([0, 0, 0, 0, 0, 0, 0, 0] : List Int) : List Int)).bind fun y282 => (if y279.length + y282.length < 140737488355328 then ((umpireref09_four.f kj1 (y279 ++ y282) a0_2 a0_0).bind fun t288 => ((umpireref09_four.f kj1 t288 a0_3 a0_0).bind fun t291 => (some t291))) else (none)))) else (none))) = some r := by (have H2_ := (Option.bind_some _ _).symm.trans H; rw [hy273]; with_reducible exact H2_)
        have Ny273 := Aside0.mk hy273
        clear hy273
        replace H := Option.bind_eq_some_iff.mp H
        obtain ⟨t276, A90, H⟩ := H
        replace H : (if y273.length + t276.length < 140737488355328 then ((some (y273 ++ t276 : List Int)).bind fun y279 => ((some (([0, 0, 0, 0, 0, 0, 0, 0] : List Int) : List Int)).bind fun y282 => (if y279.length + y282.length < 140737488355328 then ((umpireref09_four.f kj1 (y279 ++ y282) a0_2 a0_0).bind fun t288 => ((umpireref09_four.f kj1 t288 a0_3 a0_0).bind fun t291 => (some t291))) else (none)))) else (none)) = some r := H
        have A9 := Aside0.mk A90
        clear A90
        by_cases c10 : y273.length + t276.length < 140737488355328
        · rw [if_pos c10] at H
          have LMc10 := Aside0.mk c10
          clear c10
          obtain ⟨y279, hy279⟩ : ∃ y_ : List Int, y_ = (y273 ++ t276) := ⟨_, rfl⟩
          replace H : ((some (([0, 0, 0, 0, 0, 0, 0, 0] : List Int) : List Int)).bind fun y282 => (if y279.length + y282.length < 140737488355328 then ((umpireref09_four.f kj1 (y279 ++ y282) a0_2 a0_0).bind fun t288 => ((umpireref09_four.f kj1 t288 a0_3 a0_0).bind fun t291 => (some t291))) else (none))) = some r := by (have H2_ := (Option.bind_some _ _).symm.trans H; rw [hy279]; with_reducible exact H2_)
          have Ny279 := Aside0.mk hy279
          clear hy279
          obtain ⟨y282, hy282⟩ : ∃ y_ : List Int, y_ = ([0, 0, 0, 0, 0, 0, 0, 0] : List Int) := ⟨_, rfl⟩
          replace H : (if y279.length + y282.length < 140737488355328 then ((umpireref09_four.f kj1 (y279 ++ y282) a0_2 a0_0).bind fun t288 => ((umpireref09_four.f kj1 t288 a0_3 a0_0).bind fun t291 => (some t291))) else (none)) = some r := by (have H2_ := (Option.bind_some _ _).symm.trans H; rw [hy282]; with_reducible exact H2_)
          have Ny282 := Aside0.mk hy282
          clear hy282
          by_cases c11 : y279.length + y282.length < 140737488355328
          · rw [if_pos c11] at H
            have LMc11 := Aside0.mk c11
            clear c11
            obtain ⟨y285, hy285⟩ : ∃ y_ : List Int, y_ = (y279 ++ y282) := ⟨_, rfl⟩
            replace H : ((umpireref09_four.f kj1 y285 a0_2 a0_0).bind fun t288 => ((umpireref09_four.f kj1 t288 a0_3 a0_0).bind fun t291 => (some t291))) = some r := by (rw [hy285]; with_reducible exact H)
            have Ny285 := Aside0.mk hy285
            clear hy285
            replace H := Option.bind_eq_some_iff.mp H
            obtain ⟨t288, A120, H⟩ := H
            replace H : ((umpireref09_four.f kj1 t288 a0_3 a0_0).bind fun t291 => (some t291)) = some r := H
            have A12 := Aside0.mk A120
            clear A120
            replace H := Option.bind_eq_some_iff.mp H
            obtain ⟨t291, A130, H⟩ := H
            replace H : (some t291) = some r := H
            have A13 := Aside0.mk A130
            clear A130
            obtain rfl := Option.some.inj H
            have hcz14_0 : wc.cell? ⟨gb266, 0, none⟩ = some (.bool a0_0) := (blk_cell BK266.out 0).trans rfl
            have hcz14_1 : wc.cell? ⟨gb266, 1, none⟩ = some (.bool a0_1) := (blk_cell BK266.out 1).trans rfl
            have hcz14_2 : wc.cell? ⟨gb266, 2, none⟩ = some (.int .u32 a0_2) := (blk_cell BK266.out 2).trans rfl
            have hcz14_3 : wc.cell? ⟨gb266, 3, none⟩ = some (.int .u32 a0_3) := (blk_cell BK266.out 3).trans rfl
            have hfz14_0 := blk_frozen BK266.out 0
            have hfz14_1 := blk_frozen BK266.out 1
            have hfz14_2 := blk_frozen BK266.out 2
            have hfz14_3 := blk_frozen BK266.out 3
            try go_wp2_with (first | ((with_reducible refine gate_callee (f := 47) rfl ?_); refine goesL_ (some 10) rfl rfl Try.func47 (by kernel_rfl) rfl #[.slice none 0 0, .int .u32 x3_1, .bool a0_0] rfl (by (try simp only [List.map_toArray, List.map_cons, List.map_nil]); (rfl)) ?_; (refine (umpireref09_four.calls kj1 (fun k_ => some k_ = (.slice none 0 0 : Value).ownBlock) (.slice none 0 0) ([] : List Int) x3_1 a0_0 t267 w _ ?side1 ?side2 A6.out).mono ?_); (case side1 => exact HB.out); (case side2 => exact Kd.R_nil _ _ _ _ _); rintro e w15 ⟨v268, rfl, ho0, hb, hkp⟩; refine ⟨_, rfl, ?_⟩; have n0_ := Aside0.mk (blk_kept (by exact BK266.out) hkp (fun hs_ => (fun e_ => by simp [Value.ownBlock] at e_) hs_)); have n1_ := Aside0.mk (Kd.R_mono (ok' := fun k_ => True) ho0 (fun k_ hk_ => trivial)); have n2_ := Aside0.mk (hb); clear BK266; clear HB; have BK266 := n0_; have HO269 := n1_; have HB := n2_; clear n0_ n1_ n2_; (try clear hb); (try clear hkp); (try clear ho0); have hcz16_0 : w15.cell? ⟨gb266, 0, none⟩ = some (.bool a0_0) := (blk_cell BK266.out 0).trans rfl; have hcz16_1 : w15.cell? ⟨gb266, 1, none⟩ = some (.bool a0_1) := (blk_cell BK266.out 1).trans rfl; have hcz16_2 : w15.cell? ⟨gb266, 2, none⟩ = some (.int .u32 a0_2) := (blk_cell BK266.out 2).trans rfl; have hcz16_3 : w15.cell? ⟨gb266, 3, none⟩ = some (.int .u32 a0_3) := (blk_cell BK266.out 3).trans rfl; have hfz16_0 := blk_frozen BK266.out 0; have hfz16_1 := blk_frozen BK266.out 1; have hfz16_2 := blk_frozen BK266.out 2; have hfz16_3 := blk_frozen BK266.out 3) | ((with_reducible refine gate_callee (f := 62) rfl ?_); refine goesL_ (some 14) rfl rfl Try.func62 (by kernel_rfl) rfl #[.int .u64 2, .int .i64 2, .bool a0_0] rfl (by (try simp only [List.map_toArray, List.map_cons, List.map_nil]); (rfl)) ?_; (with_reducible refine (umpireref02_Put.calls kj1 2 2 a0_0 t270 _ A7.out).mono ?_); rintro e w17 ⟨v271, rfl, ho0, hb⟩; refine ⟨_, rfl, ?_⟩; have n0_ := Aside0.mk (Kd.R_elder' (by exact HO269.out) (by (exact Kd.R_base ho0)) hb); have n1_ := Aside0.mk (Kd.R_lower (Kd.R_new' ho0 (Kd.R_lt (by exact HO269.out))) (below_size (by exact HB.out))); have n2_ := Aside0.mk (blk_below (g := gb266) (o := .cells #[.bool a0_0, .bool a0_1, .int .u32 a0_2, .int .u32 a0_3] 24 (0, 0)) (by exact BK266.out) hb); have n3_ := Aside0.mk (below_step (by exact HB.out) hb); clear HO269; clear BK266; clear HB; have HO269 := n0_; have HO272 := n1_; have BK266 := n2_; have HB := n3_; clear n0_ n1_ n2_ n3_; (try clear hb); (try clear ho0); obtain ⟨Ao19, co19, eo19⟩ := Kd.R_slice HO272.out; subst eo19) | ((with_reducible refine gate_builtin (b := .append) (xs := #[.tmp 11, .tmp 14]) rfl ?_); at_builtin; refine Kd.R_append_rows (Kd.int .u8) (w0 := w) w.heap.size rfl (.tmp 11) (.tmp 14) 28 5 (.int .u8 0) 1 rfl Try.underlying28 info5 rfl (by decide) (by omega) v268 t267 t270 _ _ _ (fun k_ => some k_ ≠ (.slice Ao19 t270.length co19 : Value).ownBlock) (fun _ => False) rfl rfl ?aO ?aR (fun _ _ h => h) (fun _ h => h.elim) ?aF ?aB ?aS ?aL ?_; (case aR => exact (Kd.R_reads' HO272.out).2.2); (case aB => exact (by exact HB.out)); (case aF => exact (fun k_ hk => Kd.fresh' (Kd.R_lt (by exact HO272.out)) k_ hk)); (case aO => exact (by exact Kd.R_mono HO269.out (fun _ hk => hk.2))); (case aS => exact (below_size (by exact HB.out))); (case aL => have := LMc8.out; omega); intro v274 w18 ho hb hg hat; rw [← Ny273.out] at ho; have n0_ := Aside0.mk (blk_grown (g := gb266) (o := .cells #[.bool a0_0, .bool a0_1, .int .u32 a0_2, .int .u32 a0_3] 24 (0, 0)) (by exact BK266.out) hg (Kd.R_ne HO269.out BK266.out (by decide))); have n1_ := Aside0.mk (Kd.R_after (ok := (fun _ => True)) (by exact HO272.out) hg hat); have n2_ := Aside0.mk (hb); have n3_ := Aside0.mk (ho); clear BK266; clear HO272; clear HB; clear HO269; have BK266 := n0_; have HO272 := n1_; have HB := n2_; have HO275 := n3_; clear n0_ n1_ n2_ n3_; clear ho hb hg hat; have hcz20_0 : w18.cell? ⟨gb266, 0, none⟩ = some (.bool a0_0) := (blk_cell BK266.out 0).trans rfl; have hcz20_1 : w18.cell? ⟨gb266, 1, none⟩ = some (.bool a0_1) := (blk_cell BK266.out 1).trans rfl; have hcz20_2 : w18.cell? ⟨gb266, 2, none⟩ = some (.int .u32 a0_2) := (blk_cell BK266.out 2).trans rfl; have hcz20_3 : w18.cell? ⟨gb266, 3, none⟩ = some (.int .u32 a0_3) := (blk_cell BK266.out 3).trans rfl; have hfz20_0 := blk_frozen BK266.out 0; have hfz20_1 := blk_frozen BK266.out 1; have hfz20_2 := blk_frozen BK266.out 2; have hfz20_3 := blk_frozen BK266.out 3) | ((with_reducible refine gate_callee (f := 62) rfl ?_); refine goesL_ (some 19) rfl rfl Try.func62 (by kernel_rfl) rfl #[.int .u64 4, .int .i64 2, .bool a0_0] rfl (by (try simp only [List.map_toArray, List.map_cons, List.map_nil]); (rfl)) ?_; (with_reducible refine (umpireref02_Put.calls kj1 4 2 a0_0 t276 _ A9.out).mono ?_); rintro e w21 ⟨v277, rfl, ho0, hb⟩; refine ⟨_, rfl, ?_⟩; have n0_ := Aside0.mk (Kd.R_elder' (by exact HO272.out) (by (exact Kd.R_base ho0)) hb); have n1_ := Aside0.mk (Kd.R_elder' (by exact HO275.out) (by (exact Kd.R_base ho0)) hb); have n2_ := Aside0.mk (Kd.R_lower (Kd.R_new' (Kd.R_new' ho0 (Kd.R_lt (by exact HO272.out))) (Kd.R_lt (by exact HO275.out))) (below_size (by exact HB.out))); have n3_ := Aside0.mk (blk_below (g := gb266) (o := .cells #[.bool a0_0, .bool a0_1, .int .u32 a0_2, .int .u32 a0_3] 24 (0, 0)) (by exact BK266.out) hb); have n4_ := Aside0.mk (below_step (by exact HB.out) hb); clear HO272; clear HO275; clear BK266; clear HB; have HO272 := n0_; have HO275 := n1_; have HO278 := n2_; have BK266 := n3_; have HB := n4_; clear n0_ n1_ n2_ n3_ n4_; (try clear hb); (try clear ho0); obtain ⟨Ao23, co23, eo23⟩ := Kd.R_slice HO278.out; subst eo23) | ((with_reducible refine gate_builtin (b := .append) (xs := #[.tmp 16, .tmp 19]) rfl ?_); at_builtin; refine Kd.R_append_rows (Kd.int .u8) (w0 := w) w.heap.size rfl (.tmp 16) (.tmp 19) 28 5 (.int .u8 0) 1 rfl Try.underlying28 info5 rfl (by decide) (by omega) v274 y273 t276 _ _ _ (fun k_ => some k_ ≠ (.slice Ao19 t270.length co19 : Value).ownBlock ∧ some k_ ≠ (.slice Ao23 t276.length co23 : Value).ownBlock) (fun _ => False) rfl rfl ?aO ?aR (fun _ _ h => h) (fun _ h => h.elim) ?aF ?aB ?aS ?aL ?_; (case aR => exact (Kd.R_reads' HO278.out).2.2); (case aB => exact (by exact HB.out)); (case aF => exact (fun k_ hk => ⟨Kd.fresh' (Kd.R_lt (by exact HO272.out)) k_ hk, Kd.fresh' (Kd.R_lt (by exact HO278.out)) k_ hk⟩)); (case aO => exact (by exact HO275.out)); (case aS => exact (below_size (by exact HB.out))); (case aL => have := LMc10.out; omega); intro v280 w22 ho hb hg hat; rw [← Ny279.out] at ho; have n0_ := Aside0.mk (blk_grown (g := gb266) (o := .cells #[.bool a0_0, .bool a0_1, .int .u32 a0_2, .int .u32 a0_3] 24 (0, 0)) (by exact BK266.out) hg (Kd.R_ne HO275.out BK266.out (by decide))); have n1_ := Aside0.mk (Kd.R_after (ok := (fun k_ => some k_ ≠ (.slice Ao23 t276.length co23 : Value).ownBlock)) (by exact Kd.R_mono HO272.out (fun _ hk => ⟨hk.2, hk.1.2⟩)) hg hat); have n2_ := Aside0.mk (Kd.R_after (ok := (fun k_ => some k_ ≠ (.slice Ao19 t270.length co19 : Value).ownBlock)) (by exact Kd.R_mono HO278.out (fun _ hk => ⟨hk.1.2, hk.2⟩)) hg hat); have n3_ := Aside0.mk (hb); have n4_ := Aside0.mk (ho); clear BK266; clear HO272; clear HO278; clear HB; clear HO275; have BK266 := n0_; have HO272 := n1_; have HO278 := n2_; have HB := n3_; have HO281 := n4_; clear n0_ n1_ n2_ n3_ n4_; clear ho hb hg hat) | ((with_reducible refine gate_dst (N := 22) rfl ?_); refine Kd.R_lit (Kd.int .u8) _ 5 ?hg (N := 22) ?hd (xs := ([0, 0, 0, 0, 0, 0, 0, 0] : List Int)) (inner := [.int .u8 0, .int .u8 0, .int .u8 0, .int .u8 0, .int .u8 0, .int .u8 0, .int .u8 0, .int .u8 0]) (ok := fun _ => True) (okp := fun _ => True) ?hr ?hp (fun _ hk => hk) trivial (Below.refl _ _) (Nat.le_refl _) (by simp) ?_; (case hd => rfl); (case hg => rfl); (case hr => (go_simp; done)); (case hp => exact (Reps.one (show Kd.M (Kd.int .u8) _ _ _ 0 [.int .u8 0] from rfl) (Reps.one (show Kd.M (Kd.int .u8) _ _ _ 0 [.int .u8 0] from rfl) (Reps.one (show Kd.M (Kd.int .u8) _ _ _ 0 [.int .u8 0] from rfl) (Reps.one (show Kd.M (Kd.int .u8) _ _ _ 0 [.int .u8 0] from rfl) (Reps.one (show Kd.M (Kd.int .u8) _ _ _ 0 [.int .u8 0] from rfl) (Reps.one (show Kd.M (Kd.int .u8) _ _ _ 0 [.int .u8 0] from rfl) (Reps.one (show Kd.M (Kd.int .u8) _ _ _ 0 [.int .u8 0] from rfl) (Reps.one (show Kd.M (Kd.int .u8) _ _ _ 0 [.int .u8 0] from rfl) (Reps.none _ _)))))))))); intro v283 w24 ho25 hb hg_ hnew_; clear hg_ hnew_; (rw [← Ny282.out] at ho25); have n0_ := Aside0.mk (Kd.R_elder' (by exact HO272.out) (by (exact Kd.R_base ho25)) hb); have n1_ := Aside0.mk (Kd.R_elder' (by exact HO278.out) (by (exact Kd.R_base ho25)) hb); have n2_ := Aside0.mk (Kd.R_elder' (by exact HO281.out) (by (exact Kd.R_base ho25)) hb); have n3_ := Aside0.mk (Kd.R_lower (Kd.R_new' (Kd.R_new' (Kd.R_new' ho25 (Kd.R_lt (by exact HO272.out))) (Kd.R_lt (by exact HO278.out))) (Kd.R_lt (by exact HO281.out))) (below_size (by exact HB.out))); have n4_ := Aside0.mk (blk_below (g := gb266) (o := .cells #[.bool a0_0, .bool a0_1, .int .u32 a0_2, .int .u32 a0_3] 24 (0, 0)) (by exact BK266.out) hb); have n5_ := Aside0.mk (below_step (by exact HB.out) hb); clear HO272; clear HO278; clear HO281; clear BK266; clear HB; have HO272 := n0_; have HO278 := n1_; have HO281 := n2_; have HO284 := n3_; have BK266 := n4_; have HB := n5_; clear n0_ n1_ n2_ n3_ n4_ n5_; clear hb ho25; obtain ⟨Ao27, co27, eo27⟩ := Kd.R_slice HO284.out; subst eo27) | ((with_reducible refine gate_builtin (b := .append) (xs := #[.tmp 21, .tmp 22]) rfl ?_); at_builtin; refine Kd.R_append_rows (Kd.int .u8) (w0 := w) w.heap.size rfl (.tmp 21) (.tmp 22) 28 5 (.int .u8 0) 1 rfl Try.underlying28 info5 rfl (by decide) (by omega) v280 y279 y282 _ _ _ (fun k_ => some k_ ≠ (.slice Ao19 t270.length co19 : Value).ownBlock ∧ some k_ ≠ (.slice Ao23 t276.length co23 : Value).ownBlock ∧ some k_ ≠ (.slice Ao27 y282.length co27 : Value).ownBlock) (fun _ => False) rfl rfl ?aO ?aR (fun _ _ h => h) (fun _ h => h.elim) ?aF ?aB ?aS ?aL ?_; (case aR => exact (Kd.R_reads' HO284.out).2.2); (case aB => exact (by exact HB.out)); (case aF => exact (fun k_ hk => ⟨Kd.fresh' (Kd.R_lt (by exact HO272.out)) k_ hk, Kd.fresh' (Kd.R_lt (by exact HO278.out)) k_ hk, Kd.fresh' (Kd.R_lt (by exact HO284.out)) k_ hk⟩)); (case aO => exact (by exact Kd.R_mono HO281.out (fun _ hk => ⟨hk.1.1, ⟨hk.1.2, hk.2⟩⟩))); (case aS => exact (below_size (by exact HB.out))); (case aL => have := LMc11.out; omega); intro v286 w26 ho hb hg hat; rw [← Ny285.out] at ho; have n0_ := Aside0.mk (blk_grown (g := gb266) (o := .cells #[.bool a0_0, .bool a0_1, .int .u32 a0_2, .int .u32 a0_3] 24 (0, 0)) (by exact BK266.out) hg (Kd.R_ne HO281.out BK266.out (by decide))); have n1_ := Aside0.mk (Kd.R_after (ok := (fun k_ => some k_ ≠ (.slice Ao23 t276.length co23 : Value).ownBlock ∧ some k_ ≠ (.slice Ao27 y282.length co27 : Value).ownBlock)) (by exact Kd.R_mono HO272.out (fun _ hk => ⟨⟨hk.1.1, hk.2⟩, hk.1.2⟩)) hg hat); have n2_ := Aside0.mk (Kd.R_after (ok := (fun k_ => some k_ ≠ (.slice Ao19 t270.length co19 : Value).ownBlock ∧ some k_ ≠ (.slice Ao27 y282.length co27 : Value).ownBlock)) (by exact Kd.R_mono HO278.out (fun _ hk => ⟨⟨hk.1.1, hk.2⟩, hk.1.2⟩)) hg hat); have n3_ := Aside0.mk (Kd.R_after (ok := (fun k_ => some k_ ≠ (.slice Ao19 t270.length co19 : Value).ownBlock ∧ some k_ ≠ (.slice Ao23 t276.length co23 : Value).ownBlock)) (by exact Kd.R_mono HO284.out (fun _ hk => ⟨⟨hk.1.1.2, hk.1.2⟩, hk.2⟩)) hg hat); have n4_ := Aside0.mk (hb); have n5_ := Aside0.mk (ho); clear BK266; clear HO272; clear HO278; clear HO284; clear HB; clear HO281; have BK266 := n0_; have HO272 := n1_; have HO278 := n2_; have HO284 := n3_; have HB := n4_; have HO287 := n5_; clear n0_ n1_ n2_ n3_ n4_ n5_; clear ho hb hg hat))
            have n0_ := Aside0.mk (Kd.R_drew HO272.out)
            have n1_ := Aside0.mk (Kd.R_drew HO278.out)
            have n2_ := Aside0.mk (Kd.R_drew HO284.out)
            have n3_ := Aside0.mk (Kd.R_drew HO287.out)
            have n4_ := Aside0.mk (blk_drew BK266.out)
            have n5_ := Aside0.mk (below_drew1 HB.out)
            clear HO272
            clear HO278
            clear HO284
            clear HO287
            clear BK266
            clear HB
            have HO272 := n0_
            have HO278 := n1_
            have HO284 := n2_
            have HO287 := n3_
            have BK266 := n4_
            have HB := n5_
            clear n0_ n1_ n2_ n3_ n4_ n5_
            obtain ⟨Ao29, co29, eo29⟩ := Kd.R_slice HO287.out
            (subst eo29)
            refine start_ (n := 12) (S := fun w' => w'.cell? ⟨gb266, 0, none⟩ = some (.bool a0_0) ∧ w'.cell? ⟨gb266, 1, none⟩ = some (.bool a0_1) ∧ w'.cell? ⟨gb266, 2, none⟩ = some (.int .u32 a0_2) ∧ w'.cell? ⟨gb266, 3, none⟩ = some (.int .u32 a0_3)) (ds := []) #[false, false, false, false, false, false, false, false, false, false, false, false] (by kernel_rfl) rfl rfl ⟨(blk_cell BK266.out 0).trans rfl, (blk_cell BK266.out 1).trans rfl, (blk_cell BK266.out 2).trans rfl, (blk_cell BK266.out 3).trans rfl⟩ (fun hHeld => ?_); refine with_tabW umpireref09_Header.tab8 umpireref09_Header.bits8 (fun HT_ HW_ => ?_)
            generalize w26.drew = w28 at HO272 HO278 HO284 HO287 BK266 HB hHeld ⊢
            refine pure_ (i := 0) (N := some 24) (v := ?_) (a' := ?_) #[true, false, false, false, false, false, false, false, false, false, false, false] rfl rfl (any_of HT_.out (by kernel_rfl)) (fun _ _ _ h => h) (Or.inl ⟨by rfl, ?_⟩) ?_ ?_
            rotate_left
            · intro w'
              go_simp
              with_reducible rfl
            rotate_left
            · simp only [Act.put, List.setIfInBounds_toArray, List.set_cons_zero, List.set_cons_succ, i64_w, i32_w]
              rfl
            refine pure_ (i := 1) (N := some 25) (v := ?_) (a' := ?_) #[true, true, false, false, false, false, false, false, false, false, false, false] rfl rfl (any_of HT_.out (by kernel_rfl)) (fun _ _ _ h => h) (Or.inl ⟨by rfl, ?_⟩) ?_ ?_
            rotate_left
            · intro w'
              go_simp
              with_reducible rfl
            rotate_left
            · simp only [Act.put, List.setIfInBounds_toArray, List.set_cons_zero, List.set_cons_succ, i64_w, i32_w]
              rfl
            refine pure_ (i := 3) (N := some 27) (v := ?_) (a' := ?_) #[true, true, false, true, false, false, false, false, false, false, false, false] rfl rfl (any_of HT_.out (by kernel_rfl)) (fun _ _ _ h => h) (Or.inl ⟨by rfl, ?_⟩) ?_ ?_
            rotate_left
            · intro w'
              go_simp
              with_reducible rfl
            rotate_left
            · simp only [Act.put, List.setIfInBounds_toArray, List.set_cons_zero, List.set_cons_succ, i64_w, i32_w]
              rfl
            refine pure_ (i := 6) (N := some 30) (v := ?_) (a' := ?_) #[true, true, false, true, false, false, true, false, false, false, false, false] rfl rfl (any_of HT_.out (by kernel_rfl)) (fun _ _ _ h => h) (Or.inl ⟨by rfl, ?_⟩) ?_ ?_
            rotate_left
            · intro w'
              go_simp
              with_reducible rfl
            rotate_left
            · simp only [Act.put, List.setIfInBounds_toArray, List.set_cons_zero, List.set_cons_succ, i64_w, i32_w]
              rfl
            refine pure_ (i := 8) (N := some 32) (v := ?_) (a' := ?_) #[true, true, false, true, false, false, true, false, true, false, false, false] rfl rfl (any_of HT_.out (by kernel_rfl)) (fun _ _ _ h => h) (Or.inl ⟨by rfl, ?_⟩) ?_ ?_
            rotate_left
            · intro w'
              go_simp
              with_reducible rfl
            rotate_left
            · simp only [Act.put, List.setIfInBounds_toArray, List.set_cons_zero, List.set_cons_succ, i64_w, i32_w]
              rfl
            refine take_ (i := 2) (N := some 26) (v := ?_) (a' := ?_) #[true, true, true, true, false, false, true, false, true, false, false, false] rfl rfl (take_ofW HT_.out HW_.out (by kernel_rfl)) (fun _ _ _ h => h) (Or.inl ⟨by rfl, ?_⟩) hHeld ?_ ?_
            rotate_left
            · rintro w' ⟨s0, s1, s2, s3⟩
              go_simp
              with_reducible rfl
            rotate_left
            · simp only [Act.put, List.setIfInBounds_toArray, List.set_cons_zero, List.set_cons_succ, i64_w, i32_w]
              rfl
            refine take_ (i := 4) (N := some 28) (v := ?_) (a' := ?_) #[true, true, true, true, true, false, true, false, true, false, false, false] rfl rfl (take_ofW HT_.out HW_.out (by kernel_rfl)) (fun _ _ _ h => h) (Or.inl ⟨by rfl, ?_⟩) hHeld ?_ ?_
            rotate_left
            · rintro w' ⟨s0, s1, s2, s3⟩
              go_simp
              with_reducible rfl
            rotate_left
            · simp only [Act.put, List.setIfInBounds_toArray, List.set_cons_zero, List.set_cons_succ, i64_w, i32_w]
              rfl
            refine take_ (i := 7) (N := some 31) (v := ?_) (a' := ?_) #[true, true, true, true, true, false, true, true, true, false, false, false] rfl rfl (take_ofW HT_.out HW_.out (by kernel_rfl)) (fun _ _ _ h => h) (Or.inl ⟨by rfl, ?_⟩) hHeld ?_ ?_
            rotate_left
            · rintro w' ⟨s0, s1, s2, s3⟩
              go_simp
              with_reducible rfl
            rotate_left
            · simp only [Act.put, List.setIfInBounds_toArray, List.set_cons_zero, List.set_cons_succ, i64_w, i32_w]
              rfl
            refine take_ (i := 9) (N := some 33) (v := ?_) (a' := ?_) #[true, true, true, true, true, false, true, true, true, true, false, false] rfl rfl (take_ofW HT_.out HW_.out (by kernel_rfl)) (fun _ _ _ h => h) (Or.inl ⟨by rfl, ?_⟩) hHeld ?_ ?_
            rotate_left
            · rintro w' ⟨s0, s1, s2, s3⟩
              go_simp
              with_reducible rfl
            rotate_left
            · simp only [Act.put, List.setIfInBounds_toArray, List.set_cons_zero, List.set_cons_succ, i64_w, i32_w]
              rfl
            refine one_ (i := 5) (N := some 29) #[true, true, true, true, true, true, true, true, true, true, false, false] rfl rfl (one_of HT_.out (by kernel_rfl)) (by decide) (fun K hK => ?_)
            refine goes_ Try.func47 (by kernel_rfl) rfl #[.slice Ao29 y285.length co29, .int .u32 a0_2, .bool a0_0] (by rfl) rfl rfl (by (try simp only [List.map_toArray, List.map_cons, List.map_nil]); (rfl)) ?_
            with_reducible refine (umpireref09_four.calls kj1 (fun k_ => some k_ = (.slice Ao29 y285.length co29 : Value).ownBlock) (.slice Ao29 y285.length co29) y285 a0_2 a0_0 t288 w _ ?side1 ?side2 A12.out).mono ?_
            (case side1 => exact HB.out)
            (case side2 => exact Kd.R_tight rfl HO287.out)
            rintro e w30 ⟨v289, rfl, ho0, hb, hkp⟩
            refine ⟨_, rfl, ?_⟩
            have n0_ := Aside0.mk (blk_kept (by exact BK266.out) hkp (fun hs_ => (fun e_ => (Kd.R_ne HO287.out BK266.out (by decide)) e_) hs_))
            have n1_ := Aside0.mk (Kd.R_mono (ok' := fun k_ => some k_ ≠ (.slice Ao23 t276.length co23 : Value).ownBlock ∧ some k_ ≠ (.slice Ao27 y282.length co27 : Value).ownBlock ∧ some k_ ≠ (v289 : Value).ownBlock) (Kd.R_keptB (HO272.out) hkp (fun k_ hk_ hs_ => (hk_.2) hs_)) (fun k_ hk_ => ⟨hk_.1.1.1, hk_.1.1.2, fun e_ => Or.elim (ho0.1 k_ e_.symm) (fun hs_ => hk_.2.1 hs_) (fun hn_ => Nat.not_le.2 hk_.2.2 hn_)⟩))
            have n2_ := Aside0.mk (Kd.R_mono (ok' := fun k_ => some k_ ≠ (.slice Ao19 t270.length co19 : Value).ownBlock ∧ some k_ ≠ (.slice Ao27 y282.length co27 : Value).ownBlock ∧ some k_ ≠ (v289 : Value).ownBlock) (Kd.R_keptB (HO278.out) hkp (fun k_ hk_ hs_ => (hk_.2) hs_)) (fun k_ hk_ => ⟨hk_.1.1.1, hk_.1.1.2, fun e_ => Or.elim (ho0.1 k_ e_.symm) (fun hs_ => hk_.2.1 hs_) (fun hn_ => Nat.not_le.2 hk_.2.2 hn_)⟩))
            have n3_ := Aside0.mk (Kd.R_mono (ok' := fun k_ => some k_ ≠ (.slice Ao19 t270.length co19 : Value).ownBlock ∧ some k_ ≠ (.slice Ao23 t276.length co23 : Value).ownBlock ∧ some k_ ≠ (v289 : Value).ownBlock) (Kd.R_keptB (HO284.out) hkp (fun k_ hk_ hs_ => (hk_.2) hs_)) (fun k_ hk_ => ⟨hk_.1.1.1, hk_.1.1.2, fun e_ => Or.elim (ho0.1 k_ e_.symm) (fun hs_ => hk_.2.1 hs_) (fun hn_ => Nat.not_le.2 hk_.2.2 hn_)⟩))
            have n4_ := Aside0.mk (Kd.R_mono (ok' := fun k_ => some k_ ≠ (.slice Ao19 t270.length co19 : Value).ownBlock ∧ some k_ ≠ (.slice Ao23 t276.length co23 : Value).ownBlock ∧ some k_ ≠ (.slice Ao27 y282.length co27 : Value).ownBlock) ho0 (fun k_ hk_ => ⟨Or.elim hk_ (fun hs_ => fun e_ => (((HO272.out).1 k_ e_.symm).2) hs_) (fun hn_ => (Kd.fresh' (Kd.R_lt (by exact HO272.out)) k_ hn_)), Or.elim hk_ (fun hs_ => fun e_ => (((HO278.out).1 k_ e_.symm).2) hs_) (fun hn_ => (Kd.fresh' (Kd.R_lt (by exact HO278.out)) k_ hn_)), Or.elim hk_ (fun hs_ => fun e_ => (((HO284.out).1 k_ e_.symm).2) hs_) (fun hn_ => (Kd.fresh' (Kd.R_lt (by exact HO284.out)) k_ hn_))⟩))
            have n5_ := Aside0.mk (hb)
            clear BK266
            clear HO272
            clear HO278
            clear HO284
            clear HB
            clear HO287
            have BK266 := n0_
            have HO272 := n1_
            have HO278 := n2_
            have HO284 := n3_
            have HO290 := n4_
            have HB := n5_
            clear n0_ n1_ n2_ n3_ n4_ n5_
            (try clear hb)
            (try clear hkp)
            (try clear ho0)
            obtain ⟨Ao31, co31, eo31⟩ := Kd.R_slice HO290.out
            (subst eo31)
            refine hK.out _ _ ⟨(blk_cell BK266.out 0).trans rfl, (blk_cell BK266.out 1).trans rfl, (blk_cell BK266.out 2).trans rfl, (blk_cell BK266.out 3).trans rfl⟩ (fun hHeld => ?_)
            clear hK K
            refine norm_ (a' := ?_) ?_ ?_
            rotate_left
            · show Act.put _ (some 29) _ = _
              simp only [Act.put, List.setIfInBounds_toArray, List.set_cons_zero, List.set_cons_succ, i64_w, i32_w]
              rfl
            refine one_ (i := 10) (N := some 34) #[true, true, true, true, true, true, true, true, true, true, true, false] rfl rfl (one_of HT_.out (by kernel_rfl)) (by decide) (fun K hK => ?_)
            refine goes_ Try.func47 (by kernel_rfl) rfl #[.slice Ao31 t288.length co31, .int .u32 a0_3, .bool a0_0] (by rfl) rfl rfl (by (try simp only [List.map_toArray, List.map_cons, List.map_nil]); (rfl)) ?_
            with_reducible refine (umpireref09_four.calls kj1 (fun k_ => some k_ = (.slice Ao31 t288.length co31 : Value).ownBlock) (.slice Ao31 t288.length co31) t288 a0_3 a0_0 t291 w _ ?side1 ?side2 A13.out).mono ?_
            (case side1 => exact HB.out)
            (case side2 => exact Kd.R_tight rfl HO290.out)
            rintro e w32 ⟨v292, rfl, ho0, hb, hkp⟩
            refine ⟨_, rfl, ?_⟩
            have n0_ := Aside0.mk (blk_kept (by exact BK266.out) hkp (fun hs_ => (fun e_ => (Kd.R_ne HO290.out BK266.out (by decide)) e_) hs_))
            have n1_ := Aside0.mk (Kd.R_mono (ok' := fun k_ => some k_ ≠ (.slice Ao23 t276.length co23 : Value).ownBlock ∧ some k_ ≠ (.slice Ao27 y282.length co27 : Value).ownBlock ∧ some k_ ≠ (v292 : Value).ownBlock) (Kd.R_keptB (HO272.out) hkp (fun k_ hk_ hs_ => (hk_.2.2) hs_)) (fun k_ hk_ => ⟨hk_.1.1, hk_.1.2.1, fun e_ => Or.elim (ho0.1 k_ e_.symm) (fun hs_ => hk_.2.1 hs_) (fun hn_ => Nat.not_le.2 hk_.2.2 hn_)⟩))
            have n2_ := Aside0.mk (Kd.R_mono (ok' := fun k_ => some k_ ≠ (.slice Ao19 t270.length co19 : Value).ownBlock ∧ some k_ ≠ (.slice Ao27 y282.length co27 : Value).ownBlock ∧ some k_ ≠ (v292 : Value).ownBlock) (Kd.R_keptB (HO278.out) hkp (fun k_ hk_ hs_ => (hk_.2.2) hs_)) (fun k_ hk_ => ⟨hk_.1.1, hk_.1.2.1, fun e_ => Or.elim (ho0.1 k_ e_.symm) (fun hs_ => hk_.2.1 hs_) (fun hn_ => Nat.not_le.2 hk_.2.2 hn_)⟩))
            have n3_ := Aside0.mk (Kd.R_mono (ok' := fun k_ => some k_ ≠ (.slice Ao19 t270.length co19 : Value).ownBlock ∧ some k_ ≠ (.slice Ao23 t276.length co23 : Value).ownBlock ∧ some k_ ≠ (v292 : Value).ownBlock) (Kd.R_keptB (HO284.out) hkp (fun k_ hk_ hs_ => (hk_.2.2) hs_)) (fun k_ hk_ => ⟨hk_.1.1, hk_.1.2.1, fun e_ => Or.elim (ho0.1 k_ e_.symm) (fun hs_ => hk_.2.1 hs_) (fun hn_ => Nat.not_le.2 hk_.2.2 hn_)⟩))
            have n4_ := Aside0.mk (Kd.R_mono (ok' := fun k_ => some k_ ≠ (.slice Ao19 t270.length co19 : Value).ownBlock ∧ some k_ ≠ (.slice Ao23 t276.length co23 : Value).ownBlock ∧ some k_ ≠ (.slice Ao27 y282.length co27 : Value).ownBlock) ho0 (fun k_ hk_ => ⟨Or.elim hk_ (fun hs_ => fun e_ => (((HO272.out).1 k_ e_.symm).2.2) hs_) (fun hn_ => (Kd.fresh' (Kd.R_lt (by exact HO272.out)) k_ hn_)), Or.elim hk_ (fun hs_ => fun e_ => (((HO278.out).1 k_ e_.symm).2.2) hs_) (fun hn_ => (Kd.fresh' (Kd.R_lt (by exact HO278.out)) k_ hn_)), Or.elim hk_ (fun hs_ => fun e_ => (((HO284.out).1 k_ e_.symm).2.2) hs_) (fun hn_ => (Kd.fresh' (Kd.R_lt (by exact HO284.out)) k_ hn_))⟩))
            have n5_ := Aside0.mk (hb)
            clear BK266
            clear HO272
            clear HO278
            clear HO284
            clear HB
            clear HO290
            have BK266 := n0_
            have HO272 := n1_
            have HO278 := n2_
            have HO284 := n3_
            have HO293 := n4_
            have HB := n5_
            clear n0_ n1_ n2_ n3_ n4_ n5_
            (try clear hb)
            (try clear hkp)
            (try clear ho0)
            refine hK.out _ _ ⟨(blk_cell BK266.out 0).trans rfl, (blk_cell BK266.out 1).trans rfl, (blk_cell BK266.out 2).trans rfl, (blk_cell BK266.out 3).trans rfl⟩ (fun hHeld => ?_)
            clear hK K
            refine norm_ (a' := ?_) ?_ ?_
            rotate_left
            · show Act.put _ (some 34) _ = _
              simp only [Act.put, List.setIfInBounds_toArray, List.set_cons_zero, List.set_cons_succ, i64_w, i32_w]
              rfl
            refine pure_ (i := 11) (N := some 2) (v := ?_) (a' := ?_) #[true, true, true, true, true, true, true, true, true, true, true, true] rfl rfl (any_of HT_.out (by kernel_rfl)) (fun _ _ _ h => h) (Or.inl ⟨by rfl, ?_⟩) ?_ ?_
            rotate_left
            · intro w'
              go_simp
              with_reducible rfl
            rotate_left
            · simp only [Act.put, List.setIfInBounds_toArray, List.set_cons_zero, List.set_cons_succ, i64_w, i32_w]
              rfl
            refine done_ (done_of HT_.out (by kernel_rfl)) ?_
            try go_wp2
            go_ret
            exact ⟨_, by (rfl), by exact Kd.R_mono HO293.out (fun _ hk => trivial), by exact HB.out⟩
          · rw [if_neg c11] at H
            exact absurd H (by simp)
        · rw [if_neg c10] at H
          exact absurd H (by simp)
      · rw [if_neg c8] at H
        exact absurd H (by simp)

end Go.Proofs.Ytnjimecjpnjojaa.Print
