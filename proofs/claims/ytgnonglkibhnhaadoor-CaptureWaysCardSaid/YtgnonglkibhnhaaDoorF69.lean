-- laid by this session's own program (wip/mkprint.sh) for this claim
import Derived.Test.YtgnonglkibhnhaaDoor0
import Derived.Test.YtgnonglkibhnhaaDoorM1
namespace Go.Proofs.YtgnonglkibhnhaaDoor.Print
open Go.RowKit Go.Proofs.YtgnonglkibhnhaaDoorW.PrintWords Go.Proofs.YtgnonglkibhnhaaDoorW.PrintLast Go.Proofs.YtgnonglkibhnhaaDoorW.PrintMore
attribute [local go_sem] max2_int min2_int max_two min_two max_three min_three max_four min_four   -- for this text's walks alone
set_option linter.unusedVariables false
set_option linter.unusedSimpArgs false

/-! ### head_Put: function 69 -/
def head_Put.f (a0 : Int) (a1 : Bool) (a2 : Bool) : Option (List Int × Int) := (head_May.f a0).bind fun t248 => (if t248 = true then (if a1 = true then ((some (([255, 3] : List Int) : List Int)).bind fun y249 => (if ([] : List Int).length + y249.length < 140737488355328 then ((some (([] : List Int) ++ y249 : List Int)).bind fun y252 => (if a2 = true then (if a0 < 256 then (if y252.length < 140737488355328 then (some ((y252 ++ [(a0) % 256]), 0)) else (none)) else ((some (([(a0 / 256) % 256, (a0) % 256] : List Int) : List Int)).bind fun y258 => (if y252.length + y258.length < 140737488355328 then (some ((y252 ++ y258), 0)) else (none)))) else ((some (([(a0 / 256) % 256, (a0) % 256] : List Int) : List Int)).bind fun y264 => (if y252.length + y264.length < 140737488355328 then (some ((y252 ++ y264), 0)) else (none))))) else (none))) else (if a2 = true then (if a0 < 256 then (if ([] : List Int).length < 140737488355328 then (some ((([] : List Int) ++ [(a0) % 256]), 0)) else (none)) else ((some (([(a0 / 256) % 256, (a0) % 256] : List Int) : List Int)).bind fun y273 => (if ([] : List Int).length + y273.length < 140737488355328 then (some ((([] : List Int) ++ y273), 0)) else (none)))) else ((some (([(a0 / 256) % 256, (a0) % 256] : List Int) : List Int)).bind fun y279 => (if ([] : List Int).length + y279.length < 140737488355328 then (some ((([] : List Int) ++ y279), 0)) else (none))))) else (some (([] : List Int), 1)))
set_option maxHeartbeats 8000000 in
set_option maxRecDepth 100000 in
theorem head_Put.calls (a0 : Int) (a1 : Bool) (a2 : Bool) (r1 : List Int) (r2 : Int) (w : World) (h : head_Put.f a0 a1 a2 = some (r1, r2)) :
  Calls Tryd.prog 69 #[.int .i64 a0, .bool a1, .bool a2] w fun e w' => ∃ v0_ : Value, e = .returned (.tuple #[v0_, .int .i64 r2]) ∧ Kd.R (Kd.int .u8) 5 w' w.heap.size (fun _ => True) v0_ r1 ∧ Below w.heap.size w w' := by
 have HB := Aside0.mk (Below.refl w.heap.size w)
 have H : ((head_May.f a0).bind fun t248 => (if t248 = true then (if a1 = true then ((some (([255, 3] : List Int) : List Int)).bind fun y249 => (if ([] : List Int).length + y249.length < 140737488355328 then ((some (([] : List Int) ++ y249 : List Int)).bind fun y252 => (if a2 = true then (if a0 < 256 then (if y252.length < 140737488355328 then (some ((y252 ++ [(a0) % 256]), 0)) else (none)) else ((some (([(a0 / 256) % 256, (a0) % 256] : List Int) : List Int)).bind fun y258 => (if y252.length + y258.length < 140737488355328 then (some ((y252 ++ y258), 0)) else (none)))) else ((some (([(a0 / 256) % 256, (a0) % 256] : List Int) : List Int)).bind fun y264 => (if y252.length + y264.length < 140737488355328 then (some ((y252 ++ y264), 0)) else (none))))) else (none))) else (if a2 = true then (if a0 < 256 then (if ([] : List Int).length < 140737488355328 then (some ((([] : List Int) ++ [(a0) % 256]), 0)) else (none)) else ((some (([(a0 / 256) % 256, (a0) % 256] : List Int) : List Int)).bind fun y273 => (if ([] : List Int).length + y273.length < 140737488355328 then (some ((([] : List Int) ++ y273), 0)) else (none)))) else ((some (([(a0 / 256) % 256, (a0) % 256] : List Int) : List Int)).bind fun y279 => (if ([] : List Int).length + y279.length < 140737488355328 then (some ((([] : List Int) ++ y279), 0)) else (none))))) else (some (([] : List Int), 1)))) = some (r1, r2) := h
 clear h
 replace H := Option.bind_eq_some_iff.mp H
 obtain ⟨t248, A40, H⟩ := H
 have A4 := Aside0.mk A40
 clear A40
 by_cases c5 : t248 = true
 ·subst c5
  rw [if_pos rfl] at H
  by_cases c6 : a1 = true
  ·subst c6
   rw [if_pos rfl] at H
   obtain ⟨y249, hy249⟩ : ∃ y_ : List Int, y_ = ([255, 3] : List Int) := ⟨_, rfl⟩
   replace H : (if ([] : List Int).length + y249.length < 140737488355328 then ((some (([] : List Int) ++ y249 : List Int)).bind fun y252 => (if a2 = true then (if a0 < 256 then (if y252.length < 140737488355328 then (some ((y252 ++ [(a0) % 256]), 0)) else (none)) else ((some (([(a0 / 256) % 256, (a0) % 256] : List Int) : List Int)).bind fun y258 => (if y252.length + y258.length < 140737488355328 then (some ((y252 ++ y258), 0)) else (none)))) else ((some (([(a0 / 256) % 256, (a0) % 256] : List Int) : List Int)).bind fun y264 => (if y252.length + y264.length < 140737488355328 then (some ((y252 ++ y264), 0)) else (none))))) else (none)) = some (r1, r2) := by (have H2_ := (Option.bind_some _ _).symm.trans H; rw [hy249]; with_reducible exact H2_)
   have Ny249 := Aside0.mk hy249
   clear hy249
   by_cases c7 : ([] : List Int).length + y249.length < 140737488355328
   ·rw [if_pos c7] at H
    have LMc7 := Aside0.mk c7
    clear c7
    obtain ⟨y252, hy252⟩ : ∃ y_ : List Int, y_ = (([] : List Int) ++ y249) := ⟨_, rfl⟩
    replace H : (if a2 = true then (if a0 < 256 then (if y252.length < 140737488355328 then (some ((y252 ++ [(a0) % 256]), 0)) else (none)) else ((some (([(a0 / 256) % 256, (a0) % 256] : List Int) : List Int)).bind fun y258 => (if y252.length + y258.length < 140737488355328 then (some ((y252 ++ y258), 0)) else (none)))) else ((some (([(a0 / 256) % 256, (a0) % 256] : List Int) : List Int)).bind fun y264 => (if y252.length + y264.length < 140737488355328 then (some ((y252 ++ y264), 0)) else (none)))) = some (r1, r2) := by (have H2_ := (Option.bind_some _ _).symm.trans H; rw [hy252]; with_reducible exact H2_)
    have Ny252 := Aside0.mk hy252
    clear hy252
    by_cases c8 : a2 = true
    ·subst c8
     rw [if_pos rfl] at H
     by_cases c9 : a0 < 256
     ·rw [if_pos c9] at H
      have c9b0 : decide (a0 < 256) = true := decide_eq_true c9
      clear c9
      by_cases c10 : y252.length < 140737488355328
      ·rw [if_pos c10] at H
       have LMc10 := Aside0.mk c10
       clear c10
       obtain ⟨y255, hy255⟩ : ∃ y_ : List Int, y_ = (y252 ++ [(a0) % 256]) := ⟨_, rfl⟩
       replace H : (some (y255, 0)) = some (r1, r2) := by (rw [hy255]; with_reducible exact H)
       have Ny255 := Aside0.mk hy255
       clear hy255
       simp only [Option.some.injEq, Prod.mk.injEq] at H
       obtain ⟨rfl, rfl⟩ := H
       go_enter Tryd.func69, Tryd.ntmps69
       go_wp2_with (first | ((with_reducible refine gate_callee (f := 33) rfl ?_); refine goesL_ (some 10) rfl rfl Tryd.func33 (by kernel_rfl) rfl #[.int .i64 a0] rfl (by (try simp only [List.map_toArray, List.map_cons, List.map_nil]); (rfl)) ?_; (with_reducible refine (head_May.calls a0 true _ A4.out).mono ?_); rintro e w' ⟨rfl, ⟨nd, rfl⟩⟩; refine ⟨_, rfl, ?_⟩) | ((with_reducible refine gate_dst (N := 14) rfl ?_); refine Kd.R_lit (Kd.int .u8) _ 5 ?hg (N := 14) ?hd (xs := ([255, 3] : List Int)) (inner := [.int .u8 255, .int .u8 3]) (ok := fun _ => True) (okp := fun _ => True) ?hr ?hp (fun _ hk => hk) trivial (Below.refl _ _) (Nat.le_refl _) (by simp) ?_; (case hd => rfl); (case hg => rfl); (case hr => (go_simp; done)); (case hp => exact (Reps.one (show Kd.M (Kd.int .u8) _ _ _ 255 [.int .u8 255] from rfl) (Reps.one (show Kd.M (Kd.int .u8) _ _ _ 3 [.int .u8 3] from rfl) (Reps.none _ _)))); intro v250 w11 ho12 hb hg_ hnew_; clear hg_ hnew_; (rw [← Ny249.out] at ho12); have HO251 := Aside0.mk (Kd.R_lower ho12 (below_size (by repeat (with_reducible first | exact HB.out | apply pw_below_drewN)))); replace HB := Aside0.mk (below_step (by repeat (with_reducible first | exact HB.out | apply pw_below_drewN)) hb); clear hb ho12; obtain ⟨Ao14, co14, eo14⟩ := Kd.R_slice HO251.out; subst eo14) | ((with_reducible refine gate_builtin (b := .append) (xs := #[.tmp 13, .tmp 14]) rfl ?_); at_builtin; refine Kd.R_append_rows (Kd.int .u8) (w0 := w) w.heap.size rfl (.tmp 13) (.tmp 14) 22 5 (.int .u8 0) 1 rfl Tryd.underlying22 info5 rfl (by decide) (by omega) (.slice none 0 0) ([] : List Int) y249 _ _ _ (fun k_ => some k_ ≠ (.slice Ao14 y249.length co14 : Value).ownBlock) (fun _ => False) rfl rfl ?aO ?aR (fun _ _ h => h) (fun _ h => h.elim) ?aF ?aB ?aS ?aL ?_; (case aR => exact (Kd.R_reads' HO251.out).2.2); (case aB => exact HB.out); (case aF => exact (fun k_ hk => Kd.fresh' (Kd.R_lt HO251.out) k_ hk)); (case aO => exact ((Kd.R_nil _ _ _ _ (fun k_ => some k_ ≠ (.slice Ao14 y249.length co14 : Value).ownBlock)))); (case aS => exact (below_size HB.out)); (case aL => have := LMc7.out; omega); intro v253 w13 ho hb hg hat; rw [← Ny252.out] at ho; have HO254 := Aside0.mk (ho); replace HO251 := Aside0.mk (Kd.R_after (Kd.R_apart_nil HO251.out) hg hat); replace HB := Aside0.mk (hb); clear ho hb hg hat) | ((with_reducible refine gate_builtin (b := .append) (xs := #[.tmp 21, .tmp 24]) rfl ?_); at_builtin; refine Kd.R_append (Kd.int .u8) (w0 := w) w.heap.size rfl (.tmp 21) (.tmp 24) 22 5 (.int .u8 0) 1 rfl Tryd.underlying22 info5 rfl (by decide) (by omega) v253 y252 ((a0) % 256) [.int .u8 ((a0) % 256)] (fun k_ => some k_ ≠ (.slice Ao14 y249.length co14 : Value).ownBlock) (fun _ => False) rfl rfl ?aP (fun _ hk => hk.elim) ?aF ?aO ?aB ?aS ?aL ?_; (case aP => exact rfl); (case aB => exact HB.out); (case aF => exact (fun k_ hk => Kd.fresh' (Kd.R_lt HO251.out) k_ hk)); (case aO => exact HO254.out); (case aS => exact (below_size HB.out)); (case aL => have := LMc10.out; omega); intro v256 w15 ho hb hg hat; rw [← Ny255.out] at ho; have HO257 := Aside0.mk (ho); replace HO251 := Aside0.mk (Kd.R_after (ok := (fun _ => True)) HO251.out hg hat); replace HB := Aside0.mk (hb); clear HO254; clear ho hb hg hat))
       go_ret2
       exact ⟨_, by (rfl), by exact Kd.R_mono HO257.out (fun _ hk => trivial), by exact HB.out⟩
      ·rw [if_neg c10] at H
       exact absurd H (by simp)
     ·rw [if_neg c9] at H
      have c9b0 : decide (a0 < 256) = false := decide_eq_false c9
      clear c9
      obtain ⟨y258, hy258⟩ : ∃ y_ : List Int, y_ = ([(a0 / 256) % 256, (a0) % 256] : List Int) := ⟨_, rfl⟩
      replace H : (if y252.length + y258.length < 140737488355328 then (some ((y252 ++ y258), 0)) else (none)) = some (r1, r2) := by (have H2_ := (Option.bind_some _ _).symm.trans H; rw [hy258]; with_reducible exact H2_)
      have Ny258 := Aside0.mk hy258
      clear hy258
      by_cases c16 : y252.length + y258.length < 140737488355328
      ·rw [if_pos c16] at H
       have LMc16 := Aside0.mk c16
       clear c16
       obtain ⟨y261, hy261⟩ : ∃ y_ : List Int, y_ = (y252 ++ y258) := ⟨_, rfl⟩
       replace H : (some (y261, 0)) = some (r1, r2) := by (rw [hy261]; with_reducible exact H)
       have Ny261 := Aside0.mk hy261
       clear hy261
       simp only [Option.some.injEq, Prod.mk.injEq] at H
       obtain ⟨rfl, rfl⟩ := H
       go_enter Tryd.func69, Tryd.ntmps69
       go_wp2_with (first | ((with_reducible refine gate_callee (f := 33) rfl ?_); refine goesL_ (some 10) rfl rfl Tryd.func33 (by kernel_rfl) rfl #[.int .i64 a0] rfl (by (try simp only [List.map_toArray, List.map_cons, List.map_nil]); (rfl)) ?_; (with_reducible refine (head_May.calls a0 true _ A4.out).mono ?_); rintro e w' ⟨rfl, ⟨nd, rfl⟩⟩; refine ⟨_, rfl, ?_⟩) | ((with_reducible refine gate_dst (N := 14) rfl ?_); refine Kd.R_lit (Kd.int .u8) _ 5 ?hg (N := 14) ?hd (xs := ([255, 3] : List Int)) (inner := [.int .u8 255, .int .u8 3]) (ok := fun _ => True) (okp := fun _ => True) ?hr ?hp (fun _ hk => hk) trivial (Below.refl _ _) (Nat.le_refl _) (by simp) ?_; (case hd => rfl); (case hg => rfl); (case hr => (go_simp; done)); (case hp => exact (Reps.one (show Kd.M (Kd.int .u8) _ _ _ 255 [.int .u8 255] from rfl) (Reps.one (show Kd.M (Kd.int .u8) _ _ _ 3 [.int .u8 3] from rfl) (Reps.none _ _)))); intro v250 w17 ho18 hb hg_ hnew_; clear hg_ hnew_; (rw [← Ny249.out] at ho18); have HO251 := Aside0.mk (Kd.R_lower ho18 (below_size (by repeat (with_reducible first | exact HB.out | apply pw_below_drewN)))); replace HB := Aside0.mk (below_step (by repeat (with_reducible first | exact HB.out | apply pw_below_drewN)) hb); clear hb ho18; obtain ⟨Ao20, co20, eo20⟩ := Kd.R_slice HO251.out; subst eo20) | ((with_reducible refine gate_builtin (b := .append) (xs := #[.tmp 13, .tmp 14]) rfl ?_); at_builtin; refine Kd.R_append_rows (Kd.int .u8) (w0 := w) w.heap.size rfl (.tmp 13) (.tmp 14) 22 5 (.int .u8 0) 1 rfl Tryd.underlying22 info5 rfl (by decide) (by omega) (.slice none 0 0) ([] : List Int) y249 _ _ _ (fun k_ => some k_ ≠ (.slice Ao20 y249.length co20 : Value).ownBlock) (fun _ => False) rfl rfl ?aO ?aR (fun _ _ h => h) (fun _ h => h.elim) ?aF ?aB ?aS ?aL ?_; (case aR => exact (Kd.R_reads' HO251.out).2.2); (case aB => exact HB.out); (case aF => exact (fun k_ hk => Kd.fresh' (Kd.R_lt HO251.out) k_ hk)); (case aO => exact ((Kd.R_nil _ _ _ _ (fun k_ => some k_ ≠ (.slice Ao20 y249.length co20 : Value).ownBlock)))); (case aS => exact (below_size HB.out)); (case aL => have := LMc7.out; omega); intro v253 w19 ho hb hg hat; rw [← Ny252.out] at ho; have HO254 := Aside0.mk (ho); replace HO251 := Aside0.mk (Kd.R_after (Kd.R_apart_nil HO251.out) hg hat); replace HB := Aside0.mk (hb); clear ho hb hg hat) | ((with_reducible refine gate_dst (N := 32) rfl ?_); refine Kd.R_lit (Kd.int .u8) _ 5 ?hg (N := 32) ?hd (xs := ([(a0 / 256) % 256, (a0) % 256] : List Int)) (inner := [.int .u8 ((a0 / 256) % 256), .int .u8 ((a0) % 256)]) (ok := fun _ => True) (okp := fun _ => True) ?hr ?hp (fun _ hk => hk) trivial (Below.refl _ _) (Nat.le_refl _) (by simp) ?_; (case hd => rfl); (case hg => rfl); (case hr => (go_simp; done)); (case hp => exact (Reps.one (show Kd.M (Kd.int .u8) _ _ _ ((a0 / 256) % 256) [.int .u8 ((a0 / 256) % 256)] from rfl) (Reps.one (show Kd.M (Kd.int .u8) _ _ _ ((a0) % 256) [.int .u8 ((a0) % 256)] from rfl) (Reps.none _ _)))); intro v259 w21 ho22 hb hg_ hnew_; clear hg_ hnew_; (rw [← Ny258.out] at ho22); have HO260 := Aside0.mk (Kd.R_lower (Kd.R_new' (Kd.R_new' ho22 (Kd.R_lt HO251.out)) (Kd.R_lt HO254.out)) (below_size HB.out)); replace HO251 := Aside0.mk (Kd.R_elder' HO251.out (by (exact Kd.R_base ho22)) hb); replace HO254 := Aside0.mk (Kd.R_elder' HO254.out (by (exact Kd.R_base ho22)) hb); replace HB := Aside0.mk (below_step HB.out hb); clear hb ho22; obtain ⟨Ao24, co24, eo24⟩ := Kd.R_slice HO260.out; subst eo24) | ((with_reducible refine gate_builtin (b := .append) (xs := #[.tmp 26, .tmp 32]) rfl ?_); at_builtin; refine Kd.R_append_rows (Kd.int .u8) (w0 := w) w.heap.size rfl (.tmp 26) (.tmp 32) 22 5 (.int .u8 0) 1 rfl Tryd.underlying22 info5 rfl (by decide) (by omega) v253 y252 y258 _ _ _ (fun k_ => some k_ ≠ (.slice Ao20 y249.length co20 : Value).ownBlock ∧ some k_ ≠ (.slice Ao24 y258.length co24 : Value).ownBlock) (fun _ => False) rfl rfl ?aO ?aR (fun _ _ h => h) (fun _ h => h.elim) ?aF ?aB ?aS ?aL ?_; (case aR => exact (Kd.R_reads' HO260.out).2.2); (case aB => exact HB.out); (case aF => exact (fun k_ hk => ⟨Kd.fresh' (Kd.R_lt HO251.out) k_ hk, Kd.fresh' (Kd.R_lt HO260.out) k_ hk⟩)); (case aO => exact HO254.out); (case aS => exact (below_size HB.out)); (case aL => have := LMc16.out; omega); intro v262 w23 ho hb hg hat; rw [← Ny261.out] at ho; have HO263 := Aside0.mk (ho); replace HO251 := Aside0.mk (Kd.R_after (ok := (fun k_ => some k_ ≠ (.slice Ao24 y258.length co24 : Value).ownBlock)) (by exact Kd.R_mono HO251.out (fun _ hk => ⟨hk.2, hk.1.2⟩)) hg hat); replace HO260 := Aside0.mk (Kd.R_after (ok := (fun k_ => some k_ ≠ (.slice Ao20 y249.length co20 : Value).ownBlock)) (by exact Kd.R_mono HO260.out (fun _ hk => ⟨hk.1.2, hk.2⟩)) hg hat); replace HB := Aside0.mk (hb); clear HO254; clear ho hb hg hat))
       go_ret2
       exact ⟨_, by (rfl), by exact Kd.R_mono HO263.out (fun _ hk => trivial), by exact HB.out⟩
      ·rw [if_neg c16] at H
       exact absurd H (by simp)
    ·replace c8 := Bool.eq_false_iff.mpr c8
     subst c8
     rw [if_neg (show ¬ (false = true) by decide)] at H
     obtain ⟨y264, hy264⟩ : ∃ y_ : List Int, y_ = ([(a0 / 256) % 256, (a0) % 256] : List Int) := ⟨_, rfl⟩
     replace H : (if y252.length + y264.length < 140737488355328 then (some ((y252 ++ y264), 0)) else (none)) = some (r1, r2) := by (have H2_ := (Option.bind_some _ _).symm.trans H; rw [hy264]; with_reducible exact H2_)
     have Ny264 := Aside0.mk hy264
     clear hy264
     by_cases c25 : y252.length + y264.length < 140737488355328
     ·rw [if_pos c25] at H
      have LMc25 := Aside0.mk c25
      clear c25
      obtain ⟨y267, hy267⟩ : ∃ y_ : List Int, y_ = (y252 ++ y264) := ⟨_, rfl⟩
      replace H : (some (y267, 0)) = some (r1, r2) := by (rw [hy267]; with_reducible exact H)
      have Ny267 := Aside0.mk hy267
      clear hy267
      simp only [Option.some.injEq, Prod.mk.injEq] at H
      obtain ⟨rfl, rfl⟩ := H
      go_enter Tryd.func69, Tryd.ntmps69
      go_wp2_with (first | ((with_reducible refine gate_callee (f := 33) rfl ?_); refine goesL_ (some 10) rfl rfl Tryd.func33 (by kernel_rfl) rfl #[.int .i64 a0] rfl (by (try simp only [List.map_toArray, List.map_cons, List.map_nil]); (rfl)) ?_; (with_reducible refine (head_May.calls a0 true _ A4.out).mono ?_); rintro e w' ⟨rfl, ⟨nd, rfl⟩⟩; refine ⟨_, rfl, ?_⟩) | ((with_reducible refine gate_dst (N := 14) rfl ?_); refine Kd.R_lit (Kd.int .u8) _ 5 ?hg (N := 14) ?hd (xs := ([255, 3] : List Int)) (inner := [.int .u8 255, .int .u8 3]) (ok := fun _ => True) (okp := fun _ => True) ?hr ?hp (fun _ hk => hk) trivial (Below.refl _ _) (Nat.le_refl _) (by simp) ?_; (case hd => rfl); (case hg => rfl); (case hr => (go_simp; done)); (case hp => exact (Reps.one (show Kd.M (Kd.int .u8) _ _ _ 255 [.int .u8 255] from rfl) (Reps.one (show Kd.M (Kd.int .u8) _ _ _ 3 [.int .u8 3] from rfl) (Reps.none _ _)))); intro v250 w26 ho27 hb hg_ hnew_; clear hg_ hnew_; (rw [← Ny249.out] at ho27); have HO251 := Aside0.mk (Kd.R_lower ho27 (below_size (by repeat (with_reducible first | exact HB.out | apply pw_below_drewN)))); replace HB := Aside0.mk (below_step (by repeat (with_reducible first | exact HB.out | apply pw_below_drewN)) hb); clear hb ho27; obtain ⟨Ao29, co29, eo29⟩ := Kd.R_slice HO251.out; subst eo29) | ((with_reducible refine gate_builtin (b := .append) (xs := #[.tmp 13, .tmp 14]) rfl ?_); at_builtin; refine Kd.R_append_rows (Kd.int .u8) (w0 := w) w.heap.size rfl (.tmp 13) (.tmp 14) 22 5 (.int .u8 0) 1 rfl Tryd.underlying22 info5 rfl (by decide) (by omega) (.slice none 0 0) ([] : List Int) y249 _ _ _ (fun k_ => some k_ ≠ (.slice Ao29 y249.length co29 : Value).ownBlock) (fun _ => False) rfl rfl ?aO ?aR (fun _ _ h => h) (fun _ h => h.elim) ?aF ?aB ?aS ?aL ?_; (case aR => exact (Kd.R_reads' HO251.out).2.2); (case aB => exact HB.out); (case aF => exact (fun k_ hk => Kd.fresh' (Kd.R_lt HO251.out) k_ hk)); (case aO => exact ((Kd.R_nil _ _ _ _ (fun k_ => some k_ ≠ (.slice Ao29 y249.length co29 : Value).ownBlock)))); (case aS => exact (below_size HB.out)); (case aL => have := LMc7.out; omega); intro v253 w28 ho hb hg hat; rw [← Ny252.out] at ho; have HO254 := Aside0.mk (ho); replace HO251 := Aside0.mk (Kd.R_after (Kd.R_apart_nil HO251.out) hg hat); replace HB := Aside0.mk (hb); clear ho hb hg hat) | ((with_reducible refine gate_dst (N := 32) rfl ?_); refine Kd.R_lit (Kd.int .u8) _ 5 ?hg (N := 32) ?hd (xs := ([(a0 / 256) % 256, (a0) % 256] : List Int)) (inner := [.int .u8 ((a0 / 256) % 256), .int .u8 ((a0) % 256)]) (ok := fun _ => True) (okp := fun _ => True) ?hr ?hp (fun _ hk => hk) trivial (Below.refl _ _) (Nat.le_refl _) (by simp) ?_; (case hd => rfl); (case hg => rfl); (case hr => (go_simp; done)); (case hp => exact (Reps.one (show Kd.M (Kd.int .u8) _ _ _ ((a0 / 256) % 256) [.int .u8 ((a0 / 256) % 256)] from rfl) (Reps.one (show Kd.M (Kd.int .u8) _ _ _ ((a0) % 256) [.int .u8 ((a0) % 256)] from rfl) (Reps.none _ _)))); intro v265 w30 ho31 hb hg_ hnew_; clear hg_ hnew_; (rw [← Ny264.out] at ho31); have HO266 := Aside0.mk (Kd.R_lower (Kd.R_new' (Kd.R_new' ho31 (Kd.R_lt HO251.out)) (Kd.R_lt HO254.out)) (below_size HB.out)); replace HO251 := Aside0.mk (Kd.R_elder' HO251.out (by (exact Kd.R_base ho31)) hb); replace HO254 := Aside0.mk (Kd.R_elder' HO254.out (by (exact Kd.R_base ho31)) hb); replace HB := Aside0.mk (below_step HB.out hb); clear hb ho31; obtain ⟨Ao33, co33, eo33⟩ := Kd.R_slice HO266.out; subst eo33) | ((with_reducible refine gate_builtin (b := .append) (xs := #[.tmp 26, .tmp 32]) rfl ?_); at_builtin; refine Kd.R_append_rows (Kd.int .u8) (w0 := w) w.heap.size rfl (.tmp 26) (.tmp 32) 22 5 (.int .u8 0) 1 rfl Tryd.underlying22 info5 rfl (by decide) (by omega) v253 y252 y264 _ _ _ (fun k_ => some k_ ≠ (.slice Ao29 y249.length co29 : Value).ownBlock ∧ some k_ ≠ (.slice Ao33 y264.length co33 : Value).ownBlock) (fun _ => False) rfl rfl ?aO ?aR (fun _ _ h => h) (fun _ h => h.elim) ?aF ?aB ?aS ?aL ?_; (case aR => exact (Kd.R_reads' HO266.out).2.2); (case aB => exact HB.out); (case aF => exact (fun k_ hk => ⟨Kd.fresh' (Kd.R_lt HO251.out) k_ hk, Kd.fresh' (Kd.R_lt HO266.out) k_ hk⟩)); (case aO => exact HO254.out); (case aS => exact (below_size HB.out)); (case aL => have := LMc25.out; omega); intro v268 w32 ho hb hg hat; rw [← Ny267.out] at ho; have HO269 := Aside0.mk (ho); replace HO251 := Aside0.mk (Kd.R_after (ok := (fun k_ => some k_ ≠ (.slice Ao33 y264.length co33 : Value).ownBlock)) (by exact Kd.R_mono HO251.out (fun _ hk => ⟨hk.2, hk.1.2⟩)) hg hat); replace HO266 := Aside0.mk (Kd.R_after (ok := (fun k_ => some k_ ≠ (.slice Ao29 y249.length co29 : Value).ownBlock)) (by exact Kd.R_mono HO266.out (fun _ hk => ⟨hk.1.2, hk.2⟩)) hg hat); replace HB := Aside0.mk (hb); clear HO254; clear ho hb hg hat))
      go_ret2
      exact ⟨_, by (rfl), by exact Kd.R_mono HO269.out (fun _ hk => trivial), by exact HB.out⟩
     ·rw [if_neg c25] at H
      exact absurd H (by simp)
   ·rw [if_neg c7] at H
    exact absurd H (by simp)
  ·replace c6 := Bool.eq_false_iff.mpr c6
   subst c6
   rw [if_neg (show ¬ (false = true) by decide)] at H
   by_cases c34 : a2 = true
   ·subst c34
    rw [if_pos rfl] at H
    by_cases c35 : a0 < 256
    ·rw [if_pos c35] at H
     have c35b0 : decide (a0 < 256) = true := decide_eq_true c35
     clear c35
     by_cases c36 : ([] : List Int).length < 140737488355328
     ·rw [if_pos c36] at H
      have LMc36 := Aside0.mk c36
      clear c36
      obtain ⟨y270, hy270⟩ : ∃ y_ : List Int, y_ = (([] : List Int) ++ [(a0) % 256]) := ⟨_, rfl⟩
      replace H : (some (y270, 0)) = some (r1, r2) := by (rw [hy270]; with_reducible exact H)
      have Ny270 := Aside0.mk hy270
      clear hy270
      simp only [Option.some.injEq, Prod.mk.injEq] at H
      obtain ⟨rfl, rfl⟩ := H
      go_enter Tryd.func69, Tryd.ntmps69
      go_wp2_with (first | ((with_reducible refine gate_callee (f := 33) rfl ?_); refine goesL_ (some 10) rfl rfl Tryd.func33 (by kernel_rfl) rfl #[.int .i64 a0] rfl (by (try simp only [List.map_toArray, List.map_cons, List.map_nil]); (rfl)) ?_; (with_reducible refine (head_May.calls a0 true _ A4.out).mono ?_); rintro e w' ⟨rfl, ⟨nd, rfl⟩⟩; refine ⟨_, rfl, ?_⟩) | ((with_reducible refine gate_builtin (b := .append) (xs := #[.tmp 21, .tmp 24]) rfl ?_); at_builtin; refine Kd.R_append (Kd.int .u8) (w0 := w) w.heap.size rfl (.tmp 21) (.tmp 24) 22 5 (.int .u8 0) 1 rfl Tryd.underlying22 info5 rfl (by decide) (by omega) (.slice none 0 0) ([] : List Int) ((a0) % 256) [.int .u8 ((a0) % 256)] (fun _ => True) (fun _ => False) rfl rfl ?aP (fun _ hk => hk.elim) ?aF ?aO ?aB ?aS ?aL ?_; (case aP => exact rfl); (case aB => exact (by repeat (with_reducible first | exact HB.out | apply pw_below_drewN))); (case aF => exact (fun _ _ => trivial)); (case aO => exact (Kd.R_nil _ _ _ _ (fun _ => True))); (case aS => exact (below_size (by repeat (with_reducible first | exact HB.out | apply pw_below_drewN)))); (case aL => have := LMc36.out; omega); intro v271 w37 ho hb hg hat; rw [← Ny270.out] at ho; have HO272 := Aside0.mk (ho); replace HB := Aside0.mk (hb); clear ho hb hg hat))
      go_ret2
      exact ⟨_, by (rfl), by exact HO272.out, by exact HB.out⟩
     ·rw [if_neg c36] at H
      exact absurd H (by simp)
    ·rw [if_neg c35] at H
     have c35b0 : decide (a0 < 256) = false := decide_eq_false c35
     clear c35
     obtain ⟨y273, hy273⟩ : ∃ y_ : List Int, y_ = ([(a0 / 256) % 256, (a0) % 256] : List Int) := ⟨_, rfl⟩
     replace H : (if ([] : List Int).length + y273.length < 140737488355328 then (some ((([] : List Int) ++ y273), 0)) else (none)) = some (r1, r2) := by (have H2_ := (Option.bind_some _ _).symm.trans H; rw [hy273]; with_reducible exact H2_)
     have Ny273 := Aside0.mk hy273
     clear hy273
     by_cases c38 : ([] : List Int).length + y273.length < 140737488355328
     ·rw [if_pos c38] at H
      have LMc38 := Aside0.mk c38
      clear c38
      obtain ⟨y276, hy276⟩ : ∃ y_ : List Int, y_ = (([] : List Int) ++ y273) := ⟨_, rfl⟩
      replace H : (some (y276, 0)) = some (r1, r2) := by (rw [hy276]; with_reducible exact H)
      have Ny276 := Aside0.mk hy276
      clear hy276
      simp only [Option.some.injEq, Prod.mk.injEq] at H
      obtain ⟨rfl, rfl⟩ := H
      go_enter Tryd.func69, Tryd.ntmps69
      go_wp2_with (first | ((with_reducible refine gate_callee (f := 33) rfl ?_); refine goesL_ (some 10) rfl rfl Tryd.func33 (by kernel_rfl) rfl #[.int .i64 a0] rfl (by (try simp only [List.map_toArray, List.map_cons, List.map_nil]); (rfl)) ?_; (with_reducible refine (head_May.calls a0 true _ A4.out).mono ?_); rintro e w' ⟨rfl, ⟨nd, rfl⟩⟩; refine ⟨_, rfl, ?_⟩) | ((with_reducible refine gate_dst (N := 32) rfl ?_); refine Kd.R_lit (Kd.int .u8) _ 5 ?hg (N := 32) ?hd (xs := ([(a0 / 256) % 256, (a0) % 256] : List Int)) (inner := [.int .u8 ((a0 / 256) % 256), .int .u8 ((a0) % 256)]) (ok := fun _ => True) (okp := fun _ => True) ?hr ?hp (fun _ hk => hk) trivial (Below.refl _ _) (Nat.le_refl _) (by simp) ?_; (case hd => rfl); (case hg => rfl); (case hr => (go_simp; done)); (case hp => exact (Reps.one (show Kd.M (Kd.int .u8) _ _ _ ((a0 / 256) % 256) [.int .u8 ((a0 / 256) % 256)] from rfl) (Reps.one (show Kd.M (Kd.int .u8) _ _ _ ((a0) % 256) [.int .u8 ((a0) % 256)] from rfl) (Reps.none _ _)))); intro v274 w39 ho40 hb hg_ hnew_; clear hg_ hnew_; (rw [← Ny273.out] at ho40); have HO275 := Aside0.mk (Kd.R_lower ho40 (below_size (by repeat (with_reducible first | exact HB.out | apply pw_below_drewN)))); replace HB := Aside0.mk (below_step (by repeat (with_reducible first | exact HB.out | apply pw_below_drewN)) hb); clear hb ho40; obtain ⟨Ao42, co42, eo42⟩ := Kd.R_slice HO275.out; subst eo42) | ((with_reducible refine gate_builtin (b := .append) (xs := #[.tmp 26, .tmp 32]) rfl ?_); at_builtin; refine Kd.R_append_rows (Kd.int .u8) (w0 := w) w.heap.size rfl (.tmp 26) (.tmp 32) 22 5 (.int .u8 0) 1 rfl Tryd.underlying22 info5 rfl (by decide) (by omega) (.slice none 0 0) ([] : List Int) y273 _ _ _ (fun k_ => some k_ ≠ (.slice Ao42 y273.length co42 : Value).ownBlock) (fun _ => False) rfl rfl ?aO ?aR (fun _ _ h => h) (fun _ h => h.elim) ?aF ?aB ?aS ?aL ?_; (case aR => exact (Kd.R_reads' HO275.out).2.2); (case aB => exact HB.out); (case aF => exact (fun k_ hk => Kd.fresh' (Kd.R_lt HO275.out) k_ hk)); (case aO => exact ((Kd.R_nil _ _ _ _ (fun k_ => some k_ ≠ (.slice Ao42 y273.length co42 : Value).ownBlock)))); (case aS => exact (below_size HB.out)); (case aL => have := LMc38.out; omega); intro v277 w41 ho hb hg hat; rw [← Ny276.out] at ho; have HO278 := Aside0.mk (ho); replace HO275 := Aside0.mk (Kd.R_after (Kd.R_apart_nil HO275.out) hg hat); replace HB := Aside0.mk (hb); clear ho hb hg hat))
      go_ret2
      exact ⟨_, by (rfl), by exact Kd.R_mono HO278.out (fun _ hk => trivial), by exact HB.out⟩
     ·rw [if_neg c38] at H
      exact absurd H (by simp)
   ·replace c34 := Bool.eq_false_iff.mpr c34
    subst c34
    rw [if_neg (show ¬ (false = true) by decide)] at H
    obtain ⟨y279, hy279⟩ : ∃ y_ : List Int, y_ = ([(a0 / 256) % 256, (a0) % 256] : List Int) := ⟨_, rfl⟩
    replace H : (if ([] : List Int).length + y279.length < 140737488355328 then (some ((([] : List Int) ++ y279), 0)) else (none)) = some (r1, r2) := by (have H2_ := (Option.bind_some _ _).symm.trans H; rw [hy279]; with_reducible exact H2_)
    have Ny279 := Aside0.mk hy279
    clear hy279
    by_cases c43 : ([] : List Int).length + y279.length < 140737488355328
    ·rw [if_pos c43] at H
     have LMc43 := Aside0.mk c43
     clear c43
     obtain ⟨y282, hy282⟩ : ∃ y_ : List Int, y_ = (([] : List Int) ++ y279) := ⟨_, rfl⟩
     replace H : (some (y282, 0)) = some (r1, r2) := by (rw [hy282]; with_reducible exact H)
     have Ny282 := Aside0.mk hy282
     clear hy282
     simp only [Option.some.injEq, Prod.mk.injEq] at H
     obtain ⟨rfl, rfl⟩ := H
     go_enter Tryd.func69, Tryd.ntmps69
     go_wp2_with (first | ((with_reducible refine gate_callee (f := 33) rfl ?_); refine goesL_ (some 10) rfl rfl Tryd.func33 (by kernel_rfl) rfl #[.int .i64 a0] rfl (by (try simp only [List.map_toArray, List.map_cons, List.map_nil]); (rfl)) ?_; (with_reducible refine (head_May.calls a0 true _ A4.out).mono ?_); rintro e w' ⟨rfl, ⟨nd, rfl⟩⟩; refine ⟨_, rfl, ?_⟩) | ((with_reducible refine gate_dst (N := 32) rfl ?_); refine Kd.R_lit (Kd.int .u8) _ 5 ?hg (N := 32) ?hd (xs := ([(a0 / 256) % 256, (a0) % 256] : List Int)) (inner := [.int .u8 ((a0 / 256) % 256), .int .u8 ((a0) % 256)]) (ok := fun _ => True) (okp := fun _ => True) ?hr ?hp (fun _ hk => hk) trivial (Below.refl _ _) (Nat.le_refl _) (by simp) ?_; (case hd => rfl); (case hg => rfl); (case hr => (go_simp; done)); (case hp => exact (Reps.one (show Kd.M (Kd.int .u8) _ _ _ ((a0 / 256) % 256) [.int .u8 ((a0 / 256) % 256)] from rfl) (Reps.one (show Kd.M (Kd.int .u8) _ _ _ ((a0) % 256) [.int .u8 ((a0) % 256)] from rfl) (Reps.none _ _)))); intro v280 w44 ho45 hb hg_ hnew_; clear hg_ hnew_; (rw [← Ny279.out] at ho45); have HO281 := Aside0.mk (Kd.R_lower ho45 (below_size (by repeat (with_reducible first | exact HB.out | apply pw_below_drewN)))); replace HB := Aside0.mk (below_step (by repeat (with_reducible first | exact HB.out | apply pw_below_drewN)) hb); clear hb ho45; obtain ⟨Ao47, co47, eo47⟩ := Kd.R_slice HO281.out; subst eo47) | ((with_reducible refine gate_builtin (b := .append) (xs := #[.tmp 26, .tmp 32]) rfl ?_); at_builtin; refine Kd.R_append_rows (Kd.int .u8) (w0 := w) w.heap.size rfl (.tmp 26) (.tmp 32) 22 5 (.int .u8 0) 1 rfl Tryd.underlying22 info5 rfl (by decide) (by omega) (.slice none 0 0) ([] : List Int) y279 _ _ _ (fun k_ => some k_ ≠ (.slice Ao47 y279.length co47 : Value).ownBlock) (fun _ => False) rfl rfl ?aO ?aR (fun _ _ h => h) (fun _ h => h.elim) ?aF ?aB ?aS ?aL ?_; (case aR => exact (Kd.R_reads' HO281.out).2.2); (case aB => exact HB.out); (case aF => exact (fun k_ hk => Kd.fresh' (Kd.R_lt HO281.out) k_ hk)); (case aO => exact ((Kd.R_nil _ _ _ _ (fun k_ => some k_ ≠ (.slice Ao47 y279.length co47 : Value).ownBlock)))); (case aS => exact (below_size HB.out)); (case aL => have := LMc43.out; omega); intro v283 w46 ho hb hg hat; rw [← Ny282.out] at ho; have HO284 := Aside0.mk (ho); replace HO281 := Aside0.mk (Kd.R_after (Kd.R_apart_nil HO281.out) hg hat); replace HB := Aside0.mk (hb); clear ho hb hg hat))
     go_ret2
     exact ⟨_, by (rfl), by exact Kd.R_mono HO284.out (fun _ hk => trivial), by exact HB.out⟩
    ·rw [if_neg c43] at H
     exact absurd H (by simp)
 ·replace c5 := Bool.eq_false_iff.mpr c5
  subst c5
  rw [if_neg (show ¬ (false = true) by decide)] at H
  simp only [Option.some.injEq, Prod.mk.injEq] at H
  obtain ⟨rfl, rfl⟩ := H
  go_enter Tryd.func69, Tryd.ntmps69
  go_wp2_with (first | ((with_reducible refine gate_callee (f := 33) rfl ?_); refine goesL_ (some 10) rfl rfl Tryd.func33 (by kernel_rfl) rfl #[.int .i64 a0] rfl (by (try simp only [List.map_toArray, List.map_cons, List.map_nil]); (rfl)) ?_; (with_reducible refine (head_May.calls a0 false _ A4.out).mono ?_); rintro e w' ⟨rfl, ⟨nd, rfl⟩⟩; refine ⟨_, rfl, ?_⟩))
  go_ret2
  exact ⟨_, by (rfl), by (exact Kd.R_nil _ _ _ _ _), by repeat (with_reducible first | exact HB.out | apply pw_below_drewN)⟩

end Go.Proofs.YtgnonglkibhnhaaDoor.Print
