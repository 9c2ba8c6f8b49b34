import Derived.Test.YtgnonglkibhnhaaDoorZ
import Derived.Test.YtgnonglkibhnhaaDoorM1
namespace Go.Proofs.YtgnonglkibhnhaaDoor.Print
open Go.RowKit Go.Proofs.YtgnonglkibhnhaaDoorW.PrintWords Go.Proofs.YtgnonglkibhnhaaDoorW.PrintLast Go.Proofs.YtgnonglkibhnhaaDoorW.PrintMore
attribute [local go_sem] max2_int min2_int max_two min_two max_three min_three max_four min_four
set_option linter.unusedVariables false
set_option linter.unusedSimpArgs false

/-! ### head_Put: function 69 -/
def head_Put.f (a0 : Int) (a1 : Bool) (a2 : Bool) : Option (List Int × Int) := (head_May.f a0).bind fun t248 => (if t248 = true then (if a1 = true then ((some (([255, 3] : List Int) : List Int)).bind fun y249 => (if ([] : List Int).length + y249.length < 140737488355328 then ((some (([] : List Int) ++ y249 : List Int)).bind fun y252 => (if a2 = true then (if a0 < 256 then (if y252.length < 140737488355328 then (some ((y252 ++ [(a0) % 256]), 0)) else (none)) else ((some (([(a0 / 256) % 256, (a0) % 256] : List Int) : List Int)).bind fun y258 => (if y252.length + y258.length < 140737488355328 then (some ((y252 ++ y258), 0)) else (none)))) else ((some (([(a0 / 256) % 256, (a0) % 256] : List Int) : List Int)).bind fun y264 => (if y252.length + y264.length < 140737488355328 then (some ((y252 ++ y264), 0)) else (none))))) else (none))) else (if a2 = true then (if a0 < 256 then (if ([] : List Int).length < 140737488355328 then (some ((([] : List Int) ++ [(a0) % 256]), 0)) else (none)) else ((some (([(a0 / 256) % 256, (a0) % 256] : List Int) : List Int)).bind fun y273 => (if ([] : List Int).length + y273.length < 140737488355328 then (some ((([] : List Int) ++ y273), 0)) else (none)))) else ((some (([(a0 / 256) % 256, (a0) % 256] : List Int) : List Int)).bind fun y279 => (if ([] : List Int).length + y279.length < 140737488355328 then (some ((([] : List Int) ++ y279), 0)) else (none))))) else (some (([] : List Int), 1)))
set_option maxHeartbeats 8000000 in
set_option maxRecDepth 100000 in
theorem head_Put.calls (a0 : Int) (a1 : Bool) (a2 : Bool) (r1 : List Int) (r2 : Int) (w : World) (h : head_Put.f a0 a1 a2 = some (r1, r2)) :
  Calls Tryd.prog 69 #[.int .i64 a0, .bool a1, .bool a2] w fun e w' => ∃ v0_ : Value, e = .returned (.tuple #[v0_, .int .i64 r2]) ∧ Kd.R (Kd.int .u8) 5 w' w.heap.size (fun _ => True) v0_ r1 ∧ Below w.heap.size w w' := by
 have HB := a_ (Below.refl w.heap.size w)
 have H := h
 clear h
 unfold head_Put.f at H
 replace H := Option.bind_eq_some_iff.mp H
 obtain ⟨t248, A40, H⟩ := H
 try dsimp only at H
 have A4 := a_ A40
 clear A40
 by_cases c5 : t248 = true
 ·subst c5
  rw [if_pos rfl] at H
  by_cases c6 : a1 = true
  ·subst c6
   rw [if_pos rfl] at H
   obtain ⟨y249, hy249⟩ := is_ (([255, 3] : List Int))
   rw [Option.bind_some, ← hy249] at H
   have Ny249 := a_ hy249
   clear hy249
   have c7 := ifc_ H
   replace H := ift_ H
   have LMc7 := a_ c7
   clear c7
   obtain ⟨y252, hy252⟩ := is_ ((([] : List Int) ++ y249))
   rw [Option.bind_some, ← hy252] at H
   have Ny252 := a_ hy252
   clear hy252
   by_cases c8 : a2 = true
   ·subst c8
    rw [if_pos rfl] at H
    by_cases c9 : a0 < 256
    ·rw [if_pos c9] at H
     have c9b0 := decide_eq_true c9
     clear c9
     have c10 := ifc_ H
     replace H := ift_ H
     have LMc10 := a_ c10
     clear c10
     obtain ⟨y255, hy255⟩ := is_ ((y252 ++ [(a0) % 256]))
     rw [← hy255] at H
     have Ny255 := a_ hy255
     clear hy255
     obtain ⟨rfl, rfl⟩ := s2_ H
     go_enter Tryd.func69, Tryd.ntmps69
     go_wp2_with (first | (refine gl_ (some 10) Tryd.func33 #[.int .i64 a0] ?_; (with_reducible refine (head_May.calls a0 true _ A4.out).mono ?_); rintro e w' ⟨rfl, ⟨nd, rfl⟩⟩; refine ⟨_, rfl, ?_⟩) | (refine rli_ .u8 5 14 ([255, 3] : List Int) ?_; intro v250 w11 ho12 hb; (rw [← Ny249.out] at ho12); have HO251 := a_ (Kd.R_lower ho12 (below_size (by repeat (with_reducible first | exact HB.out | apply pw_below_drewN)))); replace HB := a_ (below_step (by repeat (with_reducible first | exact HB.out | apply pw_below_drewN)) hb); clear hb ho12; obtain ⟨Ao14, co14, eo14⟩ := Kd.R_slice HO251.out; subst eo14) | ((with_reducible refine gate_builtin (b := .append) (xs := #[.tmp 13, .tmp 14]) rfl ?_); at_builtin; refine Kd.R_append_rows (Kd.int .u8) (w0 := w) w.heap.size rfl (.tmp 13) (.tmp 14) 22 5 (.int .u8 0) 1 rfl Tryd.underlying22 info5 rfl (by decide) (by omega) (.slice none 0 0) ([] : List Int) y249 _ _ _ (fun k_ => some k_ ≠ (.slice Ao14 y249.length co14 : Value).ownBlock) (fun _ => False) rfl rfl ?aO ?aR (fun _ _ h => h) (fun _ h => h.elim) ?aF ?aB ?aS ?aL ?_; (case aR => exact (Kd.R_reads' HO251.out).2.2); (case aB => exact HB.out); (case aF => exact (fun k_ hk => Kd.fresh' (Kd.R_lt HO251.out) k_ hk)); (case aO => exact ((Kd.R_nil _ _ _ _ (fun k_ => some k_ ≠ (.slice Ao14 y249.length co14 : Value).ownBlock)))); (case aS => exact (below_size HB.out)); (case aL => have := LMc7.out; omega); intro v253 w13 ho hb hg hat; rw [← Ny252.out] at ho; have HO254 := a_ ho; replace HO251 := a_ (Kd.R_after (Kd.R_apart_nil HO251.out) hg hat); replace HB := a_ hb; clear ho hb hg hat) | ((with_reducible refine gate_builtin (b := .append) (xs := #[.tmp 21, .tmp 24]) rfl ?_); at_builtin; refine Kd.R_append (Kd.int .u8) (w0 := w) w.heap.size rfl (.tmp 21) (.tmp 24) 22 5 (.int .u8 0) 1 rfl Tryd.underlying22 info5 rfl (by decide) (by omega) v253 y252 ((a0) % 256) [.int .u8 ((a0) % 256)] (fun k_ => some k_ ≠ (.slice Ao14 y249.length co14 : Value).ownBlock) (fun _ => False) rfl rfl ?aP (fun _ hk => hk.elim) ?aF ?aO ?aB ?aS ?aL ?_; (case aP => exact rfl); (case aB => exact HB.out); (case aF => exact (fun k_ hk => Kd.fresh' (Kd.R_lt HO251.out) k_ hk)); (case aO => exact HO254.out); (case aS => exact (below_size HB.out)); (case aL => have := LMc10.out; omega); intro v256 w15 ho hb hg hat; rw [← Ny255.out] at ho; have HO257 := a_ ho; replace HO251 := a_ (Kd.R_after (ok := (fun _ => True)) HO251.out hg hat); replace HB := a_ hb; clear HO254; clear ho hb hg hat))
     go_ret2
     exact ⟨_, by (rfl), by exact Kd.R_mono HO257.out (fun _ hk => trivial), by exact HB.out⟩
    ·rw [if_neg c9] at H
     have c9b0 := decide_eq_false c9
     clear c9
     obtain ⟨y258, hy258⟩ := is_ (([(a0 / 256) % 256, (a0) % 256] : List Int))
     rw [Option.bind_some, ← hy258] at H
     have Ny258 := a_ hy258
     clear hy258
     have c16 := ifc_ H
     replace H := ift_ H
     have LMc16 := a_ c16
     clear c16
     obtain ⟨y261, hy261⟩ := is_ ((y252 ++ y258))
     rw [← hy261] at H
     have Ny261 := a_ hy261
     clear hy261
     obtain ⟨rfl, rfl⟩ := s2_ H
     go_enter Tryd.func69, Tryd.ntmps69
     go_wp2_with (first | (refine gl_ (some 10) Tryd.func33 #[.int .i64 a0] ?_; (with_reducible refine (head_May.calls a0 true _ A4.out).mono ?_); rintro e w' ⟨rfl, ⟨nd, rfl⟩⟩; refine ⟨_, rfl, ?_⟩) | (refine rli_ .u8 5 14 ([255, 3] : List Int) ?_; intro v250 w17 ho18 hb; (rw [← Ny249.out] at ho18); have HO251 := a_ (Kd.R_lower ho18 (below_size (by repeat (with_reducible first | exact HB.out | apply pw_below_drewN)))); replace HB := a_ (below_step (by repeat (with_reducible first | exact HB.out | apply pw_below_drewN)) hb); clear hb ho18; obtain ⟨Ao20, co20, eo20⟩ := Kd.R_slice HO251.out; subst eo20) | ((with_reducible refine gate_builtin (b := .append) (xs := #[.tmp 13, .tmp 14]) rfl ?_); at_builtin; refine Kd.R_append_rows (Kd.int .u8) (w0 := w) w.heap.size rfl (.tmp 13) (.tmp 14) 22 5 (.int .u8 0) 1 rfl Tryd.underlying22 info5 rfl (by decide) (by omega) (.slice none 0 0) ([] : List Int) y249 _ _ _ (fun k_ => some k_ ≠ (.slice Ao20 y249.length co20 : Value).ownBlock) (fun _ => False) rfl rfl ?aO ?aR (fun _ _ h => h) (fun _ h => h.elim) ?aF ?aB ?aS ?aL ?_; (case aR => exact (Kd.R_reads' HO251.out).2.2); (case aB => exact HB.out); (case aF => exact (fun k_ hk => Kd.fresh' (Kd.R_lt HO251.out) k_ hk)); (case aO => exact ((Kd.R_nil _ _ _ _ (fun k_ => some k_ ≠ (.slice Ao20 y249.length co20 : Value).ownBlock)))); (case aS => exact (below_size HB.out)); (case aL => have := LMc7.out; omega); intro v253 w19 ho hb hg hat; rw [← Ny252.out] at ho; have HO254 := a_ ho; replace HO251 := a_ (Kd.R_after (Kd.R_apart_nil HO251.out) hg hat); replace HB := a_ hb; clear ho hb hg hat) | ((with_reducible refine gate_dst (N := 32) rfl ?_); refine Kd.R_lit (Kd.int .u8) _ 5 ?hg (N := 32) ?hd (xs := ([(a0 / 256) % 256, (a0) % 256] : List Int)) (inner := [.int .u8 ((a0 / 256) % 256), .int .u8 ((a0) % 256)]) (ok := fun _ => True) (okp := fun _ => True) ?hr ?hp (fun _ hk => hk) trivial (Below.refl _ _) (Nat.le_refl _) (by simp) ?_; (case hd => rfl); (case hg => rfl); (case hr => (go_simp; done)); (case hp => exact (Reps.one (show Kd.M (Kd.int .u8) _ _ _ ((a0 / 256) % 256) [.int .u8 ((a0 / 256) % 256)] from rfl) (Reps.one (show Kd.M (Kd.int .u8) _ _ _ ((a0) % 256) [.int .u8 ((a0) % 256)] from rfl) (Reps.none _ _)))); intro v259 w21 ho22 hb hg_ hnew_; clear hg_ hnew_; (rw [← Ny258.out] at ho22); have HO260 := a_ (Kd.R_lower (Kd.R_new' (Kd.R_new' ho22 (Kd.R_lt HO251.out)) (Kd.R_lt HO254.out)) (below_size HB.out)); replace HO251 := rR_ HO251 ho22 hb; replace HO254 := rR_ HO254 ho22 hb; replace HB := bs_ HB hb; clear hb ho22; obtain ⟨Ao24, co24, eo24⟩ := Kd.R_slice HO260.out; subst eo24) | ((with_reducible refine gate_builtin (b := .append) (xs := #[.tmp 26, .tmp 32]) rfl ?_); at_builtin; refine Kd.R_append_rows (Kd.int .u8) (w0 := w) w.heap.size rfl (.tmp 26) (.tmp 32) 22 5 (.int .u8 0) 1 rfl Tryd.underlying22 info5 rfl (by decide) (by omega) v253 y252 y258 _ _ _ (fun k_ => some k_ ≠ (.slice Ao20 y249.length co20 : Value).ownBlock ∧ some k_ ≠ (.slice Ao24 y258.length co24 : Value).ownBlock) (fun _ => False) rfl rfl ?aO ?aR (fun _ _ h => h) (fun _ h => h.elim) ?aF ?aB ?aS ?aL ?_; (case aR => exact (Kd.R_reads' HO260.out).2.2); (case aB => exact HB.out); (case aF => exact (fun k_ hk => ⟨Kd.fresh' (Kd.R_lt HO251.out) k_ hk, Kd.fresh' (Kd.R_lt HO260.out) k_ hk⟩)); (case aO => exact HO254.out); (case aS => exact (below_size HB.out)); (case aL => have := LMc16.out; omega); intro v262 w23 ho hb hg hat; rw [← Ny261.out] at ho; have HO263 := a_ ho; replace HO251 := a_ (Kd.R_after (ok := (fun k_ => some k_ ≠ (.slice Ao24 y258.length co24 : Value).ownBlock)) (by exact Kd.R_mono HO251.out (fun _ hk => ⟨hk.2, hk.1.2⟩)) hg hat); replace HO260 := a_ (Kd.R_after (ok := (fun k_ => some k_ ≠ (.slice Ao20 y249.length co20 : Value).ownBlock)) (by exact Kd.R_mono HO260.out (fun _ hk => ⟨hk.1.2, hk.2⟩)) hg hat); replace HB := a_ hb; clear HO254; clear ho hb hg hat))
     go_ret2
     exact ⟨_, by (rfl), by exact Kd.R_mono HO263.out (fun _ hk => trivial), by exact HB.out⟩
   ·cases nt_ c8
    rw [if_neg nft_] at H
    obtain ⟨y264, hy264⟩ := is_ (([(a0 / 256) % 256, (a0) % 256] : List Int))
    rw [Option.bind_some, ← hy264] at H
    have Ny264 := a_ hy264
    clear hy264
    have c25 := ifc_ H
    replace H := ift_ H
    have LMc25 := a_ c25
    clear c25
    obtain ⟨y267, hy267⟩ := is_ ((y252 ++ y264))
    rw [← hy267] at H
    have Ny267 := a_ hy267
    clear hy267
    obtain ⟨rfl, rfl⟩ := s2_ H
    go_enter Tryd.func69, Tryd.ntmps69
    go_wp2_with (first | (refine gl_ (some 10) Tryd.func33 #[.int .i64 a0] ?_; (with_reducible refine (head_May.calls a0 true _ A4.out).mono ?_); rintro e w' ⟨rfl, ⟨nd, rfl⟩⟩; refine ⟨_, rfl, ?_⟩) | (refine rli_ .u8 5 14 ([255, 3] : List Int) ?_; intro v250 w26 ho27 hb; (rw [← Ny249.out] at ho27); have HO251 := a_ (Kd.R_lower ho27 (below_size (by repeat (with_reducible first | exact HB.out | apply pw_below_drewN)))); replace HB := a_ (below_step (by repeat (with_reducible first | exact HB.out | apply pw_below_drewN)) hb); clear hb ho27; obtain ⟨Ao29, co29, eo29⟩ := Kd.R_slice HO251.out; subst eo29) | ((with_reducible refine gate_builtin (b := .append) (xs := #[.tmp 13, .tmp 14]) rfl ?_); at_builtin; refine Kd.R_append_rows (Kd.int .u8) (w0 := w) w.heap.size rfl (.tmp 13) (.tmp 14) 22 5 (.int .u8 0) 1 rfl Tryd.underlying22 info5 rfl (by decide) (by omega) (.slice none 0 0) ([] : List Int) y249 _ _ _ (fun k_ => some k_ ≠ (.slice Ao29 y249.length co29 : Value).ownBlock) (fun _ => False) rfl rfl ?aO ?aR (fun _ _ h => h) (fun _ h => h.elim) ?aF ?aB ?aS ?aL ?_; (case aR => exact (Kd.R_reads' HO251.out).2.2); (case aB => exact HB.out); (case aF => exact (fun k_ hk => Kd.fresh' (Kd.R_lt HO251.out) k_ hk)); (case aO => exact ((Kd.R_nil _ _ _ _ (fun k_ => some k_ ≠ (.slice Ao29 y249.length co29 : Value).ownBlock)))); (case aS => exact (below_size HB.out)); (case aL => have := LMc7.out; omega); intro v253 w28 ho hb hg hat; rw [← Ny252.out] at ho; have HO254 := a_ ho; replace HO251 := a_ (Kd.R_after (Kd.R_apart_nil HO251.out) hg hat); replace HB := a_ hb; clear ho hb hg hat) | ((with_reducible refine gate_dst (N := 32) rfl ?_); refine Kd.R_lit (Kd.int .u8) _ 5 ?hg (N := 32) ?hd (xs := ([(a0 / 256) % 256, (a0) % 256] : List Int)) (inner := [.int .u8 ((a0 / 256) % 256), .int .u8 ((a0) % 256)]) (ok := fun _ => True) (okp := fun _ => True) ?hr ?hp (fun _ hk => hk) trivial (Below.refl _ _) (Nat.le_refl _) (by simp) ?_; (case hd => rfl); (case hg => rfl); (case hr => (go_simp; done)); (case hp => exact (Reps.one (show Kd.M (Kd.int .u8) _ _ _ ((a0 / 256) % 256) [.int .u8 ((a0 / 256) % 256)] from rfl) (Reps.one (show Kd.M (Kd.int .u8) _ _ _ ((a0) % 256) [.int .u8 ((a0) % 256)] from rfl) (Reps.none _ _)))); intro v265 w30 ho31 hb hg_ hnew_; clear hg_ hnew_; (rw [← Ny264.out] at ho31); have HO266 := a_ (Kd.R_lower (Kd.R_new' (Kd.R_new' ho31 (Kd.R_lt HO251.out)) (Kd.R_lt HO254.out)) (below_size HB.out)); replace HO251 := rR_ HO251 ho31 hb; replace HO254 := rR_ HO254 ho31 hb; replace HB := bs_ HB hb; clear hb ho31; obtain ⟨Ao33, co33, eo33⟩ := Kd.R_slice HO266.out; subst eo33) | ((with_reducible refine gate_builtin (b := .append) (xs := #[.tmp 26, .tmp 32]) rfl ?_); at_builtin; refine Kd.R_append_rows (Kd.int .u8) (w0 := w) w.heap.size rfl (.tmp 26) (.tmp 32) 22 5 (.int .u8 0) 1 rfl Tryd.underlying22 info5 rfl (by decide) (by omega) v253 y252 y264 _ _ _ (fun k_ => some k_ ≠ (.slice Ao29 y249.length co29 : Value).ownBlock ∧ some k_ ≠ (.slice Ao33 y264.length co33 : Value).ownBlock) (fun _ => False) rfl rfl ?aO ?aR (fun _ _ h => h) (fun _ h => h.elim) ?aF ?aB ?aS ?aL ?_; (case aR => exact (Kd.R_reads' HO266.out).2.2); (case aB => exact HB.out); (case aF => exact (fun k_ hk => ⟨Kd.fresh' (Kd.R_lt HO251.out) k_ hk, Kd.fresh' (Kd.R_lt HO266.out) k_ hk⟩)); (case aO => exact HO254.out); (case aS => exact (below_size HB.out)); (case aL => have := LMc25.out; omega); intro v268 w32 ho hb hg hat; rw [← Ny267.out] at ho; have HO269 := a_ ho; replace HO251 := a_ (Kd.R_after (ok := (fun k_ => some k_ ≠ (.slice Ao33 y264.length co33 : Value).ownBlock)) (by exact Kd.R_mono HO251.out (fun _ hk => ⟨hk.2, hk.1.2⟩)) hg hat); replace HO266 := a_ (Kd.R_after (ok := (fun k_ => some k_ ≠ (.slice Ao29 y249.length co29 : Value).ownBlock)) (by exact Kd.R_mono HO266.out (fun _ hk => ⟨hk.1.2, hk.2⟩)) hg hat); replace HB := a_ hb; clear HO254; clear ho hb hg hat))
    go_ret2
    exact ⟨_, by (rfl), by exact Kd.R_mono HO269.out (fun _ hk => trivial), by exact HB.out⟩
  ·cases nt_ c6
   rw [if_neg nft_] at H
   by_cases c34 : a2 = true
   ·subst c34
    rw [if_pos rfl] at H
    by_cases c35 : a0 < 256
    ·rw [if_pos c35] at H
     have c35b0 := decide_eq_true c35
     clear c35
     have c36 := ifc_ H
     replace H := ift_ H
     have LMc36 := a_ c36
     clear c36
     obtain ⟨y270, hy270⟩ := is_ ((([] : List Int) ++ [(a0) % 256]))
     rw [← hy270] at H
     have Ny270 := a_ hy270
     clear hy270
     obtain ⟨rfl, rfl⟩ := s2_ H
     go_enter Tryd.func69, Tryd.ntmps69
     go_wp2_with (first | (refine gl_ (some 10) Tryd.func33 #[.int .i64 a0] ?_; (with_reducible refine (head_May.calls a0 true _ A4.out).mono ?_); rintro e w' ⟨rfl, ⟨nd, rfl⟩⟩; refine ⟨_, rfl, ?_⟩) | ((with_reducible refine gate_builtin (b := .append) (xs := #[.tmp 21, .tmp 24]) rfl ?_); at_builtin; refine Kd.R_append (Kd.int .u8) (w0 := w) w.heap.size rfl (.tmp 21) (.tmp 24) 22 5 (.int .u8 0) 1 rfl Tryd.underlying22 info5 rfl (by decide) (by omega) (.slice none 0 0) ([] : List Int) ((a0) % 256) [.int .u8 ((a0) % 256)] (fun _ => True) (fun _ => False) rfl rfl ?aP (fun _ hk => hk.elim) ?aF ?aO ?aB ?aS ?aL ?_; (case aP => exact rfl); (case aB => exact (by repeat (with_reducible first | exact HB.out | apply pw_below_drewN))); (case aF => exact (fun _ _ => trivial)); (case aO => exact (Kd.R_nil _ _ _ _ (fun _ => True))); (case aS => exact (below_size (by repeat (with_reducible first | exact HB.out | apply pw_below_drewN)))); (case aL => have := LMc36.out; omega); intro v271 w37 ho hb hg hat; rw [← Ny270.out] at ho; have HO272 := a_ ho; replace HB := a_ hb; clear ho hb hg hat))
     go_ret2
     exact ⟨_, by (rfl), by exact HO272.out, by exact HB.out⟩
    ·rw [if_neg c35] at H
     have c35b0 := decide_eq_false c35
     clear c35
     obtain ⟨y273, hy273⟩ := is_ (([(a0 / 256) % 256, (a0) % 256] : List Int))
     rw [Option.bind_some, ← hy273] at H
     have Ny273 := a_ hy273
     clear hy273
     have c38 := ifc_ H
     replace H := ift_ H
     have LMc38 := a_ c38
     clear c38
     obtain ⟨y276, hy276⟩ := is_ ((([] : List Int) ++ y273))
     rw [← hy276] at H
     have Ny276 := a_ hy276
     clear hy276
     obtain ⟨rfl, rfl⟩ := s2_ H
     go_enter Tryd.func69, Tryd.ntmps69
     go_wp2_with (first | (refine gl_ (some 10) Tryd.func33 #[.int .i64 a0] ?_; (with_reducible refine (head_May.calls a0 true _ A4.out).mono ?_); rintro e w' ⟨rfl, ⟨nd, rfl⟩⟩; refine ⟨_, rfl, ?_⟩) | ((with_reducible refine gate_dst (N := 32) rfl ?_); refine Kd.R_lit (Kd.int .u8) _ 5 ?hg (N := 32) ?hd (xs := ([(a0 / 256) % 256, (a0) % 256] : List Int)) (inner := [.int .u8 ((a0 / 256) % 256), .int .u8 ((a0) % 256)]) (ok := fun _ => True) (okp := fun _ => True) ?hr ?hp (fun _ hk => hk) trivial (Below.refl _ _) (Nat.le_refl _) (by simp) ?_; (case hd => rfl); (case hg => rfl); (case hr => (go_simp; done)); (case hp => exact (Reps.one (show Kd.M (Kd.int .u8) _ _ _ ((a0 / 256) % 256) [.int .u8 ((a0 / 256) % 256)] from rfl) (Reps.one (show Kd.M (Kd.int .u8) _ _ _ ((a0) % 256) [.int .u8 ((a0) % 256)] from rfl) (Reps.none _ _)))); intro v274 w39 ho40 hb hg_ hnew_; clear hg_ hnew_; (rw [← Ny273.out] at ho40); have HO275 := a_ (Kd.R_lower ho40 (below_size (by repeat (with_reducible first | exact HB.out | apply pw_below_drewN)))); replace HB := a_ (below_step (by repeat (with_reducible first | exact HB.out | apply pw_below_drewN)) hb); clear hb ho40; obtain ⟨Ao42, co42, eo42⟩ := Kd.R_slice HO275.out; subst eo42) | ((with_reducible refine gate_builtin (b := .append) (xs := #[.tmp 26, .tmp 32]) rfl ?_); at_builtin; refine Kd.R_append_rows (Kd.int .u8) (w0 := w) w.heap.size rfl (.tmp 26) (.tmp 32) 22 5 (.int .u8 0) 1 rfl Tryd.underlying22 info5 rfl (by decide) (by omega) (.slice none 0 0) ([] : List Int) y273 _ _ _ (fun k_ => some k_ ≠ (.slice Ao42 y273.length co42 : Value).ownBlock) (fun _ => False) rfl rfl ?aO ?aR (fun _ _ h => h) (fun _ h => h.elim) ?aF ?aB ?aS ?aL ?_; (case aR => exact (Kd.R_reads' HO275.out).2.2); (case aB => exact HB.out); (case aF => exact (fun k_ hk => Kd.fresh' (Kd.R_lt HO275.out) k_ hk)); (case aO => exact ((Kd.R_nil _ _ _ _ (fun k_ => some k_ ≠ (.slice Ao42 y273.length co42 : Value).ownBlock)))); (case aS => exact (below_size HB.out)); (case aL => have := LMc38.out; omega); intro v277 w41 ho hb hg hat; rw [← Ny276.out] at ho; have HO278 := a_ ho; replace HO275 := a_ (Kd.R_after (Kd.R_apart_nil HO275.out) hg hat); replace HB := a_ hb; clear ho hb hg hat))
     go_ret2
     exact ⟨_, by (rfl), by exact Kd.R_mono HO278.out (fun _ hk => trivial), by exact HB.out⟩
   ·cases nt_ c34
    rw [if_neg nft_] at H
    obtain ⟨y279, hy279⟩ := is_ (([(a0 / 256) % 256, (a0) % 256] : List Int))
    rw [Option.bind_some, ← hy279] at H
    have Ny279 := a_ hy279
    clear hy279
    have c43 := ifc_ H
    replace H := ift_ H
    have LMc43 := a_ c43
    clear c43
    obtain ⟨y282, hy282⟩ := is_ ((([] : List Int) ++ y279))
    rw [← hy282] at H
    have Ny282 := a_ hy282
    clear hy282
    obtain ⟨rfl, rfl⟩ := s2_ H
    go_enter Tryd.func69, Tryd.ntmps69
    go_wp2_with (first | (refine gl_ (some 10) Tryd.func33 #[.int .i64 a0] ?_; (with_reducible refine (head_May.calls a0 true _ A4.out).mono ?_); rintro e w' ⟨rfl, ⟨nd, rfl⟩⟩; refine ⟨_, rfl, ?_⟩) | ((with_reducible refine gate_dst (N := 32) rfl ?_); refine Kd.R_lit (Kd.int .u8) _ 5 ?hg (N := 32) ?hd (xs := ([(a0 / 256) % 256, (a0) % 256] : List Int)) (inner := [.int .u8 ((a0 / 256) % 256), .int .u8 ((a0) % 256)]) (ok := fun _ => True) (okp := fun _ => True) ?hr ?hp (fun _ hk => hk) trivial (Below.refl _ _) (Nat.le_refl _) (by simp) ?_; (case hd => rfl); (case hg => rfl); (case hr => (go_simp; done)); (case hp => exact (Reps.one (show Kd.M (Kd.int .u8) _ _ _ ((a0 / 256) % 256) [.int .u8 ((a0 / 256) % 256)] from rfl) (Reps.one (show Kd.M (Kd.int .u8) _ _ _ ((a0) % 256) [.int .u8 ((a0) % 256)] from rfl) (Reps.none _ _)))); intro v280 w44 ho45 hb hg_ hnew_; clear hg_ hnew_; (rw [← Ny279.out] at ho45); have HO281 := a_ (Kd.R_lower ho45 (below_size (by repeat (with_reducible first | exact HB.out | apply pw_below_drewN)))); replace HB := a_ (below_step (by repeat (with_reducible first | exact HB.out | apply pw_below_drewN)) hb); clear hb ho45; obtain ⟨Ao47, co47, eo47⟩ := Kd.R_slice HO281.out; subst eo47) | ((with_reducible refine gate_builtin (b := .append) (xs := #[.tmp 26, .tmp 32]) rfl ?_); at_builtin; refine Kd.R_append_rows (Kd.int .u8) (w0 := w) w.heap.size rfl (.tmp 26) (.tmp 32) 22 5 (.int .u8 0) 1 rfl Tryd.underlying22 info5 rfl (by decide) (by omega) (.slice none 0 0) ([] : List Int) y279 _ _ _ (fun k_ => some k_ ≠ (.slice Ao47 y279.length co47 : Value).ownBlock) (fun _ => False) rfl rfl ?aO ?aR (fun _ _ h => h) (fun _ h => h.elim) ?aF ?aB ?aS ?aL ?_; (case aR => exact (Kd.R_reads' HO281.out).2.2); (case aB => exact HB.out); (case aF => exact (fun k_ hk => Kd.fresh' (Kd.R_lt HO281.out) k_ hk)); (case aO => exact ((Kd.R_nil _ _ _ _ (fun k_ => some k_ ≠ (.slice Ao47 y279.length co47 : Value).ownBlock)))); (case aS => exact (below_size HB.out)); (case aL => have := LMc43.out; omega); intro v283 w46 ho hb hg hat; rw [← Ny282.out] at ho; have HO284 := a_ ho; replace HO281 := a_ (Kd.R_after (Kd.R_apart_nil HO281.out) hg hat); replace HB := a_ hb; clear ho hb hg hat))
    go_ret2
    exact ⟨_, by (rfl), by exact Kd.R_mono HO284.out (fun _ hk => trivial), by exact HB.out⟩
 ·cases nt_ c5
  rw [if_neg nft_] at H
  obtain ⟨rfl, rfl⟩ := s2_ H
  go_enter Tryd.func69, Tryd.ntmps69
  go_wp2_with (first | (refine gl_ (some 10) Tryd.func33 #[.int .i64 a0] ?_; (with_reducible refine (head_May.calls a0 false _ A4.out).mono ?_); rintro e w' ⟨rfl, ⟨nd, rfl⟩⟩; refine ⟨_, rfl, ?_⟩))
  go_ret2
  exact ⟨_, by (rfl), by (exact Kd.R_nil _ _ _ _ _), by repeat (with_reducible first | exact HB.out | apply pw_below_drewN)⟩

end Go.Proofs.YtgnonglkibhnhaaDoor.Print
