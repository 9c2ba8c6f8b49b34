-- laid together by this session's own program (wip/tools/merge.py) of texts that its program laid
import Derived.Test.YtgnonglkibhnhaaDoorZ
import Derived.Test.YtgnonglkibhnhaaDoorM4
namespace Go.Proofs.YtgnonglkibhnhaaDoor.Print
open Go.RowKit Go.Proofs.YtgnonglkibhnhaaDoorW.PrintWords Go.Proofs.YtgnonglkibhnhaaDoorW.PrintLast Go.Proofs.YtgnonglkibhnhaaDoorW.PrintMore
attribute [local go_sem] max2_int min2_int max_two min_two max_three min_three max_four min_four
set_option linter.unusedVariables false
set_option linter.unusedSimpArgs false
set_option maxHeartbeats 16000000
set_option maxRecDepth 100000
def umpireref10_One.f (k : Nat) (a0_0 : Int) (a0_1 : Int) (l0_2 : List Int) : Option (List Int) := (some (([(a0_0) % 256] : List Int) : List Int)).bind fun y775 => (if a0_0 ≤ 2 then ((some (([(wrap64 ((l0_2.length : Int) / 256)) % 256, (l0_2.length : Int) % 256] : List Int) : List Int)).bind fun y778 => (if y775.length + y778.length < 140737488355328 then ((some (y775 ++ y778 : List Int)).bind fun y781 => (if y781.length + l0_2.length < 140737488355328 then (some (y781 ++ l0_2)) else (none))) else (none))) else (if a0_0 = 6 then (if y775.length < 140737488355328 then (some (y775 ++ [(a0_1) % 256])) else (none)) else (if a0_0 = 5 then ((umpireref02_Put.f k (IntKind.u64.wrap (a0_1)) 4 true).bind fun t790 => (if y775.length + t790.length < 140737488355328 then (some (y775 ++ t790)) else (none))) else (if a0_0 = 7 then ((umpireref02_Put.f k (IntKind.u64.wrap (a0_1)) 4 true).bind fun t796 => (if y775.length + t796.length < 140737488355328 then (some (y775 ++ t796)) else (none))) else (some y775)))))
theorem umpireref10_One.calls (k : Nat) (a0_0 : Int) (a0_1 : Int) (A0_2 : Option Addr) (c0_2 : Nat) (l0_2 : List Int) (r : List Int) (w : World) (hr0_2 : Kd.C (Kd.int .u8) w A0_2 l0_2.length l0_2) (hc0_2 : l0_2.length ≤ c0_2) (h : umpireref10_One.f k a0_0 a0_1 l0_2 = some r) :
  Calls Tryd.prog 41 #[.agg #[.int .i64 a0_0, .int .u32 a0_1, .slice A0_2 l0_2.length c0_2]] w fun e w' => ∃ v0_ : Value, e = .returned (v0_) ∧ Kd.R (Kd.int .u8) 5 w' w.heap.size (fun _ => True) v0_ r ∧ Below w.heap.size w w' := by
 have hu58 := Tryd.underlying58
 have HR0_2 := a_ hr0_2
 have HC0_2 := a_ hc0_2
 clear hr0_2 hc0_2
 have HB := a_ (Below.refl w.heap.size w)
 have H := h
 clear h
 unfold umpireref10_One.f at H
 obtain ⟨y775, hy775⟩ := is_ (([(a0_0) % 256] : List Int))
 rw [Option.bind_some, ← hy775] at H
 have Ny775 := a_ hy775
 clear hy775
 by_cases c2 : a0_0 ≤ 2
 ·rw [if_pos c2] at H
  have c2b0 := decide_eq_true c2
  clear c2
  obtain ⟨y778, hy778⟩ := is_ ((([(wrap64 ((l0_2.length : Int) / 256)) % 256, (l0_2.length : Int) % 256] : List Int)))
  rw [Option.bind_some, ← hy778] at H
  have Ny778 := a_ hy778
  clear hy778
  have c3 := ifc_ H
  replace H := ift_ H
  have LMc3 := a_ c3
  clear c3
  obtain ⟨y781, hy781⟩ := is_ ((y775 ++ y778))
  rw [Option.bind_some, ← hy781] at H
  have Ny781 := a_ hy781
  clear hy781
  have c4 := ifc_ H
  replace H := ift_ H
  have LMc4 := a_ c4
  clear c4
  obtain ⟨y784, hy784⟩ := is_ ((y781 ++ l0_2))
  rw [← hy784] at H
  have Ny784 := a_ hy784
  clear hy784
  obtain rfl := Option.some.inj H
  go_enter Tryd.func41, Tryd.ntmps41
  go_wp2_with (first | (refine be_ 1 #[.int .i64 a0_0, .int .u32 a0_1, .slice A0_2 l0_2.length c0_2] 58 ?_; intro gb774 hg w5 hbox hb; have BK774 := a_ hbox; have GE774 := lb_ HB hg; replace HB := bs_ HB hb; clear hb hbox hg; obtain ⟨hcz6_0, hcz6_1, hcz6_2, hfz6_0, hfz6_1, hfz6_2⟩ := blk3 BK774.out) | ((with_reducible refine gate_dst (N := 7) rfl ?_); refine Kd.R_lit (Kd.int .u8) _ 5 ?hg (N := 7) ?hd (xs := ([(a0_0) % 256] : List Int)) (inner := [.int .u8 ((a0_0) % 256)]) (ok := fun _ => True) (okp := fun _ => True) ?hr ?hp (fun _ hk => hk) trivial (Below.refl _ _) (Nat.le_refl _) (by simp) ?_; (case hd => rfl); (case hg => rfl); (case hr => (go_simp; done)); (case hp => exact (Reps.one (show Kd.M (Kd.int .u8) _ _ _ ((a0_0) % 256) [.int .u8 ((a0_0) % 256)] from rfl) (Reps.none _ _))); intro v776 w7 ho8 hb hg_ hnew_; clear hg_ hnew_; (rw [← Ny775.out] at ho8); have HO777 := rl_ ho8 HB; replace BK774 := bb_ BK774 hb; replace HB := bs_ HB hb; clear hb ho8; obtain ⟨hcz9_0, hcz9_1, hcz9_2, hfz9_0, hfz9_1, hfz9_2⟩ := blk3 BK774.out) | ((with_reducible refine gate_dst (N := 22) rfl ?_); refine Kd.R_lit (Kd.int .u8) _ 5 ?hg (N := 22) ?hd (xs := ([(wrap64 ((l0_2.length : Int) / 256)) % 256, (l0_2.length : Int) % 256] : List Int)) (inner := [.int .u8 ((wrap64 ((l0_2.length : Int) / 256)) % 256), .int .u8 ((l0_2.length : Int) % 256)]) (ok := fun _ => True) (okp := fun _ => True) ?hr ?hp (fun _ hk => hk) trivial (Below.refl _ _) (Nat.le_refl _) (by simp) ?_; (case hd => rfl); (case hg => rfl); (case hr => (go_simp; done)); (case hp => exact (Reps.one (show Kd.M (Kd.int .u8) _ _ _ ((wrap64 ((l0_2.length : Int) / 256)) % 256) [.int .u8 ((wrap64 ((l0_2.length : Int) / 256)) % 256)] from rfl) (Reps.one (show Kd.M (Kd.int .u8) _ _ _ ((l0_2.length : Int) % 256) [.int .u8 ((l0_2.length : Int) % 256)] from rfl) (Reps.none _ _)))); intro v779 w10 ho11 hb hg_ hnew_; clear hg_ hnew_; (rw [← Ny778.out] at ho11); have HO780 := rn_ ho11 HO777 HB; replace HO777 := rR_ HO777 ho11 hb; replace BK774 := bb_ BK774 hb; replace HB := bs_ HB hb; clear hb ho11; obtain ⟨Ao13, co13, eo13⟩ := Kd.R_slice HO780.out; subst eo13) | ((with_reducible refine gate_builtin (b := .append) (xs := #[.tmp 11, .tmp 22]) rfl ?_); at_builtin; refine Kd.R_append_rows (Kd.int .u8) (w0 := w) w.heap.size rfl (.tmp 11) (.tmp 22) 22 5 (.int .u8 0) 1 rfl Tryd.underlying22 info5 rfl (by decide) (by omega) v776 y775 y778 _ _ _ (fun k_ => some k_ ≠ (.slice Ao13 y778.length co13 : Value).ownBlock) (fun _ => False) rfl rfl ?aO ?aR (fun _ _ h => h) (fun _ h => h.elim) ?aF ?aB ?aS ?aL ?_; (case aR => exact (Kd.R_reads' HO780.out).2.2); (case aB => exact HB.out); (case aF => exact (fun k_ hk => Kd.fresh' (Kd.R_lt HO780.out) k_ hk)); (case aO => exact (by exact Kd.R_mono HO777.out (fun _ hk => hk.2))); (case aS => exact (below_size HB.out)); (case aL => have := LMc3.out; omega); intro v782 w12 ho hb hg hat; rw [← Ny781.out] at ho; have HO783 := a_ ho; replace BK774 := a_ (blk_grown BK774.out hg (Kd.R_ne HO777.out BK774.out (by decide))); replace HO780 := a_ (Kd.R_after (ok := (fun _ => True)) HO780.out hg hat); replace HB := a_ hb; clear HO777; clear ho hb hg hat; obtain ⟨hcz14_0, hcz14_1, hcz14_2, hfz14_0, hfz14_1, hfz14_2⟩ := blk3 BK774.out) | ((with_reducible refine gate_builtin (b := .append) (xs := #[.tmp 24, .tmp 26]) rfl ?_); at_builtin; refine Kd.R_append_rows (Kd.int .u8) (w0 := w) w.heap.size rfl (.tmp 24) (.tmp 26) 22 5 (.int .u8 0) 1 rfl Tryd.underlying22 info5 rfl (by decide) (by omega) v782 y781 l0_2 _ _ _ (fun k_ => some k_ ≠ (.slice Ao13 y778.length co13 : Value).ownBlock) (fun _ => False) rfl rfl ?aO ?aR (fun _ _ h => h) (fun _ h => h.elim) ?aF ?aB ?aS ?aL ?_; (case aR => exact (Kd.C_below HR0_2.out HB.out)); (case aB => exact HB.out); (case aF => exact (fun k_ hk => Kd.fresh' (Kd.R_lt HO780.out) k_ hk)); (case aO => exact HO783.out); (case aS => exact (below_size HB.out)); (case aL => have := LMc4.out; omega); intro v785 w15 ho hb hg hat; rw [← Ny784.out] at ho; have HO786 := a_ ho; replace BK774 := a_ (blk_grown BK774.out hg (Kd.R_ne HO783.out BK774.out (by decide))); replace HO780 := a_ (Kd.R_after (ok := (fun _ => True)) HO780.out hg hat); replace HB := a_ hb; clear HO783; clear ho hb hg hat))
  go_ret
  exact ⟨_, by (rfl), by exact Kd.R_mono HO786.out (fun _ hk => trivial), by exact HB.out⟩
 ·rw [if_neg c2] at H
  have c2b0 := decide_eq_false c2
  clear c2
  by_cases c16 : a0_0 = 6
  ·rw [if_pos c16] at H
   obtain ⟨c16b0, c16b1⟩ := bt_ c16
   have c17 := ifc_ H
   replace H := ift_ H
   have LMc17 := a_ c17
   clear c17
   obtain ⟨y787, hy787⟩ := is_ ((y775 ++ [(a0_1) % 256]))
   rw [← hy787] at H
   have Ny787 := a_ hy787
   clear hy787
   obtain rfl := Option.some.inj H
   go_enter Tryd.func41, Tryd.ntmps41
   go_wp2_with (first | (refine be_ 1 #[.int .i64 a0_0, .int .u32 a0_1, .slice A0_2 l0_2.length c0_2] 58 ?_; intro gb774 hg w18 hbox hb; have BK774 := a_ hbox; have GE774 := lb_ HB hg; replace HB := bs_ HB hb; clear hb hbox hg; obtain ⟨hcz19_0, hcz19_1, hcz19_2, hfz19_0, hfz19_1, hfz19_2⟩ := blk3 BK774.out) | ((with_reducible refine gate_dst (N := 7) rfl ?_); refine Kd.R_lit (Kd.int .u8) _ 5 ?hg (N := 7) ?hd (xs := ([(a0_0) % 256] : List Int)) (inner := [.int .u8 ((a0_0) % 256)]) (ok := fun _ => True) (okp := fun _ => True) ?hr ?hp (fun _ hk => hk) trivial (Below.refl _ _) (Nat.le_refl _) (by simp) ?_; (case hd => rfl); (case hg => rfl); (case hr => (go_simp; done)); (case hp => exact (Reps.one (show Kd.M (Kd.int .u8) _ _ _ ((a0_0) % 256) [.int .u8 ((a0_0) % 256)] from rfl) (Reps.none _ _))); intro v776 w20 ho21 hb hg_ hnew_; clear hg_ hnew_; (rw [← Ny775.out] at ho21); have HO777 := rl_ ho21 HB; replace BK774 := bb_ BK774 hb; replace HB := bs_ HB hb; clear hb ho21; obtain ⟨hcz22_0, hcz22_1, hcz22_2, hfz22_0, hfz22_1, hfz22_2⟩ := blk3 BK774.out) | ((with_reducible refine gate_builtin (b := .append) (xs := #[.tmp 31, .tmp 35]) rfl ?_); at_builtin; refine Kd.R_append (Kd.int .u8) (w0 := w) w.heap.size rfl (.tmp 31) (.tmp 35) 22 5 (.int .u8 0) 1 rfl Tryd.underlying22 info5 rfl (by decide) (by omega) v776 y775 ((a0_1) % 256) [.int .u8 ((a0_1) % 256)] (fun _ => True) (fun _ => False) rfl rfl ?aP (fun _ hk => hk.elim) ?aF ?aO ?aB ?aS ?aL ?_; (case aP => exact rfl); (case aB => exact HB.out); (case aF => exact (fun _ _ => trivial)); (case aO => exact HO777.out); (case aS => exact (below_size HB.out)); (case aL => have := LMc17.out; omega); intro v788 w23 ho hb hg hat; rw [← Ny787.out] at ho; have HO789 := a_ ho; replace BK774 := a_ (blk_grown BK774.out hg (Kd.R_ne HO777.out BK774.out (by decide))); replace HB := a_ hb; clear HO777; clear ho hb hg hat))
   go_ret
   exact ⟨_, by (rfl), by exact HO789.out, by exact HB.out⟩
  ·rw [if_neg c16] at H
   have c16b0 := beq_eq_false_iff_ne.mpr c16
   have c16b1 := bne_iff_ne.mpr c16
   by_cases c24 : a0_0 = 5
   ·rw [if_pos c24] at H
    obtain ⟨c24b0, c24b1⟩ := bt_ c24
    replace H := Option.bind_eq_some_iff.mp H
    obtain ⟨t790, A250, H⟩ := H
    try dsimp only at H
    have A25 := a_ A250
    clear A250
    have c26 := ifc_ H
    replace H := ift_ H
    have LMc26 := a_ c26
    clear c26
    obtain ⟨y793, hy793⟩ := is_ ((y775 ++ t790))
    rw [← hy793] at H
    have Ny793 := a_ hy793
    clear hy793
    obtain rfl := Option.some.inj H
    go_enter Tryd.func41, Tryd.ntmps41
    go_wp2_with (first | (refine be_ 1 #[.int .i64 a0_0, .int .u32 a0_1, .slice A0_2 l0_2.length c0_2] 58 ?_; intro gb774 hg w27 hbox hb; have BK774 := a_ hbox; have GE774 := lb_ HB hg; replace HB := bs_ HB hb; clear hb hbox hg; obtain ⟨hcz28_0, hcz28_1, hcz28_2, hfz28_0, hfz28_1, hfz28_2⟩ := blk3 BK774.out) | ((with_reducible refine gate_dst (N := 7) rfl ?_); refine Kd.R_lit (Kd.int .u8) _ 5 ?hg (N := 7) ?hd (xs := ([(a0_0) % 256] : List Int)) (inner := [.int .u8 ((a0_0) % 256)]) (ok := fun _ => True) (okp := fun _ => True) ?hr ?hp (fun _ hk => hk) trivial (Below.refl _ _) (Nat.le_refl _) (by simp) ?_; (case hd => rfl); (case hg => rfl); (case hr => (go_simp; done)); (case hp => exact (Reps.one (show Kd.M (Kd.int .u8) _ _ _ ((a0_0) % 256) [.int .u8 ((a0_0) % 256)] from rfl) (Reps.none _ _))); intro v776 w29 ho30 hb hg_ hnew_; clear hg_ hnew_; (rw [← Ny775.out] at ho30); have HO777 := rl_ ho30 HB; replace BK774 := bb_ BK774 hb; replace HB := bs_ HB hb; clear hb ho30; obtain ⟨hcz31_0, hcz31_1, hcz31_2, hfz31_0, hfz31_1, hfz31_2⟩ := blk3 BK774.out) | (refine gl_ (some 49) Tryd.func60 #[.int .u64 (IntKind.u64.wrap (a0_1)), .int .i64 4, .bool true] ?_; (with_reducible refine (umpireref02_Put.calls k (IntKind.u64.wrap (a0_1)) 4 true t790 _ A25.out).mono ?_); rintro e w32 ⟨v791, rfl, ho0, hb⟩; refine ⟨_, rfl, ?_⟩; have HO792 := rn_ ho0 HO777 HB; replace HO777 := rR_ HO777 ho0 hb; replace BK774 := bb_ BK774 hb; replace HB := bs_ HB hb; (try clear hb); (try clear ho0); obtain ⟨Ao34, co34, eo34⟩ := Kd.R_slice HO792.out; subst eo34) | ((with_reducible refine gate_builtin (b := .append) (xs := #[.tmp 45, .tmp 49]) rfl ?_); at_builtin; refine Kd.R_append_rows (Kd.int .u8) (w0 := w) w.heap.size rfl (.tmp 45) (.tmp 49) 22 5 (.int .u8 0) 1 rfl Tryd.underlying22 info5 rfl (by decide) (by omega) v776 y775 t790 _ _ _ (fun k_ => some k_ ≠ (.slice Ao34 t790.length co34 : Value).ownBlock) (fun _ => False) rfl rfl ?aO ?aR (fun _ _ h => h) (fun _ h => h.elim) ?aF ?aB ?aS ?aL ?_; (case aR => exact (Kd.R_reads' HO792.out).2.2); (case aB => exact HB.out); (case aF => exact (fun k_ hk => Kd.fresh' (Kd.R_lt HO792.out) k_ hk)); (case aO => exact (by exact Kd.R_mono HO777.out (fun _ hk => hk.2))); (case aS => exact (below_size HB.out)); (case aL => have := LMc26.out; omega); intro v794 w33 ho hb hg hat; rw [← Ny793.out] at ho; have HO795 := a_ ho; replace BK774 := a_ (blk_grown BK774.out hg (Kd.R_ne HO777.out BK774.out (by decide))); replace HO792 := a_ (Kd.R_after (ok := (fun _ => True)) HO792.out hg hat); replace HB := a_ hb; clear HO777; clear ho hb hg hat))
    go_ret
    exact ⟨_, by (rfl), by exact Kd.R_mono HO795.out (fun _ hk => trivial), by exact HB.out⟩
   ·rw [if_neg c24] at H
    have c24b0 := beq_eq_false_iff_ne.mpr c24
    have c24b1 := bne_iff_ne.mpr c24
    by_cases c35 : a0_0 = 7
    ·rw [if_pos c35] at H
     obtain ⟨c35b0, c35b1⟩ := bt_ c35
     replace H := Option.bind_eq_some_iff.mp H
     obtain ⟨t796, A360, H⟩ := H
     try dsimp only at H
     have A36 := a_ A360
     clear A360
     have c37 := ifc_ H
     replace H := ift_ H
     have LMc37 := a_ c37
     clear c37
     obtain ⟨y799, hy799⟩ := is_ ((y775 ++ t796))
     rw [← hy799] at H
     have Ny799 := a_ hy799
     clear hy799
     obtain rfl := Option.some.inj H
     go_enter Tryd.func41, Tryd.ntmps41
     go_wp2_with (first | (refine be_ 1 #[.int .i64 a0_0, .int .u32 a0_1, .slice A0_2 l0_2.length c0_2] 58 ?_; intro gb774 hg w38 hbox hb; have BK774 := a_ hbox; have GE774 := lb_ HB hg; replace HB := bs_ HB hb; clear hb hbox hg; obtain ⟨hcz39_0, hcz39_1, hcz39_2, hfz39_0, hfz39_1, hfz39_2⟩ := blk3 BK774.out) | ((with_reducible refine gate_dst (N := 7) rfl ?_); refine Kd.R_lit (Kd.int .u8) _ 5 ?hg (N := 7) ?hd (xs := ([(a0_0) % 256] : List Int)) (inner := [.int .u8 ((a0_0) % 256)]) (ok := fun _ => True) (okp := fun _ => True) ?hr ?hp (fun _ hk => hk) trivial (Below.refl _ _) (Nat.le_refl _) (by simp) ?_; (case hd => rfl); (case hg => rfl); (case hr => (go_simp; done)); (case hp => exact (Reps.one (show Kd.M (Kd.int .u8) _ _ _ ((a0_0) % 256) [.int .u8 ((a0_0) % 256)] from rfl) (Reps.none _ _))); intro v776 w40 ho41 hb hg_ hnew_; clear hg_ hnew_; (rw [← Ny775.out] at ho41); have HO777 := rl_ ho41 HB; replace BK774 := bb_ BK774 hb; replace HB := bs_ HB hb; clear hb ho41; obtain ⟨hcz42_0, hcz42_1, hcz42_2, hfz42_0, hfz42_1, hfz42_2⟩ := blk3 BK774.out) | (refine gl_ (some 49) Tryd.func60 #[.int .u64 (IntKind.u64.wrap (a0_1)), .int .i64 4, .bool true] ?_; (with_reducible refine (umpireref02_Put.calls k (IntKind.u64.wrap (a0_1)) 4 true t796 _ A36.out).mono ?_); rintro e w43 ⟨v797, rfl, ho0, hb⟩; refine ⟨_, rfl, ?_⟩; have HO798 := rn_ ho0 HO777 HB; replace HO777 := rR_ HO777 ho0 hb; replace BK774 := bb_ BK774 hb; replace HB := bs_ HB hb; (try clear hb); (try clear ho0); obtain ⟨Ao45, co45, eo45⟩ := Kd.R_slice HO798.out; subst eo45) | ((with_reducible refine gate_builtin (b := .append) (xs := #[.tmp 45, .tmp 49]) rfl ?_); at_builtin; refine Kd.R_append_rows (Kd.int .u8) (w0 := w) w.heap.size rfl (.tmp 45) (.tmp 49) 22 5 (.int .u8 0) 1 rfl Tryd.underlying22 info5 rfl (by decide) (by omega) v776 y775 t796 _ _ _ (fun k_ => some k_ ≠ (.slice Ao45 t796.length co45 : Value).ownBlock) (fun _ => False) rfl rfl ?aO ?aR (fun _ _ h => h) (fun _ h => h.elim) ?aF ?aB ?aS ?aL ?_; (case aR => exact (Kd.R_reads' HO798.out).2.2); (case aB => exact HB.out); (case aF => exact (fun k_ hk => Kd.fresh' (Kd.R_lt HO798.out) k_ hk)); (case aO => exact (by exact Kd.R_mono HO777.out (fun _ hk => hk.2))); (case aS => exact (below_size HB.out)); (case aL => have := LMc37.out; omega); intro v800 w44 ho hb hg hat; rw [← Ny799.out] at ho; have HO801 := a_ ho; replace BK774 := a_ (blk_grown BK774.out hg (Kd.R_ne HO777.out BK774.out (by decide))); replace HO798 := a_ (Kd.R_after (ok := (fun _ => True)) HO798.out hg hat); replace HB := a_ hb; clear HO777; clear ho hb hg hat))
     go_ret
     exact ⟨_, by (rfl), by exact Kd.R_mono HO801.out (fun _ hk => trivial), by exact HB.out⟩
    ·rw [if_neg c35] at H
     have c35b0 := beq_eq_false_iff_ne.mpr c35
     have c35b1 := bne_iff_ne.mpr c35
     obtain rfl := Option.some.inj H
     go_enter Tryd.func41, Tryd.ntmps41
     go_wp2_with (first | (refine be_ 1 #[.int .i64 a0_0, .int .u32 a0_1, .slice A0_2 l0_2.length c0_2] 58 ?_; intro gb774 hg w46 hbox hb; have BK774 := a_ hbox; have GE774 := lb_ HB hg; replace HB := bs_ HB hb; clear hb hbox hg; obtain ⟨hcz47_0, hcz47_1, hcz47_2, hfz47_0, hfz47_1, hfz47_2⟩ := blk3 BK774.out) | ((with_reducible refine gate_dst (N := 7) rfl ?_); refine Kd.R_lit (Kd.int .u8) _ 5 ?hg (N := 7) ?hd (xs := ([(a0_0) % 256] : List Int)) (inner := [.int .u8 ((a0_0) % 256)]) (ok := fun _ => True) (okp := fun _ => True) ?hr ?hp (fun _ hk => hk) trivial (Below.refl _ _) (Nat.le_refl _) (by simp) ?_; (case hd => rfl); (case hg => rfl); (case hr => (go_simp; done)); (case hp => exact (Reps.one (show Kd.M (Kd.int .u8) _ _ _ ((a0_0) % 256) [.int .u8 ((a0_0) % 256)] from rfl) (Reps.none _ _))); intro v776 w48 ho49 hb hg_ hnew_; clear hg_ hnew_; (rw [← Ny775.out] at ho49); have HO777 := rl_ ho49 HB; replace BK774 := bb_ BK774 hb; replace HB := bs_ HB hb; clear hb ho49; obtain ⟨hcz50_0, hcz50_1, hcz50_2, hfz50_0, hfz50_1, hfz50_2⟩ := blk3 BK774.out))
     go_ret
     exact ⟨_, by (rfl), by exact HO777.out, by exact HB.out⟩
def umpireref10_Put.l0 : Nat → List (S58) → List Int → Int → Option (List Int × Int)
 | 0, _, _, _ => none
 | k + 1, x0, x4, x5 => if x5 < (x0.length : Int) then (if 0 ≤ x5 then ((umpireref10_May.f k ((rd_T58 x0 x5).f0) ((rd_T58 x0 x5).f1) ((rd_T58 x0 x5).f2)).bind fun t803 => (if t803 = true then (if (((rd_T58 x0 x5).f2).length : Int) > 65535 then (some (([] : List Int), 4)) else ((umpireref10_One.f k ((rd_T58 x0 x5).f0) ((rd_T58 x0 x5).f1) ((rd_T58 x0 x5).f2)).bind fun t806 => (if x4.length + t806.length < 140737488355328 then (umpireref10_Put.l0 k x0 (x4 ++ t806) (wrap64 (x5 + 1))) else (none)))) else (some (([] : List Int), 1)))) else (none)) else (some (x4, 0))
def umpireref10_Put.f (k : Nat) (l0 : List (S58)) : Option (List Int × Int) := umpireref10_Put.l0 k l0 ([] : List Int) 0
theorem umpireref10_Put.calls (k : Nat) (A0 : Option Addr) (c0 : Nat) (l0 : List (S58)) (r1 : List Int) (r2 : Int) (w : World) (hr0 : Kd.C k58 w A0 l0.length l0) (hc0 : l0.length ≤ c0) (h : umpireref10_Put.f k l0 = some (r1, r2)) :
  Calls Tryd.prog 21 #[.slice A0 l0.length c0] w fun e w' => ∃ v0_ : Value, e = .returned (.tuple #[v0_, .int .i64 r2]) ∧ Kd.R (Kd.int .u8) 5 w' w.heap.size (fun _ => True) v0_ r1 ∧ Below w.heap.size w w' := by
 have hu58 := Tryd.underlying58
 have HR0 := a_ hr0
 have HC0 := a_ hc0
 clear hr0 hc0
 have HB := a_ (Below.refl w.heap.size w)
 have H := h
 clear h
 unfold umpireref10_Put.f at H
 have H' := a_ H
 clear H
 go_enter Tryd.func21, Tryd.ntmps21
 go_wp2
 go_loopg [4, 5] k (fun kq v4 v5 w' => ∃ (x4_1 : List Int) (x5_1 : Int), v5 = .int .i64 x5_1 ∧ Aside0 (umpireref10_Put.l0 kq l0 x4_1 x5_1 = some (r1, r2)) ∧ Aside0 (kq ≤ k) ∧ Aside0 (Kd.R (Kd.int .u8) 5 w' w.heap.size (fun _ => True) v4 x4_1) ∧ Aside0 (Below w.heap.size w w'))
 case atStart => exact ⟨([] : List Int), (0), (by rfl), H', ⟨Nat.le_refl _⟩, ⟨by (exact Kd.R_nil _ _ _ _ _)⟩, ⟨by exact HB.out⟩⟩
 case round =>
  clear H'
  obtain ⟨x4_1, x5_1, rfl, HA, HK1, HO_4, HB⟩ := hrel
  cases gk with
  | zero => exact absurd HA.out (by simp [umpireref10_Put.l0])
  | succ k1 =>
   have H := HA.out
   clear HA
   simp only [umpireref10_Put.l0] at H
   by_cases c2 : x5_1 < (l0.length : Int)
   ·rw [if_pos c2] at H
    have c2b0 := decide_eq_true c2
    clear c2
    have c3b0 := ifd_ H
    replace H := ift_ H
    replace H := Option.bind_eq_some_iff.mp H
    obtain ⟨t803, A40, H⟩ := H
    try dsimp only at H
    have A4 := a_ A40
    clear A40
    by_cases c5 : t803 = true
    ·subst c5
     rw [if_pos rfl] at H
     by_cases c6 : (((rd_T58 l0 x5_1).f2).length : Int) > 65535
     ·rw [if_pos c6] at H
      have c6b0 : decide (65535 < (((rd_T58 l0 x5_1).f2).length : Int)) = true := decide_eq_true c6
      have c6b1 : decide (65535 < ((rd_T58 l0 x5_1).f2).length) = true := decide_eq_true (by omega)
      clear c6
      obtain ⟨rfl, rfl⟩ := s2_ H
      have p802 : 0 ≤ (x5_1 : Int) := da_
      have q802 : x5_1 < (l0.length : Int) := da_
      obtain ⟨ad802, A802_2, c802_2, e802, hx802_0, hx802_1, hx802_2, hl802_2, hi802_2⟩ := at_T58 HR0.out x5_1 p802 q802
      cases e802
      replace hx802_0 := cb_ HB hx802_0
      replace hx802_1 := cb_ HB hx802_1
      replace hx802_2 := cb_ HB hx802_2
      have HR802_2 := a_ hi802_2
      have HC802_2 := a_ hl802_2
      clear hi802_2 hl802_2
      replace p802 := eq_true p802
      replace q802 := eq_true q802
      go_wp2_with (first | (refine gl_ (some 16) Tryd.func40 #[.agg #[.int .i64 ((rd_T58 l0 x5_1).f0), .int .u32 ((rd_T58 l0 x5_1).f1), .slice A802_2 ((rd_T58 l0 x5_1).f2).length c802_2]] ?_; (with_reducible refine (umpireref10_May.calls k1 ((rd_T58 l0 x5_1).f0) ((rd_T58 l0 x5_1).f1) _ _ ((rd_T58 l0 x5_1).f2) true _ (Kd.C_below HR802_2.out HB.out) HC802_2.out A4.out).mono ?_); rintro e w7 ⟨rfl, hb⟩; refine ⟨_, rfl, ?_⟩; replace HO_4 := rb_ HO_4 hb; replace HB := bs_ HB hb; (try clear hb); have p804 : 0 ≤ (x5_1 : Int) := da_; have q804 : x5_1 < (l0.length : Int) := da_; obtain ⟨ad804, A804_2, c804_2, e804, hx804_0, hx804_1, hx804_2, hl804_2, hi804_2⟩ := at_T58 HR0.out x5_1 p804 q804; obtain rfl : ad802 = ad804 := (by injection e804); replace hx804_0 := cb_ HB hx804_0; replace hx804_1 := cb_ HB hx804_1; replace hx804_2 := cb_ HB hx804_2; have HR804_2 := a_ hi804_2; have HC804_2 := a_ hl804_2; clear hi804_2 hl804_2; replace p804 := eq_true p804; replace q804 := eq_true q804))
      go_ret2
      exact ⟨_, by (rfl), by (exact Kd.R_nil _ _ _ _ _), by exact HB.out⟩
     ·rw [if_neg c6] at H
      have c6b0 : decide (65535 < (((rd_T58 l0 x5_1).f2).length : Int)) = false := decide_eq_false c6
      have c6b1 : decide (65535 < ((rd_T58 l0 x5_1).f2).length) = false := decide_eq_false (by omega)
      clear c6
      replace H := Option.bind_eq_some_iff.mp H
      obtain ⟨t806, A80, H⟩ := H
      try dsimp only at H
      have A8 := a_ A80
      clear A80
      have c9 := ifc_ H
      replace H := ift_ H
      have LMc9 := a_ c9
      clear c9
      obtain ⟨y809, hy809⟩ := is_ ((x4_1 ++ t806))
      rw [← hy809] at H
      have Ny809 := a_ hy809
      clear hy809
      have H' := a_ H
      clear H
      have p802 : 0 ≤ (x5_1 : Int) := da_
      have q802 : x5_1 < (l0.length : Int) := da_
      obtain ⟨ad802, A802_2, c802_2, e802, hx802_0, hx802_1, hx802_2, hl802_2, hi802_2⟩ := at_T58 HR0.out x5_1 p802 q802
      cases e802
      replace hx802_0 := cb_ HB hx802_0
      replace hx802_1 := cb_ HB hx802_1
      replace hx802_2 := cb_ HB hx802_2
      have HR802_2 := a_ hi802_2
      have HC802_2 := a_ hl802_2
      clear hi802_2 hl802_2
      replace p802 := eq_true p802
      replace q802 := eq_true q802
      go_wp2_with (first | (refine gl_ (some 16) Tryd.func40 #[.agg #[.int .i64 ((rd_T58 l0 x5_1).f0), .int .u32 ((rd_T58 l0 x5_1).f1), .slice A802_2 ((rd_T58 l0 x5_1).f2).length c802_2]] ?_; (with_reducible refine (umpireref10_May.calls k1 ((rd_T58 l0 x5_1).f0) ((rd_T58 l0 x5_1).f1) _ _ ((rd_T58 l0 x5_1).f2) true _ (Kd.C_below HR802_2.out HB.out) HC802_2.out A4.out).mono ?_); rintro e w10 ⟨rfl, hb⟩; refine ⟨_, rfl, ?_⟩; replace HO_4 := rb_ HO_4 hb; replace HB := bs_ HB hb; (try clear hb); have p804 : 0 ≤ (x5_1 : Int) := da_; have q804 : x5_1 < (l0.length : Int) := da_; obtain ⟨ad804, A804_2, c804_2, e804, hx804_0, hx804_1, hx804_2, hl804_2, hi804_2⟩ := at_T58 HR0.out x5_1 p804 q804; obtain rfl : ad802 = ad804 := (by injection e804); replace hx804_0 := cb_ HB hx804_0; replace hx804_1 := cb_ HB hx804_1; replace hx804_2 := cb_ HB hx804_2; have HR804_2 := a_ hi804_2; have HC804_2 := a_ hl804_2; clear hi804_2 hl804_2; replace p804 := eq_true p804; replace q804 := eq_true q804; have p805 : 0 ≤ (x5_1 : Int) := da_; have q805 : x5_1 < (l0.length : Int) := da_; obtain ⟨ad805, A805_2, c805_2, e805, hx805_0, hx805_1, hx805_2, hl805_2, hi805_2⟩ := at_T58 HR0.out x5_1 p805 q805; obtain rfl : ad802 = ad805 := (by injection e805); replace hx805_0 := cb_ HB hx805_0; replace hx805_1 := cb_ HB hx805_1; replace hx805_2 := cb_ HB hx805_2; have HR805_2 := a_ hi805_2; have HC805_2 := a_ hl805_2; clear hi805_2 hl805_2; replace p805 := eq_true p805; replace q805 := eq_true q805; have ea_ := Option.some.inj (hx804_2.symm.trans hx805_2); injection ea_ with ea_ en_ ec_; subst ea_; subst ec_; clear en_) | (refine gl_ (some 30) Tryd.func41 #[.agg #[.int .i64 ((rd_T58 l0 x5_1).f0), .int .u32 ((rd_T58 l0 x5_1).f1), .slice A804_2 ((rd_T58 l0 x5_1).f2).length c804_2]] ?_; (with_reducible refine (umpireref10_One.calls k1 ((rd_T58 l0 x5_1).f0) ((rd_T58 l0 x5_1).f1) _ _ ((rd_T58 l0 x5_1).f2) t806 _ (Kd.C_below HR805_2.out HB.out) HC805_2.out A8.out).mono ?_); rintro e w11 ⟨v807, rfl, ho0, hb⟩; refine ⟨_, rfl, ?_⟩; have HO808 := rn_ ho0 HO_4 HB; replace HO_4 := rR_ HO_4 ho0 hb; replace HB := bs_ HB hb; (try clear hb); (try clear ho0); obtain ⟨Ao13, co13, eo13⟩ := Kd.R_slice HO808.out; subst eo13) | ((with_reducible refine gate_builtin (b := .append) (xs := #[.tmp 25, .tmp 30]) rfl ?_); at_builtin; refine Kd.R_append_rows (Kd.int .u8) (w0 := w) w.heap.size rfl (.tmp 25) (.tmp 30) 22 5 (.int .u8 0) 1 rfl Tryd.underlying22 info5 rfl (by decide) (by omega) u4 x4_1 t806 _ _ _ (fun k_ => some k_ ≠ (.slice Ao13 t806.length co13 : Value).ownBlock) (fun _ => False) rfl rfl ?aO ?aR (fun _ _ h => h) (fun _ h => h.elim) ?aF ?aB ?aS ?aL ?_; (case aR => exact (Kd.R_reads' HO808.out).2.2); (case aB => exact HB.out); (case aF => exact (fun k_ hk => Kd.fresh' (Kd.R_lt HO808.out) k_ hk)); (case aO => exact (by exact Kd.R_mono HO_4.out (fun _ hk => hk.2))); (case aS => exact (below_size HB.out)); (case aL => have := LMc9.out; omega); intro v810 w12 ho hb hg hat; rw [← Ny809.out] at ho; have HO811 := a_ ho; replace HO808 := a_ (Kd.R_after (ok := (fun _ => True)) HO808.out hg hat); replace HB := a_ hb; clear HO_4; clear ho hb hg hat))
      go_roundg k1
      case measure => have := HK1.out; omega
      case rel => exact ⟨(y809), (wrap64 (x5_1 + 1)), (by rfl), H', ⟨by have := HK1.out; omega⟩, ⟨by exact Kd.R_mono HO811.out (fun _ hk => trivial)⟩, ⟨by exact HB.out⟩⟩
    ·cases nt_ c5
     rw [if_neg nft_] at H
     obtain ⟨rfl, rfl⟩ := s2_ H
     have p802 : 0 ≤ (x5_1 : Int) := da_
     have q802 : x5_1 < (l0.length : Int) := da_
     obtain ⟨ad802, A802_2, c802_2, e802, hx802_0, hx802_1, hx802_2, hl802_2, hi802_2⟩ := at_T58 HR0.out x5_1 p802 q802
     cases e802
     replace hx802_0 := cb_ HB hx802_0
     replace hx802_1 := cb_ HB hx802_1
     replace hx802_2 := cb_ HB hx802_2
     have HR802_2 := a_ hi802_2
     have HC802_2 := a_ hl802_2
     clear hi802_2 hl802_2
     replace p802 := eq_true p802
     replace q802 := eq_true q802
     go_wp2_with (first | (refine gl_ (some 16) Tryd.func40 #[.agg #[.int .i64 ((rd_T58 l0 x5_1).f0), .int .u32 ((rd_T58 l0 x5_1).f1), .slice A802_2 ((rd_T58 l0 x5_1).f2).length c802_2]] ?_; (with_reducible refine (umpireref10_May.calls k1 ((rd_T58 l0 x5_1).f0) ((rd_T58 l0 x5_1).f1) _ _ ((rd_T58 l0 x5_1).f2) false _ (Kd.C_below HR802_2.out HB.out) HC802_2.out A4.out).mono ?_); rintro e w14 ⟨rfl, hb⟩; refine ⟨_, rfl, ?_⟩; replace HO_4 := rb_ HO_4 hb; replace HB := bs_ HB hb; (try clear hb)))
     go_ret2
     exact ⟨_, by (rfl), by (exact Kd.R_nil _ _ _ _ _), by exact HB.out⟩
   ·rw [if_neg c2] at H
    have c2b0 := decide_eq_false c2
    clear c2
    obtain ⟨rfl, rfl⟩ := s2_ H
    go_wp2
    go_ret2
    exact ⟨_, by (rfl), by exact HO_4.out, by exact HB.out⟩
end Go.Proofs.YtgnonglkibhnhaaDoor.Print
