import Derived.Test.YtgnonglkibhnhaaDoorZ
namespace Go.Proofs.YtgnonglkibhnhaaDoor.Print
open Go.RowKit Go.Proofs.YtgnonglkibhnhaaDoorW.PrintWords Go.Proofs.YtgnonglkibhnhaaDoorW.PrintLast Go.Proofs.YtgnonglkibhnhaaDoorW.PrintMore
attribute [local go_sem] max2_int min2_int max_two min_two max_three min_three max_four min_four
set_option linter.unusedVariables false
set_option linter.unusedSimpArgs false

/-! ### umpireref10_Next: function 39 -/
mutual
def umpireref10_Next.j0 : Nat → List Int → Int → Bool → Option (Int × Int × List Int × Int × Int)
 | 0, _, _, _ => none
 | k + 1, x0, x5, x23 => if x23 = true then (some (0, 0, ([] : List Int), 0, 7)) else ((some (([0, 2, 2, 0, 0, 4, 1, 4] : List Int) : List Int)).bind fun y578 => (if 0 ≤ x5 then (if x5 < (y578.length : Int) then (if (x0.length : Int) < (wrap64 (1 + (rd y578 x5))) then (some (0, 0, ([] : List Int), 0, 2)) else (umpireref10_Next.l0 k x0 x5 (rd y578 x5) 0 0 x5 0)) else (none)) else (none)))
def umpireref10_Next.l0 : Nat → List Int → Int → Int → Int → Int → Int → Int → Option (Int × Int × List Int × Int × Int)
 | 0, _, _, _, _, _, _, _ => none
 | k + 1, x0, x5, x6, x8, x9, x583000, x583001 => if x9 < x6 then (if 0 ≤ (wrap64 (1 + x9)) then (if (wrap64 (1 + x9)) < (x0.length : Int) then (umpireref10_Next.l0 k x0 x5 x6 ((((256 * x8) % 4294967296) + ((rd x0 (wrap64 (1 + x9))) % 4294967296)) % 4294967296) (wrap64 (x9 + 1)) x583000 x583001) else (none)) else (none)) else (if x5 > 2 then (some (x583000, x8, ([] : List Int), wrap64 (1 + x6), 0)) else (if (x0.length : Int) < (wrap64 (3 + (wrap64 (x8)))) then (some (0, 0, ([] : List Int), 0, 2)) else (if 3 ≤ (wrap64 (3 + (wrap64 (x8)))) then (if (wrap64 (3 + (wrap64 (x8)))) ≤ (x0.length : Int) then (if ([] : List Int).length + ((x0.take ((wrap64 (3 + (wrap64 (x8)))) : Int).toNat).drop 3).length < 140737488355328 then (some (x583000, x583001, (([] : List Int) ++ ((x0.take ((wrap64 (3 + (wrap64 (x8)))) : Int).toNat).drop 3)), wrap64 (3 + (wrap64 (x8))), 0)) else (none)) else (none)) else (none))))
end
def umpireref10_Next.f (k : Nat) (l0 : List Int) : Option (Int × Int × List Int × Int × Int) := if (l0.length : Int) = 0 then (some (0, 0, ([] : List Int), 0, 2)) else (if 0 < (l0.length : Int) then (if (wrap64 (rd l0 0)) < 1 then (umpireref10_Next.j0 k l0 (wrap64 (rd l0 0)) true) else (umpireref10_Next.j0 k l0 (wrap64 (rd l0 0)) (decide ((wrap64 (rd l0 0)) > 7)))) else (none))
def umpireref10_Next.T20 : Bool × List (List Nat × List Nat) := (true, [([], []), ([0], [0]), ([], []), ([], []), ([3], [3]), ([4], [4]), ([2, 5], [2, 5]), ([1, 6], [1, 6]), ([0, 1, 2, 3, 4, 5, 6, 7], []), ([8, 7, 7, 0, 1, 2, 3, 4, 5, 6, 7], [7, 8])])
def umpireref10_Next.B20 : List Nat := [0, 1, 0, 0, 8, 24, 60, 127, 255, 511]
theorem umpireref10_Next.tab20 : rtab .any (opsOf Tryd.f39 20) = umpireref10_Next.T20 := by kernel_rfl
theorem umpireref10_Next.bits20 : waitsOk umpireref10_Next.T20.2 umpireref10_Next.B20 = true := by kernel_rfl
set_option maxHeartbeats 8000000 in
set_option maxRecDepth 100000 in
theorem umpireref10_Next.calls (k : Nat) (A0 : Option Addr) (c0 : Nat) (l0 : List Int) (r1 : Int) (r2 : Int) (r3 : List Int) (r4 : Int) (r5 : Int) (w : World) (hr0 : Kd.C (Kd.int .u8) w A0 l0.length l0) (hc0 : l0.length ≤ c0) (h : umpireref10_Next.f k l0 = some (r1, r2, r3, r4, r5)) :
  Calls Tryd.prog 39 #[.slice A0 l0.length c0] w fun e w' => ∃ v2_ : Value, e = .returned (.tuple #[.agg #[.int .i64 r1, .int .u32 r2, v2_], .int .i64 r4, .int .i64 r5]) ∧ Kd.R (Kd.int .u8) 5 w' w.heap.size (fun _ => True) v2_ r3 ∧ Below w.heap.size w w' := by
 have hu58 := Tryd.underlying58
 have HR0 := a_ hr0
 have HC0 := a_ hc0
 clear hr0 hc0
 have HB := a_ (Below.refl w.heap.size w)
 have H := h
 clear h
 unfold umpireref10_Next.f at H
 by_cases c2 : (l0.length : Int) = 0
 ·rw [if_pos c2] at H
  obtain ⟨c2b0, c2b1⟩ := bt_ c2
  clear c2
  obtain ⟨rfl, rfl, rfl, rfl, rfl⟩ := s5_ H
  go_enter Tryd.func39, Tryd.ntmps39
  go_wp2_with (first | (refine be_ 2 #[.int .i64 0, .int .u32 0, .slice none 0 0] 58 ?_; intro gb576 hg w3 hbox hb; have BK576 := a_ hbox; have GE576 := lb_ HB hg; replace HB := bs_ HB hb; clear hb hbox hg; obtain ⟨hcz4_0, hcz4_1, hcz4_2, hfz4_0, hfz4_1, hfz4_2⟩ := blk3 BK576.out))
  refine bodyPost_ret (results_ctt rfl _ _ gb576 58 #[.int .i64 0, .int .u32 0, .slice none 0 0] (0, 0) _ rfl (by refine blk_put (cs := #[.int .i64 0, .int .u32 0, .slice none 0 0]) ?_ 2 _ rfl; refine blk_put (cs := #[.int .i64 0, .int .u32 0, .slice none 0 0]) ?_ 1 _ rfl; refine blk_put (cs := #[.int .i64 0, .int .u32 0, .slice none 0 0]) ?_ 0 _ rfl; exact BK576.out) Tryd.underlying58 rfl (by kernel_rfl)) rfl ?_
  exact ⟨_, by (rfl), by (exact Kd.R_nil _ _ _ _ _), by repeat (with_reducible first | exact HB.out | refine below_set ?_ GE576.out)⟩
 ·rw [if_neg c2] at H
  have c2b0 := beq_eq_false_iff_ne.mpr c2
  have c2b1 := bne_iff_ne.mpr c2
  have c2b2 : ¬ (l0 = []) := fun h_ => c2 (by rw [h_]; rfl)
  have c5 := ifc_ H
  replace H := ift_ H
  have c5b0 := decide_eq_true c5
  have c5b1 : decide (0 < l0.length) = true := decide_eq_true (by omega)
  clear c5
  have HC6 := a_ H
  clear H
  go_enter Tryd.func39, Tryd.ntmps39
  go_upto_region 4 with (first | (refine be_ 2 #[.int .i64 0, .int .u32 0, .slice none 0 0] 58 ?_; intro gb576 hg w7 hbox hb; have BK576 := a_ hbox; have GE576 := lb_ HB hg; replace HB := bs_ HB hb; clear hb hbox hg; have p577 : 0 ≤ (0 : Int) := (by omega); have q577 : 0 < (l0.length : Int) := da_; obtain ⟨ad577, e577, hx577_0⟩ := Kd.at_int HR0.out 0 p577 q577; cases e577; have qi577 : (0 < l0.length) = True := eq_true (by omega); (try rw [show (0 : Int).toNat = 0 from rfl] at hx577_0); (try rw [Addr.add_zero'] at hx577_0); replace hx577_0 := cb_ HB hx577_0; replace p577 := eq_true p577; replace q577 := eq_true q577))
  go_cut [23] (fun v23 wc => ∃ (kq : Nat) (x23_5 : Bool), v23 = .bool x23_5 ∧ Aside0 (umpireref10_Next.j0 kq l0 (wrap64 (rd l0 0)) x23_5 = some (r1, r2, r3, r4, r5)) ∧ Aside0 (kq ≤ k) ∧ Aside0 (wc.heap[gb576]? = some (.cells #[.int .i64 0, .int .u32 0, (.slice none 0 0)] 58 (0, 0))) ∧ Aside0 (Below w.heap.size w wc))
  case first =>
   have H := HC6.out
   clear HC6
   by_cases c8 : (wrap64 (rd l0 0)) < 1
   ·rw [if_pos c8] at H
    have c8b0 := decide_eq_true c8
    clear c8
    have H' := a_ H
    clear H
    go_wp2
    go_meet
    case rel => exact ⟨_, (true), (by rfl), H', ⟨by (omega)⟩, ⟨by exact BK576.out⟩, ⟨by exact HB.out⟩⟩
   ·rw [if_neg c8] at H
    have c8b0 := decide_eq_false c8
    clear c8
    have H' := a_ H
    clear H
    go_wp2
    go_meet
    case rel => exact ⟨_, (decide ((wrap64 (rd l0 0)) > 7)), (by rfl), H', ⟨by (omega)⟩, ⟨by exact BK576.out⟩, ⟨by exact HB.out⟩⟩
  case rest =>
   clear HC6
   try clear c2
   try clear c2b0
   try clear c2b1
   try clear c2b2
   try clear c5b0
   try clear c5b1
   try clear hx577_0
   try clear p577
   try clear q577
   obtain ⟨kq, x23_5, rfl, HA, HJ5, BK576, HB⟩ := hcut
   cases kq with
   | zero => exact absurd HA.out (by simp [umpireref10_Next.j0])
   | succ kj5 =>
    have H := HA.out
    clear HA
    simp only [umpireref10_Next.j0] at H
    by_cases c9 : x23_5 = true
    ·subst c9
     rw [if_pos rfl] at H
     obtain ⟨rfl, rfl, rfl, rfl, rfl⟩ := s5_ H
     obtain ⟨hcz10_0, hcz10_1, hcz10_2, hfz10_0, hfz10_1, hfz10_2⟩ := blk3 BK576.out
     go_wp2
     refine bodyPost_ret (results_ctt rfl _ _ gb576 58 #[.int .i64 0, .int .u32 0, .slice none 0 0] (0, 0) _ rfl (by refine blk_put (cs := #[.int .i64 0, .int .u32 0, .slice none 0 0]) ?_ 2 _ rfl; refine blk_put (cs := #[.int .i64 0, .int .u32 0, .slice none 0 0]) ?_ 1 _ rfl; refine blk_put (cs := #[.int .i64 0, .int .u32 0, .slice none 0 0]) ?_ 0 _ rfl; exact BK576.out) Tryd.underlying58 rfl (by kernel_rfl)) rfl ?_
     exact ⟨_, by (rfl), by (exact Kd.R_nil _ _ _ _ _), by repeat (with_reducible first | exact HB.out | refine below_set ?_ GE576.out)⟩
    ·cases nt_ c9
     rw [if_neg nft_] at H
     obtain ⟨y578, hy578⟩ := is_ ([0, 2, 2, 0, 0, 4, 1, 4] : List Int)
     rw [Option.bind_some, ← hy578] at H
     have Ny578 := a_ hy578
     clear hy578
     obtain ⟨ji11, hji11⟩ := si_ ((wrap64 (rd l0 0)))
     rw [hji11] at H
     have hji11w : (IntKind.i64.wrap (rd l0 0)) = ji11 := (i64_w _).trans hji11
     have c12b0 := ifd_ H
     replace H := ift_ H
     have c13b0 := ifd_ H
     replace H := ift_ H
     by_cases c14 : (l0.length : Int) < (wrap64 (1 + (rd y578 (ji11))))
     ·rw [if_pos c14] at H
      have c14b0 := decide_eq_true c14
      clear c14
      obtain ⟨rfl, rfl, rfl, rfl, rfl⟩ := s5_ H
      go_wp2_with (first | ((with_reducible refine gate_dst (N := 25) rfl ?_); refine Kd.R_lit (Kd.int .i64) _ 3 ?hg (N := 25) ?hd (xs := ([0, 2, 2, 0, 0, 4, 1, 4] : List Int)) (inner := [.int .i64 0, .int .i64 2, .int .i64 2, .int .i64 0, .int .i64 0, .int .i64 4, .int .i64 1, .int .i64 4]) (ok := fun _ => True) (okp := fun _ => True) ?hr ?hp (fun _ hk => hk) trivial (Below.refl _ _) (Nat.le_refl _) (by simp) ?_; (case hd => rfl); (case hg => rfl); (case hr => (go_simp; done)); (case hp => exact (Reps.one (show Kd.M (Kd.int .i64) _ _ _ 0 [.int .i64 0] from rfl) (Reps.one (show Kd.M (Kd.int .i64) _ _ _ 2 [.int .i64 2] from rfl) (Reps.one (show Kd.M (Kd.int .i64) _ _ _ 2 [.int .i64 2] from rfl) (Reps.one (show Kd.M (Kd.int .i64) _ _ _ 0 [.int .i64 0] from rfl) (Reps.one (show Kd.M (Kd.int .i64) _ _ _ 0 [.int .i64 0] from rfl) (Reps.one (show Kd.M (Kd.int .i64) _ _ _ 4 [.int .i64 4] from rfl) (Reps.one (show Kd.M (Kd.int .i64) _ _ _ 1 [.int .i64 1] from rfl) (Reps.one (show Kd.M (Kd.int .i64) _ _ _ 4 [.int .i64 4] from rfl) (Reps.none _ _)))))))))); intro v579 w15 ho16 hb hg_ hnew_; clear hg_ hnew_; (rw [← Ny578.out] at ho16); have HO580 := rl_ ho16 HB; replace BK576 := bb_ BK576 hb; replace HB := bs_ HB hb; clear hb ho16; obtain ⟨Ao17, co17, eo17⟩ := Kd.R_slice HO580.out; subst eo17; have p581 : (0 ≤ ((ji11) : Int)) = True := et_; have q581 : ((ji11) < (y578.length : Int)) = True := et_; obtain ⟨ad581, e581, hx581_0⟩ := Kd.at_int (Kd.R_reads' HO580.out).2.2 (ji11) da_ da_; cases e581; obtain ⟨hcz18_0, hcz18_1, hcz18_2, hfz18_0, hfz18_1, hfz18_2⟩ := blk3 BK576.out))
      refine bodyPost_ret (results_ctt rfl _ _ gb576 58 #[.int .i64 0, .int .u32 0, .slice none 0 0] (0, 0) _ rfl (by refine blk_put (cs := #[.int .i64 0, .int .u32 0, .slice none 0 0]) ?_ 2 _ rfl; refine blk_put (cs := #[.int .i64 0, .int .u32 0, .slice none 0 0]) ?_ 1 _ rfl; refine blk_put (cs := #[.int .i64 0, .int .u32 0, .slice none 0 0]) ?_ 0 _ rfl; exact BK576.out) Tryd.underlying58 rfl (by kernel_rfl)) rfl ?_
      exact ⟨_, by (rfl), by (exact Kd.R_nil _ _ _ _ _), by repeat (with_reducible first | exact HB.out | refine below_set ?_ GE576.out)⟩
     ·rw [if_neg c14] at H
      have c14b0 := decide_eq_false c14
      clear c14
      have H' := a_ H
      clear H
      go_wp2_with (first | ((with_reducible refine gate_dst (N := 25) rfl ?_); refine Kd.R_lit (Kd.int .i64) _ 3 ?hg (N := 25) ?hd (xs := ([0, 2, 2, 0, 0, 4, 1, 4] : List Int)) (inner := [.int .i64 0, .int .i64 2, .int .i64 2, .int .i64 0, .int .i64 0, .int .i64 4, .int .i64 1, .int .i64 4]) (ok := fun _ => True) (okp := fun _ => True) ?hr ?hp (fun _ hk => hk) trivial (Below.refl _ _) (Nat.le_refl _) (by simp) ?_; (case hd => rfl); (case hg => rfl); (case hr => (go_simp; done)); (case hp => exact (Reps.one (show Kd.M (Kd.int .i64) _ _ _ 0 [.int .i64 0] from rfl) (Reps.one (show Kd.M (Kd.int .i64) _ _ _ 2 [.int .i64 2] from rfl) (Reps.one (show Kd.M (Kd.int .i64) _ _ _ 2 [.int .i64 2] from rfl) (Reps.one (show Kd.M (Kd.int .i64) _ _ _ 0 [.int .i64 0] from rfl) (Reps.one (show Kd.M (Kd.int .i64) _ _ _ 0 [.int .i64 0] from rfl) (Reps.one (show Kd.M (Kd.int .i64) _ _ _ 4 [.int .i64 4] from rfl) (Reps.one (show Kd.M (Kd.int .i64) _ _ _ 1 [.int .i64 1] from rfl) (Reps.one (show Kd.M (Kd.int .i64) _ _ _ 4 [.int .i64 4] from rfl) (Reps.none _ _)))))))))); intro v579 w19 ho20 hb hg_ hnew_; clear hg_ hnew_; (rw [← Ny578.out] at ho20); have HO580 := rl_ ho20 HB; replace BK576 := bb_ BK576 hb; replace HB := bs_ HB hb; clear hb ho20; obtain ⟨Ao21, co21, eo21⟩ := Kd.R_slice HO580.out; subst eo21; have p581 : (0 ≤ ((ji11) : Int)) = True := et_; have q581 : ((ji11) < (y578.length : Int)) = True := et_; obtain ⟨ad581, e581, hx581_0⟩ := Kd.at_int (Kd.R_reads' HO580.out).2.2 (ji11) da_ da_; cases e581) | (refine be_ 7 #[.int .i64 0, .int .u32 0, .slice none 0 0] 58 ?_; intro gb582 hg w22 hbox hb; have BK582 := a_ hbox; have GE582 := lb_ HB hg; obtain ⟨NB576_582, NB582_576⟩ := nn_ BK576 hg; replace HO580 := rb_ HO580 hb; replace BK576 := bb_ BK576 hb; replace HB := bs_ HB hb; clear hb hbox hg; have hnb23 := NB582_576.out; have hnc23 := NB576_582.out; obtain ⟨hcz24_0, hcz24_1, hcz24_2, hfz24_0, hfz24_1, hfz24_2⟩ := blk3 BK582.out))
      go_loopg [8, 9] kj5 (fun kq v8 v9 w' => ∃ (x8_2 : Int) (x9_2 : Int), v8 = .int .u32 x8_2 ∧ v9 = .int .i64 x9_2 ∧ Aside0 (umpireref10_Next.l0 kq l0 (ji11) (rd y578 (ji11)) x8_2 x9_2 (ji11) 0 = some (r1, r2, r3, r4, r5)) ∧ Aside0 (kq ≤ kj5) ∧ Aside0 (w'.heap[gb576]? = some (.cells #[.int .i64 0, .int .u32 0, (.slice none 0 0)] 58 (0, 0))) ∧ Aside0 (w'.heap[gb582]? = some (.cells #[.int .i64 (ji11), .int .u32 0, (.slice none 0 0)] 58 (0, 0))) ∧ Aside0 (Below w.heap.size w w'))
      case atStart => exact ⟨(0), (0), (by rfl), (by rfl), H', ⟨Nat.le_refl _⟩, ⟨by refine blk_far ?_ NB576_582.out _; refine blk_far ?_ NB576_582.out _; refine blk_far ?_ NB576_582.out _; exact BK576.out⟩, ⟨by refine blk_put (cs := #[.int .i64 (ji11), .int .u32 0, .slice none 0 0]) ?_ 2 _ rfl; refine blk_put (cs := #[.int .i64 (ji11), .int .u32 0, .slice none 0 0]) ?_ 1 _ rfl; refine blk_put (cs := #[.int .i64 0, .int .u32 0, .slice none 0 0]) ?_ 0 _ rfl; exact BK582.out⟩, ⟨by repeat (with_reducible first | exact HB.out | refine below_set ?_ GE582.out)⟩⟩
      case round =>
       clear H'
       try clear c12b0
       try clear c13b0
       try clear c14b0
       try clear hcz24_0
       try clear hcz24_1
       try clear hcz24_2
       try clear hfz24_0
       try clear hfz24_1
       try clear hfz24_2
       try clear hx581_0
       try clear p581
       try clear q581
       obtain ⟨x8_2, x9_2, rfl, rfl, HA, HK2, BK576, BK582, HB⟩ := hrel
       cases gk with
       | zero => exact absurd HA.out (by simp [umpireref10_Next.l0])
       | succ k2 =>
        have H := HA.out
        clear HA
        simp only [umpireref10_Next.l0] at H
        by_cases c25 : x9_2 < (rd y578 (ji11))
        ·rw [if_pos c25] at H
         have c25b0 := decide_eq_true c25
         clear c25
         obtain ⟨ji26, hji26⟩ := si_ ((wrap64 (1 + x9_2)))
         rw [hji26] at H
         have hji26w : (IntKind.i64.wrap (1 + x9_2)) = ji26 := (i64_w _).trans hji26
         have c27b0 := ifd_ H
         replace H := ift_ H
         have c28b0 := ifd_ H
         replace H := ift_ H
         have H' := a_ H
         clear H
         have p583 : 0 ≤ ((ji26) : Int) := da_
         have q583 : (ji26) < (l0.length : Int) := da_
         obtain ⟨ad583, e583, hx583_0⟩ := Kd.at_int HR0.out (ji26) p583 q583
         obtain rfl : ad577 = ad583 := (by injection e583)
         replace hx583_0 := cb_ HB hx583_0
         replace p583 := eq_true p583
         replace q583 := eq_true q583
         go_wp2
         go_roundg k2
         case measure => have := HJ5.out; have := HK2.out; omega
         case rel => exact ⟨((((256 * x8_2) % 4294967296) + ((rd l0 (ji26)) % 4294967296)) % 4294967296), (wrap64 (x9_2 + 1)), (by (simp; done)), (by rfl), H', ⟨by have := HJ5.out; have := HK2.out; omega⟩, ⟨by exact BK576.out⟩, ⟨by exact BK582.out⟩, ⟨by exact HB.out⟩⟩
        ·rw [if_neg c25] at H
         have c25b0 := decide_eq_false c25
         clear c25
         by_cases c29 : (ji11) > 2
         ·rw [if_pos c29] at H
          have c29b0 : decide (2 < (ji11)) = true := decide_eq_true c29
          clear c29
          obtain ⟨rfl, rfl, rfl, rfl, rfl⟩ := s5_ H
          have hnb30 := NB582_576.out
          have hnc30 := NB576_582.out
          have hcz31_0 : wr.cell? ⟨gb582, 0, none⟩ = some (.int .i64 (ji11)) := (blk_cell BK582.out 0).trans (by rfl)
          have hcz31_1 := bc1 BK582
          have hcz31_2 := bc2 BK582
          have hfz31_0 := blk_frozen BK582.out 0
          have hfz31_1 := blk_frozen BK582.out 1
          have hfz31_2 := blk_frozen BK582.out 2
          obtain ⟨hcz32_0, hcz32_1, hcz32_2, hfz32_0, hfz32_1, hfz32_2⟩ := blk3 BK576.out
          go_wp2
          refine bodyPost_ret (results_ctt rfl _ _ gb576 58 #[.int .i64 (ji11), .int .u32 x8_2, .slice none 0 0] (0, 0) _ rfl (by refine blk_put (cs := #[.int .i64 (ji11), .int .u32 x8_2, .slice none 0 0]) ?_ 2 _ rfl; refine blk_put (cs := #[.int .i64 (ji11), .int .u32 0, .slice none 0 0]) ?_ 1 _ rfl; refine blk_put (cs := #[.int .i64 0, .int .u32 0, .slice none 0 0]) ?_ 0 _ rfl; refine blk_far ?_ NB576_582.out _; exact BK576.out) Tryd.underlying58 rfl (by kernel_rfl)) rfl ?_
          exact ⟨_, by (rfl), by (exact Kd.R_nil _ _ _ _ _), by repeat (with_reducible first | exact HB.out | refine below_set ?_ GE576.out | refine below_set ?_ GE582.out)⟩
         ·rw [if_neg c29] at H
          have c29b0 : decide (2 < (ji11)) = false := decide_eq_false c29
          clear c29
          by_cases c33 : (l0.length : Int) < (wrap64 (3 + (wrap64 (x8_2))))
          ·rw [if_pos c33] at H
           have c33b0 := decide_eq_true c33
           clear c33
           obtain ⟨rfl, rfl, rfl, rfl, rfl⟩ := s5_ H
           have hnb34 := NB576_582.out
           have hnc34 := NB582_576.out
           obtain ⟨hcz35_0, hcz35_1, hcz35_2, hfz35_0, hfz35_1, hfz35_2⟩ := blk3 BK576.out
           go_wp2
           refine bodyPost_ret (results_ctt rfl _ _ gb576 58 #[.int .i64 0, .int .u32 0, .slice none 0 0] (0, 0) _ rfl (by refine blk_put (cs := #[.int .i64 0, .int .u32 0, .slice none 0 0]) ?_ 2 _ rfl; refine blk_put (cs := #[.int .i64 0, .int .u32 0, .slice none 0 0]) ?_ 1 _ rfl; refine blk_put (cs := #[.int .i64 0, .int .u32 0, .slice none 0 0]) ?_ 0 _ rfl; exact BK576.out) Tryd.underlying58 rfl (by kernel_rfl)) rfl ?_
           exact ⟨_, by (rfl), by (exact Kd.R_nil _ _ _ _ _), by repeat (with_reducible first | exact HB.out | refine below_set ?_ GE576.out)⟩
          ·rw [if_neg c33] at H
           have c33b0 := decide_eq_false c33
           clear c33
           have c36 := ifc_ H
           replace H := ift_ H
           have c36b0 := eq_true c36
           have c36b1 := decide_eq_true c36
           have c37 := ifc_ H
           replace H := ift_ H
           have c37b0 := eq_true c37
           have c37b1 := decide_eq_true c37
           have c38 := ifc_ H
           replace H := ift_ H
           have LMc38 := a_ c38
           clear c38
           obtain ⟨y585, hy585⟩ := is_ ((([] : List Int) ++ ((l0.take ((wrap64 (3 + (wrap64 (x8_2)))) : Int).toNat).drop 3)) : List Int)
           rw [← hy585] at H
           have Ny585 := a_ hy585
           clear hy585
           obtain ⟨rfl, rfl, rfl, rfl, rfl⟩ := s5_ H
           try go_wp2
           replace BK576 := a_ (blk_drew BK576.out)
           replace BK582 := a_ (blk_drew BK582.out)
           replace HB := a_ (below_drew1 HB.out)
           obtain ⟨i040, hi040, _, hsz40, _⟩ := info_parts info5
           obtain ⟨A40, hcut40, hA40, hC40⟩ := print_mid_of (P := Tryd.prog) (Value.int .u8) 0 22 5 .i64 .i64 Tryd.underlying22 hi040 hsz40 (some ad577) c0 l0 3 (wrap64 (3 + (wrap64 (x8_2)))) (by omega) (by omega) (da_) HC0.out
           have HR584 := ci_ (Kd.C_of_reads (h1 := fun _ => rfl) (hA40 _ (Kd.reads_of_C HR0.out)))
           have HC584 := a_ hC40
           clear hA40 hC40 hi040 hsz40
           refine start_ (n := 10) (S := fun w' => w'.cell? ⟨gb582, 0, none⟩ = some (.int .i64 (ji11)) ∧ w'.cell? ⟨gb582, 1, none⟩ = some (.int .u32 0) ∧ w'.cell? ⟨gb582, 2, none⟩ = some (.slice none 0 0)) (ds := [9]) (bo_ 10 0) (by kernel_rfl) rfl rfl ⟨bc0 BK582, bc1 BK582, bc2 BK582⟩ (fun hHeld => ?_); refine with_tabW umpireref10_Next.tab20 umpireref10_Next.bits20 (fun HT_ HW_ => ?_)
           generalize wr.drew = w39 at BK576 BK582 HB HR584 hHeld ⊢
           refine pu_ 0 (some 65) HT_ ?_
           refine pu_ 2 (some 67) HT_ ?_
           refine pu_ 3 (some 68) HT_ ?_
           refine pu_ 4 (some 69) HT_ ?_
           refine pu_ 5 (some 70) HT_ ?_
           refine pu_ 6 (some 71) HT_ ?_
           refine take_ (i := 1) (N := some 66) (v := ?_) (a' := ?_) (bo_ 10 127) rfl rfl (take_ofW HT_.out HW_.out (by kernel_rfl)) (fun _ _ _ h => h) (Or.inl ⟨by rfl, ?_⟩) hHeld ?_ ?_
           rotate_left
           ·rintro w' ⟨s0, s1, s2⟩
            go_simp
            with_reducible rfl
           rotate_left
           ·simp only [Act.put, List.setIfInBounds_toArray, List.set_cons_zero, List.set_cons_succ, i64_w, i32_w]
            rfl
           refine one_ (i := 7) (N := some 72) (bo_ 10 255) rfl rfl (one_of HT_.out (by kernel_rfl)) (by decide) (fun K hK => ?_)
           refine Kd.R_append_rows_step (Kd.int .u8) (w0 := w) w.heap.size (by rfl) (.tmp 66) (.tmp 71) 22 5 (.int .u8 0) 1 rfl Tryd.underlying22 info5 rfl (by decide) (by omega) (.slice none 0 0) ([] : List Int) ((l0.take ((wrap64 (3 + (wrap64 (x8_2)))) : Int).toNat).drop 3) _ _ _ (fun _ => True) (fun _ => False) rfl rfl ?aO ?aR (fun _ _ h => h) (fun _ h => h.elim) ?aF ?aB ?aS ?aL ?_
           (case aR => (rw [← show ((l0.take ((wrap64 (3 + (wrap64 (x8_2)))) : Int).toNat).drop 3).length = ((wrap64 (3 + (wrap64 (x8_2)))).toNat - 3) from (by rw [List.length_drop, List.length_take]; have h_ : ((wrap64 (3 + (wrap64 (x8_2)))) : Int) ≤ (l0.length : Int) := da_; omega)]; exact (Kd.C_below HR584.out HB.out)))
           (case aB => exact HB.out)
           (case aF => exact (fun _ _ => trivial))
           (case aO => exact (Kd.R_nil _ _ _ _ (fun _ => True)))
           (case aS => exact (below_size HB.out))
           (case aL => have := LMc38.out; have hlx_ := (show ((l0.take ((wrap64 (3 + (wrap64 (x8_2)))) : Int).toNat).drop 3).length = ((wrap64 (3 + (wrap64 (x8_2)))).toNat - 3) from (by rw [List.length_drop, List.length_take]; have h_ : ((wrap64 (3 + (wrap64 (x8_2)))) : Int) ≤ (l0.length : Int) := da_; omega)); omega)
           intro v586 w41 ho hb hg hat
           rw [← Ny585.out] at ho
           have HO587 := a_ ho
           replace BK576 := a_ (blk_grown BK576.out hg (by simp [Value.ownBlock]))
           replace BK582 := a_ (blk_grown BK582.out hg (by simp [Value.ownBlock]))
           replace HB := a_ hb
           clear ho hb hg hat
           obtain ⟨Ao42, co42, eo42⟩ := Kd.R_slice HO587.out
           subst eo42
           refine hK.out _ _ ⟨bc0 BK582, bc1 BK582, bc2 BK582⟩ (fun hHeld => ?_)
           clear hK K
           refine nm_ (some 72) ?_
           refine pu_ 8 (some 73) HT_ ?_
           refine last_ (i := 9) (N := none) (bo_ 10 1023) rfl rfl (one_of HT_.out (by kernel_rfl)) (by decide) (fun K hK => ?_)
           have hs43 := bc2 BK582
           have hfs43 := blk_frozen BK582.out 2
           have hns43_0 := NB576_582.out
           have hms43_0 := NB582_576.out
           refine skip_ (w1 := ?_) (by rfl) rfl ?_ ?_
           rotate_left
           ·go_simp
            rfl
           refine hK.out _ _ ?_
           clear hK K
           refine done_ (done_of HT_.out (by kernel_rfl)) ?_
           have hnb44 := NB582_576.out
           have hnc44 := NB576_582.out
           have hcz45_0 : w41.cell? ⟨gb582, 0, none⟩ = some (.int .i64 (ji11)) := (blk_cell BK582.out 0).trans (by rfl)
           have hcz45_1 := bc1 BK582
           have hcz45_2 := bc2 BK582
           have hfz45_0 := blk_frozen BK582.out 0
           have hfz45_1 := blk_frozen BK582.out 1
           have hfz45_2 := blk_frozen BK582.out 2
           obtain ⟨hcz46_0, hcz46_1, hcz46_2, hfz46_0, hfz46_1, hfz46_2⟩ := blk3 BK576.out
           try go_wp2
           refine bodyPost_ret (results_ctt rfl _ _ gb576 58 #[.int .i64 (ji11), .int .u32 0, .slice Ao42 y585.length co42] (0, 0) _ rfl (by refine blk_put (cs := #[.int .i64 (ji11), .int .u32 0, .slice none 0 0]) ?_ 2 _ rfl; refine blk_put (cs := #[.int .i64 (ji11), .int .u32 0, .slice none 0 0]) ?_ 1 _ rfl; refine blk_put (cs := #[.int .i64 0, .int .u32 0, .slice none 0 0]) ?_ 0 _ rfl; refine blk_far ?_ NB576_582.out _; exact BK576.out) Tryd.underlying58 rfl (by kernel_rfl)) rfl ?_
           exact ⟨_, by (rfl), by exact Kd.R_mono (Kd.R_far (p := ⟨gb576, 2, none⟩) (Kd.R_far (p := ⟨gb576, 1, none⟩) (Kd.R_far (p := ⟨gb576, 0, none⟩) (Kd.R_far (p := ⟨gb582, 2, none⟩) (Kd.R_types (Kd.R_types HO587.out BK582.out (by decide)) BK576.out (by decide)) (fun _ hk => hk.1.2) (.slice Ao42 y585.length co42)) (fun _ hk => hk.2) (.int .i64 (ji11))) (fun _ hk => hk.2) (.int .u32 0)) (fun _ hk => hk.2) (.slice Ao42 y585.length co42)) (fun _ hk => trivial), by repeat (with_reducible first | exact HB.out | refine below_set ?_ GE576.out | refine below_set ?_ GE582.out)⟩

end Go.Proofs.YtgnonglkibhnhaaDoor.Print
