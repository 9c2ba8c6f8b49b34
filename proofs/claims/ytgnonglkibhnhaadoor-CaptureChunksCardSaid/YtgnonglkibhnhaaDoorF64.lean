import Derived.Test.YtgnonglkibhnhaaDoorZ
import Derived.Test.YtgnonglkibhnhaaDoorM1
namespace Go.Proofs.YtgnonglkibhnhaaDoor.Print
open Go.RowKit Go.Proofs.YtgnonglkibhnhaaDoorW.PrintWords Go.Proofs.YtgnonglkibhnhaaDoorW.PrintLast Go.Proofs.YtgnonglkibhnhaaDoorW.PrintMore
attribute [local go_sem] max2_int min2_int max_two min_two max_three min_three max_four min_four
set_option linter.unusedVariables false
set_option linter.unusedSimpArgs false

/-! ### dump_Next: function 64 -/
mutual
def dump_Next.j0 : Nat → List Int → Bool → Int → Int → Option (Int × Int × List Int × Int × Int)
 | 0, _, _, _, _ => none
 | k + 1, x0, x29, x156000, x156001 => if x29 = true then (some (0, 0, ([] : List Int), 0, 7)) else (if 0 ≤ x156000 then (if x156000 < 8 then (if (rd_T131 formsG0 x156000).f0 = true then (dump_Next.j1 k x0 1 2 x156000 x156001 ((rd_T131 formsG0 x156000).f0) ((rd_T131 formsG0 x156000).f1)) else (dump_Next.j1 k x0 1 ((rd_T131 formsG0 x156000).f1) x156000 x156001 ((rd_T131 formsG0 x156000).f0) ((rd_T131 formsG0 x156000).f1))) else (none)) else (none))
def dump_Next.j1 : Nat → List Int → Int → Int → Int → Int → Bool → Int → Option (Int × Int × List Int × Int × Int)
 | 0, _, _, _, _, _, _, _ => none
 | k + 1, x0, x7, x8, x156000, x156001, x158000, x158001 => (octet_Cut.f x0 x7 x8).bind fun bt158 => (if bt158.2 = true then ((octet_Get.f k bt158.1 true).bind fun bt162 => (if x158000 = true then ((octet_Cut.f x0 (wrap64 (x7 + x8)) (wrap64 (bt162.1))).bind fun bt164 => (if bt164.2 = true then (some (x156000, x156001, bt164.1, wrap64 ((wrap64 (x7 + x8)) + (wrap64 (bt162.1))), 0)) else (some (0, 0, ([] : List Int), 0, 2)))) else (some (x156000, (bt162.1) % 4294967296, ([] : List Int), wrap64 (x7 + x8), 0)))) else (some (0, 0, ([] : List Int), 0, 2)))
end
def dump_Next.f (k : Nat) (l0 : List Int) : Option (Int × Int × List Int × Int × Int) := if (l0.length : Int) = 0 then (some (0, 0, ([] : List Int), 0, 2)) else (if 0 < (l0.length : Int) then (if (wrap64 (rd l0 0)) < 1 then (dump_Next.j0 k l0 true (wrap64 (rd l0 0)) 0) else (dump_Next.j0 k l0 (decide ((wrap64 (rd l0 0)) > 7)) (wrap64 (rd l0 0)) 0)) else (none))
set_option maxHeartbeats 8000000 in
set_option maxRecDepth 100000 in
theorem dump_Next.calls (k : Nat) (A0 : Option Addr) (c0 : Nat) (l0 : List Int) (r1 : Int) (r2 : Int) (r3 : List Int) (r4 : Int) (r5 : Int) (w : World) (hG0 : Kd.C k131 w (some ⟨0, 0, none⟩) 8 formsG0) (hr0 : Kd.C (Kd.int .u8) w A0 l0.length l0) (hc0 : l0.length ≤ c0) (h : dump_Next.f k l0 = some (r1, r2, r3, r4, r5)) :
  Calls Tryd.prog 64 #[.slice A0 l0.length c0] w fun e w' => ∃ v2_ : Value, e = .returned (.tuple #[.agg #[.int .i64 r1, .int .u32 r2, v2_], .int .i64 r4, .int .i64 r5]) ∧ Kd.R (Kd.int .u8) 5 w' w.heap.size (fun _ => True) v2_ r3 ∧ Below w.heap.size w w' := by
 have hu58 := Tryd.underlying58
 have hu131 := Tryd.underlying131
 have HR0 := a_ hr0
 have HC0 := a_ hc0
 clear hr0 hc0
 have HRG0 := a_ hG0
 clear hG0
 have HB := a_ (Below.refl w.heap.size w)
 have H := h
 clear h
 unfold dump_Next.f at H
 by_cases c2 : (l0.length : Int) = 0
 ·rw [if_pos c2] at H
  obtain ⟨c2b0, c2b1⟩ := bt_ c2
  obtain ⟨rfl, rfl, rfl, rfl, rfl⟩ := s5_ H
  go_enter Tryd.func64, Tryd.ntmps64
  go_wp2_with (first | (refine be_ 2 #[.int .i64 0, .int .u32 0, .slice none 0 0] 58 ?_; intro gb153 hg w3 hbox hb; have BK153 := a_ hbox; have GE153 := lb_ HB hg; replace HB := bs_ HB hb; clear hb hbox hg; obtain ⟨hcz4_0, hcz4_1, hcz4_2, hfz4_0, hfz4_1, hfz4_2⟩ := blk3 BK153.out))
  refine bodyPost_ret (results_ctt rfl _ _ gb153 58 #[.int .i64 0, .int .u32 0, .slice none 0 0] (0, 0) _ rfl (by refine blk_put (cs := #[.int .i64 0, .int .u32 0, .slice none 0 0]) ?_ 2 _ rfl; refine blk_put (cs := #[.int .i64 0, .int .u32 0, .slice none 0 0]) ?_ 1 _ rfl; refine blk_put (cs := #[.int .i64 0, .int .u32 0, .slice none 0 0]) ?_ 0 _ rfl; exact BK153.out) Tryd.underlying58 rfl (by kernel_rfl)) rfl ?_
  exact ⟨_, by (rfl), by (exact Kd.R_nil _ _ _ _ _), by repeat (with_reducible first | exact HB.out | refine below_set ?_ GE153.out)⟩
 ·rw [if_neg c2] at H
  have c2b0 := beq_eq_false_iff_ne.mpr c2
  have c2b1 := bne_iff_ne.mpr c2
  have c2b2 : ¬ (l0 = []) := fun h_ => c2 (by rw [h_]; rfl)
  have c5 := ifc_ H
  replace H := ift_ H
  have c5b0 := decide_eq_true c5
  have c5b1 : decide (0 < l0.length) = true := decide_eq_true (by omega)
  clear c5
  have HC6 := a_ H
  clear H
  go_enter Tryd.func64, Tryd.ntmps64
  go_upto_region 4 with (first | (refine be_ 2 #[.int .i64 0, .int .u32 0, .slice none 0 0] 58 ?_; intro gb153 hg w7 hbox hb; have BK153 := a_ hbox; have GE153 := lb_ HB hg; replace HB := bs_ HB hb; clear hb hbox hg; have p154 : 0 ≤ (0 : Int) := (by omega); have q154 : 0 < (l0.length : Int) := da_; obtain ⟨ad154, e154, hx154_0⟩ := Kd.at_int HR0.out 0 p154 q154; cases e154; have qi154 : (0 < l0.length) = True := eq_true (by omega); (try rw [show (0 : Int).toNat = 0 from rfl] at hx154_0); (try rw [Addr.add_zero'] at hx154_0); replace hx154_0 := cb_ HB hx154_0; replace p154 := eq_true p154; replace q154 := eq_true q154) | (refine be_ 5 #[.int .i64 0, .int .u32 0, .slice none 0 0] 58 ?_; intro gb155 hg w8 hbox hb; have BK155 := a_ hbox; have GE155 := lb_ HB hg; obtain ⟨NB153_155, NB155_153⟩ := nn_ BK153 hg; replace BK153 := bb_ BK153 hb; replace HB := bs_ HB hb; clear hb hbox hg; have hnb9 := NB155_153.out; have hnc9 := NB153_155.out; obtain ⟨hcz10_0, hcz10_1, hcz10_2, hfz10_0, hfz10_1, hfz10_2⟩ := blk3 BK155.out))
  go_cut [29] (fun v29 wc => ∃ (kq : Nat) (x29_5 : Bool), v29 = .bool x29_5 ∧ Aside0 (dump_Next.j0 kq l0 x29_5 (wrap64 (rd l0 0)) 0 = some (r1, r2, r3, r4, r5)) ∧ Aside0 (kq ≤ k) ∧ Aside0 (wc.heap[gb153]? = some (.cells #[.int .i64 0, .int .u32 0, (.slice none 0 0)] 58 (0, 0))) ∧ Aside0 (wc.heap[gb155]? = some (.cells #[.int .i64 (wrap64 (rd l0 0)), .int .u32 0, (.slice none 0 0)] 58 (0, 0))) ∧ Aside0 (Below w.heap.size w wc))
  case first =>
   have H := HC6.out
   clear HC6
   by_cases c11 : (wrap64 (rd l0 0)) < 1
   ·rw [if_pos c11] at H
    have c11b0 := decide_eq_true c11
    clear c11
    have H' := a_ H
    clear H
    have hnb12 := NB155_153.out
    have hnc12 := NB153_155.out
    obtain ⟨hcz13_0, hcz13_1, hcz13_2, hfz13_0, hfz13_1, hfz13_2⟩ := blk3 BK155.out
    go_wp2
    go_meet
    case rel => exact ⟨_, (true), (by rfl), H', ⟨by (omega)⟩, ⟨by refine blk_far ?_ NB153_155.out _; refine blk_far ?_ NB153_155.out _; refine blk_far ?_ NB153_155.out _; exact BK153.out⟩, ⟨by refine blk_put (cs := #[.int .i64 (wrap64 (rd l0 0)), .int .u32 0, .slice none 0 0]) ?_ 2 _ rfl; refine blk_put (cs := #[.int .i64 (wrap64 (rd l0 0)), .int .u32 0, .slice none 0 0]) ?_ 1 _ rfl; refine blk_put (cs := #[.int .i64 0, .int .u32 0, .slice none 0 0]) ?_ 0 _ rfl; exact BK155.out⟩, ⟨by repeat (with_reducible first | exact HB.out | refine below_set ?_ GE155.out)⟩⟩
   ·rw [if_neg c11] at H
    have c11b0 := decide_eq_false c11
    clear c11
    have H' := a_ H
    clear H
    have hnb14 := NB155_153.out
    have hnc14 := NB153_155.out
    obtain ⟨hcz15_0, hcz15_1, hcz15_2, hfz15_0, hfz15_1, hfz15_2⟩ := blk3 BK155.out
    go_wp2
    go_meet
    case rel => exact ⟨_, (decide ((wrap64 (rd l0 0)) > 7)), (by rfl), H', ⟨by (omega)⟩, ⟨by refine blk_far ?_ NB153_155.out _; refine blk_far ?_ NB153_155.out _; refine blk_far ?_ NB153_155.out _; exact BK153.out⟩, ⟨by refine blk_put (cs := #[.int .i64 (wrap64 (rd l0 0)), .int .u32 0, .slice none 0 0]) ?_ 2 _ rfl; refine blk_put (cs := #[.int .i64 (wrap64 (rd l0 0)), .int .u32 0, .slice none 0 0]) ?_ 1 _ rfl; refine blk_put (cs := #[.int .i64 0, .int .u32 0, .slice none 0 0]) ?_ 0 _ rfl; exact BK155.out⟩, ⟨by repeat (with_reducible first | exact HB.out | refine below_set ?_ GE155.out)⟩⟩
  case rest =>
   clear HC6
   try clear c2
   try clear c2b0
   try clear c2b1
   try clear c2b2
   try clear c5b0
   try clear c5b1
   try clear hcz10_0
   try clear hcz10_1
   try clear hcz10_2
   try clear hfz10_0
   try clear hfz10_1
   try clear hfz10_2
   try clear hx154_0
   try clear p154
   try clear q154
   obtain ⟨kq, x29_5, rfl, HA, HJ5, BK153, BK155, HB⟩ := hcut
   cases kq with
   | zero => exact absurd HA.out (by simp [dump_Next.j0])
   | succ kj5 =>
    have H := HA.out
    clear HA
    simp only [dump_Next.j0] at H
    by_cases c16 : x29_5 = true
    ·subst c16
     rw [if_pos rfl] at H
     obtain ⟨rfl, rfl, rfl, rfl, rfl⟩ := s5_ H
     have hnb17 := NB153_155.out
     have hnc17 := NB155_153.out
     obtain ⟨hcz18_0, hcz18_1, hcz18_2, hfz18_0, hfz18_1, hfz18_2⟩ := blk3 BK153.out
     go_wp2
     refine bodyPost_ret (results_ctt rfl _ _ gb153 58 #[.int .i64 0, .int .u32 0, .slice none 0 0] (0, 0) _ rfl (by refine blk_put (cs := #[.int .i64 0, .int .u32 0, .slice none 0 0]) ?_ 2 _ rfl; refine blk_put (cs := #[.int .i64 0, .int .u32 0, .slice none 0 0]) ?_ 1 _ rfl; refine blk_put (cs := #[.int .i64 0, .int .u32 0, .slice none 0 0]) ?_ 0 _ rfl; exact BK153.out) Tryd.underlying58 rfl (by kernel_rfl)) rfl ?_
     exact ⟨_, by (rfl), by (exact Kd.R_nil _ _ _ _ _), by repeat (with_reducible first | exact HB.out | refine below_set ?_ GE153.out)⟩
    ·cases nt_ c16
     rw [if_neg nft_] at H
     obtain ⟨ji19, hji19⟩ := si_ ((wrap64 (rd l0 0)))
     rw [hji19] at H
     (try simp only [hji19] at BK155)
     have hji19w : (IntKind.i64.wrap (rd l0 0)) = ji19 := (i64_w _).trans hji19
     have c20b0 := ifd_ H
     replace H := ift_ H
     have c21b0 := ifd_ H
     replace H := ift_ H
     have HC22 := a_ H
     clear H
     have hnb23 := NB155_153.out
     have hnc23 := NB153_155.out
     have hcz24_0 : wc.cell? ⟨gb155, 0, none⟩ = some (.int .i64 (ji19)) := (blk_cell BK155.out 0).trans (by rfl)
     have hcz24_1 := bc1 BK155
     have hcz24_2 := bc2 BK155
     have hfz24_0 := blk_frozen BK155.out 0
     have hfz24_1 := blk_frozen BK155.out 1
     have hfz24_2 := blk_frozen BK155.out 2
     have p156 : 0 ≤ ((ji19) : Int) := da_
     have q156 : (ji19) < (formsG0.length : Int) := of_decide_eq_true (by (assumption))
     obtain ⟨ad156, e156, hx156_0, hx156_1⟩ := at_T131 HRG0.out (ji19) p156 q156
     obtain rfl : (⟨0, 0, none⟩ : Addr) = ad156 := (by injection e156)
     (simp only [add_plain] at hx156_0)
     (simp only [add_plain] at hx156_1)
     replace hx156_0 := cb_ HB hx156_0
     replace hx156_1 := cb_ HB hx156_1
     replace p156 := eq_true p156
     replace q156 := eq_true q156
     have qg156 : ((ji19) < 8) = True := q156
     go_upto_if 38 with (first | (refine be_ 6 #[.bool false, .int .i64 0] 131 ?_; intro gb157 hg w25 hbox hb; have BK157 := a_ hbox; have GE157 := lb_ HB hg; obtain ⟨NB153_157, NB157_153⟩ := nn_ BK153 hg; obtain ⟨NB155_157, NB157_155⟩ := nn_ BK155 hg; replace BK153 := bb_ BK153 hb; replace BK155 := bb_ BK155 hb; replace HB := bs_ HB hb; clear hb hbox hg; have hnb26 := NB157_153.out; have hnc26 := NB153_157.out; have hnb27 := NB157_155.out; have hnc27 := NB155_157.out; obtain ⟨hcz28_0, hcz28_1, hfz28_0, hfz28_1⟩ := blk2 BK157.out))
     go_cut [8] (fun v8 wc => ∃ (kq : Nat) (x8_21 : Int), v8 = .int .i64 x8_21 ∧ Aside0 (dump_Next.j1 kq l0 1 x8_21 (ji19) 0 ((rd_T131 formsG0 (ji19)).f0) ((rd_T131 formsG0 (ji19)).f1) = some (r1, r2, r3, r4, r5)) ∧ Aside0 (kq ≤ kj5) ∧ Aside0 (wc.heap[gb153]? = some (.cells #[.int .i64 0, .int .u32 0, (.slice none 0 0)] 58 (0, 0))) ∧ Aside0 (wc.heap[gb155]? = some (.cells #[.int .i64 (ji19), .int .u32 0, (.slice none 0 0)] 58 (0, 0))) ∧ Aside0 (wc.heap[gb157]? = some (.cells #[.bool ((rd_T131 formsG0 (ji19)).f0), .int .i64 ((rd_T131 formsG0 (ji19)).f1)] 131 (0, 0))) ∧ Aside0 (Below w.heap.size w wc))
     case first =>
      have H := HC22.out
      clear HC22
      obtain ⟨bq29, hbq29⟩ : ∃ b_ : Bool, b_ = ((rd_T131 formsG0 (ji19)).f0) := ⟨_, rfl⟩
      rw [← hbq29] at H
      have Nbq29 := a_ hbq29
      clear hbq29
      (try rw [← Nbq29.out])
      by_cases c30 : bq29 = true
      ·subst c30
       rw [if_pos rfl] at H
       have H' := a_ H
       clear H
       go_wp2
       go_meet
       case rel => (try simp only [← Nbq29.out]); exact ⟨_, (2), (by rfl), H', ⟨by have := HJ5.out; (omega)⟩, ⟨by refine blk_far ?_ NB153_157.out _; refine blk_far ?_ NB153_157.out _; exact BK153.out⟩, ⟨by refine blk_far ?_ NB155_157.out _; refine blk_far ?_ NB155_157.out _; exact BK155.out⟩, ⟨by refine blk_put (cs := #[.bool (true), .int .i64 0]) ?_ 1 _ rfl; refine blk_put (cs := #[.bool false, .int .i64 0]) ?_ 0 _ rfl; exact BK157.out⟩, ⟨by repeat (with_reducible first | exact HB.out | refine below_set ?_ GE157.out)⟩⟩
      ·cases nt_ c30
       rw [if_neg nft_] at H
       have H' := a_ H
       clear H
       go_wp2
       go_meet
       case rel => (try simp only [← Nbq29.out]); exact ⟨_, ((rd_T131 formsG0 (ji19)).f1), (by rfl), H', ⟨by have := HJ5.out; (omega)⟩, ⟨by refine blk_far ?_ NB153_157.out _; refine blk_far ?_ NB153_157.out _; exact BK153.out⟩, ⟨by refine blk_far ?_ NB155_157.out _; refine blk_far ?_ NB155_157.out _; exact BK155.out⟩, ⟨by refine blk_put (cs := #[.bool (false), .int .i64 0]) ?_ 1 _ rfl; refine blk_put (cs := #[.bool false, .int .i64 0]) ?_ 0 _ rfl; exact BK157.out⟩, ⟨by repeat (with_reducible first | exact HB.out | refine below_set ?_ GE157.out)⟩⟩
     case rest =>
      clear HC22
      try clear c20b0
      try clear c21b0
      try clear hcz24_0
      try clear hcz24_1
      try clear hcz24_2
      try clear hcz28_0
      try clear hcz28_1
      try clear hfz24_0
      try clear hfz24_1
      try clear hfz24_2
      try clear hfz28_0
      try clear hfz28_1
      try clear hx156_0
      try clear hx156_1
      try clear p156
      try clear q156
      obtain ⟨kq, x8_21, rfl, HA, HJ21, BK153, BK155, BK157, HB⟩ := hcut
      cases kq with
      | zero => exact absurd HA.out (by simp [dump_Next.j1])
      | succ kj21 =>
       have H := HA.out
       clear HA
       simp only [dump_Next.j1] at H
       replace H := Option.bind_eq_some_iff.mp H
       obtain ⟨⟨t158, t159⟩, A310, H⟩ := H
       try dsimp only at H
       have A31 := a_ A310
       clear A310
       by_cases c32 : t159 = true
       ·subst c32
        rw [if_pos rfl] at H
        replace H := Option.bind_eq_some_iff.mp H
        obtain ⟨⟨t162, t163⟩, A330, H⟩ := H
        try dsimp only at H
        have A33 := a_ A330
        clear A330
        by_cases c34 : ((rd_T131 formsG0 (ji19)).f0) = true
        ·rw [if_pos c34] at H
         have c34b0 : ((rd_T131 formsG0 (ji19)).f0) = true := c34
         clear c34
         replace H := Option.bind_eq_some_iff.mp H
         obtain ⟨⟨t164, t165⟩, A350, H⟩ := H
         try dsimp only at H
         have A35 := a_ A350
         clear A350
         by_cases c36 : t165 = true
         ·subst c36
          rw [if_pos rfl] at H
          obtain ⟨rfl, rfl, rfl, rfl, rfl⟩ := s5_ H
          go_wp2_with (first | (refine gl_ (some 43) Tryd.func80 #[.slice (some ad154) l0.length c0, .int .i64 1, .int .i64 x8_21] ?_; (with_reducible refine (octet_Cut.calls _ _ l0 1 x8_21 t158 true _ (Kd.C_below HR0.out HB.out) HC0.out A31.out).mono ?_); rintro e w37 ⟨v160, rfl, ho0, hb⟩; refine ⟨_, rfl, ?_⟩; have HO161 := rl_ ho0 HB; replace BK153 := bb_ BK153 hb; replace BK155 := bb_ BK155 hb; replace BK157 := bb_ BK157 hb; replace HB := bs_ HB hb; (try clear hb); (try clear ho0); obtain ⟨Ao38, co38, eo38⟩ := Kd.R_slice HO161.out; subst eo38) | (refine gl_ (some 51) Tryd.func83 #[.slice Ao38 t158.length co38, .bool true] ?_; (with_reducible refine (octet_Get.calls kj21 _ _ t158 true t162 t163 _ ((Kd.R_reads' HO161.out).2.2) ((Kd.R_reads' HO161.out).2.1) A33.out).mono ?_); rintro e w' ⟨rfl, ⟨nd, rfl⟩⟩; refine ⟨_, rfl, ?_⟩; (try (rw [drewN_self w37]; generalize hq_ : World.drewN w37 _ = w37; have n0_ : Aside0 (Kd.R (Kd.int .u8) 5 w37 w.heap.size (fun _ => True) (.slice Ao38 t158.length co38) t158) := ⟨by rw [← hq_]; exact (by (with_reducible repeat (apply Kd.R_drewN)); exact HO161.out)⟩; have n1_ : Aside0 (w37.heap[gb153]? = some (.cells #[.int .i64 0, .int .u32 0, .slice none 0 0] 58 (0, 0))) := ⟨by rw [← hq_]; exact (by (with_reducible repeat (refine blk_drewN ?_ _)); exact BK153.out)⟩; have n2_ : Aside0 (w37.heap[gb155]? = some (.cells #[.int .i64 (ji19), .int .u32 0, .slice none 0 0] 58 (0, 0))) := ⟨by rw [← hq_]; exact (by (with_reducible repeat (refine blk_drewN ?_ _)); exact BK155.out)⟩; have n3_ : Aside0 (w37.heap[gb157]? = some (.cells #[.bool ((rd_T131 formsG0 (ji19)).f0), .int .i64 ((rd_T131 formsG0 (ji19)).f1)] 131 (0, 0))) := ⟨by rw [← hq_]; exact (by (with_reducible repeat (refine blk_drewN ?_ _)); exact BK157.out)⟩; have n4_ : Aside0 (Below w.heap.size w w37) := ⟨by rw [← hq_]; exact (by repeat (with_reducible first | exact HB.out | apply pw_below_drewN))⟩; clear HO161 BK153 BK155 BK157 HB hq_; have HO161 := n0_; have BK153 := n1_; have BK155 := n2_; have BK157 := n3_; have HB := n4_; clear n0_ n1_ n2_ n3_ n4_)); have hnb39 := NB157_153.out; have hnc39 := NB153_157.out; have hnb40 := NB157_155.out; have hnc40 := NB155_157.out; have hcz41_0 : w37.cell? ⟨gb157, 0, none⟩ = some (.bool ((rd_T131 formsG0 (ji19)).f0)) := (blk_cell BK157.out 0).trans (by rfl); have hcz41_1 : w37.cell? ⟨gb157, 1, none⟩ = some (.int .i64 ((rd_T131 formsG0 (ji19)).f1)) := (blk_cell BK157.out 1).trans (by rfl); have hfz41_0 := blk_frozen BK157.out 0; have hfz41_1 := blk_frozen BK157.out 1) | (refine gl_ (some 70) Tryd.func80 #[.slice (some ad154) l0.length c0, .int .i64 (wrap64 (1 + x8_21)), .int .i64 (wrap64 (t162))] ?_; (with_reducible refine (octet_Cut.calls _ _ l0 (wrap64 (1 + x8_21)) (wrap64 (t162)) t164 true _ (Kd.C_below HR0.out HB.out) HC0.out A35.out).mono ?_); rintro e w42 ⟨v166, rfl, ho0, hb⟩; refine ⟨_, rfl, ?_⟩; have HO167 := rn_ ho0 HO161 HB; replace HO161 := rR_ HO161 ho0 hb; replace BK153 := bb_ BK153 hb; replace BK155 := bb_ BK155 hb; replace BK157 := bb_ BK157 hb; replace HB := bs_ HB hb; (try clear hb); (try clear ho0); obtain ⟨Ao43, co43, eo43⟩ := Kd.R_slice HO167.out; subst eo43; have hnb44 := NB155_153.out; have hnc44 := NB153_155.out; have hcz45_0 : w42.cell? ⟨gb155, 0, none⟩ = some (.int .i64 (ji19)) := (blk_cell BK155.out 0).trans (by rfl); have hcz45_1 := bc1 BK155; have hcz45_2 := bc2 BK155; have hfz45_0 := blk_frozen BK155.out 0; have hfz45_1 := blk_frozen BK155.out 1; have hfz45_2 := blk_frozen BK155.out 2; obtain ⟨hcz46_0, hcz46_1, hcz46_2, hfz46_0, hfz46_1, hfz46_2⟩ := blk3 BK153.out))
          refine bodyPost_ret (results_ctt rfl _ _ gb153 58 #[.int .i64 (ji19), .int .u32 0, .slice Ao43 t164.length co43] (0, 0) _ rfl (by refine blk_put (cs := #[.int .i64 (ji19), .int .u32 0, .slice none 0 0]) ?_ 2 _ rfl; refine blk_put (cs := #[.int .i64 (ji19), .int .u32 0, .slice none 0 0]) ?_ 1 _ rfl; refine blk_put (cs := #[.int .i64 0, .int .u32 0, .slice none 0 0]) ?_ 0 _ rfl; refine blk_far ?_ NB153_155.out _; exact BK153.out) Tryd.underlying58 rfl (by kernel_rfl)) rfl ?_
          exact ⟨_, by (rfl), by exact Kd.R_mono (Kd.R_far (p := ⟨gb153, 2, none⟩) (Kd.R_far (p := ⟨gb153, 1, none⟩) (Kd.R_far (p := ⟨gb153, 0, none⟩) (Kd.R_far (p := ⟨gb155, 2, none⟩) (Kd.R_types (Kd.R_types HO167.out BK155.out (by decide)) BK153.out (by decide)) (fun _ hk => hk.1.2) (.slice Ao43 t164.length co43)) (fun _ hk => hk.2) (.int .i64 (ji19))) (fun _ hk => hk.2) (.int .u32 0)) (fun _ hk => hk.2) (.slice Ao43 t164.length co43)) (fun _ hk => trivial), by repeat (with_reducible first | exact HB.out | refine below_set ?_ GE153.out | refine below_set ?_ GE155.out)⟩
         ·cases nt_ c36
          rw [if_neg nft_] at H
          obtain ⟨rfl, rfl, rfl, rfl, rfl⟩ := s5_ H
          go_wp2_with (first | (refine gl_ (some 43) Tryd.func80 #[.slice (some ad154) l0.length c0, .int .i64 1, .int .i64 x8_21] ?_; (with_reducible refine (octet_Cut.calls _ _ l0 1 x8_21 t158 true _ (Kd.C_below HR0.out HB.out) HC0.out A31.out).mono ?_); rintro e w47 ⟨v160, rfl, ho0, hb⟩; refine ⟨_, rfl, ?_⟩; have HO161 := rl_ ho0 HB; replace BK153 := bb_ BK153 hb; replace BK155 := bb_ BK155 hb; replace BK157 := bb_ BK157 hb; replace HB := bs_ HB hb; (try clear hb); (try clear ho0); obtain ⟨Ao48, co48, eo48⟩ := Kd.R_slice HO161.out; subst eo48) | (refine gl_ (some 51) Tryd.func83 #[.slice Ao48 t158.length co48, .bool true] ?_; (with_reducible refine (octet_Get.calls kj21 _ _ t158 true t162 t163 _ ((Kd.R_reads' HO161.out).2.2) ((Kd.R_reads' HO161.out).2.1) A33.out).mono ?_); rintro e w' ⟨rfl, ⟨nd, rfl⟩⟩; refine ⟨_, rfl, ?_⟩; (try (rw [drewN_self w47]; generalize hq_ : World.drewN w47 _ = w47; have n0_ : Aside0 (Kd.R (Kd.int .u8) 5 w47 w.heap.size (fun _ => True) (.slice Ao48 t158.length co48) t158) := ⟨by rw [← hq_]; exact (by (with_reducible repeat (apply Kd.R_drewN)); exact HO161.out)⟩; have n1_ : Aside0 (w47.heap[gb153]? = some (.cells #[.int .i64 0, .int .u32 0, .slice none 0 0] 58 (0, 0))) := ⟨by rw [← hq_]; exact (by (with_reducible repeat (refine blk_drewN ?_ _)); exact BK153.out)⟩; have n2_ : Aside0 (w47.heap[gb155]? = some (.cells #[.int .i64 (ji19), .int .u32 0, .slice none 0 0] 58 (0, 0))) := ⟨by rw [← hq_]; exact (by (with_reducible repeat (refine blk_drewN ?_ _)); exact BK155.out)⟩; have n3_ : Aside0 (w47.heap[gb157]? = some (.cells #[.bool ((rd_T131 formsG0 (ji19)).f0), .int .i64 ((rd_T131 formsG0 (ji19)).f1)] 131 (0, 0))) := ⟨by rw [← hq_]; exact (by (with_reducible repeat (refine blk_drewN ?_ _)); exact BK157.out)⟩; have n4_ : Aside0 (Below w.heap.size w w47) := ⟨by rw [← hq_]; exact (by repeat (with_reducible first | exact HB.out | apply pw_below_drewN))⟩; clear HO161 BK153 BK155 BK157 HB hq_; have HO161 := n0_; have BK153 := n1_; have BK155 := n2_; have BK157 := n3_; have HB := n4_; clear n0_ n1_ n2_ n3_ n4_)); have hnb49 := NB157_153.out; have hnc49 := NB153_157.out; have hnb50 := NB157_155.out; have hnc50 := NB155_157.out; have hcz51_0 : w47.cell? ⟨gb157, 0, none⟩ = some (.bool ((rd_T131 formsG0 (ji19)).f0)) := (blk_cell BK157.out 0).trans (by rfl); have hcz51_1 : w47.cell? ⟨gb157, 1, none⟩ = some (.int .i64 ((rd_T131 formsG0 (ji19)).f1)) := (blk_cell BK157.out 1).trans (by rfl); have hfz51_0 := blk_frozen BK157.out 0; have hfz51_1 := blk_frozen BK157.out 1) | (refine gl_ (some 70) Tryd.func80 #[.slice (some ad154) l0.length c0, .int .i64 (wrap64 (1 + x8_21)), .int .i64 (wrap64 (t162))] ?_; (with_reducible refine (octet_Cut.calls _ _ l0 (wrap64 (1 + x8_21)) (wrap64 (t162)) t164 false _ (Kd.C_below HR0.out HB.out) HC0.out A35.out).mono ?_); rintro e w52 ⟨v166, rfl, ho0, hb⟩; refine ⟨_, rfl, ?_⟩; have HO167 := rn_ ho0 HO161 HB; replace HO161 := rR_ HO161 ho0 hb; replace BK153 := bb_ BK153 hb; replace BK155 := bb_ BK155 hb; replace BK157 := bb_ BK157 hb; replace HB := bs_ HB hb; (try clear hb); (try clear ho0); obtain ⟨Ao53, co53, eo53⟩ := Kd.R_slice HO167.out; subst eo53; have hnb54 := NB155_153.out; have hnc54 := NB153_155.out; have hcz55_0 : w52.cell? ⟨gb155, 0, none⟩ = some (.int .i64 (ji19)) := (blk_cell BK155.out 0).trans (by rfl); have hcz55_1 := bc1 BK155; have hcz55_2 := bc2 BK155; have hfz55_0 := blk_frozen BK155.out 0; have hfz55_1 := blk_frozen BK155.out 1; have hfz55_2 := blk_frozen BK155.out 2; obtain ⟨hcz56_0, hcz56_1, hcz56_2, hfz56_0, hfz56_1, hfz56_2⟩ := blk3 BK153.out))
          refine bodyPost_ret (results_ctt rfl _ _ gb153 58 #[.int .i64 0, .int .u32 0, .slice none 0 0] (0, 0) _ rfl (by refine blk_put (cs := #[.int .i64 0, .int .u32 0, .slice none 0 0]) ?_ 2 _ rfl; refine blk_put (cs := #[.int .i64 0, .int .u32 0, .slice none 0 0]) ?_ 1 _ rfl; refine blk_put (cs := #[.int .i64 0, .int .u32 0, .slice none 0 0]) ?_ 0 _ rfl; refine blk_far ?_ NB153_155.out _; exact BK153.out) Tryd.underlying58 rfl (by kernel_rfl)) rfl ?_
          exact ⟨_, by (rfl), by (exact Kd.R_nil _ _ _ _ _), by repeat (with_reducible first | exact HB.out | refine below_set ?_ GE153.out | refine below_set ?_ GE155.out)⟩
        ·rw [if_neg c34] at H
         have c34b0 : ((rd_T131 formsG0 (ji19)).f0) = false := by simpa using c34
         clear c34
         obtain ⟨rfl, rfl, rfl, rfl, rfl⟩ := s5_ H
         go_wp2_with (first | (refine gl_ (some 43) Tryd.func80 #[.slice (some ad154) l0.length c0, .int .i64 1, .int .i64 x8_21] ?_; (with_reducible refine (octet_Cut.calls _ _ l0 1 x8_21 t158 true _ (Kd.C_below HR0.out HB.out) HC0.out A31.out).mono ?_); rintro e w57 ⟨v160, rfl, ho0, hb⟩; refine ⟨_, rfl, ?_⟩; have HO161 := rl_ ho0 HB; replace BK153 := bb_ BK153 hb; replace BK155 := bb_ BK155 hb; replace BK157 := bb_ BK157 hb; replace HB := bs_ HB hb; (try clear hb); (try clear ho0); obtain ⟨Ao58, co58, eo58⟩ := Kd.R_slice HO161.out; subst eo58) | (refine gl_ (some 51) Tryd.func83 #[.slice Ao58 t158.length co58, .bool true] ?_; (with_reducible refine (octet_Get.calls kj21 _ _ t158 true t162 t163 _ ((Kd.R_reads' HO161.out).2.2) ((Kd.R_reads' HO161.out).2.1) A33.out).mono ?_); rintro e w' ⟨rfl, ⟨nd, rfl⟩⟩; refine ⟨_, rfl, ?_⟩; (try (rw [drewN_self w57]; generalize hq_ : World.drewN w57 _ = w57; have n0_ : Aside0 (Kd.R (Kd.int .u8) 5 w57 w.heap.size (fun _ => True) (.slice Ao58 t158.length co58) t158) := ⟨by rw [← hq_]; exact (by (with_reducible repeat (apply Kd.R_drewN)); exact HO161.out)⟩; have n1_ : Aside0 (w57.heap[gb153]? = some (.cells #[.int .i64 0, .int .u32 0, .slice none 0 0] 58 (0, 0))) := ⟨by rw [← hq_]; exact (by (with_reducible repeat (refine blk_drewN ?_ _)); exact BK153.out)⟩; have n2_ : Aside0 (w57.heap[gb155]? = some (.cells #[.int .i64 (ji19), .int .u32 0, .slice none 0 0] 58 (0, 0))) := ⟨by rw [← hq_]; exact (by (with_reducible repeat (refine blk_drewN ?_ _)); exact BK155.out)⟩; have n3_ : Aside0 (w57.heap[gb157]? = some (.cells #[.bool ((rd_T131 formsG0 (ji19)).f0), .int .i64 ((rd_T131 formsG0 (ji19)).f1)] 131 (0, 0))) := ⟨by rw [← hq_]; exact (by (with_reducible repeat (refine blk_drewN ?_ _)); exact BK157.out)⟩; have n4_ : Aside0 (Below w.heap.size w w57) := ⟨by rw [← hq_]; exact (by repeat (with_reducible first | exact HB.out | apply pw_below_drewN))⟩; clear HO161 BK153 BK155 BK157 HB hq_; have HO161 := n0_; have BK153 := n1_; have BK155 := n2_; have BK157 := n3_; have HB := n4_; clear n0_ n1_ n2_ n3_ n4_)); have hnb59 := NB157_153.out; have hnc59 := NB153_157.out; have hnb60 := NB157_155.out; have hnc60 := NB155_157.out; have hcz61_0 : w57.cell? ⟨gb157, 0, none⟩ = some (.bool ((rd_T131 formsG0 (ji19)).f0)) := (blk_cell BK157.out 0).trans (by rfl); have hcz61_1 : w57.cell? ⟨gb157, 1, none⟩ = some (.int .i64 ((rd_T131 formsG0 (ji19)).f1)) := (blk_cell BK157.out 1).trans (by rfl); have hfz61_0 := blk_frozen BK157.out 0; have hfz61_1 := blk_frozen BK157.out 1; have hnb62 := NB155_153.out; have hnc62 := NB153_155.out; have hcz63_0 : w57.cell? ⟨gb155, 0, none⟩ = some (.int .i64 (ji19)) := (blk_cell BK155.out 0).trans (by rfl); have hcz63_1 := bc1 BK155; have hcz63_2 := bc2 BK155; have hfz63_0 := blk_frozen BK155.out 0; have hfz63_1 := blk_frozen BK155.out 1; have hfz63_2 := blk_frozen BK155.out 2; obtain ⟨hcz64_0, hcz64_1, hcz64_2, hfz64_0, hfz64_1, hfz64_2⟩ := blk3 BK153.out))
         refine bodyPost_ret (results_ctt rfl _ _ gb153 58 #[.int .i64 (ji19), .int .u32 ((t162) % 4294967296), .slice none 0 0] (0, 0) _ rfl (by refine blk_put (cs := #[.int .i64 (ji19), .int .u32 ((t162) % 4294967296), .slice none 0 0]) ?_ 2 _ rfl; refine blk_put (cs := #[.int .i64 (ji19), .int .u32 0, .slice none 0 0]) ?_ 1 _ rfl; refine blk_put (cs := #[.int .i64 0, .int .u32 0, .slice none 0 0]) ?_ 0 _ rfl; refine blk_far ?_ NB153_155.out _; exact BK153.out) Tryd.underlying58 rfl (by kernel_rfl)) rfl ?_
         exact ⟨_, by (rfl), by (exact Kd.R_nil _ _ _ _ _), by repeat (with_reducible first | exact HB.out | refine below_set ?_ GE153.out | refine below_set ?_ GE155.out)⟩
       ·cases nt_ c32
        rw [if_neg nft_] at H
        obtain ⟨rfl, rfl, rfl, rfl, rfl⟩ := s5_ H
        go_wp2_with (first | (refine gl_ (some 43) Tryd.func80 #[.slice (some ad154) l0.length c0, .int .i64 1, .int .i64 x8_21] ?_; (with_reducible refine (octet_Cut.calls _ _ l0 1 x8_21 t158 false _ (Kd.C_below HR0.out HB.out) HC0.out A31.out).mono ?_); rintro e w65 ⟨v160, rfl, ho0, hb⟩; refine ⟨_, rfl, ?_⟩; have HO161 := rl_ ho0 HB; replace BK153 := bb_ BK153 hb; replace BK155 := bb_ BK155 hb; replace BK157 := bb_ BK157 hb; replace HB := bs_ HB hb; (try clear hb); (try clear ho0); have hnb66 := NB153_155.out; have hnc66 := NB155_153.out; have hnb67 := NB153_157.out; have hnc67 := NB157_153.out; obtain ⟨hcz68_0, hcz68_1, hcz68_2, hfz68_0, hfz68_1, hfz68_2⟩ := blk3 BK153.out))
        refine bodyPost_ret (results_ctt rfl _ _ gb153 58 #[.int .i64 0, .int .u32 0, .slice none 0 0] (0, 0) _ rfl (by refine blk_put (cs := #[.int .i64 0, .int .u32 0, .slice none 0 0]) ?_ 2 _ rfl; refine blk_put (cs := #[.int .i64 0, .int .u32 0, .slice none 0 0]) ?_ 1 _ rfl; refine blk_put (cs := #[.int .i64 0, .int .u32 0, .slice none 0 0]) ?_ 0 _ rfl; exact BK153.out) Tryd.underlying58 rfl (by kernel_rfl)) rfl ?_
        exact ⟨_, by (rfl), by (exact Kd.R_nil _ _ _ _ _), by repeat (with_reducible first | exact HB.out | refine below_set ?_ GE153.out)⟩

end Go.Proofs.YtgnonglkibhnhaaDoor.Print
