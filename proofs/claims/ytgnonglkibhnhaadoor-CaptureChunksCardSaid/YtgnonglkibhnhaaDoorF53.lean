import Derived.Test.YtgnonglkibhnhaaDoorZ
import Derived.Test.YtgnonglkibhnhaaDoorM4
namespace Go.Proofs.YtgnonglkibhnhaaDoor.Print
open Go.RowKit Go.Proofs.YtgnonglkibhnhaaDoorW.PrintWords Go.Proofs.YtgnonglkibhnhaaDoorW.PrintLast Go.Proofs.YtgnonglkibhnhaaDoorW.PrintMore
attribute [local go_sem] max2_int min2_int max_two min_two max_three min_three max_four min_four
set_option linter.unusedVariables false
set_option linter.unusedSimpArgs false

/-! ### dump_Put: function 53 -/
def dump_Put.l0 : Nat → List Int → List (S58) → Int → Int → Option (List Int × Int)
 | 0, _, _, _, _ => none
 | k + 1, x4, x10, x11, x12 => if x12 < x11 then (if 0 ≤ x12 then (if x12 < (x10.length : Int) then ((dump_may.f k ((rd_T58 x10 x12).f0) ((rd_T58 x10 x12).f1) ((rd_T58 x10 x12).f2)).bind fun t310 => (if t310 = true then (if (((rd_T58 x10 x12).f2).length : Int) > 65535 then (some (([] : List Int), 4)) else (if x4.length < 140737488355328 then ((some (x4 ++ [((rd_T58 x10 x12).f0) % 256] : List Int)).bind fun y311 => (if 0 ≤ ((rd_T58 x10 x12).f0) then (if ((rd_T58 x10 x12).f0) < 8 then (if (rd_T131 formsG0 ((rd_T58 x10 x12).f0)).f0 = true then ((some (([((((rd_T58 x10 x12).f2).length : Int) / 256) % 256, ((((rd_T58 x10 x12).f2).length : Int)) % 256] : List Int) : List Int)).bind fun y316 => (if y311.length + y316.length < 140737488355328 then ((some (y311 ++ y316 : List Int)).bind fun y319 => (if y319.length + ((rd_T58 x10 x12).f2).length < 140737488355328 then (dump_Put.l0 k (y319 ++ ((rd_T58 x10 x12).f2)) x10 x11 (wrap64 (x12 + 1))) else (none))) else (none))) else ((octet_Put.f k (IntKind.u64.wrap ((rd_T58 x10 x12).f1)) ((rd_T131 formsG0 ((rd_T58 x10 x12).f0)).f1) true).bind fun bt325 => (if y311.length + bt325.1.length < 140737488355328 then (dump_Put.l0 k (y311 ++ bt325.1) x10 x11 (wrap64 (x12 + 1))) else (none)))) else (none)) else (none))) else (none))) else (some (([] : List Int), 1)))) else (none)) else (none)) else (some (x4, 0))
def dump_Put.f (k : Nat) (l0 : List (S58)) : Option (List Int × Int) := dump_Put.l0 k ([] : List Int) l0 (l0.length : Int) 0
set_option maxHeartbeats 8000000 in
set_option maxRecDepth 100000 in
theorem dump_Put.calls (k : Nat) (A0 : Option Addr) (c0 : Nat) (l0 : List (S58)) (r1 : List Int) (r2 : Int) (w : World) (hG0 : Kd.C k131 w (some ⟨0, 0, none⟩) 8 formsG0) (hr0 : Kd.C k58 w A0 l0.length l0) (hc0 : l0.length ≤ c0) (h : dump_Put.f k l0 = some (r1, r2)) :
  Calls Tryd.prog 53 #[.slice A0 l0.length c0] w fun e w' => ∃ v0_ : Value, e = .returned (.tuple #[v0_, .int .i64 r2]) ∧ Kd.R (Kd.int .u8) 5 w' w.heap.size (fun _ => True) v0_ r1 ∧ Below w.heap.size w w' := by
 have hu58 := Tryd.underlying58
 have hu131 := Tryd.underlying131
 have HR0 := a_ hr0
 have HC0 := a_ hc0
 clear hr0 hc0
 have HRG0 := a_ hG0
 clear hG0
 have HB := a_ (Below.refl w.heap.size w)
 have H := h
 clear h
 unfold dump_Put.f at H
 have H' := a_ H
 clear H
 go_enter Tryd.func53, Tryd.ntmps53
 go_wp2
 go_loopg [4, 12] k (fun kq v4 v12 w' => ∃ (x4_1 : List Int) (x12_1 : Int), v12 = .int .i64 x12_1 ∧ Aside0 (dump_Put.l0 kq x4_1 l0 (l0.length : Int) x12_1 = some (r1, r2)) ∧ Aside0 (kq ≤ k) ∧ Aside0 (Kd.R (Kd.int .u8) 5 w' w.heap.size (fun _ => True) v4 x4_1) ∧ Aside0 (Below w.heap.size w w'))
 case atStart => exact ⟨([] : List Int), (0), (by rfl), H', ⟨Nat.le_refl _⟩, ⟨by (exact Kd.R_nil _ _ _ _ _)⟩, ⟨by exact HB.out⟩⟩
 case round =>
  clear H'
  obtain ⟨x4_1, x12_1, rfl, HA, HK1, HO_4, HB⟩ := hrel
  cases gk with
  | zero => exact absurd HA.out (by simp [dump_Put.l0])
  | succ k1 =>
   have H := HA.out
   clear HA
   simp only [dump_Put.l0] at H
   by_cases c2 : x12_1 < (l0.length : Int)
   ·rw [if_pos c2] at H
    have c2b0 := decide_eq_true c2
    clear c2
    have c3b0 := ifd_ H
    replace H := ift_ H
    have c4b0 := ifd_ H
    replace H := ift_ H
    replace H := Option.bind_eq_some_iff.mp H
    obtain ⟨t310, A50, H⟩ := H
    try dsimp only at H
    have A5 := a_ A50
    clear A50
    by_cases c6 : t310 = true
    ·subst c6
     rw [if_pos rfl] at H
     by_cases c7 : (((rd_T58 l0 x12_1).f2).length : Int) > 65535
     ·rw [if_pos c7] at H
      have c7b0 := decide_eq_true c7
      have c7b1 : decide (65535 < ((rd_T58 l0 x12_1).f2).length) = true := decide_eq_true (by omega)
      clear c7
      obtain ⟨rfl, rfl⟩ := s2_ H
      have p308 : 0 ≤ (x12_1 : Int) := da_
      have q308 : x12_1 < (l0.length : Int) := da_
      obtain ⟨ad308, A308_2, c308_2, e308, hx308_0, hx308_1, hx308_2, hl308_2, hi308_2⟩ := at_T58 HR0.out x12_1 p308 q308
      cases e308
      replace hx308_0 := cb_ HB hx308_0
      replace hx308_1 := cb_ HB hx308_1
      replace hx308_2 := cb_ HB hx308_2
      have HR308_2 := a_ hi308_2
      have HC308_2 := a_ hl308_2
      clear hi308_2 hl308_2
      replace p308 := eq_true p308
      replace q308 := eq_true q308
      go_wp2_with (first | (refine be_ 6 #[.int .i64 0, .int .u32 0, .slice none 0 0] 58 ?_; intro gb309 hg w8 hbox hb; have BK309 := a_ hbox; have GE309 := lb_ HB hg; replace HO_4 := rb_ HO_4 hb; replace HB := bs_ HB hb; clear hb hbox hg; obtain ⟨hcz9_0, hcz9_1, hcz9_2, hfz9_0, hfz9_1, hfz9_2⟩ := blk3 BK309.out) | (refine gl_ (some 18) Tryd.func71 #[.agg #[.int .i64 ((rd_T58 l0 x12_1).f0), .int .u32 ((rd_T58 l0 x12_1).f1), .slice A308_2 ((rd_T58 l0 x12_1).f2).length c308_2]] ?_; (with_reducible refine (dump_may.calls k1 ((rd_T58 l0 x12_1).f0) ((rd_T58 l0 x12_1).f1) _ _ ((rd_T58 l0 x12_1).f2) true _ (Kd.C_below HRG0.out (by repeat (with_reducible first | exact HB.out | refine below_set ?_ GE309.out))) (Kd.C_below HR308_2.out (by repeat (with_reducible first | exact HB.out | refine below_set ?_ GE309.out))) HC308_2.out A5.out).mono ?_); rintro e w10 ⟨rfl, hb⟩; refine ⟨_, rfl, ?_⟩; replace HO_4 := a_ (Kd.R_below (by exact (Kd.R_mono (Kd.R_far (p := ⟨gb309, 2, none⟩) (Kd.R_far (p := ⟨gb309, 1, none⟩) (Kd.R_far (p := ⟨gb309, 0, none⟩) (Kd.R_types HO_4.out BK309.out (by decide)) (fun _ hk => hk.2) (.int .i64 ((rd_T58 l0 x12_1).f0))) (fun _ hk => hk.2) (.int .u32 ((rd_T58 l0 x12_1).f1))) (fun _ hk => hk.2) (.slice A308_2 ((rd_T58 l0 x12_1).f2).length c308_2)) (fun _ h_ => h_.1))) hb); replace BK309 := a_ (blk_below (g := gb309) (o := .cells #[.int .i64 ((rd_T58 l0 x12_1).f0), .int .u32 ((rd_T58 l0 x12_1).f1), .slice A308_2 ((rd_T58 l0 x12_1).f2).length c308_2] 58 (0, 0)) (by refine blk_put (cs := #[.int .i64 ((rd_T58 l0 x12_1).f0), .int .u32 ((rd_T58 l0 x12_1).f1), .slice none 0 0]) ?_ 2 _ rfl; refine blk_put (cs := #[.int .i64 ((rd_T58 l0 x12_1).f0), .int .u32 0, .slice none 0 0]) ?_ 1 _ rfl; refine blk_put (cs := #[.int .i64 0, .int .u32 0, .slice none 0 0]) ?_ 0 _ rfl; exact BK309.out) hb); replace HB := a_ (below_step (by repeat (with_reducible first | exact HB.out | refine below_set ?_ GE309.out)) hb); (try clear hb); obtain ⟨hcz11_0, hcz11_1, hcz11_2, hfz11_0, hfz11_1, hfz11_2⟩ := blk3 BK309.out))
      go_ret2
      exact ⟨_, by (rfl), by (exact Kd.R_nil _ _ _ _ _), by exact HB.out⟩
     ·rw [if_neg c7] at H
      have c7b0 := decide_eq_false c7
      have c7b1 : decide (65535 < ((rd_T58 l0 x12_1).f2).length) = false := decide_eq_false (by omega)
      clear c7
      have c12 := ifc_ H
      replace H := ift_ H
      have LMc12 := a_ c12
      clear c12
      obtain ⟨y311, hy311⟩ := is_ ((x4_1 ++ [((rd_T58 l0 x12_1).f0) % 256]))
      rw [Option.bind_some, ← hy311] at H
      have Ny311 := a_ hy311
      clear hy311
      have c13b0 := ifd_ H
      replace H := ift_ H
      have c14b0 := ifd_ H
      replace H := ift_ H
      obtain ⟨bq15, hbq15⟩ : ∃ b_ : Bool, b_ = ((rd_T131 formsG0 ((rd_T58 l0 x12_1).f0)).f0) := ⟨_, rfl⟩
      rw [← hbq15] at H
      have Nbq15 := a_ hbq15
      clear hbq15
      by_cases c16 : bq15 = true
      ·subst c16
       rw [if_pos rfl] at H
       obtain ⟨y316, hy316⟩ := is_ ((([((((rd_T58 l0 x12_1).f2).length : Int) / 256) % 256, ((((rd_T58 l0 x12_1).f2).length : Int)) % 256] : List Int)))
       rw [Option.bind_some, ← hy316] at H
       have Ny316 := a_ hy316
       clear hy316
       have c17 := ifc_ H
       replace H := ift_ H
       have LMc17 := a_ c17
       clear c17
       obtain ⟨y319, hy319⟩ := is_ ((y311 ++ y316))
       rw [Option.bind_some, ← hy319] at H
       have Ny319 := a_ hy319
       clear hy319
       have c18 := ifc_ H
       replace H := ift_ H
       have LMc18 := a_ c18
       clear c18
       obtain ⟨y322, hy322⟩ := is_ ((y319 ++ ((rd_T58 l0 x12_1).f2)))
       rw [← hy322] at H
       have Ny322 := a_ hy322
       clear hy322
       have H' := a_ H
       clear H
       have p308 : 0 ≤ (x12_1 : Int) := da_
       have q308 : x12_1 < (l0.length : Int) := da_
       obtain ⟨ad308, A308_2, c308_2, e308, hx308_0, hx308_1, hx308_2, hl308_2, hi308_2⟩ := at_T58 HR0.out x12_1 p308 q308
       cases e308
       replace hx308_0 := cb_ HB hx308_0
       replace hx308_1 := cb_ HB hx308_1
       replace hx308_2 := cb_ HB hx308_2
       have HR308_2 := a_ hi308_2
       have HC308_2 := a_ hl308_2
       clear hi308_2 hl308_2
       replace p308 := eq_true p308
       replace q308 := eq_true q308
       go_wp2_with (first | (refine be_ 6 #[.int .i64 0, .int .u32 0, .slice none 0 0] 58 ?_; intro gb309 hg w19 hbox hb; have BK309 := a_ hbox; have GE309 := lb_ HB hg; replace HO_4 := rb_ HO_4 hb; replace HB := bs_ HB hb; clear hb hbox hg; obtain ⟨hcz20_0, hcz20_1, hcz20_2, hfz20_0, hfz20_1, hfz20_2⟩ := blk3 BK309.out) | (refine gl_ (some 18) Tryd.func71 #[.agg #[.int .i64 ((rd_T58 l0 x12_1).f0), .int .u32 ((rd_T58 l0 x12_1).f1), .slice A308_2 ((rd_T58 l0 x12_1).f2).length c308_2]] ?_; (with_reducible refine (dump_may.calls k1 ((rd_T58 l0 x12_1).f0) ((rd_T58 l0 x12_1).f1) _ _ ((rd_T58 l0 x12_1).f2) true _ (Kd.C_below HRG0.out (by repeat (with_reducible first | exact HB.out | refine below_set ?_ GE309.out))) (Kd.C_below HR308_2.out (by repeat (with_reducible first | exact HB.out | refine below_set ?_ GE309.out))) HC308_2.out A5.out).mono ?_); rintro e w21 ⟨rfl, hb⟩; refine ⟨_, rfl, ?_⟩; replace HO_4 := a_ (Kd.R_below (by exact (Kd.R_mono (Kd.R_far (p := ⟨gb309, 2, none⟩) (Kd.R_far (p := ⟨gb309, 1, none⟩) (Kd.R_far (p := ⟨gb309, 0, none⟩) (Kd.R_types HO_4.out BK309.out (by decide)) (fun _ hk => hk.2) (.int .i64 ((rd_T58 l0 x12_1).f0))) (fun _ hk => hk.2) (.int .u32 ((rd_T58 l0 x12_1).f1))) (fun _ hk => hk.2) (.slice A308_2 ((rd_T58 l0 x12_1).f2).length c308_2)) (fun _ h_ => h_.1))) hb); replace BK309 := a_ (blk_below (g := gb309) (o := .cells #[.int .i64 ((rd_T58 l0 x12_1).f0), .int .u32 ((rd_T58 l0 x12_1).f1), .slice A308_2 ((rd_T58 l0 x12_1).f2).length c308_2] 58 (0, 0)) (by refine blk_put (cs := #[.int .i64 ((rd_T58 l0 x12_1).f0), .int .u32 ((rd_T58 l0 x12_1).f1), .slice none 0 0]) ?_ 2 _ rfl; refine blk_put (cs := #[.int .i64 ((rd_T58 l0 x12_1).f0), .int .u32 0, .slice none 0 0]) ?_ 1 _ rfl; refine blk_put (cs := #[.int .i64 0, .int .u32 0, .slice none 0 0]) ?_ 0 _ rfl; exact BK309.out) hb); replace HB := a_ (below_step (by repeat (with_reducible first | exact HB.out | refine below_set ?_ GE309.out)) hb); (try clear hb); obtain ⟨hcz22_0, hcz22_1, hcz22_2, hfz22_0, hfz22_1, hfz22_2⟩ := blk3 BK309.out) | ((with_reducible refine gate_builtin (b := .append) (xs := #[.tmp 25, .tmp 29]) rfl ?_); at_builtin; refine Kd.R_append (Kd.int .u8) (w0 := w) w.heap.size rfl (.tmp 25) (.tmp 29) 22 5 (.int .u8 0) 1 rfl Tryd.underlying22 info5 rfl (by decide) (by omega) u4 x4_1 (((rd_T58 l0 x12_1).f0) % 256) [.int .u8 (((rd_T58 l0 x12_1).f0) % 256)] (fun _ => True) (fun _ => False) rfl rfl ?aP (fun _ hk => hk.elim) ?aF ?aO ?aB ?aS ?aL ?_; (case aP => exact rfl); (case aB => exact HB.out); (case aF => exact (fun _ _ => trivial)); (case aO => exact HO_4.out); (case aS => exact (below_size HB.out)); (case aL => have := LMc12.out; omega); intro v312 w23 ho hb hg hat; rw [← Ny311.out] at ho; have HO313 := a_ ho; replace BK309 := a_ (blk_grown BK309.out hg (Kd.R_ne HO_4.out BK309.out (by decide))); replace HB := a_ hb; clear HO_4; clear ho hb hg hat; obtain ⟨hcz24_0, hcz24_1, hcz24_2, hfz24_0, hfz24_1, hfz24_2⟩ := blk3 BK309.out; have p314 : 0 ≤ (((rd_T58 l0 x12_1).f0) : Int) := da_; have q314 : ((rd_T58 l0 x12_1).f0) < (formsG0.length : Int) := of_decide_eq_true (by (assumption)); obtain ⟨ad314, e314, hx314_0, hx314_1⟩ := at_T131 HRG0.out ((rd_T58 l0 x12_1).f0) p314 q314; (try rw [← Nbq15.out] at hx314_0); obtain rfl : (⟨0, 0, none⟩ : Addr) = ad314 := (by injection e314); (simp only [add_plain] at hx314_0); (simp only [add_plain] at hx314_1); replace hx314_0 := cb_ HB hx314_0; replace hx314_1 := cb_ HB hx314_1; replace p314 := eq_true p314; replace q314 := eq_true q314; have qg314 : (((rd_T58 l0 x12_1).f0) < 8) = True := q314) | (refine be_ 7 #[.bool false, .int .i64 0] 131 ?_; intro gb315 hg w25 hbox hb; have BK315 := a_ hbox; have GE315 := lb_ HB hg; obtain ⟨NB309_315, NB315_309⟩ := nn_ BK309 hg; replace HO313 := rb_ HO313 hb; replace BK309 := bb_ BK309 hb; replace HB := bs_ HB hb; clear hb hbox hg; have hnb26 := NB315_309.out; have hnc26 := NB309_315.out; obtain ⟨hcz27_0, hcz27_1, hfz27_0, hfz27_1⟩ := blk2 BK315.out; obtain ⟨hcz28_0, hcz28_1, hcz28_2, hfz28_0, hfz28_1, hfz28_2⟩ := blk3 BK309.out) | ((with_reducible refine gate_dst (N := 47) rfl ?_); refine Kd.R_lit (Kd.int .u8) _ 5 ?hg (N := 47) ?hd (xs := ([((((rd_T58 l0 x12_1).f2).length : Int) / 256) % 256, ((((rd_T58 l0 x12_1).f2).length : Int)) % 256] : List Int)) (inner := [.int .u8 (((((rd_T58 l0 x12_1).f2).length : Int) / 256) % 256), .int .u8 (((((rd_T58 l0 x12_1).f2).length : Int)) % 256)]) (ok := fun _ => True) (okp := fun _ => True) ?hr ?hp (fun _ hk => hk) trivial (Below.refl _ _) (Nat.le_refl _) (by simp) ?_; (case hd => rfl); (case hg => rfl); (case hr => (go_simp; done)); (case hp => exact (Reps.one (show Kd.M (Kd.int .u8) _ _ _ (((((rd_T58 l0 x12_1).f2).length : Int) / 256) % 256) [.int .u8 (((((rd_T58 l0 x12_1).f2).length : Int) / 256) % 256)] from rfl) (Reps.one (show Kd.M (Kd.int .u8) _ _ _ (((((rd_T58 l0 x12_1).f2).length : Int)) % 256) [.int .u8 (((((rd_T58 l0 x12_1).f2).length : Int)) % 256)] from rfl) (Reps.none _ _)))); intro v317 w29 ho30 hb hg_ hnew_; clear hg_ hnew_; (rw [← Ny316.out] at ho30); have HO318 := a_ (Kd.R_lower (Kd.R_new' ho30 (Kd.R_lt (by exact (Kd.R_mono (Kd.R_far (p := ⟨gb315, 1, none⟩) (Kd.R_far (p := ⟨gb315, 0, none⟩) (Kd.R_types HO313.out BK315.out (by decide)) (fun _ hk => hk.2) (.bool true)) (fun _ hk => hk.2) (.int .i64 ((rd_T131 formsG0 ((rd_T58 l0 x12_1).f0)).f1))) (fun _ h_ => h_.1))))) (below_size (by repeat (with_reducible first | exact HB.out | refine below_set ?_ GE315.out)))); replace HO313 := a_ (Kd.R_elder' (by exact (Kd.R_mono (Kd.R_far (p := ⟨gb315, 1, none⟩) (Kd.R_far (p := ⟨gb315, 0, none⟩) (Kd.R_types HO313.out BK315.out (by decide)) (fun _ hk => hk.2) (.bool true)) (fun _ hk => hk.2) (.int .i64 ((rd_T131 formsG0 ((rd_T58 l0 x12_1).f0)).f1))) (fun _ h_ => h_.1))) (Kd.R_base ho30) hb); replace BK309 := a_ (blk_below (g := gb309) (o := .cells #[.int .i64 ((rd_T58 l0 x12_1).f0), .int .u32 ((rd_T58 l0 x12_1).f1), .slice A308_2 ((rd_T58 l0 x12_1).f2).length c308_2] 58 (0, 0)) (by refine blk_far ?_ NB309_315.out _; refine blk_far ?_ NB309_315.out _; exact BK309.out) hb); replace BK315 := a_ (blk_below (g := gb315) (o := .cells #[.bool true, .int .i64 ((rd_T131 formsG0 ((rd_T58 l0 x12_1).f0)).f1)] 131 (0, 0)) (by refine blk_put (cs := #[.bool true, .int .i64 0]) ?_ 1 _ rfl; refine blk_put (cs := #[.bool false, .int .i64 0]) ?_ 0 _ rfl; exact BK315.out) hb); replace HB := a_ (below_step (by repeat (with_reducible first | exact HB.out | refine below_set ?_ GE315.out)) hb); clear hb ho30; obtain ⟨Ao32, co32, eo32⟩ := Kd.R_slice HO318.out; subst eo32) | ((with_reducible refine gate_builtin (b := .append) (xs := #[.tmp 37, .tmp 47]) rfl ?_); at_builtin; refine Kd.R_append_rows (Kd.int .u8) (w0 := w) w.heap.size rfl (.tmp 37) (.tmp 47) 22 5 (.int .u8 0) 1 rfl Tryd.underlying22 info5 rfl (by decide) (by omega) v312 y311 y316 _ _ _ (fun k_ => some k_ ≠ (.slice Ao32 y316.length co32 : Value).ownBlock) (fun _ => False) rfl rfl ?aO ?aR (fun _ _ h => h) (fun _ h => h.elim) ?aF ?aB ?aS ?aL ?_; (case aR => exact (Kd.R_reads' HO318.out).2.2); (case aB => exact HB.out); (case aF => exact (fun k_ hk => Kd.fresh' (Kd.R_lt HO318.out) k_ hk)); (case aO => exact (by exact Kd.R_mono HO313.out (fun _ hk => hk.2))); (case aS => exact (below_size HB.out)); (case aL => have := LMc17.out; omega); intro v320 w31 ho hb hg hat; rw [← Ny319.out] at ho; have HO321 := a_ ho; replace BK309 := a_ (blk_grown BK309.out hg (Kd.R_ne HO313.out BK309.out (by decide))); replace BK315 := a_ (blk_grown BK315.out hg (Kd.R_ne HO313.out BK315.out (by decide))); replace HO318 := a_ (Kd.R_after (ok := (fun _ => True)) HO318.out hg hat); replace HB := a_ hb; clear HO313; clear ho hb hg hat; obtain ⟨hcz33_0, hcz33_1, hcz33_2, hfz33_0, hfz33_1, hfz33_2⟩ := blk3 BK309.out) | ((with_reducible refine gate_builtin (b := .append) (xs := #[.tmp 49, .tmp 51]) rfl ?_); at_builtin; refine Kd.R_append_rows (Kd.int .u8) (w0 := w) w.heap.size rfl (.tmp 49) (.tmp 51) 22 5 (.int .u8 0) 1 rfl Tryd.underlying22 info5 rfl (by decide) (by omega) v320 y319 ((rd_T58 l0 x12_1).f2) _ _ _ (fun k_ => some k_ ≠ (.slice Ao32 y316.length co32 : Value).ownBlock) (fun _ => False) rfl rfl ?aO ?aR (fun _ _ h => h) (fun _ h => h.elim) ?aF ?aB ?aS ?aL ?_; (case aR => exact (Kd.C_below HR308_2.out HB.out)); (case aB => exact HB.out); (case aF => exact (fun k_ hk => Kd.fresh' (Kd.R_lt HO318.out) k_ hk)); (case aO => exact HO321.out); (case aS => exact (below_size HB.out)); (case aL => have := LMc18.out; omega); intro v323 w34 ho hb hg hat; rw [← Ny322.out] at ho; have HO324 := a_ ho; replace BK309 := a_ (blk_grown BK309.out hg (Kd.R_ne HO321.out BK309.out (by decide))); replace BK315 := a_ (blk_grown BK315.out hg (Kd.R_ne HO321.out BK315.out (by decide))); replace HO318 := a_ (Kd.R_after (ok := (fun _ => True)) HO318.out hg hat); replace HB := a_ hb; clear HO321; clear ho hb hg hat))
       go_roundg k1
       case measure => have := HK1.out; omega
       case rel => exact ⟨(y322), (wrap64 (x12_1 + 1)), (by rfl), H', ⟨by have := HK1.out; omega⟩, ⟨by exact Kd.R_mono HO324.out (fun _ hk => trivial)⟩, ⟨by exact HB.out⟩⟩
      ·cases nt_ c16
       rw [if_neg nft_] at H
       replace H := Option.bind_eq_some_iff.mp H
       obtain ⟨⟨t325, t326⟩, A350, H⟩ := H
       try dsimp only at H
       have A35 := a_ A350
       clear A350
       have c36 := ifc_ H
       replace H := ift_ H
       have LMc36 := a_ c36
       clear c36
       obtain ⟨y329, hy329⟩ := is_ ((y311 ++ t325))
       rw [← hy329] at H
       have Ny329 := a_ hy329
       clear hy329
       have H' := a_ H
       clear H
       have p308 : 0 ≤ (x12_1 : Int) := da_
       have q308 : x12_1 < (l0.length : Int) := da_
       obtain ⟨ad308, A308_2, c308_2, e308, hx308_0, hx308_1, hx308_2, hl308_2, hi308_2⟩ := at_T58 HR0.out x12_1 p308 q308
       cases e308
       replace hx308_0 := cb_ HB hx308_0
       replace hx308_1 := cb_ HB hx308_1
       replace hx308_2 := cb_ HB hx308_2
       have HR308_2 := a_ hi308_2
       have HC308_2 := a_ hl308_2
       clear hi308_2 hl308_2
       replace p308 := eq_true p308
       replace q308 := eq_true q308
       go_wp2_with (first | (refine be_ 6 #[.int .i64 0, .int .u32 0, .slice none 0 0] 58 ?_; intro gb309 hg w37 hbox hb; have BK309 := a_ hbox; have GE309 := lb_ HB hg; replace HO_4 := rb_ HO_4 hb; replace HB := bs_ HB hb; clear hb hbox hg; obtain ⟨hcz38_0, hcz38_1, hcz38_2, hfz38_0, hfz38_1, hfz38_2⟩ := blk3 BK309.out) | (refine gl_ (some 18) Tryd.func71 #[.agg #[.int .i64 ((rd_T58 l0 x12_1).f0), .int .u32 ((rd_T58 l0 x12_1).f1), .slice A308_2 ((rd_T58 l0 x12_1).f2).length c308_2]] ?_; (with_reducible refine (dump_may.calls k1 ((rd_T58 l0 x12_1).f0) ((rd_T58 l0 x12_1).f1) _ _ ((rd_T58 l0 x12_1).f2) true _ (Kd.C_below HRG0.out (by repeat (with_reducible first | exact HB.out | refine below_set ?_ GE309.out))) (Kd.C_below HR308_2.out (by repeat (with_reducible first | exact HB.out | refine below_set ?_ GE309.out))) HC308_2.out A5.out).mono ?_); rintro e w39 ⟨rfl, hb⟩; refine ⟨_, rfl, ?_⟩; replace HO_4 := a_ (Kd.R_below (by exact (Kd.R_mono (Kd.R_far (p := ⟨gb309, 2, none⟩) (Kd.R_far (p := ⟨gb309, 1, none⟩) (Kd.R_far (p := ⟨gb309, 0, none⟩) (Kd.R_types HO_4.out BK309.out (by decide)) (fun _ hk => hk.2) (.int .i64 ((rd_T58 l0 x12_1).f0))) (fun _ hk => hk.2) (.int .u32 ((rd_T58 l0 x12_1).f1))) (fun _ hk => hk.2) (.slice A308_2 ((rd_T58 l0 x12_1).f2).length c308_2)) (fun _ h_ => h_.1))) hb); replace BK309 := a_ (blk_below (g := gb309) (o := .cells #[.int .i64 ((rd_T58 l0 x12_1).f0), .int .u32 ((rd_T58 l0 x12_1).f1), .slice A308_2 ((rd_T58 l0 x12_1).f2).length c308_2] 58 (0, 0)) (by refine blk_put (cs := #[.int .i64 ((rd_T58 l0 x12_1).f0), .int .u32 ((rd_T58 l0 x12_1).f1), .slice none 0 0]) ?_ 2 _ rfl; refine blk_put (cs := #[.int .i64 ((rd_T58 l0 x12_1).f0), .int .u32 0, .slice none 0 0]) ?_ 1 _ rfl; refine blk_put (cs := #[.int .i64 0, .int .u32 0, .slice none 0 0]) ?_ 0 _ rfl; exact BK309.out) hb); replace HB := a_ (below_step (by repeat (with_reducible first | exact HB.out | refine below_set ?_ GE309.out)) hb); (try clear hb); obtain ⟨hcz40_0, hcz40_1, hcz40_2, hfz40_0, hfz40_1, hfz40_2⟩ := blk3 BK309.out) | ((with_reducible refine gate_builtin (b := .append) (xs := #[.tmp 25, .tmp 29]) rfl ?_); at_builtin; refine Kd.R_append (Kd.int .u8) (w0 := w) w.heap.size rfl (.tmp 25) (.tmp 29) 22 5 (.int .u8 0) 1 rfl Tryd.underlying22 info5 rfl (by decide) (by omega) u4 x4_1 (((rd_T58 l0 x12_1).f0) % 256) [.int .u8 (((rd_T58 l0 x12_1).f0) % 256)] (fun _ => True) (fun _ => False) rfl rfl ?aP (fun _ hk => hk.elim) ?aF ?aO ?aB ?aS ?aL ?_; (case aP => exact rfl); (case aB => exact HB.out); (case aF => exact (fun _ _ => trivial)); (case aO => exact HO_4.out); (case aS => exact (below_size HB.out)); (case aL => have := LMc12.out; omega); intro v312 w41 ho hb hg hat; rw [← Ny311.out] at ho; have HO313 := a_ ho; replace BK309 := a_ (blk_grown BK309.out hg (Kd.R_ne HO_4.out BK309.out (by decide))); replace HB := a_ hb; clear HO_4; clear ho hb hg hat; obtain ⟨hcz42_0, hcz42_1, hcz42_2, hfz42_0, hfz42_1, hfz42_2⟩ := blk3 BK309.out; have p314 : 0 ≤ (((rd_T58 l0 x12_1).f0) : Int) := da_; have q314 : ((rd_T58 l0 x12_1).f0) < (formsG0.length : Int) := of_decide_eq_true (by (assumption)); obtain ⟨ad314, e314, hx314_0, hx314_1⟩ := at_T131 HRG0.out ((rd_T58 l0 x12_1).f0) p314 q314; (try rw [← Nbq15.out] at hx314_0); obtain rfl : (⟨0, 0, none⟩ : Addr) = ad314 := (by injection e314); (simp only [add_plain] at hx314_0); (simp only [add_plain] at hx314_1); replace hx314_0 := cb_ HB hx314_0; replace hx314_1 := cb_ HB hx314_1; replace p314 := eq_true p314; replace q314 := eq_true q314; have qg314 : (((rd_T58 l0 x12_1).f0) < 8) = True := q314) | (refine be_ 7 #[.bool false, .int .i64 0] 131 ?_; intro gb315 hg w43 hbox hb; have BK315 := a_ hbox; have GE315 := lb_ HB hg; obtain ⟨NB309_315, NB315_309⟩ := nn_ BK309 hg; replace HO313 := rb_ HO313 hb; replace BK309 := bb_ BK309 hb; replace HB := bs_ HB hb; clear hb hbox hg; have hnb44 := NB315_309.out; have hnc44 := NB309_315.out; obtain ⟨hcz45_0, hcz45_1, hfz45_0, hfz45_1⟩ := blk2 BK315.out; obtain ⟨hcz46_0, hcz46_1, hcz46_2, hfz46_0, hfz46_1, hfz46_2⟩ := blk3 BK309.out) | (refine gl_ (some 59) Tryd.func72 #[.int .u64 (IntKind.u64.wrap ((rd_T58 l0 x12_1).f1)), .int .i64 ((rd_T131 formsG0 ((rd_T58 l0 x12_1).f0)).f1), .bool true] ?_; (with_reducible refine (octet_Put.calls k1 (IntKind.u64.wrap ((rd_T58 l0 x12_1).f1)) ((rd_T131 formsG0 ((rd_T58 l0 x12_1).f0)).f1) true t325 t326 _ A35.out).mono ?_); rintro e w47 ⟨v327, rfl, ho0, hb⟩; refine ⟨_, rfl, ?_⟩; have HO328 := a_ (Kd.R_lower (Kd.R_new' ho0 (Kd.R_lt (by exact (Kd.R_mono (Kd.R_far (p := ⟨gb315, 1, none⟩) (Kd.R_far (p := ⟨gb315, 0, none⟩) (Kd.R_types HO313.out BK315.out (by decide)) (fun _ hk => hk.2) (.bool false)) (fun _ hk => hk.2) (.int .i64 ((rd_T131 formsG0 ((rd_T58 l0 x12_1).f0)).f1))) (fun _ h_ => h_.1))))) (below_size (by repeat (with_reducible first | exact HB.out | refine below_set ?_ GE315.out)))); replace HO313 := a_ (Kd.R_elder' (by exact (Kd.R_mono (Kd.R_far (p := ⟨gb315, 1, none⟩) (Kd.R_far (p := ⟨gb315, 0, none⟩) (Kd.R_types HO313.out BK315.out (by decide)) (fun _ hk => hk.2) (.bool false)) (fun _ hk => hk.2) (.int .i64 ((rd_T131 formsG0 ((rd_T58 l0 x12_1).f0)).f1))) (fun _ h_ => h_.1))) (Kd.R_base ho0) hb); replace BK309 := a_ (blk_below (g := gb309) (o := .cells #[.int .i64 ((rd_T58 l0 x12_1).f0), .int .u32 ((rd_T58 l0 x12_1).f1), .slice A308_2 ((rd_T58 l0 x12_1).f2).length c308_2] 58 (0, 0)) (by refine blk_far ?_ NB309_315.out _; refine blk_far ?_ NB309_315.out _; exact BK309.out) hb); replace BK315 := a_ (blk_below (g := gb315) (o := .cells #[.bool false, .int .i64 ((rd_T131 formsG0 ((rd_T58 l0 x12_1).f0)).f1)] 131 (0, 0)) (by refine blk_put (cs := #[.bool false, .int .i64 0]) ?_ 1 _ rfl; refine blk_put (cs := #[.bool false, .int .i64 0]) ?_ 0 _ rfl; exact BK315.out) hb); replace HB := a_ (below_step (by repeat (with_reducible first | exact HB.out | refine below_set ?_ GE315.out)) hb); (try clear hb); (try clear ho0); obtain ⟨Ao49, co49, eo49⟩ := Kd.R_slice HO328.out; subst eo49) | ((with_reducible refine gate_builtin (b := .append) (xs := #[.tmp 62, .tmp 63]) rfl ?_); at_builtin; refine Kd.R_append_rows (Kd.int .u8) (w0 := w) w.heap.size rfl (.tmp 62) (.tmp 63) 22 5 (.int .u8 0) 1 rfl Tryd.underlying22 info5 rfl (by decide) (by omega) v312 y311 t325 _ _ _ (fun k_ => some k_ ≠ (.slice Ao49 t325.length co49 : Value).ownBlock) (fun _ => False) rfl rfl ?aO ?aR (fun _ _ h => h) (fun _ h => h.elim) ?aF ?aB ?aS ?aL ?_; (case aR => exact (Kd.R_reads' HO328.out).2.2); (case aB => exact HB.out); (case aF => exact (fun k_ hk => Kd.fresh' (Kd.R_lt HO328.out) k_ hk)); (case aO => exact (by exact Kd.R_mono HO313.out (fun _ hk => hk.2))); (case aS => exact (below_size HB.out)); (case aL => have := LMc36.out; omega); intro v330 w48 ho hb hg hat; rw [← Ny329.out] at ho; have HO331 := a_ ho; replace BK309 := a_ (blk_grown BK309.out hg (Kd.R_ne HO313.out BK309.out (by decide))); replace BK315 := a_ (blk_grown BK315.out hg (Kd.R_ne HO313.out BK315.out (by decide))); replace HO328 := a_ (Kd.R_after (ok := (fun _ => True)) HO328.out hg hat); replace HB := a_ hb; clear HO313; clear ho hb hg hat))
       go_roundg k1
       case measure => have := HK1.out; omega
       case rel => exact ⟨(y329), (wrap64 (x12_1 + 1)), (by rfl), H', ⟨by have := HK1.out; omega⟩, ⟨by exact Kd.R_mono HO331.out (fun _ hk => trivial)⟩, ⟨by exact HB.out⟩⟩
    ·cases nt_ c6
     rw [if_neg nft_] at H
     obtain ⟨rfl, rfl⟩ := s2_ H
     have p308 : 0 ≤ (x12_1 : Int) := da_
     have q308 : x12_1 < (l0.length : Int) := da_
     obtain ⟨ad308, A308_2, c308_2, e308, hx308_0, hx308_1, hx308_2, hl308_2, hi308_2⟩ := at_T58 HR0.out x12_1 p308 q308
     cases e308
     replace hx308_0 := cb_ HB hx308_0
     replace hx308_1 := cb_ HB hx308_1
     replace hx308_2 := cb_ HB hx308_2
     have HR308_2 := a_ hi308_2
     have HC308_2 := a_ hl308_2
     clear hi308_2 hl308_2
     replace p308 := eq_true p308
     replace q308 := eq_true q308
     go_wp2_with (first | (refine be_ 6 #[.int .i64 0, .int .u32 0, .slice none 0 0] 58 ?_; intro gb309 hg w50 hbox hb; have BK309 := a_ hbox; have GE309 := lb_ HB hg; replace HO_4 := rb_ HO_4 hb; replace HB := bs_ HB hb; clear hb hbox hg; obtain ⟨hcz51_0, hcz51_1, hcz51_2, hfz51_0, hfz51_1, hfz51_2⟩ := blk3 BK309.out) | (refine gl_ (some 18) Tryd.func71 #[.agg #[.int .i64 ((rd_T58 l0 x12_1).f0), .int .u32 ((rd_T58 l0 x12_1).f1), .slice A308_2 ((rd_T58 l0 x12_1).f2).length c308_2]] ?_; (with_reducible refine (dump_may.calls k1 ((rd_T58 l0 x12_1).f0) ((rd_T58 l0 x12_1).f1) _ _ ((rd_T58 l0 x12_1).f2) false _ (Kd.C_below HRG0.out (by repeat (with_reducible first | exact HB.out | refine below_set ?_ GE309.out))) (Kd.C_below HR308_2.out (by repeat (with_reducible first | exact HB.out | refine below_set ?_ GE309.out))) HC308_2.out A5.out).mono ?_); rintro e w52 ⟨rfl, hb⟩; refine ⟨_, rfl, ?_⟩; replace HO_4 := a_ (Kd.R_below (by exact (Kd.R_mono (Kd.R_far (p := ⟨gb309, 2, none⟩) (Kd.R_far (p := ⟨gb309, 1, none⟩) (Kd.R_far (p := ⟨gb309, 0, none⟩) (Kd.R_types HO_4.out BK309.out (by decide)) (fun _ hk => hk.2) (.int .i64 ((rd_T58 l0 x12_1).f0))) (fun _ hk => hk.2) (.int .u32 ((rd_T58 l0 x12_1).f1))) (fun _ hk => hk.2) (.slice A308_2 ((rd_T58 l0 x12_1).f2).length c308_2)) (fun _ h_ => h_.1))) hb); replace BK309 := a_ (blk_below (g := gb309) (o := .cells #[.int .i64 ((rd_T58 l0 x12_1).f0), .int .u32 ((rd_T58 l0 x12_1).f1), .slice A308_2 ((rd_T58 l0 x12_1).f2).length c308_2] 58 (0, 0)) (by refine blk_put (cs := #[.int .i64 ((rd_T58 l0 x12_1).f0), .int .u32 ((rd_T58 l0 x12_1).f1), .slice none 0 0]) ?_ 2 _ rfl; refine blk_put (cs := #[.int .i64 ((rd_T58 l0 x12_1).f0), .int .u32 0, .slice none 0 0]) ?_ 1 _ rfl; refine blk_put (cs := #[.int .i64 0, .int .u32 0, .slice none 0 0]) ?_ 0 _ rfl; exact BK309.out) hb); replace HB := a_ (below_step (by repeat (with_reducible first | exact HB.out | refine below_set ?_ GE309.out)) hb); (try clear hb)))
     go_ret2
     exact ⟨_, by (rfl), by (exact Kd.R_nil _ _ _ _ _), by exact HB.out⟩
   ·rw [if_neg c2] at H
    have c2b0 := decide_eq_false c2
    clear c2
    obtain ⟨rfl, rfl⟩ := s2_ H
    go_wp2
    go_ret2
    exact ⟨_, by (rfl), by exact HO_4.out, by exact HB.out⟩

end Go.Proofs.YtgnonglkibhnhaaDoor.Print
