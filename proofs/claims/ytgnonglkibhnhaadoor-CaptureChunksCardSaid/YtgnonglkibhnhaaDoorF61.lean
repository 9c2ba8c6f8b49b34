import Derived.Test.YtgnonglkibhnhaaDoorZ
import Derived.Test.YtgnonglkibhnhaaDoorM1
namespace Go.Proofs.YtgnonglkibhnhaaDoor.Print
open Go.RowKit Go.Proofs.YtgnonglkibhnhaaDoorW.PrintWords Go.Proofs.YtgnonglkibhnhaaDoorW.PrintLast Go.Proofs.YtgnonglkibhnhaaDoorW.PrintMore
attribute [local go_sem] max2_int min2_int max_two min_two max_three min_three max_four min_four
set_option linter.unusedVariables false
set_option linter.unusedSimpArgs false

/-! ### pcap_Head: function 61 -/
def pcap_Head.f (k : Nat) (l0 : List Int) : Option (Bool × Bool × Int × Int × Int) :=
 if (l0.length : Int) < 4 then some (false, false, 0, 0, 2) else
 (pcap_order.f k l0).bind fun o => if o.2.2.2.2 = false then some (false, false, 0, 0, 3) else if (l0.length : Int) < 24 then some (false, false, 0, 0, 2) else
  (pcap_numbers.num k (l0.drop 4) o.1 0 2).bind fun t1 => if t1 ≠ 2 then some (false, false, 0, 0, 3) else
   (pcap_numbers.num k (l0.drop 4) o.1 2 2).bind fun _ => (pcap_numbers.num k (l0.drop 4) o.1 4 4).bind fun _ => (pcap_numbers.num k (l0.drop 4) o.1 8 4).bind fun _ => (pcap_numbers.num k (l0.drop 4) o.1 12 4).bind fun t5 => (pcap_numbers.num k (l0.drop 4) o.1 16 4).bind fun t6 => some (o.1, o.2.1, t5, t6, 0)
set_option maxHeartbeats 8000000 in
set_option maxRecDepth 100000 in
theorem pcap_Head.calls (k : Nat) (A0 : Option Addr) (c0 : Nat) (l0 : List Int) (r1 r2 : Bool) (r3 r4 : Int) (r5 : Int) (w : World) (hr0 : Kd.C (Kd.int .u8) w A0 l0.length l0) (hc0 : l0.length ≤ c0) (h : pcap_Head.f k l0 = some (r1, r2, r3, r4, r5)) :
  Calls Tryd.prog 61 #[.slice A0 l0.length c0] w fun e w' => e = .returned (.tuple #[.agg #[.bool r1, .bool r2, .int .u32 r3, .int .u32 r4], .int .i64 r5]) ∧ Below w.heap.size w w' := by
 have huM := Tryd.underlying46
 unfold pcap_Head.f at h
 have HR0 := a_ hr0
 have HC0 := a_ hc0
 have HW := a_ (Below.refl w.heap.size w)
 by_cases c1 : (l0.length : Int) < 4
 ·rw [if_pos c1] at h
  simp only [Option.some.injEq, Prod.mk.injEq] at h
  obtain ⟨rfl, rfl, rfl, rfl, rfl⟩ := h
  have c1b := decide_eq_true c1
  clear c1 hr0 hc0
  go_enter Tryd.func61, Tryd.ntmps61
  go_wp2_with ((refine be_ 2 #[.bool false, .bool false, .int .u32 0, .int .u32 0] 46 ?_; intro g2 hg w1 hbox hb; have BK2 := a_ hbox; have HB1 := bs_ HW hb; have GE2 : Aside0 (w.heap.size ≤ g2) := ⟨by rw [hg]; exact Nat.le_refl _⟩; clear hg hbox hb; have hc2_0 := bc0 BK2; have hf2_0 := blk_frozen BK2.out 0; have hc2_1 := bc1 BK2; have hf2_1 := blk_frozen BK2.out 1; have hc2_2 := bc2 BK2; have hf2_2 := blk_frozen BK2.out 2; have hc2_3 := bc3 BK2; have hf2_3 := blk_frozen BK2.out 3))
  refine bodyPost_ret (results_ct rfl _ _ g2 46 #[.bool false, .bool false, .int .u32 0, .int .u32 0] (0, 0) _ rfl (by refine blk_put (cs := #[.bool false, .bool false, .int .u32 0, .int .u32 0]) ?_ 3 _ rfl; refine blk_put (cs := #[.bool false, .bool false, .int .u32 0, .int .u32 0]) ?_ 2 _ rfl; refine blk_put (cs := #[.bool false, .bool false, .int .u32 0, .int .u32 0]) ?_ 1 _ rfl; refine blk_put (cs := #[.bool false, .bool false, .int .u32 0, .int .u32 0]) ?_ 0 _ rfl; exact BK2.out) Tryd.underlying46 rfl (by kernel_rfl)) rfl ?_
  exact ⟨rfl, by repeat (first | with_reducible exact HB1.out | with_reducible refine below_set ?_ GE2.out)⟩
 ·rw [if_neg c1] at h
  obtain ⟨⟨o1, o2, o3, o4, o5⟩, ho, h⟩ := Option.bind_eq_some_iff.1 h
  dsimp only at h
  have c1b := decide_eq_false c1
  have h4 : 4 ≤ l0.length := by omega
  have H4 := a_ h4
  have HO := a_ ho
  have H := a_ h
  clear c1 hr0 hc0 h4 ho h
  go_enter Tryd.func61, Tryd.ntmps61
  go_wp2_with ((refine be_ 2 #[.bool false, .bool false, .int .u32 0, .int .u32 0] 46 ?_; intro g2 hg w1 hbox hb; have BK2 := a_ hbox; have HB1 := bs_ HW hb; have GE2 : Aside0 (w.heap.size ≤ g2) := ⟨by rw [hg]; exact Nat.le_refl _⟩; clear hg hbox hb; have hc2_0 := bc0 BK2; have hf2_0 := blk_frozen BK2.out 0; have hc2_1 := bc1 BK2; have hf2_1 := blk_frozen BK2.out 1; have hc2_2 := bc2 BK2; have hf2_2 := blk_frozen BK2.out 2; have hc2_3 := bc3 BK2; have hf2_3 := blk_frozen BK2.out 3))
  refine (pcap_order.calls k A0 c0 l0 o1 o2 o3 o4 o5 _ (Kd.C_below HR0.out HB1.out) HC0.out H4.out HO.out).mono ?_
  rintro e w2 ⟨rfl, hb2⟩
  have BK2_2 := bb_ BK2 hb2
  have HB2 := bs_ HB1 hb2
  clear hb2 BK2 HB1
  have h := H.out
  cases o5 with
  | false =>
   rw [if_pos rfl] at h
   simp only [Option.some.injEq, Prod.mk.injEq] at h
   obtain ⟨rfl, rfl, rfl, rfl, rfl⟩ := h
   clear H
   have hc2a_0 := BK2_2
   go_wp2_with ((refine be_ 4 #[.bool false, .bool false, .int .u32 0, .int .u32 0] 46 ?_; intro g4 hg w3 hbox hb; have BK4 := a_ hbox; have GE4 : Aside0 (w.heap.size ≤ g4) := ⟨by rw [hg]; exact below_size HB2.out⟩; have NB : Aside0 (g2 ≠ g4) := ⟨by rw [hg]; exact Nat.ne_of_lt (blk_lt BK2_2.out)⟩; have BK2_3 := bb_ BK2_2 hb; have HB3 := bs_ HB2 hb; clear hg hbox hb BK2_2 HB2; have hc4_0 := bc0 BK4; have hf4_0 := blk_frozen BK4.out 0; have hc4_1 := bc1 BK4; have hf4_1 := blk_frozen BK4.out 1; have hc4_2 := bc2 BK4; have hf4_2 := blk_frozen BK4.out 2; have hc4_3 := bc3 BK4; have hf4_3 := blk_frozen BK4.out 3; have hc2b_0 := bc0 BK2_3; have hf2b_0 := blk_frozen BK2_3.out 0; have hc2b_1 := bc1 BK2_3; have hf2b_1 := blk_frozen BK2_3.out 1; have hc2b_2 := bc2 BK2_3; have hf2b_2 := blk_frozen BK2_3.out 2; have hc2b_3 := bc3 BK2_3; have hf2b_3 := blk_frozen BK2_3.out 3; have n24 : g2 ≠ g4 := NB.out; have n42 : g4 ≠ g2 := NB.out.symm))
   refine bodyPost_ret (results_ct rfl _ _ g2 46 #[.bool false, .bool false, .int .u32 0, .int .u32 0] (0, 0) _ rfl (by refine blk_put (cs := #[.bool false, .bool false, .int .u32 0, .int .u32 0]) ?_ 3 _ rfl; refine blk_put (cs := #[.bool false, .bool false, .int .u32 0, .int .u32 0]) ?_ 2 _ rfl; refine blk_put (cs := #[.bool false, .bool false, .int .u32 0, .int .u32 0]) ?_ 1 _ rfl; refine blk_put (cs := #[.bool false, .bool false, .int .u32 0, .int .u32 0]) ?_ 0 _ rfl; repeat (first | with_reducible exact BK2_3.out | refine blk_far ?_ NB.out _)) Tryd.underlying46 rfl (by kernel_rfl)) rfl ?_
   exact ⟨rfl, by repeat (first | with_reducible exact HB3.out | with_reducible refine below_set ?_ GE2.out | with_reducible refine below_set ?_ GE4.out)⟩
  | true =>
   simp only [Bool.true_eq_false, if_false] at h
   by_cases c2 : (l0.length : Int) < 24
   ·rw [if_pos c2] at h
    simp only [Option.some.injEq, Prod.mk.injEq] at h
    obtain ⟨rfl, rfl, rfl, rfl, rfl⟩ := h
    have c2b := decide_eq_true c2
    clear H c2
    go_wp2_with ((refine be_ 4 #[.bool false, .bool false, .int .u32 0, .int .u32 0] 46 ?_; intro g4 hg w3 hbox hb; have BK4 := a_ hbox; have GE4 : Aside0 (w.heap.size ≤ g4) := ⟨by rw [hg]; exact below_size HB2.out⟩; have NB : Aside0 (g2 ≠ g4) := ⟨by rw [hg]; exact Nat.ne_of_lt (blk_lt BK2_2.out)⟩; have BK2_3 := bb_ BK2_2 hb; have HB3 := bs_ HB2 hb; clear hg hbox hb BK2_2 HB2; have hc4_0 := bc0 BK4; have hf4_0 := blk_frozen BK4.out 0; have hc4_1 := bc1 BK4; have hf4_1 := blk_frozen BK4.out 1; have hc4_2 := bc2 BK4; have hf4_2 := blk_frozen BK4.out 2; have hc4_3 := bc3 BK4; have hf4_3 := blk_frozen BK4.out 3; have hc2b_0 := bc0 BK2_3; have hf2b_0 := blk_frozen BK2_3.out 0; have hc2b_1 := bc1 BK2_3; have hf2b_1 := blk_frozen BK2_3.out 1; have hc2b_2 := bc2 BK2_3; have hf2b_2 := blk_frozen BK2_3.out 2; have hc2b_3 := bc3 BK2_3; have hf2b_3 := blk_frozen BK2_3.out 3; have n24 : g2 ≠ g4 := NB.out; have n42 : g4 ≠ g2 := NB.out.symm))
    refine bodyPost_ret (results_ct rfl _ _ g2 46 #[.bool false, .bool false, .int .u32 0, .int .u32 0] (0, 0) _ rfl (by refine blk_put (cs := #[.bool false, .bool false, .int .u32 0, .int .u32 0]) ?_ 3 _ rfl; refine blk_put (cs := #[.bool false, .bool false, .int .u32 0, .int .u32 0]) ?_ 2 _ rfl; refine blk_put (cs := #[.bool false, .bool false, .int .u32 0, .int .u32 0]) ?_ 1 _ rfl; refine blk_put (cs := #[.bool false, .bool false, .int .u32 0, .int .u32 0]) ?_ 0 _ rfl; repeat (first | with_reducible exact BK2_3.out | refine blk_far ?_ NB.out _)) Tryd.underlying46 rfl (by kernel_rfl)) rfl ?_
    exact ⟨rfl, by repeat (first | with_reducible exact HB3.out | with_reducible refine below_set ?_ GE2.out | with_reducible refine below_set ?_ GE4.out)⟩
   ·rw [if_neg c2] at h
    have c2b := decide_eq_false c2
    obtain ⟨t1, q1, h⟩ := Option.bind_eq_some_iff.1 h
    obtain ⟨i0, hi0, _, hsz, _⟩ := info_parts info5
    obtain ⟨A8, hcut, hA8, hC8⟩ := print_drop_of (P := Tryd.prog) (Value.int .u8) 0 22 5 .i64 Tryd.underlying22 hi0 hsz A0 c0 l0 4 (by omega) (by omega) HC0.out
    have HR8 := a_ (Kd.C_of_reads (h1 := fun _ => rfl) (hA8 _ (Kd.reads_of_C HR0.out)))
    have hl4 : (l0.drop (4 : Int).toNat).length = l0.length - 4 := List.length_drop ..
    have HL4 : Aside0 (20 ≤ ((l0.drop (4 : Int).toNat).length : Int)) := ⟨by omega⟩
    have HC8 := a_ hC8
    have T1 : Aside0 (pcap_numbers.num k (l0.drop (4 : Int).toNat) o1 0 2 = some t1) := ⟨q1⟩
    have H : Aside0 ((if t1 ≠ 2 then some (false, false, 0, 0, 3) else
   (pcap_numbers.num k (l0.drop (4 : Int).toNat) o1 2 2).bind fun _ => (pcap_numbers.num k (l0.drop (4 : Int).toNat) o1 4 4).bind fun _ => (pcap_numbers.num k (l0.drop (4 : Int).toNat) o1 8 4).bind fun _ => (pcap_numbers.num k (l0.drop (4 : Int).toNat) o1 12 4).bind fun t5 => (pcap_numbers.num k (l0.drop (4 : Int).toNat) o1 16 4).bind fun t6 => some (o1, o2, t5, t6, 0)) = some (r1, r2, r3, r4, r5)) := ⟨h⟩
    clear h q1 hl4 hA8 hC8 hi0 hsz c2
    generalize l0.drop (4 : Int).toNat = l4 at hcut HR8 HL4 HC8 T1 H
    generalize c0 - (4 : Int).toNat = c8 at hcut HC8
    go_wp2_with ((refine be_ 4 #[.bool false, .bool false, .int .u32 0, .int .u32 0] 46 ?_; intro g4 hg w3 hbox hb; have BK4 := a_ hbox; have GE4 : Aside0 (w.heap.size ≤ g4) := ⟨by rw [hg]; exact below_size HB2.out⟩; have NB : Aside0 (g2 ≠ g4) := ⟨by rw [hg]; exact Nat.ne_of_lt (blk_lt BK2_2.out)⟩; have BK2_3 := bb_ BK2_2 hb; have HB3 := bs_ HB2 hb; clear hg hbox hb BK2_2 HB2; have hc4_0 := bc0 BK4; have hf4_0 := blk_frozen BK4.out 0; have hc4_1 := bc1 BK4; have hf4_1 := blk_frozen BK4.out 1; have hc4_2 := bc2 BK4; have hf4_2 := blk_frozen BK4.out 2; have hc4_3 := bc3 BK4; have hf4_3 := blk_frozen BK4.out 3; have hc2b_0 := bc0 BK2_3; have hf2b_0 := blk_frozen BK2_3.out 0; have hc2b_1 := bc1 BK2_3; have hf2b_1 := blk_frozen BK2_3.out 1; have hc2b_2 := bc2 BK2_3; have hf2b_2 := blk_frozen BK2_3.out 2; have hc2b_3 := bc3 BK2_3; have hf2b_3 := blk_frozen BK2_3.out 3; have n24 : g2 ≠ g4 := NB.out; have n42 : g4 ≠ g2 := NB.out.symm))
    generalize hW : World.setCell (World.setCell (World.setCell (World.setCell w3 ⟨g4, 0, none⟩ (.bool o1)) ⟨g4, 1, none⟩ (.bool o2)) ⟨g4, 2, none⟩ (.int .u32 o3)) ⟨g4, 3, none⟩ (.int .u32 o4) = w3b
    have BK4s : Aside0 (w3b.heap[g4]? = some (.cells #[.bool o1, .bool o2, .int .u32 o3, .int .u32 o4] 46 (0, 0))) := ⟨by rw [← hW]; exact (by refine blk_put (cs := #[.bool o1, .bool o2, .int .u32 o3, .int .u32 0]) ?_ 3 _ rfl; refine blk_put (cs := #[.bool o1, .bool o2, .int .u32 0, .int .u32 0]) ?_ 2 _ rfl; refine blk_put (cs := #[.bool o1, .bool false, .int .u32 0, .int .u32 0]) ?_ 1 _ rfl; refine blk_put (cs := #[.bool false, .bool false, .int .u32 0, .int .u32 0]) ?_ 0 _ rfl; exact BK4.out)⟩
    have BK2s : Aside0 (w3b.heap[g2]? = some (.cells #[.bool false, .bool false, .int .u32 0, .int .u32 0] 46 (0, 0))) := ⟨by rw [← hW]; repeat (first | with_reducible exact BK2_3.out | refine blk_far ?_ NB.out _)⟩
    have HB3b : Aside0 (Below w.heap.size w w3b) := ⟨by rw [← hW]; repeat (first | with_reducible exact HB3.out | with_reducible refine below_set ?_ GE4.out)⟩
    clear hW BK4 BK2_3 HB3 hc4_0 hf4_0 hc2b_0 hf2b_0 hc4_1 hf4_1 hc2b_1 hf2b_1 hc4_2 hf4_2 hc2b_2 hf2b_2 hc4_3 hf4_3 hc2b_3 hf2b_3
    have hcs_0 := bc0 BK4s
    go_region_held (fun w' => w'.cell? ⟨g4, 0, none⟩ = some (.bool o1)) (first | exact hcs_1 | exact hcs_0) (with_reducible refine (pcap_numbers.calls A8 l4.length c8 o1 _).mono ?_;  rintro e w4 ⟨gb, ga, gg, rfl, hI, hb⟩; have BK4_4 := a_ (blk_below (blk_drew BK4s.out) hb); have BK2_4 := a_ (blk_below (blk_drew BK2s.out) hb); have HB4 := a_ (below_step (below_drew HB3b.out) hb); have LA := a_ (Nat.le_trans (below_size (below_drew HB3b.out)) hI.la); have I4 := a_ (hI.lower (below_size (below_drew HB3b.out))); have N2 : Aside0 (g2 ≠ ga) := ⟨blk_ne BK2_4.out hI.ha (by decide)⟩; have N4 : Aside0 (g4 ≠ ga) := ⟨blk_ne BK4_4.out hI.ha (by decide)⟩; have Nb : Aside0 (gb ≠ g4) := ⟨blk_ne hI.hb BK4_4.out (by decide)⟩; have Na : Aside0 (ga ≠ g4) := ⟨N4.out.symm⟩; have Ng : Aside0 (gg ≠ g4) := ⟨blk_ne hI.hg BK4_4.out (by decide)⟩; clear hI hb BK4s BK2s HB3b; have hcs_1 := bc0 BK4_4)
    go_wp2_with (fail)
    refine (pcap_numbers.next k A8 l4 c8 o1 0 2 t1 w.heap.size gb ga gg _ I4.out (Kd.C_below HR8.out (by repeat (with_reducible exact HB4.out))) HC8.out (by omega) (by omega) (by have := HL4.out; omega) T1.out).mono ?_
    rintro e w5 ⟨rfl, hI, hk, hb⟩
    have BK4_5 := a_ (hk.blk BK4_4.out N4.out (by simp))
    have BK2_5 := a_ (hk.blk BK2_4.out N2.out (by simp))
    have HB5 := a_ (hb w (by repeat (with_reducible exact HB4.out)) LA.out)
    have I5 : Aside0 (pcap_numbers.Inv w5 w.heap.size A8 l4.length c8 o1 2 gb ga gg) := ⟨hI⟩
    clear hI hk hb BK4_4 BK2_4 HB4 I4
    have hc4a_0 := bc0 BK4_5
    have hf4a_0 := blk_frozen BK4_5.out 0
    have hc4a_1 := bc1 BK4_5
    have hf4a_1 := blk_frozen BK4_5.out 1
    have hc4a_2 := bc2 BK4_5
    have hf4a_2 := blk_frozen BK4_5.out 2
    have hc4a_3 := bc3 BK4_5
    have hf4a_3 := blk_frozen BK4_5.out 3
    have hc2u_0 := bc0 BK2_5
    have hf2u_0 := blk_frozen BK2_5.out 0
    have hc2u_1 := bc1 BK2_5
    have hf2u_1 := blk_frozen BK2_5.out 1
    have hc2u_2 := bc2 BK2_5
    have hf2u_2 := blk_frozen BK2_5.out 2
    have hc2u_3 := bc3 BK2_5
    have hf2u_3 := blk_frozen BK2_5.out 3
    have h := H.out
    by_cases c5 : t1 = 2
    ·rw [if_neg (by simpa using c5)] at h
     obtain ⟨t2, q2, h⟩ := Option.bind_eq_some_iff.1 h
     obtain ⟨t3, q3, h⟩ := Option.bind_eq_some_iff.1 h
     obtain ⟨t4, q4, h⟩ := Option.bind_eq_some_iff.1 h
     obtain ⟨t5, q5, h⟩ := Option.bind_eq_some_iff.1 h
     obtain ⟨t6, q6, h⟩ := Option.bind_eq_some_iff.1 h
     simp only [Option.some.injEq, Prod.mk.injEq] at h
     obtain ⟨rfl, rfl, rfl, rfl, rfl⟩ := h
     have T2 := a_ q2
     have T3 := a_ q3
     have T4 := a_ q4
     have T5 := a_ q5
     have T6 := a_ q6
     have c5b : (t1 == 2) = true := by simpa using c5
     have c5c : (t1 != 2) = false := by simpa using c5
     clear q2 q3 q4 q5 q6 c5
     clear H
     go_wp2_with (fail)
     refine (pcap_numbers.next k A8 l4 c8 o1 2 2 t2 w.heap.size gb ga gg _ I5.out (Kd.C_below HR8.out (by repeat (with_reducible exact HB5.out))) HC8.out (by omega) (by omega) (by have := HL4.out; omega) T2.out).mono ?_
     rintro e w6 ⟨rfl, hI, hk, hb⟩
     have BK4_6 := a_ (hk.blk BK4_5.out N4.out (by simp))
     have BK2_6 := a_ (hk.blk BK2_5.out N2.out (by simp))
     have HB6 := a_ (hb w (by repeat (with_reducible exact HB5.out)) LA.out)
     have I6 : Aside0 (pcap_numbers.Inv w6 w.heap.size A8 l4.length c8 o1 4 gb ga gg) := ⟨hI⟩
     clear hI hk hb BK4_5 BK2_5 HB5 I5
     have hc4b_0 := bc0 BK4_6
     have hf4b_0 := blk_frozen BK4_6.out 0
     have hc4b_1 := bc1 BK4_6
     have hf4b_1 := blk_frozen BK4_6.out 1
     have hc4b_2 := bc2 BK4_6
     have hf4b_2 := blk_frozen BK4_6.out 2
     have hc4b_3 := bc3 BK4_6
     have hf4b_3 := blk_frozen BK4_6.out 3
     have hc2v_0 := bc0 BK2_6
     have hf2v_0 := blk_frozen BK2_6.out 0
     have hc2v_1 := bc1 BK2_6
     have hf2v_1 := blk_frozen BK2_6.out 1
     have hc2v_2 := bc2 BK2_6
     have hf2v_2 := blk_frozen BK2_6.out 2
     have hc2v_3 := bc3 BK2_6
     have hf2v_3 := blk_frozen BK2_6.out 3
     go_wp2_with (fail)
     refine (pcap_numbers.next k A8 l4 c8 o1 4 4 t3 w.heap.size gb ga gg _ I6.out (Kd.C_below HR8.out (by repeat (with_reducible exact HB6.out))) HC8.out (by omega) (by omega) (by have := HL4.out; omega) T3.out).mono ?_
     rintro e w7 ⟨rfl, hI, hk, hb⟩
     have BK4_7 := a_ (hk.blk BK4_6.out N4.out (by simp))
     have BK2_7 := a_ (hk.blk BK2_6.out N2.out (by simp))
     have HB7 := a_ (hb w (by repeat (with_reducible exact HB6.out)) LA.out)
     have I7 : Aside0 (pcap_numbers.Inv w7 w.heap.size A8 l4.length c8 o1 8 gb ga gg) := ⟨hI⟩
     clear hI hk hb BK4_6 BK2_6 HB6 I6
     have hc4c_0 := bc0 BK4_7
     have hf4c_0 := blk_frozen BK4_7.out 0
     have hc4c_1 := bc1 BK4_7
     have hf4c_1 := blk_frozen BK4_7.out 1
     have hc4c_2 := bc2 BK4_7
     have hf4c_2 := blk_frozen BK4_7.out 2
     have hc4c_3 := bc3 BK4_7
     have hf4c_3 := blk_frozen BK4_7.out 3
     have hc2w_0 := bc0 BK2_7
     have hf2w_0 := blk_frozen BK2_7.out 0
     have hc2w_1 := bc1 BK2_7
     have hf2w_1 := blk_frozen BK2_7.out 1
     have hc2w_2 := bc2 BK2_7
     have hf2w_2 := blk_frozen BK2_7.out 2
     have hc2w_3 := bc3 BK2_7
     have hf2w_3 := blk_frozen BK2_7.out 3
     go_wp2_with (fail)
     refine (pcap_numbers.next k A8 l4 c8 o1 8 4 t4 w.heap.size gb ga gg _ I7.out (Kd.C_below HR8.out (by repeat (with_reducible exact HB7.out))) HC8.out (by omega) (by omega) (by have := HL4.out; omega) T4.out).mono ?_
     rintro e w8 ⟨rfl, hI, hk, hb⟩
     have BK4_8 := a_ (hk.blk BK4_7.out N4.out (by simp))
     have BK2_8 := a_ (hk.blk BK2_7.out N2.out (by simp))
     have HB8 := a_ (hb w (by repeat (with_reducible exact HB7.out)) LA.out)
     have I8 : Aside0 (pcap_numbers.Inv w8 w.heap.size A8 l4.length c8 o1 12 gb ga gg) := ⟨hI⟩
     clear hI hk hb BK4_7 BK2_7 HB7 I7
     have hc4d_0 := bc0 BK4_8
     have hf4d_0 := blk_frozen BK4_8.out 0
     have hc4d_1 := bc1 BK4_8
     have hf4d_1 := blk_frozen BK4_8.out 1
     have hc4d_2 := bc2 BK4_8
     have hf4d_2 := blk_frozen BK4_8.out 2
     have hc4d_3 := bc3 BK4_8
     have hf4d_3 := blk_frozen BK4_8.out 3
     have hc2x_0 := bc0 BK2_8
     have hf2x_0 := blk_frozen BK2_8.out 0
     have hc2x_1 := bc1 BK2_8
     have hf2x_1 := blk_frozen BK2_8.out 1
     have hc2x_2 := bc2 BK2_8
     have hf2x_2 := blk_frozen BK2_8.out 2
     have hc2x_3 := bc3 BK2_8
     have hf2x_3 := blk_frozen BK2_8.out 3
     go_wp2_with (fail)
     refine (pcap_numbers.next k A8 l4 c8 o1 12 4 t5 w.heap.size gb ga gg _ I8.out (Kd.C_below HR8.out (by repeat (with_reducible exact HB8.out))) HC8.out (by omega) (by omega) (by have := HL4.out; omega) T5.out).mono ?_
     rintro e w9 ⟨rfl, hI, hk, hb⟩
     have BK4_9 := a_ (hk.blk BK4_8.out N4.out (by simp))
     have BK2_9 := a_ (hk.blk BK2_8.out N2.out (by simp))
     have HB9 := a_ (hb w (by repeat (with_reducible exact HB8.out)) LA.out)
     have I9 : Aside0 (pcap_numbers.Inv w9 w.heap.size A8 l4.length c8 o1 16 gb ga gg) := ⟨hI⟩
     clear hI hk hb BK4_8 BK2_8 HB8 I8
     have hc4e_0 := bc0 BK4_9
     have hf4e_0 := blk_frozen BK4_9.out 0
     have hc4e_1 := bc1 BK4_9
     have hf4e_1 := blk_frozen BK4_9.out 1
     have hc4e_2 := bc2 BK4_9
     have hf4e_2 := blk_frozen BK4_9.out 2
     have hc4e_3 := bc3 BK4_9
     have hf4e_3 := blk_frozen BK4_9.out 3
     have hc2y_0 := bc0 BK2_9
     have hf2y_0 := blk_frozen BK2_9.out 0
     have hc2y_1 := bc1 BK2_9
     have hf2y_1 := blk_frozen BK2_9.out 1
     have hc2y_2 := bc2 BK2_9
     have hf2y_2 := blk_frozen BK2_9.out 2
     have hc2y_3 := bc3 BK2_9
     have hf2y_3 := blk_frozen BK2_9.out 3
     go_wp2_with (fail)
     refine (pcap_numbers.next k A8 l4 c8 o1 16 4 t6 w.heap.size gb ga gg _ (by repeat (first | exact I9.out | refine pcap_numbers.Inv.far ?_ Nb.out Na.out Ng.out _)) (Kd.C_below HR8.out (by repeat (first | with_reducible exact HB9.out | with_reducible refine below_set ?_ GE4.out))) HC8.out (by omega) (by omega) (by have := HL4.out; omega) T6.out).mono ?_
     rintro e w10 ⟨rfl, hI, hk, hb⟩
     have BK4_10 := a_ (hk.blk (o := .cells #[.bool o1, .bool o2, .int .u32 t5, .int .u32 o4] 46 (0, 0)) (g' := g4) (by refine blk_put (cs := #[.bool o1, .bool o2, .int .u32 o3, .int .u32 o4]) ?_ 2 _ rfl; exact BK4_9.out) N4.out (by simp))
     have BK2_10 := a_ (hk.blk (o := .cells #[.bool false, .bool false, .int .u32 0, .int .u32 0] 46 (0, 0)) (g' := g2) (by exact blk_far (p := ⟨g4, 2, none⟩) BK2_9.out NB.out _) N2.out (by simp))
     have HB10 := a_ (hb w (by repeat (first | with_reducible exact HB9.out | with_reducible refine below_set ?_ GE4.out)) LA.out)
     have I10 : Aside0 (pcap_numbers.Inv w10 w.heap.size A8 l4.length c8 o1 20 gb ga gg) := ⟨hI⟩
     clear hI hk hb BK4_9 BK2_9 HB9 I9
     have hc4f_0 := bc0 BK4_10
     have hf4f_0 := blk_frozen BK4_10.out 0
     have hc4f_1 := bc1 BK4_10
     have hf4f_1 := blk_frozen BK4_10.out 1
     have hc4f_2 := bc2 BK4_10
     have hf4f_2 := blk_frozen BK4_10.out 2
     have hc4f_3 := bc3 BK4_10
     have hf4f_3 := blk_frozen BK4_10.out 3
     have hc2z_0 := bc0 BK2_10
     have hf2z_0 := blk_frozen BK2_10.out 0
     have hc2z_1 := bc1 BK2_10
     have hf2z_1 := blk_frozen BK2_10.out 1
     have hc2z_2 := bc2 BK2_10
     have hf2z_2 := blk_frozen BK2_10.out 2
     have hc2z_3 := bc3 BK2_10
     have hf2z_3 := blk_frozen BK2_10.out 3
     have n24 : g2 ≠ g4 := NB.out
     have n42 : g4 ≠ g2 := NB.out.symm
     go_wp2_with (fail)
     have E2 := a_ (blk_far (p := ⟨g4, 3, none⟩) BK2_10.out NB.out (.int .u32 t6))
     refine bodyPost_ret (results_ct rfl _ _ g2 46 #[.bool o1, .bool o2, .int .u32 t5, .int .u32 t6] (0, 0) _ rfl (by refine blk_put (cs := #[.bool o1, .bool o2, .int .u32 t5, .int .u32 0]) ?_ 3 _ rfl; refine blk_put (cs := #[.bool o1, .bool o2, .int .u32 0, .int .u32 0]) ?_ 2 _ rfl; refine blk_put (cs := #[.bool o1, .bool false, .int .u32 0, .int .u32 0]) ?_ 1 _ rfl; refine blk_put (cs := #[.bool false, .bool false, .int .u32 0, .int .u32 0]) ?_ 0 _ rfl; exact E2.out) Tryd.underlying46 rfl (by kernel_rfl)) rfl ?_
     exact ⟨rfl, by repeat (first | with_reducible exact HB10.out | with_reducible refine below_set ?_ GE2.out | with_reducible refine below_set ?_ GE4.out)⟩
    ·rw [if_pos (by simpa using c5)] at h
     simp only [Option.some.injEq, Prod.mk.injEq] at h
     obtain ⟨rfl, rfl, rfl, rfl, rfl⟩ := h
     have c5b : (t1 == 2) = false := by simpa using c5
     have c5c : (t1 != 2) = true := by simpa using c5
     clear c5
     clear H
     have n24 : g2 ≠ g4 := NB.out
     have n42 : g4 ≠ g2 := NB.out.symm
     go_wp2_with (fail)
     refine bodyPost_ret (results_ct rfl _ _ g2 46 #[.bool false, .bool false, .int .u32 0, .int .u32 0] (0, 0) _ rfl (by refine blk_put (cs := #[.bool false, .bool false, .int .u32 0, .int .u32 0]) ?_ 3 _ rfl; refine blk_put (cs := #[.bool false, .bool false, .int .u32 0, .int .u32 0]) ?_ 2 _ rfl; refine blk_put (cs := #[.bool false, .bool false, .int .u32 0, .int .u32 0]) ?_ 1 _ rfl; refine blk_put (cs := #[.bool false, .bool false, .int .u32 0, .int .u32 0]) ?_ 0 _ rfl; exact BK2_5.out) Tryd.underlying46 rfl (by kernel_rfl)) rfl ?_
     exact ⟨rfl, by repeat (first | with_reducible exact HB5.out | with_reducible refine below_set ?_ GE2.out)⟩

end Go.Proofs.YtgnonglkibhnhaaDoor.Print
