-- laid by this session's own program (wip/mkprint.sh) for this claim
import Derived.Test.Ytnjimecjpnjojaa0
import Derived.Test.YtnjimecjpnjojaaF49
import Derived.Test.YtnjimecjpnjojaaF52
namespace Go.Proofs.Ytnjimecjpnjojaa.Print
open Go.RowKit Go.Proofs.YtnjimecjpnjojaaW.PrintWords Go.Proofs.YtnjimecjpnjojaaW.PrintLast Go.Proofs.YtnjimecjpnjojaaW.PrintMore
attribute [local go_sem] max2_int min2_int max_two min_two max_three min_three max_four min_four   -- for this text's walks alone
set_option linter.unusedVariables false
set_option linter.unusedSimpArgs false

/-! ### pcap_Next: function 24 -/
def pcap_Next.f (k : Nat) (l0 : List Int) (a1 : Bool) : Option (Int × Int × Int × List Int × Int × Int) :=
  if (l0.length : Int) < 16 then some (0, 0, 0, ([] : List Int), 0, 2) else
  (pcap_numbers.num k l0 a1 0 4).bind fun t1 => (pcap_numbers.num k l0 a1 4 4).bind fun t2 => (pcap_numbers.num k l0 a1 8 4).bind fun t3 => (pcap_numbers.num k l0 a1 12 4).bind fun t4 =>
    if t3 > 131072 then some (0, 0, 0, ([] : List Int), 0, 4) else
    (octet_Cut.f l0 16 t3).bind fun c => if c.2 = true then some (t1, t2, t4, c.1, 16 + t3, 0) else some (0, 0, 0, ([] : List Int), 0, 2)
theorem pcap_Next.mono (l0 : List Int) (a1 : Bool) (k : Nat) : LeO (pcap_Next.f k l0 a1) (pcap_Next.f (k + 1) l0 a1) := by
  unfold pcap_Next.f
  refine LeO.ite (LeO.refl _) ?_
  refine LeO.bind (pcap_numbers.mono _ _ _ _ k) (fun _ => ?_)
  refine LeO.bind (pcap_numbers.mono _ _ _ _ k) (fun _ => ?_)
  refine LeO.bind (pcap_numbers.mono _ _ _ _ k) (fun _ => ?_)
  exact LeO.bind (pcap_numbers.mono _ _ _ _ k) (fun _ => LeO.refl _)
set_option maxHeartbeats 8000000 in
set_option maxRecDepth 100000 in
theorem pcap_Next.calls (k : Nat) (A0 : Option Addr) (c0 : Nat) (l0 : List Int) (a1 : Bool) (r1 : Int) (r2 : Int) (r3 : Int) (r4 : List Int) (r5 : Int) (r6 : Int) (w : World) (hr0 : Kd.C (Kd.int .u8) w A0 l0.length l0) (hc0 : l0.length ≤ c0) (h : pcap_Next.f k l0 a1 = some (r1, r2, r3, r4, r5, r6)) :
    Calls Try.prog 24 #[.slice A0 l0.length c0, .bool a1] w fun e w' => ∃ v3_ : Value, e = .returned (.tuple #[.agg #[.int .u32 r1, .int .u32 r2, .int .u32 r3, v3_], .int .i64 r5, .int .i64 r6]) ∧ Kd.R (Kd.int .u8) 5 w' w.heap.size (fun _ => True) v3_ r4 ∧ Below w.heap.size w w' := by
  have hu46 := Try.underlying46
  unfold pcap_Next.f at h
  have HR0 := Aside0.mk hr0
  have HC0 := Aside0.mk hc0
  have HW := Aside0.mk (Below.refl w.heap.size w)
  by_cases c1 : (l0.length : Int) < 16
  · rw [if_pos c1] at h
    simp only [Option.some.injEq, Prod.mk.injEq] at h
    obtain ⟨rfl, rfl, rfl, rfl, rfl, rfl⟩ := h
    have c1b : decide ((l0.length : Int) < 16) = true := decide_eq_true c1
    clear c1 hr0 hc0
    go_enter Try.func24, Try.ntmps24
    go_wp2_with (((with_reducible refine gate_dst (N := 4) rfl ?_); refine box_event ?hg (N := 4) ?hd (cs := #[.int .u32 0, .int .u32 0, .int .u32 0, .slice none 0 0]) (t := 46) ?hr ?_; (case hd => rfl); (case hg => rfl); (case hr => (go_simp; done)); intro g4 hg w1 hbox hb; have BK4 := Aside0.mk hbox; have HB1 := Aside0.mk (below_step HW.out hb); have GE4 : Aside0 (w.heap.size ≤ g4) := ⟨by rw [hg]; exact Nat.le_refl _⟩; clear hg hbox hb; have hc4_0 : w1.cell? ⟨g4, 0, none⟩ = some (.int .u32 0) := (blk_cell BK4.out 0).trans rfl; have hc4_1 : w1.cell? ⟨g4, 1, none⟩ = some (.int .u32 0) := (blk_cell BK4.out 1).trans rfl; have hc4_2 : w1.cell? ⟨g4, 2, none⟩ = some (.int .u32 0) := (blk_cell BK4.out 2).trans rfl; have hc4_3 : w1.cell? ⟨g4, 3, none⟩ = some (.slice none 0 0) := (blk_cell BK4.out 3).trans rfl; have hf4_0 := blk_frozen BK4.out 0; have hf4_1 := blk_frozen BK4.out 1; have hf4_2 := blk_frozen BK4.out 2; have hf4_3 := blk_frozen BK4.out 3))
    refine bodyPost_ret (results_ctt rfl _ _ g4 46 #[.int .u32 0, .int .u32 0, .int .u32 0, .slice none 0 0] (0, 0) _ rfl (by refine blk_put (cs := #[.int .u32 0, .int .u32 0, .int .u32 0, .slice none 0 0]) ?_ 3 _ rfl; refine blk_put (cs := #[.int .u32 0, .int .u32 0, .int .u32 0, .slice none 0 0]) ?_ 2 _ rfl; refine blk_put (cs := #[.int .u32 0, .int .u32 0, .int .u32 0, .slice none 0 0]) ?_ 1 _ rfl; refine blk_put (cs := #[.int .u32 0, .int .u32 0, .int .u32 0, .slice none 0 0]) ?_ 0 _ rfl; exact BK4.out) Try.underlying46 rfl (by kernel_rfl)) rfl ?_
    exact ⟨_, rfl, Kd.R_nil _ _ _ _ _, by repeat (first | exact HB1.out | refine below_set ?_ GE4.out)⟩
  · rw [if_neg c1] at h
    replace h := Option.bind_eq_some_iff.1 h
    obtain ⟨t1, h1, h⟩ := h
    replace h := Option.bind_eq_some_iff.1 h
    obtain ⟨t2, h2, h⟩ := h
    replace h := Option.bind_eq_some_iff.1 h
    obtain ⟨t3, h3, h⟩ := h
    replace h := Option.bind_eq_some_iff.1 h
    obtain ⟨t4, h4, h⟩ := h
    have c1b : decide ((l0.length : Int) < 16) = false := decide_eq_false c1
    have hlen : 16 ≤ (l0.length : Int) := by omega
    have r30 := (pcap_numbers.range h3).1
    have r31 := (pcap_numbers.range h3).2
    have HL := Aside0.mk hlen
    have H1 := Aside0.mk h1
    have H2 := Aside0.mk h2
    have H3 := Aside0.mk h3
    have H4 := Aside0.mk h4
    have H := Aside0.mk h
    clear h1 h2 h3 h4 h c1 hr0 hc0
    go_enter Try.func24, Try.ntmps24
    go_wp2_with (((with_reducible refine gate_dst (N := 4) rfl ?_); refine box_event ?hg (N := 4) ?hd (cs := #[.int .u32 0, .int .u32 0, .int .u32 0, .slice none 0 0]) (t := 46) ?hr ?_; (case hd => rfl); (case hg => rfl); (case hr => (go_simp; done)); intro g4 hg w1 hbox hb; have BK4 := Aside0.mk hbox; have HB1 := Aside0.mk (below_step HW.out hb); have GE4 : Aside0 (w.heap.size ≤ g4) := ⟨by rw [hg]; exact Nat.le_refl _⟩; clear hg hbox hb; have hc4_0 : w1.cell? ⟨g4, 0, none⟩ = some (.int .u32 0) := (blk_cell BK4.out 0).trans rfl; have hc4_1 : w1.cell? ⟨g4, 1, none⟩ = some (.int .u32 0) := (blk_cell BK4.out 1).trans rfl; have hc4_2 : w1.cell? ⟨g4, 2, none⟩ = some (.int .u32 0) := (blk_cell BK4.out 2).trans rfl; have hc4_3 : w1.cell? ⟨g4, 3, none⟩ = some (.slice none 0 0) := (blk_cell BK4.out 3).trans rfl; have hf4_0 := blk_frozen BK4.out 0; have hf4_1 := blk_frozen BK4.out 1; have hf4_2 := blk_frozen BK4.out 2; have hf4_3 := blk_frozen BK4.out 3))
    refine (pcap_numbers.calls A0 l0.length c0 a1 _).mono ?_
    rintro e w2 ⟨gb, ga, gg, rfl, hI2, hb2⟩
    have BK4_2 := Aside0.mk (blk_below BK4.out hb2)
    have HB2 := Aside0.mk (below_step HB1.out hb2)
    have LA := Aside0.mk (Nat.le_trans (below_size HB1.out) hI2.la)
    have I2 := Aside0.mk (hI2.lower (below_size HB1.out))
    have NB4 : Aside0 (g4 ≠ ga) := ⟨blk_ne BK4_2.out hI2.ha (by decide)⟩
    clear hI2 hb2 BK4 HB1
    go_wp2_with (fail)
    refine (pcap_numbers.next k A0 l0 c0 a1 0 4 t1 _ gb ga gg _ I2.out (Kd.C_below HR0.out HB2.out) HC0.out (by omega) (by omega) (by have := HL.out; omega) H1.out).mono ?_
    rintro e w3 ⟨rfl, hI3, hk3, hb3⟩
    have BK4_3 := Aside0.mk (hk3.blk BK4_2.out NB4.out (by simp))
    have HB3 := Aside0.mk (hb3 w HB2.out LA.out)
    have I3 : Aside0 (pcap_numbers.Inv w3 w.heap.size A0 l0.length c0 a1 4 gb ga gg) := ⟨hI3⟩
    clear hI3 hk3 hb3 BK4_2 HB2 I2
    go_wp2_with (((with_reducible refine gate_dst (N := 8) rfl ?_); refine box_event ?hg (N := 8) ?hd (cs := #[.int .u32 0, .int .u32 0, .int .u32 0, .slice none 0 0]) (t := 46) ?hr ?_; (case hd => rfl); (case hg => rfl); (case hr => (go_simp; done)); intro g8 hg w4 hbox hb; have BK8 := Aside0.mk hbox; have GE8 : Aside0 (w.heap.size ≤ g8) := ⟨by rw [hg]; exact below_size HB3.out⟩; have NB48 : Aside0 (g4 ≠ g8) := ⟨by rw [hg]; exact Nat.ne_of_lt (blk_lt BK4_3.out)⟩; have BK4_4 := Aside0.mk (blk_below BK4_3.out hb); have I4 := Aside0.mk (I3.out.below hb); have HB4 := Aside0.mk (below_step HB3.out hb); have N8b : Aside0 (gb ≠ g8) := ⟨blk_ne I4.out.hb BK8.out (by decide)⟩; have N8a : Aside0 (ga ≠ g8) := ⟨blk_ne I4.out.ha BK8.out (by decide)⟩; have N8g : Aside0 (gg ≠ g8) := ⟨blk_ne I4.out.hg BK8.out (by decide)⟩; clear hg hbox hb BK4_3 HB3 I3; have hc8_0 : w4.cell? ⟨g8, 0, none⟩ = some (.int .u32 0) := (blk_cell BK8.out 0).trans rfl; have hc8_1 : w4.cell? ⟨g8, 1, none⟩ = some (.int .u32 0) := (blk_cell BK8.out 1).trans rfl; have hc8_2 : w4.cell? ⟨g8, 2, none⟩ = some (.int .u32 0) := (blk_cell BK8.out 2).trans rfl; have hc8_3 : w4.cell? ⟨g8, 3, none⟩ = some (.slice none 0 0) := (blk_cell BK8.out 3).trans rfl; have hf8_0 := blk_frozen BK8.out 0; have hf8_1 := blk_frozen BK8.out 1; have hf8_2 := blk_frozen BK8.out 2; have hf8_3 := blk_frozen BK8.out 3))
    refine (pcap_numbers.next k A0 l0 c0 a1 4 4 t2 w.heap.size gb ga gg _ (by repeat (first | exact I4.out | refine pcap_numbers.Inv.far ?_ N8b.out N8a.out N8g.out _)) (Kd.C_below HR0.out (by repeat (first | exact HB4.out | refine below_set ?_ GE8.out))) HC0.out (by omega) (by omega) (by have := HL.out; omega) H2.out).mono ?_
    rintro e w5 ⟨rfl, hI, hk, hb⟩
    have BK8_5 := Aside0.mk (hk.blk (o := .cells #[.int .u32 t1, .int .u32 0, .int .u32 0, .slice none 0 0] 46 (0, 0)) (g' := g8) (by refine blk_put (cs := #[.int .u32 t1, .int .u32 0, .int .u32 0, .slice none 0 0]) ?_ 3 _ rfl; refine blk_put (cs := #[.int .u32 t1, .int .u32 0, .int .u32 0, .slice none 0 0]) ?_ 2 _ rfl; refine blk_put (cs := #[.int .u32 t1, .int .u32 0, .int .u32 0, .slice none 0 0]) ?_ 1 _ rfl; refine blk_put (cs := #[.int .u32 0, .int .u32 0, .int .u32 0, .slice none 0 0]) ?_ 0 _ rfl; exact BK8.out) N8a.out.symm (by simp))
    have BK4_5 := Aside0.mk (hk.blk (o := .cells #[.int .u32 0, .int .u32 0, .int .u32 0, .slice none 0 0] 46 (0, 0)) (g' := g4) (by repeat (first | exact BK4_4.out | refine blk_far ?_ NB48.out _)) NB4.out (by simp))
    have HB5 := Aside0.mk (hb w (by repeat (first | exact HB4.out | refine below_set ?_ GE8.out)) LA.out)
    have I5 : Aside0 (pcap_numbers.Inv w5 w.heap.size A0 l0.length c0 a1 8 gb ga gg) := ⟨hI⟩
    clear hI hk hb BK8 BK4_4 HB4 I4
    have hc8b_0 : w5.cell? ⟨g8, 0, none⟩ = some (.int .u32 t1) := (blk_cell BK8_5.out 0).trans rfl
    have hf8b_0 := blk_frozen BK8_5.out 0
    have hc8b_1 : w5.cell? ⟨g8, 1, none⟩ = some (.int .u32 0) := (blk_cell BK8_5.out 1).trans rfl
    have hf8b_1 := blk_frozen BK8_5.out 1
    have hc8b_2 : w5.cell? ⟨g8, 2, none⟩ = some (.int .u32 0) := (blk_cell BK8_5.out 2).trans rfl
    have hf8b_2 := blk_frozen BK8_5.out 2
    have hc8b_3 : w5.cell? ⟨g8, 3, none⟩ = some (.slice none 0 0) := (blk_cell BK8_5.out 3).trans rfl
    have hf8b_3 := blk_frozen BK8_5.out 3
    go_wp2_with (fail)
    refine (pcap_numbers.next k A0 l0 c0 a1 8 4 t3 w.heap.size gb ga gg _ (by repeat (first | exact I5.out | refine pcap_numbers.Inv.far ?_ N8b.out N8a.out N8g.out _)) (Kd.C_below HR0.out (by repeat (first | exact HB5.out | refine below_set ?_ GE8.out))) HC0.out (by omega) (by omega) (by have := HL.out; omega) H3.out).mono ?_
    rintro e w6 ⟨rfl, hI, hk, hb⟩
    have BK8_6 := Aside0.mk (hk.blk (o := .cells #[.int .u32 t1, .int .u32 t2, .int .u32 0, .slice none 0 0] 46 (0, 0)) (g' := g8) (by refine blk_put (cs := #[.int .u32 t1, .int .u32 0, .int .u32 0, .slice none 0 0]) ?_ 1 _ rfl; exact BK8_5.out) N8a.out.symm (by simp))
    have BK4_6 := Aside0.mk (hk.blk (o := .cells #[.int .u32 0, .int .u32 0, .int .u32 0, .slice none 0 0] 46 (0, 0)) (g' := g4) (by repeat (first | exact BK4_5.out | refine blk_far ?_ NB48.out _)) NB4.out (by simp))
    have HB6 := Aside0.mk (hb w (by repeat (first | exact HB5.out | refine below_set ?_ GE8.out)) LA.out)
    have I6 : Aside0 (pcap_numbers.Inv w6 w.heap.size A0 l0.length c0 a1 12 gb ga gg) := ⟨hI⟩
    clear hI hk hb BK8_5 BK4_5 HB5 I5
    have hc8c_0 : w6.cell? ⟨g8, 0, none⟩ = some (.int .u32 t1) := (blk_cell BK8_6.out 0).trans rfl
    have hf8c_0 := blk_frozen BK8_6.out 0
    have hc8c_1 : w6.cell? ⟨g8, 1, none⟩ = some (.int .u32 t2) := (blk_cell BK8_6.out 1).trans rfl
    have hf8c_1 := blk_frozen BK8_6.out 1
    have hc8c_2 : w6.cell? ⟨g8, 2, none⟩ = some (.int .u32 0) := (blk_cell BK8_6.out 2).trans rfl
    have hf8c_2 := blk_frozen BK8_6.out 2
    have hc8c_3 : w6.cell? ⟨g8, 3, none⟩ = some (.slice none 0 0) := (blk_cell BK8_6.out 3).trans rfl
    have hf8c_3 := blk_frozen BK8_6.out 3
    go_wp2_with (fail)
    refine (pcap_numbers.next k A0 l0 c0 a1 12 4 t4 w.heap.size gb ga gg _ I6.out (Kd.C_below HR0.out HB6.out) HC0.out (by omega) (by omega) (by have := HL.out; omega) H4.out).mono ?_
    rintro e w7 ⟨rfl, hI, hk, hb⟩
    have BK8_7 := Aside0.mk (hk.blk BK8_6.out N8a.out.symm (by simp))
    have BK4_7 := Aside0.mk (hk.blk BK4_6.out NB4.out (by simp))
    have HB7 := Aside0.mk (hb w HB6.out LA.out)
    clear hI hk hb BK8_6 BK4_6 HB6 I6
    have hc8d_0 : w7.cell? ⟨g8, 0, none⟩ = some (.int .u32 t1) := (blk_cell BK8_7.out 0).trans rfl
    have hf8d_0 := blk_frozen BK8_7.out 0
    have hc8d_1 : w7.cell? ⟨g8, 1, none⟩ = some (.int .u32 t2) := (blk_cell BK8_7.out 1).trans rfl
    have hf8d_1 := blk_frozen BK8_7.out 1
    have hc8d_2 : w7.cell? ⟨g8, 2, none⟩ = some (.int .u32 0) := (blk_cell BK8_7.out 2).trans rfl
    have hf8d_2 := blk_frozen BK8_7.out 2
    have hc8d_3 : w7.cell? ⟨g8, 3, none⟩ = some (.slice none 0 0) := (blk_cell BK8_7.out 3).trans rfl
    have hf8d_3 := blk_frozen BK8_7.out 3
    have hc4d_0 : w7.cell? ⟨g4, 0, none⟩ = some (.int .u32 0) := (blk_cell BK4_7.out 0).trans rfl
    have hf4d_0 := blk_frozen BK4_7.out 0
    have hc4d_1 : w7.cell? ⟨g4, 1, none⟩ = some (.int .u32 0) := (blk_cell BK4_7.out 1).trans rfl
    have hf4d_1 := blk_frozen BK4_7.out 1
    have hc4d_2 : w7.cell? ⟨g4, 2, none⟩ = some (.int .u32 0) := (blk_cell BK4_7.out 2).trans rfl
    have hf4d_2 := blk_frozen BK4_7.out 2
    have hc4d_3 : w7.cell? ⟨g4, 3, none⟩ = some (.slice none 0 0) := (blk_cell BK4_7.out 3).trans rfl
    have hf4d_3 := blk_frozen BK4_7.out 3
    have n48 : g4 ≠ g8 := NB48.out
    have n84 : g8 ≠ g4 := NB48.out.symm
    by_cases c2 : t3 > 131072
    · have h := H.out
      rw [if_pos c2] at h
      simp only [Option.some.injEq, Prod.mk.injEq] at h
      obtain ⟨rfl, rfl, rfl, rfl, rfl, rfl⟩ := h
      have c2b : decide (131072 < t3) = true := decide_eq_true c2
      go_wp2_with (fail)
      refine bodyPost_ret (results_ctt rfl _ _ g4 46 #[.int .u32 0, .int .u32 0, .int .u32 0, .slice none 0 0] (0, 0) _ rfl (by refine blk_put (cs := #[.int .u32 0, .int .u32 0, .int .u32 0, .slice none 0 0]) ?_ 3 _ rfl; refine blk_put (cs := #[.int .u32 0, .int .u32 0, .int .u32 0, .slice none 0 0]) ?_ 2 _ rfl; refine blk_put (cs := #[.int .u32 0, .int .u32 0, .int .u32 0, .slice none 0 0]) ?_ 1 _ rfl; refine blk_put (cs := #[.int .u32 0, .int .u32 0, .int .u32 0, .slice none 0 0]) ?_ 0 _ rfl; refine blk_far ?_ NB48.out _; exact BK4_7.out) Try.underlying46 rfl (by kernel_rfl)) rfl ?_
      exact ⟨_, rfl, Kd.R_nil _ _ _ _ _, by repeat (first | exact HB7.out | refine below_set ?_ GE4.out | refine below_set ?_ GE8.out)⟩
    · have h := H.out
      rw [if_neg c2] at h
      obtain ⟨⟨d1, d2⟩, h5, h6⟩ := Option.bind_eq_some_iff.1 h
      have H5 := Aside0.mk h5
      have c2b : decide (131072 < t3) = false := decide_eq_false c2
      have r32 : t3 ≤ 131072 := by omega
      cases d2 with
      | false =>
        simp only [Bool.false_eq_true, if_false, Option.some.injEq, Prod.mk.injEq] at h6
        obtain ⟨rfl, rfl, rfl, rfl, rfl, rfl⟩ := h6
        clear h h5 c2
        go_wp2_with (fail)
        refine (octet_Cut.calls A0 c0 l0 16 t3 d1 false _ (Kd.C_below HR0.out (by repeat (first | exact HB7.out | refine below_set ?_ GE8.out))) HC0.out H5.out).mono ?_
        rintro e w8 ⟨v, rfl, hv, hb⟩
        have BK4_8 := Aside0.mk (blk_below (g := g4) (o := .cells #[.int .u32 0, .int .u32 0, .int .u32 0, .slice none 0 0] 46 (0, 0)) (by repeat (first | exact BK4_7.out | refine blk_far ?_ NB48.out _)) hb)
        have HB8 := Aside0.mk (below_step (by repeat (first | exact HB7.out | refine below_set ?_ GE8.out)) hb)
        clear hv hb
        have hc4e_0 : w8.cell? ⟨g4, 0, none⟩ = some (.int .u32 0) := (blk_cell BK4_8.out 0).trans rfl
        have hf4e_0 := blk_frozen BK4_8.out 0
        have hc4e_1 : w8.cell? ⟨g4, 1, none⟩ = some (.int .u32 0) := (blk_cell BK4_8.out 1).trans rfl
        have hf4e_1 := blk_frozen BK4_8.out 1
        have hc4e_2 : w8.cell? ⟨g4, 2, none⟩ = some (.int .u32 0) := (blk_cell BK4_8.out 2).trans rfl
        have hf4e_2 := blk_frozen BK4_8.out 2
        have hc4e_3 : w8.cell? ⟨g4, 3, none⟩ = some (.slice none 0 0) := (blk_cell BK4_8.out 3).trans rfl
        have hf4e_3 := blk_frozen BK4_8.out 3
        go_wp2_with (fail)
        refine bodyPost_ret (results_ctt rfl _ _ g4 46 #[.int .u32 0, .int .u32 0, .int .u32 0, .slice none 0 0] (0, 0) _ rfl (by refine blk_put (cs := #[.int .u32 0, .int .u32 0, .int .u32 0, .slice none 0 0]) ?_ 3 _ rfl; refine blk_put (cs := #[.int .u32 0, .int .u32 0, .int .u32 0, .slice none 0 0]) ?_ 2 _ rfl; refine blk_put (cs := #[.int .u32 0, .int .u32 0, .int .u32 0, .slice none 0 0]) ?_ 1 _ rfl; refine blk_put (cs := #[.int .u32 0, .int .u32 0, .int .u32 0, .slice none 0 0]) ?_ 0 _ rfl; exact BK4_8.out) Try.underlying46 rfl (by kernel_rfl)) rfl ?_
        exact ⟨_, rfl, Kd.R_nil _ _ _ _ _, by repeat (first | exact HB8.out | refine below_set ?_ GE4.out)⟩
      | true =>
        simp only [if_true, Option.some.injEq, Prod.mk.injEq] at h6
        obtain ⟨rfl, rfl, rfl, rfl, rfl, rfl⟩ := h6
        clear h h5 c2
        go_wp2_with (fail)
        refine (octet_Cut.calls A0 c0 l0 16 t3 d1 true _ (Kd.C_below HR0.out (by repeat (first | exact HB7.out | refine below_set ?_ GE8.out))) HC0.out H5.out).mono ?_
        rintro e w8 ⟨v, rfl, hv, hb⟩
        obtain ⟨Av, cv, rfl⟩ := Kd.R_slice hv
        have BK4_8 := Aside0.mk (blk_below (g := g4) (o := .cells #[.int .u32 0, .int .u32 0, .int .u32 0, .slice none 0 0] 46 (0, 0)) (by repeat (first | exact BK4_7.out | refine blk_far ?_ NB48.out _)) hb)
        have BK8_8 := Aside0.mk (blk_below (g := g8) (o := .cells #[.int .u32 t1, .int .u32 t2, .int .u32 t4, .slice none 0 0] 46 (0, 0)) (by refine blk_put (cs := #[.int .u32 t1, .int .u32 t2, .int .u32 0, .slice none 0 0]) ?_ 2 _ rfl; exact BK8_7.out) hb)
        have HB8 := Aside0.mk (below_step (by repeat (first | exact HB7.out | refine below_set ?_ GE8.out)) hb)
        have HO := Aside0.mk (Kd.R_lower hv (below_size (by repeat (first | exact HB7.out | refine below_set ?_ GE8.out))))
        clear hv hb
        have hc4e_0 : w8.cell? ⟨g4, 0, none⟩ = some (.int .u32 0) := (blk_cell BK4_8.out 0).trans rfl
        have hf4e_0 := blk_frozen BK4_8.out 0
        have hc4e_1 : w8.cell? ⟨g4, 1, none⟩ = some (.int .u32 0) := (blk_cell BK4_8.out 1).trans rfl
        have hf4e_1 := blk_frozen BK4_8.out 1
        have hc4e_2 : w8.cell? ⟨g4, 2, none⟩ = some (.int .u32 0) := (blk_cell BK4_8.out 2).trans rfl
        have hf4e_2 := blk_frozen BK4_8.out 2
        have hc4e_3 : w8.cell? ⟨g4, 3, none⟩ = some (.slice none 0 0) := (blk_cell BK4_8.out 3).trans rfl
        have hf4e_3 := blk_frozen BK4_8.out 3
        have hc8e_0 : w8.cell? ⟨g8, 0, none⟩ = some (.int .u32 t1) := (blk_cell BK8_8.out 0).trans rfl
        have hf8e_0 := blk_frozen BK8_8.out 0
        have hc8e_1 : w8.cell? ⟨g8, 1, none⟩ = some (.int .u32 t2) := (blk_cell BK8_8.out 1).trans rfl
        have hf8e_1 := blk_frozen BK8_8.out 1
        have hc8e_2 : w8.cell? ⟨g8, 2, none⟩ = some (.int .u32 t4) := (blk_cell BK8_8.out 2).trans rfl
        have hf8e_2 := blk_frozen BK8_8.out 2
        have hc8e_3 : w8.cell? ⟨g8, 3, none⟩ = some (.slice none 0 0) := (blk_cell BK8_8.out 3).trans rfl
        have hf8e_3 := blk_frozen BK8_8.out 3
        go_wp2_with (fail)
        have B0 := Aside0.mk (blk_far (p := ⟨g8, 3, none⟩) BK4_8.out NB48.out (.slice Av d1.length cv))
        have B1 := Aside0.mk (blk_put B0.out 0 (.int .u32 t1) (cs' := #[.int .u32 t1, .int .u32 0, .int .u32 0, .slice none 0 0]) rfl)
        have B2 := Aside0.mk (blk_put B1.out 1 (.int .u32 t2) (cs' := #[.int .u32 t1, .int .u32 t2, .int .u32 0, .slice none 0 0]) rfl)
        have B3 := Aside0.mk (blk_put B2.out 2 (.int .u32 t4) (cs' := #[.int .u32 t1, .int .u32 t2, .int .u32 t4, .slice none 0 0]) rfl)
        have B4 := Aside0.mk (blk_put B3.out 3 (.slice Av d1.length cv) (cs' := #[.int .u32 t1, .int .u32 t2, .int .u32 t4, .slice Av d1.length cv]) rfl)
        have O0 := Aside0.mk (Kd.R_set HO.out BK8_8.out (by decide) 3 (.slice Av d1.length cv))
        have O1 := Aside0.mk (Kd.R_set O0.out B0.out (by decide) 0 (.int .u32 t1))
        have O2 := Aside0.mk (Kd.R_set O1.out B1.out (by decide) 1 (.int .u32 t2))
        have O3 := Aside0.mk (Kd.R_set O2.out B2.out (by decide) 2 (.int .u32 t4))
        have O4 := Aside0.mk (Kd.R_set O3.out B3.out (by decide) 3 (.slice Av d1.length cv))
        refine bodyPost_ret (results_ctt rfl _ _ g4 46 #[.int .u32 t1, .int .u32 t2, .int .u32 t4, .slice Av d1.length cv] (0, 0) _ rfl B4.out Try.underlying46 rfl (by kernel_rfl)) rfl ?_
        exact ⟨_, rfl, O4.out, by repeat (first | exact HB8.out | refine below_set ?_ GE4.out | refine below_set ?_ GE8.out)⟩


end Go.Proofs.Ytnjimecjpnjojaa.Print
