import Derived.Test.YtgnonglkibhnhaaDoorZ
import Derived.Test.YtgnonglkibhnhaaDoorM1
namespace Go.Proofs.YtgnonglkibhnhaaDoor.Print
open Go.RowKit Go.Proofs.YtgnonglkibhnhaaDoorW.PrintWords Go.Proofs.YtgnonglkibhnhaaDoorW.PrintLast Go.Proofs.YtgnonglkibhnhaaDoorW.PrintMore
attribute [local go_sem] a0u a0v a1m a1n Y7 Y8 a0w a0x
set_option linter.unusedVariables false
set_option linter.unusedSimpArgs false

/-! ### pcap_Head: function 61 -/
def pcap_Head.f (k : Nat) (l0 : List Int) : Option (Bool × Bool × Int × Int × Int) :=
 if (l0.length : Int) < 4 then some (false, false, 0, 0, 2) else
 (a0q.f k l0).bind fun o => if o.2.2.2.2 = false then some (false, false, 0, 0, 3) else if (l0.length : Int) < 24 then some (false, false, 0, 0, 2) else
  (y7.num k (l0.drop 4) o.1 0 2).bind fun t1 => if t1 ≠ 2 then some (false, false, 0, 0, 3) else
   (y7.num k (l0.drop 4) o.1 2 2).bind fun _ => (y7.num k (l0.drop 4) o.1 4 4).bind fun _ => (y7.num k (l0.drop 4) o.1 8 4).bind fun _ => (y7.num k (l0.drop 4) o.1 12 4).bind fun t5 => (y7.num k (l0.drop 4) o.1 16 4).bind fun t6 => some (o.1, o.2.1, t5, t6, 0)
set_option maxHeartbeats 8000000 in
set_option maxRecDepth 100000 in
theorem pcap_Head.calls (k : Nat) (A0 : Option Addr) (c0 : Nat) (l0 : List Int) (r1 r2 : Bool) (r3 r4 : Int) (r5 : Int) (w : World) (hr0 : Kd.C (Kd.int .u8) w A0 l0.length l0) (hc0 : l0.length ≤ c0) (h : pcap_Head.f k l0 = some (r1, r2, r3, r4, r5)) :
  Calls Tryd.prog 61 #[.slice A0 l0.length c0] w fun e w' => e = .returned (.tuple #[.agg #[.bool r1, .bool r2, .int .u32 r3, .int .u32 r4], .int .i64 r5]) ∧ Below w.heap.size w w' := by
 have huM := Tryd.underlying46
 unfold pcap_Head.f at h
 have HR0 := a_ hr0
 have HC0 := a_ hc0
 have HW := a_ (Below.refl w.heap.size w)
 by_cases c1 : (l0.length : Int) < 4
 ·rw [if_pos c1] at h
  simp only [Option.some.injEq, Prod.mk.injEq] at h
  obtain ⟨rfl, rfl, rfl, rfl, rfl⟩ := h
  have c1b := decide_eq_true c1
  clear c1 hr0 hc0
  go_enter Tryd.func61, Tryd.ntmps61
  go_wp2_with ((refine be_ 2 #[.bool false, .bool false, .int .u32 0, .int .u32 0] 46 ?_; intro g2 hg w1 hbox hb; have BK2 := a_ hbox; have HB1 := W9 HW hb; have GE2 : Aside0 (w.heap.size ≤ g2) := ⟨by rw [hg]; exact Nat.le_refl _⟩; clear hg hbox hb; have b3V := bc0 BK2; have b3W := l7 BK2.out 0; have b3X := bc1 BK2; have b3Y := l7 BK2.out 1; have b3Z := bc2 BK2; have b30 := l7 BK2.out 2; have b31 := bc3 BK2; have b33 := l7 BK2.out 3))
  refine bodyPost_ret (Y5 rfl _ _ g2 46 #[.bool false, .bool false, .int .u32 0, .int .u32 0] (0, 0) _ rfl (by refine l9 (cs := #[.bool false, .bool false, .int .u32 0, .int .u32 0]) ?_ 3 _ rfl; refine l9 (cs := #[.bool false, .bool false, .int .u32 0, .int .u32 0]) ?_ 2 _ rfl; refine l9 (cs := #[.bool false, .bool false, .int .u32 0, .int .u32 0]) ?_ 1 _ rfl; refine l9 (cs := #[.bool false, .bool false, .int .u32 0, .int .u32 0]) ?_ 0 _ rfl; exact BK2.out) Tryd.underlying46 rfl (by kernel_rfl)) rfl ?_
  exact ⟨rfl, by repeat (first | with_reducible exact HB1.out | with_reducible refine o8 ?_ GE2.out)⟩
 ·rw [if_neg c1] at h
  obtain ⟨⟨o1, o2, o3, o4, o5⟩, ho, h⟩ := Option.bind_eq_some_iff.1 h
  dsimp only at h
  have c1b := decide_eq_false c1
  have h4 : 4 ≤ l0.length := by omega
  have H4 := a_ h4
  have HO := a_ ho
  have H := a_ h
  clear c1 hr0 hc0 h4 ho h
  go_enter Tryd.func61, Tryd.ntmps61
  go_wp2_with ((refine be_ 2 #[.bool false, .bool false, .int .u32 0, .int .u32 0] 46 ?_; intro g2 hg w1 hbox hb; have BK2 := a_ hbox; have HB1 := W9 HW hb; have GE2 : Aside0 (w.heap.size ≤ g2) := ⟨by rw [hg]; exact Nat.le_refl _⟩; clear hg hbox hb; have b3V := bc0 BK2; have b3W := l7 BK2.out 0; have b3X := bc1 BK2; have b3Y := l7 BK2.out 1; have b3Z := bc2 BK2; have b30 := l7 BK2.out 2; have b31 := bc3 BK2; have b33 := l7 BK2.out 3))
  refine (a0q.calls k A0 c0 l0 o1 o2 o3 o4 o5 _ (Kd.D6 HR0.out HB1.out) HC0.out H4.out HO.out).mono ?_
  rintro e w2 ⟨rfl, hb2⟩
  have a9l := U5 BK2 hb2
  have HB2 := W9 HB1 hb2
  clear hb2 BK2 HB1
  have h := H.out
  cases o5 with
  | false =>
   rw [if_pos rfl] at h
   simp only [Option.some.injEq, Prod.mk.injEq] at h
   obtain ⟨rfl, rfl, rfl, rfl, rfl⟩ := h
   clear H
   have g5V := a9l
   go_wp2_with ((refine be_ 4 #[.bool false, .bool false, .int .u32 0, .int .u32 0] 46 ?_; intro g4 hg w3 hbox hb; have BK4 := a_ hbox; have GE4 : Aside0 (w.heap.size ≤ g4) := ⟨by rw [hg]; exact y5 HB2.out⟩; have NB : Aside0 (g2 ≠ g4) := ⟨by rw [hg]; exact Nat.ne_of_lt (a0L a9l.out)⟩; have a3a := U5 a9l hb; have HB3 := W9 HB2 hb; clear hg hbox hb a9l HB2; have b8n := bc0 BK4; have b8o := l7 BK4.out 0; have b8p := bc1 BK4; have b8q := l7 BK4.out 1; have b8r := bc2 BK4; have b8s := l7 BK4.out 2; have b8t := bc3 BK4; have b8u := l7 BK4.out 3; have c66 := bc0 a3a; have c67 := l7 a3a.out 0; have c68 := bc1 a3a; have c69 := l7 a3a.out 1; have c7a := bc2 a3a; have c7b := l7 a3a.out 2; have c7c := bc3 a3a; have c7d := l7 a3a.out 3; have n24 : g2 ≠ g4 := NB.out; have n42 : g4 ≠ g2 := NB.out.symm))
   refine bodyPost_ret (Y5 rfl _ _ g2 46 #[.bool false, .bool false, .int .u32 0, .int .u32 0] (0, 0) _ rfl (by refine l9 (cs := #[.bool false, .bool false, .int .u32 0, .int .u32 0]) ?_ 3 _ rfl; refine l9 (cs := #[.bool false, .bool false, .int .u32 0, .int .u32 0]) ?_ 2 _ rfl; refine l9 (cs := #[.bool false, .bool false, .int .u32 0, .int .u32 0]) ?_ 1 _ rfl; refine l9 (cs := #[.bool false, .bool false, .int .u32 0, .int .u32 0]) ?_ 0 _ rfl; repeat (first | with_reducible exact a3a.out | refine o9 ?_ NB.out _)) Tryd.underlying46 rfl (by kernel_rfl)) rfl ?_
   exact ⟨rfl, by repeat (first | with_reducible exact HB3.out | with_reducible refine o8 ?_ GE2.out | with_reducible refine o8 ?_ GE4.out)⟩
  | true =>
   simp only [Bool.true_eq_false, if_false] at h
   by_cases c2 : (l0.length : Int) < 24
   ·rw [if_pos c2] at h
    simp only [Option.some.injEq, Prod.mk.injEq] at h
    obtain ⟨rfl, rfl, rfl, rfl, rfl⟩ := h
    have c2b := decide_eq_true c2
    clear H c2
    go_wp2_with ((refine be_ 4 #[.bool false, .bool false, .int .u32 0, .int .u32 0] 46 ?_; intro g4 hg w3 hbox hb; have BK4 := a_ hbox; have GE4 : Aside0 (w.heap.size ≤ g4) := ⟨by rw [hg]; exact y5 HB2.out⟩; have NB : Aside0 (g2 ≠ g4) := ⟨by rw [hg]; exact Nat.ne_of_lt (a0L a9l.out)⟩; have a3a := U5 a9l hb; have HB3 := W9 HB2 hb; clear hg hbox hb a9l HB2; have b8n := bc0 BK4; have b8o := l7 BK4.out 0; have b8p := bc1 BK4; have b8q := l7 BK4.out 1; have b8r := bc2 BK4; have b8s := l7 BK4.out 2; have b8t := bc3 BK4; have b8u := l7 BK4.out 3; have c66 := bc0 a3a; have c67 := l7 a3a.out 0; have c68 := bc1 a3a; have c69 := l7 a3a.out 1; have c7a := bc2 a3a; have c7b := l7 a3a.out 2; have c7c := bc3 a3a; have c7d := l7 a3a.out 3; have n24 : g2 ≠ g4 := NB.out; have n42 : g4 ≠ g2 := NB.out.symm))
    refine bodyPost_ret (Y5 rfl _ _ g2 46 #[.bool false, .bool false, .int .u32 0, .int .u32 0] (0, 0) _ rfl (by refine l9 (cs := #[.bool false, .bool false, .int .u32 0, .int .u32 0]) ?_ 3 _ rfl; refine l9 (cs := #[.bool false, .bool false, .int .u32 0, .int .u32 0]) ?_ 2 _ rfl; refine l9 (cs := #[.bool false, .bool false, .int .u32 0, .int .u32 0]) ?_ 1 _ rfl; refine l9 (cs := #[.bool false, .bool false, .int .u32 0, .int .u32 0]) ?_ 0 _ rfl; repeat (first | with_reducible exact a3a.out | refine o9 ?_ NB.out _)) Tryd.underlying46 rfl (by kernel_rfl)) rfl ?_
    exact ⟨rfl, by repeat (first | with_reducible exact HB3.out | with_reducible refine o8 ?_ GE2.out | with_reducible refine o8 ?_ GE4.out)⟩
   ·rw [if_neg c2] at h
    have c2b := decide_eq_false c2
    obtain ⟨t1, q1, h⟩ := Option.bind_eq_some_iff.1 h
    obtain ⟨i0, hi0, _, hsz, _⟩ := info_parts info5
    obtain ⟨A8, hcut, hA8, hC8⟩ := a1D (P := Tryd.prog) (Value.int .u8) 0 22 5 .i64 Tryd.underlying22 hi0 hsz A0 c0 l0 4 (by omega) (by omega) HC0.out
    have HR8 := a_ (Kd.a0K (h1 := fun _ => rfl) (hA8 _ (Kd.a0p HR0.out)))
    have hl4 : (l0.drop (4 : Int).toNat).length = l0.length - 4 := List.length_drop ..
    have HL4 : Aside0 (20 ≤ ((l0.drop (4 : Int).toNat).length : Int)) := ⟨by omega⟩
    have HC8 := a_ hC8
    have T1 : Aside0 (y7.num k (l0.drop (4 : Int).toNat) o1 0 2 = some t1) := ⟨q1⟩
    have H : Aside0 ((if t1 ≠ 2 then some (false, false, 0, 0, 3) else
   (y7.num k (l0.drop (4 : Int).toNat) o1 2 2).bind fun _ => (y7.num k (l0.drop (4 : Int).toNat) o1 4 4).bind fun _ => (y7.num k (l0.drop (4 : Int).toNat) o1 8 4).bind fun _ => (y7.num k (l0.drop (4 : Int).toNat) o1 12 4).bind fun t5 => (y7.num k (l0.drop (4 : Int).toNat) o1 16 4).bind fun t6 => some (o1, o2, t5, t6, 0)) = some (r1, r2, r3, r4, r5)) := ⟨h⟩
    clear h q1 hl4 hA8 hC8 hi0 hsz c2
    generalize l0.drop (4 : Int).toNat = l4 at hcut HR8 HL4 HC8 T1 H
    generalize c0 - (4 : Int).toNat = c8 at hcut HC8
    go_wp2_with ((refine be_ 4 #[.bool false, .bool false, .int .u32 0, .int .u32 0] 46 ?_; intro g4 hg w3 hbox hb; have BK4 := a_ hbox; have GE4 : Aside0 (w.heap.size ≤ g4) := ⟨by rw [hg]; exact y5 HB2.out⟩; have NB : Aside0 (g2 ≠ g4) := ⟨by rw [hg]; exact Nat.ne_of_lt (a0L a9l.out)⟩; have a3a := U5 a9l hb; have HB3 := W9 HB2 hb; clear hg hbox hb a9l HB2; have b8n := bc0 BK4; have b8o := l7 BK4.out 0; have b8p := bc1 BK4; have b8q := l7 BK4.out 1; have b8r := bc2 BK4; have b8s := l7 BK4.out 2; have b8t := bc3 BK4; have b8u := l7 BK4.out 3; have c66 := bc0 a3a; have c67 := l7 a3a.out 0; have c68 := bc1 a3a; have c69 := l7 a3a.out 1; have c7a := bc2 a3a; have c7b := l7 a3a.out 2; have c7c := bc3 a3a; have c7d := l7 a3a.out 3; have n24 : g2 ≠ g4 := NB.out; have n42 : g4 ≠ g2 := NB.out.symm))
    generalize hW : World.setCell (World.setCell (World.setCell (World.setCell w3 ⟨g4, 0, none⟩ (.bool o1)) ⟨g4, 1, none⟩ (.bool o2)) ⟨g4, 2, none⟩ (.int .u32 o3)) ⟨g4, 3, none⟩ (.int .u32 o4) = w3b
    have e7J : Aside0 (w3b.heap[g4]? = some (.cells #[.bool o1, .bool o2, .int .u32 o3, .int .u32 o4] 46 (0, 0))) := ⟨by rw [← hW]; exact (by refine l9 (cs := #[.bool o1, .bool o2, .int .u32 o3, .int .u32 0]) ?_ 3 _ rfl; refine l9 (cs := #[.bool o1, .bool o2, .int .u32 0, .int .u32 0]) ?_ 2 _ rfl; refine l9 (cs := #[.bool o1, .bool false, .int .u32 0, .int .u32 0]) ?_ 1 _ rfl; refine l9 (cs := #[.bool false, .bool false, .int .u32 0, .int .u32 0]) ?_ 0 _ rfl; exact BK4.out)⟩
    have d2c : Aside0 (w3b.heap[g2]? = some (.cells #[.bool false, .bool false, .int .u32 0, .int .u32 0] 46 (0, 0))) := ⟨by rw [← hW]; repeat (first | with_reducible exact a3a.out | refine o9 ?_ NB.out _)⟩
    have e0L : Aside0 (Below w.heap.size w w3b) := ⟨by rw [← hW]; repeat (first | with_reducible exact HB3.out | with_reducible refine o8 ?_ GE4.out)⟩
    clear hW BK4 a3a HB3 b8n b8o c66 c67 b8p b8q c68 c69 b8r b8s c7a c7b b8t b8u c7c c7d
    have f4I := bc0 e7J
    go_region_held (fun w' => w'.cell? ⟨g4, 0, none⟩ = some (.bool o1)) (first | exact f4J | exact f4I) (with_reducible refine (y7.calls A8 l4.length c8 o1 _).mono ?_;  rintro e w4 ⟨gb, ga, gg, rfl, hI, hb⟩; have b36 := a_ (J3 (L9 e7J.out) hb); have d40 := a_ (J3 (L9 d2c.out) hb); have HB4 := a_ (G9 (V9 e0L.out) hb); have LA := a_ (Nat.le_trans (y5 (V9 e0L.out)) hI.la); have I4 := a_ (hI.lower (y5 (V9 e0L.out))); have N2 : Aside0 (g2 ≠ ga) := ⟨a6z d40.out hI.ha (by decide)⟩; have N4 : Aside0 (g4 ≠ ga) := ⟨a6z b36.out hI.ha (by decide)⟩; have Nb : Aside0 (gb ≠ g4) := ⟨a6z hI.hb b36.out (by decide)⟩; have Na : Aside0 (ga ≠ g4) := ⟨N4.out.symm⟩; have Ng : Aside0 (gg ≠ g4) := ⟨a6z hI.hg b36.out (by decide)⟩; clear hI hb e7J d2c e0L; have f4J := bc0 b36)
    go_wp2_with (fail)
    refine (y7.next k A8 l4 c8 o1 0 2 t1 w.heap.size gb ga gg _ I4.out (Kd.D6 HR8.out (by repeat (with_reducible exact HB4.out))) HC8.out (by omega) (by omega) (by have := HL4.out; omega) T1.out).mono ?_
    rintro e w5 ⟨rfl, hI, hk, hb⟩
    have a94 := a_ (hk.blk b36.out N4.out (by simp))
    have a9n := a_ (hk.blk d40.out N2.out (by simp))
    have HB5 := a_ (hb w (by repeat (with_reducible exact HB4.out)) LA.out)
    have I5 : Aside0 (y7.Inv w5 w.heap.size A8 l4.length c8 o1 2 gb ga gg) := ⟨hI⟩
    clear hI hk hb b36 d40 HB4 I4
    have g5X := bc0 a94
    have g5Y := l7 a94.out 0
    have g5Z := bc1 a94
    have g50 := l7 a94.out 1
    have g51 := bc2 a94
    have g52 := l7 a94.out 2
    have g53 := bc3 a94
    have g54 := l7 a94.out 3
    have g55 := bc0 a9n
    have g56 := l7 a9n.out 0
    have g57 := bc1 a9n
    have g58 := l7 a9n.out 1
    have g59 := bc2 a9n
    have g6a := l7 a9n.out 2
    have g6b := bc3 a9n
    have g6c := l7 a9n.out 3
    have h := H.out
    by_cases c5 : t1 = 2
    ·rw [if_neg (by simpa using c5)] at h
     obtain ⟨t2, q2, h⟩ := Option.bind_eq_some_iff.1 h
     obtain ⟨t3, q3, h⟩ := Option.bind_eq_some_iff.1 h
     obtain ⟨t4, q4, h⟩ := Option.bind_eq_some_iff.1 h
     obtain ⟨t5, q5, h⟩ := Option.bind_eq_some_iff.1 h
     obtain ⟨t6, q6, h⟩ := Option.bind_eq_some_iff.1 h
     simp only [Option.some.injEq, Prod.mk.injEq] at h
     obtain ⟨rfl, rfl, rfl, rfl, rfl⟩ := h
     have T2 := a_ q2
     have T3 := a_ q3
     have T4 := a_ q4
     have T5 := a_ q5
     have T6 := a_ q6
     have c5b : (t1 == 2) = true := by simpa using c5
     have c5c : (t1 != 2) = false := by simpa using c5
     clear q2 q3 q4 q5 q6 c5
     clear H
     go_wp2_with (fail)
     refine (y7.next k A8 l4 c8 o1 2 2 t2 w.heap.size gb ga gg _ I5.out (Kd.D6 HR8.out (by repeat (with_reducible exact HB5.out))) HC8.out (by omega) (by omega) (by have := HL4.out; omega) T2.out).mono ?_
     rintro e w6 ⟨rfl, hI, hk, hb⟩
     have a95 := a_ (hk.blk a94.out N4.out (by simp))
     have b2R := a_ (hk.blk a9n.out N2.out (by simp))
     have HB6 := a_ (hb w (by repeat (with_reducible exact HB5.out)) LA.out)
     have I6 : Aside0 (y7.Inv w6 w.heap.size A8 l4.length c8 o1 4 gb ga gg) := ⟨hI⟩
     clear hI hk hb a94 a9n HB5 I5
     have g6d := bc0 a95
     have g6e := l7 a95.out 0
     have g6f := bc1 a95
     have g6g := l7 a95.out 1
     have g6h := bc2 a95
     have g6i := l7 a95.out 2
     have g6j := bc3 a95
     have g6k := l7 a95.out 3
     have g6l := bc0 b2R
     have g6m := l7 b2R.out 0
     have g6n := bc1 b2R
     have g6o := l7 b2R.out 1
     have g6p := bc2 b2R
     have g6q := l7 b2R.out 2
     have g6r := bc3 b2R
     have g6s := l7 b2R.out 3
     go_wp2_with (fail)
     refine (y7.next k A8 l4 c8 o1 4 4 t3 w.heap.size gb ga gg _ I6.out (Kd.D6 HR8.out (by repeat (with_reducible exact HB6.out))) HC8.out (by omega) (by omega) (by have := HL4.out; omega) T3.out).mono ?_
     rintro e w7 ⟨rfl, hI, hk, hb⟩
     have a5G := a_ (hk.blk a95.out N4.out (by simp))
     have b06 := a_ (hk.blk b2R.out N2.out (by simp))
     have HB7 := a_ (hb w (by repeat (with_reducible exact HB6.out)) LA.out)
     have I7 : Aside0 (y7.Inv w7 w.heap.size A8 l4.length c8 o1 8 gb ga gg) := ⟨hI⟩
     clear hI hk hb a95 b2R HB6 I6
     have g6t := bc0 a5G
     have g6u := l7 a5G.out 0
     have g6v := bc1 a5G
     have g6w := l7 a5G.out 1
     have g6x := bc2 a5G
     have g6y := l7 a5G.out 2
     have g6z := bc3 a5G
     have g6A := l7 a5G.out 3
     have g6B := bc0 b06
     have g6C := l7 b06.out 0
     have g6D := bc1 b06
     have g6E := l7 b06.out 1
     have g6F := bc2 b06
     have g6G := l7 b06.out 2
     have g6H := bc3 b06
     have g6I := l7 b06.out 3
     go_wp2_with (fail)
     refine (y7.next k A8 l4 c8 o1 8 4 t4 w.heap.size gb ga gg _ I7.out (Kd.D6 HR8.out (by repeat (with_reducible exact HB7.out))) HC8.out (by omega) (by omega) (by have := HL4.out; omega) T4.out).mono ?_
     rintro e w8 ⟨rfl, hI, hk, hb⟩
     have a2Z := a_ (hk.blk a5G.out N4.out (by simp))
     have b2S := a_ (hk.blk b06.out N2.out (by simp))
     have HB8 := a_ (hb w (by repeat (with_reducible exact HB7.out)) LA.out)
     have I8 : Aside0 (y7.Inv w8 w.heap.size A8 l4.length c8 o1 12 gb ga gg) := ⟨hI⟩
     clear hI hk hb a5G b06 HB7 I7
     have e7d := bc0 a2Z
     have e7e := l7 a2Z.out 0
     have e7f := bc1 a2Z
     have e7g := l7 a2Z.out 1
     have e7h := bc2 a2Z
     have e7i := l7 a2Z.out 2
     have e7j := bc3 a2Z
     have e7k := l7 a2Z.out 3
     have e7K := bc0 b2S
     have e7L := l7 b2S.out 0
     have e7M := bc1 b2S
     have e7N := l7 b2S.out 1
     have e7O := bc2 b2S
     have e7P := l7 b2S.out 2
     have e7Q := bc3 b2S
     have e7R := l7 b2S.out 3
     go_wp2_with (fail)
     refine (y7.next k A8 l4 c8 o1 12 4 t5 w.heap.size gb ga gg _ I8.out (Kd.D6 HR8.out (by repeat (with_reducible exact HB8.out))) HC8.out (by omega) (by omega) (by have := HL4.out; omega) T5.out).mono ?_
     rintro e w9 ⟨rfl, hI, hk, hb⟩
     have b2T := a_ (hk.blk a2Z.out N4.out (by simp))
     have a99 := a_ (hk.blk b2S.out N2.out (by simp))
     have HB9 := a_ (hb w (by repeat (with_reducible exact HB8.out)) LA.out)
     have I9 : Aside0 (y7.Inv w9 w.heap.size A8 l4.length c8 o1 16 gb ga gg) := ⟨hI⟩
     clear hI hk hb a2Z b2S HB8 I8
     have d4s := bc0 b2T
     have d4t := l7 b2T.out 0
     have d4u := bc1 b2T
     have d4v := l7 b2T.out 1
     have d4w := bc2 b2T
     have d4x := l7 b2T.out 2
     have d4y := bc3 b2T
     have d4z := l7 b2T.out 3
     have g6J := bc0 a99
     have g6K := l7 a99.out 0
     have g6L := bc1 a99
     have g6M := l7 a99.out 1
     have g6N := bc2 a99
     have g6O := l7 a99.out 2
     have g6P := bc3 a99
     have g6Q := l7 a99.out 3
     go_wp2_with (fail)
     refine (y7.next k A8 l4 c8 o1 16 4 t6 w.heap.size gb ga gg _ (by repeat (first | exact I9.out | refine y7.Inv.far ?_ Nb.out Na.out Ng.out _)) (Kd.D6 HR8.out (by repeat (first | with_reducible exact HB9.out | with_reducible refine o8 ?_ GE4.out))) HC8.out (by omega) (by omega) (by have := HL4.out; omega) T6.out).mono ?_
     rintro e w10 ⟨rfl, hI, hk, hb⟩
     have b1A := a_ (hk.blk (o := .cells #[.bool o1, .bool o2, .int .u32 t5, .int .u32 o4] 46 (0, 0)) (g' := g4) (by refine l9 (cs := #[.bool o1, .bool o2, .int .u32 o3, .int .u32 o4]) ?_ 2 _ rfl; exact b2T.out) N4.out (by simp))
     have a4s := a_ (hk.blk (o := .cells #[.bool false, .bool false, .int .u32 0, .int .u32 0] 46 (0, 0)) (g' := g2) (by exact o9 (p := ⟨g4, 2, none⟩) a99.out NB.out _) N2.out (by simp))
     have a9L := a_ (hb w (by repeat (first | with_reducible exact HB9.out | with_reducible refine o8 ?_ GE4.out)) LA.out)
     have I10 : Aside0 (y7.Inv w10 w.heap.size A8 l4.length c8 o1 20 gb ga gg) := ⟨hI⟩
     clear hI hk hb b2T a99 HB9 I9
     have g6R := bc0 b1A
     have g6S := l7 b1A.out 0
     have g6T := bc1 b1A
     have g6U := l7 b1A.out 1
     have g6V := bc2 b1A
     have g6W := l7 b1A.out 2
     have g6X := bc3 b1A
     have g6Y := l7 b1A.out 3
     have g6Z := bc0 a4s
     have g60 := l7 a4s.out 0
     have g61 := bc1 a4s
     have g62 := l7 a4s.out 1
     have g63 := bc2 a4s
     have g64 := l7 a4s.out 2
     have g65 := bc3 a4s
     have g66 := l7 a4s.out 3
     have n24 : g2 ≠ g4 := NB.out
     have n42 : g4 ≠ g2 := NB.out.symm
     go_wp2_with (fail)
     have E2 := a_ (o9 (p := ⟨g4, 3, none⟩) a4s.out NB.out (.int .u32 t6))
     refine bodyPost_ret (Y5 rfl _ _ g2 46 #[.bool o1, .bool o2, .int .u32 t5, .int .u32 t6] (0, 0) _ rfl (by refine l9 (cs := #[.bool o1, .bool o2, .int .u32 t5, .int .u32 0]) ?_ 3 _ rfl; refine l9 (cs := #[.bool o1, .bool o2, .int .u32 0, .int .u32 0]) ?_ 2 _ rfl; refine l9 (cs := #[.bool o1, .bool false, .int .u32 0, .int .u32 0]) ?_ 1 _ rfl; refine l9 (cs := #[.bool false, .bool false, .int .u32 0, .int .u32 0]) ?_ 0 _ rfl; exact E2.out) Tryd.underlying46 rfl (by kernel_rfl)) rfl ?_
     exact ⟨rfl, by repeat (first | with_reducible exact a9L.out | with_reducible refine o8 ?_ GE2.out | with_reducible refine o8 ?_ GE4.out)⟩
    ·rw [if_pos (by simpa using c5)] at h
     simp only [Option.some.injEq, Prod.mk.injEq] at h
     obtain ⟨rfl, rfl, rfl, rfl, rfl⟩ := h
     have c5b : (t1 == 2) = false := by simpa using c5
     have c5c : (t1 != 2) = true := by simpa using c5
     clear c5
     clear H
     have n24 : g2 ≠ g4 := NB.out
     have n42 : g4 ≠ g2 := NB.out.symm
     go_wp2_with (fail)
     refine bodyPost_ret (Y5 rfl _ _ g2 46 #[.bool false, .bool false, .int .u32 0, .int .u32 0] (0, 0) _ rfl (by refine l9 (cs := #[.bool false, .bool false, .int .u32 0, .int .u32 0]) ?_ 3 _ rfl; refine l9 (cs := #[.bool false, .bool false, .int .u32 0, .int .u32 0]) ?_ 2 _ rfl; refine l9 (cs := #[.bool false, .bool false, .int .u32 0, .int .u32 0]) ?_ 1 _ rfl; refine l9 (cs := #[.bool false, .bool false, .int .u32 0, .int .u32 0]) ?_ 0 _ rfl; exact a9n.out) Tryd.underlying46 rfl (by kernel_rfl)) rfl ?_
     exact ⟨rfl, by repeat (first | with_reducible exact HB5.out | with_reducible refine o8 ?_ GE2.out)⟩

end Go.Proofs.YtgnonglkibhnhaaDoor.Print
