import Derived.Test.YtgnonglkibhnhaaDoorZ
import Derived.Test.YtgnonglkibhnhaaDoorM1
namespace Go.Proofs.YtgnonglkibhnhaaDoor.Print
open Go.RowKit Go.Proofs.YtgnonglkibhnhaaDoorW.PrintWords Go.Proofs.YtgnonglkibhnhaaDoorW.PrintLast Go.Proofs.YtgnonglkibhnhaaDoorW.PrintMore
attribute [local go_sem] a0u a0v a1m a1n Y7 Y8 a0w a0x
set_option linter.unusedVariables false
set_option linter.unusedSimpArgs false

/-! ### dump_Next: function 64 -/
mutual
def dump_Next.j0 : Nat → List Int → Bool → Int → Int → Option (Int × Int × List Int × Int × Int)
 | 0, _, _, _, _ => none
 | k + 1, x0, x29, a5y, b7p => if x29 = true then (some (0, 0, ([] : List Int), 0, 7)) else (if 0 ≤ a5y then (if a5y < 8 then (if (J5 F8 a5y).f0 = true then (dump_Next.j1 k x0 1 2 a5y b7p ((J5 F8 a5y).f0) ((J5 F8 a5y).f1)) else (dump_Next.j1 k x0 1 ((J5 F8 a5y).f1) a5y b7p ((J5 F8 a5y).f0) ((J5 F8 a5y).f1))) else (none)) else (none))
def dump_Next.j1 : Nat → List Int → Int → Int → Int → Int → Bool → Int → Option (Int × Int × List Int × Int × Int)
 | 0, _, _, _, _, _, _, _ => none
 | k + 1, x0, x7, x8, a5y, b7p, e1p, g0u => (a1S.f x0 x7 x8).bind fun e4O => (if e4O.2 = true then ((V3.f k e4O.1 true).bind fun d5w => (if e1p = true then ((a1S.f x0 (wrap64 (x7 + x8)) (wrap64 (d5w.1))).bind fun e4P => (if e4P.2 = true then (some (a5y, b7p, e4P.1, wrap64 ((wrap64 (x7 + x8)) + (wrap64 (d5w.1))), 0)) else (some (0, 0, ([] : List Int), 0, 2)))) else (some (a5y, (d5w.1) % 4294967296, ([] : List Int), wrap64 (x7 + x8), 0)))) else (some (0, 0, ([] : List Int), 0, 2)))
end
def dump_Next.f (k : Nat) (l0 : List Int) : Option (Int × Int × List Int × Int × Int) := if (l0.length : Int) = 0 then (some (0, 0, ([] : List Int), 0, 2)) else (if 0 < (l0.length : Int) then (if (wrap64 (rd l0 0)) < 1 then (dump_Next.j0 k l0 true (wrap64 (rd l0 0)) 0) else (dump_Next.j0 k l0 (decide ((wrap64 (rd l0 0)) > 7)) (wrap64 (rd l0 0)) 0)) else (none))
set_option maxHeartbeats 8000000 in
set_option maxRecDepth 100000 in
theorem dump_Next.calls (k : Nat) (A0 : Option Addr) (c0 : Nat) (l0 : List Int) (r1 : Int) (r2 : Int) (r3 : List Int) (r4 : Int) (r5 : Int) (w : World) (hG0 : Kd.C b0s w (some ⟨0, 0, none⟩) 8 F8) (hr0 : Kd.C (Kd.int .u8) w A0 l0.length l0) (hc0 : l0.length ≤ c0) (h : dump_Next.f k l0 = some (r1, r2, r3, r4, r5)) :
  Calls Tryd.prog 64 #[.slice A0 l0.length c0] w fun e w' => ∃ v2_ : Value, e = .returned (.tuple #[.agg #[.int .i64 r1, .int .u32 r2, v2_], .int .i64 r4, .int .i64 r5]) ∧ Kd.R (Kd.int .u8) 5 w' w.heap.size (fun _ => True) v2_ r3 ∧ Below w.heap.size w w' := by
 have e0M := Tryd.underlying58
 have e4Q := Tryd.underlying131
 have HR0 := a_ hr0
 have HC0 := a_ hc0
 clear hr0 hc0
 have a4Z := a_ hG0
 clear hG0
 have HB := a_ (Below.refl w.heap.size w)
 have H := h
 clear h
 unfold dump_Next.f at H
 by_cases c2 : (l0.length : Int) = 0
 ·rw [if_pos c2] at H
  obtain ⟨b6B, d18⟩ := bt_ c2
  obtain ⟨rfl, rfl, rfl, rfl, rfl⟩ := s5_ H
  go_enter Tryd.func64, Tryd.ntmps64
  go_wp2_with (first | (refine be_ 2 #[.int .i64 0, .int .u32 0, .slice none 0 0] 58 ?_; intro a8O hg w3 hbox hb; have a0T := a_ hbox; have b81 := lb_ HB hg; replace HB := W9 HB hb; clear hb hbox hg; obtain ⟨d5x, d5y, d5z, d5A, d5B, d5C⟩ := a2G a0T.out))
  refine bodyPost_ret (a1e rfl _ _ a8O 58 #[.int .i64 0, .int .u32 0, .slice none 0 0] (0, 0) _ rfl (by refine l9 (cs := #[.int .i64 0, .int .u32 0, .slice none 0 0]) ?_ 2 _ rfl; refine l9 (cs := #[.int .i64 0, .int .u32 0, .slice none 0 0]) ?_ 1 _ rfl; refine l9 (cs := #[.int .i64 0, .int .u32 0, .slice none 0 0]) ?_ 0 _ rfl; exact a0T.out) Tryd.underlying58 rfl (by kernel_rfl)) rfl ?_
  exact ⟨_, by (rfl), by (exact Kd.a0I _ _ _ _ _), by repeat (with_reducible first | exact HB.out | refine o8 ?_ b81.out)⟩
 ·rw [if_neg c2] at H
  have b6B := beq_eq_false_iff_ne.mpr c2
  have d18 := bne_iff_ne.mpr c2
  have f3T : ¬ (l0 = []) := fun h_ => c2 (by rw [h_]; rfl)
  have c5 := a0o H
  replace H := U9 H
  have a9g := decide_eq_true c5
  have b6C : decide (0 < l0.length) = true := decide_eq_true (by omega)
  clear c5
  have HC6 := a_ H
  clear H
  go_enter Tryd.func64, Tryd.ntmps64
  go_upto_region 4 with (first | (refine be_ 2 #[.int .i64 0, .int .u32 0, .slice none 0 0] 58 ?_; intro a8O hg w7 hbox hb; have a0T := a_ hbox; have b81 := lb_ HB hg; replace HB := W9 HB hb; clear hb hbox hg; have e1q : 0 ≤ (0 : Int) := (by omega); have e1r : 0 < (l0.length : Int) := Y9; obtain ⟨c0w, e154, b4r⟩ := Kd.a0W HR0.out 0 e1q e1r; cases e154; have h2R : (0 < l0.length) = True := eq_true (by omega); (try rw [show (0 : Int).toNat = 0 from rfl] at b4r); (try rw [Addr.add_zero'] at b4r); replace b4r := cb_ HB b4r; replace e1q := eq_true e1q; replace e1r := eq_true e1r) | (refine be_ 5 #[.int .i64 0, .int .u32 0, .slice none 0 0] 58 ?_; intro b2W hg w8 hbox hb; have Z5 := a_ hbox; have c5o := lb_ HB hg; obtain ⟨a1i, a5z⟩ := nn_ a0T hg; replace a0T := U5 a0T hb; replace HB := W9 HB hb; clear hb hbox hg; have f4i := a5z.out; have f4j := a1i.out; obtain ⟨b4c, b4d, b4e, b4f, b4g, b4h⟩ := a2G Z5.out))
  go_cut [29] (fun v29 wc => ∃ (kq : Nat) (d0i : Bool), v29 = .bool d0i ∧ Aside0 (dump_Next.j0 kq l0 d0i (wrap64 (rd l0 0)) 0 = some (r1, r2, r3, r4, r5)) ∧ Aside0 (kq ≤ k) ∧ Aside0 (wc.heap[a8O]? = some (.cells #[.int .i64 0, .int .u32 0, (.slice none 0 0)] 58 (0, 0))) ∧ Aside0 (wc.heap[b2W]? = some (.cells #[.int .i64 (wrap64 (rd l0 0)), .int .u32 0, (.slice none 0 0)] 58 (0, 0))) ∧ Aside0 (Below w.heap.size w wc))
  case first =>
   have H := HC6.out
   clear HC6
   by_cases c11 : (wrap64 (rd l0 0)) < 1
   ·rw [if_pos c11] at H
    have c0o := decide_eq_true c11
    clear c11
    have H' := a_ H
    clear H
    have f4Q := a5z.out
    have f4R := a1i.out
    obtain ⟨b7f, b7g, c2h, b7h, b7i, c2i⟩ := a2G Z5.out
    go_wp2
    go_meet
    case rel => exact ⟨_, (true), (by rfl), H', ⟨by (omega)⟩, ⟨by refine o9 ?_ a1i.out _; refine o9 ?_ a1i.out _; refine o9 ?_ a1i.out _; exact a0T.out⟩, ⟨by refine l9 (cs := #[.int .i64 (wrap64 (rd l0 0)), .int .u32 0, .slice none 0 0]) ?_ 2 _ rfl; refine l9 (cs := #[.int .i64 (wrap64 (rd l0 0)), .int .u32 0, .slice none 0 0]) ?_ 1 _ rfl; refine l9 (cs := #[.int .i64 0, .int .u32 0, .slice none 0 0]) ?_ 0 _ rfl; exact Z5.out⟩, ⟨by repeat (with_reducible first | exact HB.out | refine o8 ?_ c5o.out)⟩⟩
   ·rw [if_neg c11] at H
    have c0o := decide_eq_false c11
    clear c11
    have H' := a_ H
    clear H
    have h2S := a5z.out
    have h2T := a1i.out
    obtain ⟨e0T, e0U, e0V, e0W, e0X, e0Y⟩ := a2G Z5.out
    go_wp2
    go_meet
    case rel => exact ⟨_, (decide ((wrap64 (rd l0 0)) > 7)), (by rfl), H', ⟨by (omega)⟩, ⟨by refine o9 ?_ a1i.out _; refine o9 ?_ a1i.out _; refine o9 ?_ a1i.out _; exact a0T.out⟩, ⟨by refine l9 (cs := #[.int .i64 (wrap64 (rd l0 0)), .int .u32 0, .slice none 0 0]) ?_ 2 _ rfl; refine l9 (cs := #[.int .i64 (wrap64 (rd l0 0)), .int .u32 0, .slice none 0 0]) ?_ 1 _ rfl; refine l9 (cs := #[.int .i64 0, .int .u32 0, .slice none 0 0]) ?_ 0 _ rfl; exact Z5.out⟩, ⟨by repeat (with_reducible first | exact HB.out | refine o8 ?_ c5o.out)⟩⟩
  case rest =>
   clear HC6
   try clear c2
   try clear b6B
   try clear d18
   try clear f3T
   try clear a9g
   try clear b6C
   try clear b4c
   try clear b4d
   try clear b4e
   try clear b4f
   try clear b4g
   try clear b4h
   try clear b4r
   try clear e1q
   try clear e1r
   obtain ⟨kq, d0i, rfl, HA, HJ5, a0T, Z5, HB⟩ := hcut
   cases kq with
   | zero => exact absurd HA.out (by simp [dump_Next.j0])
   | succ kj5 =>
    have H := HA.out
    clear HA
    simp only [dump_Next.j0] at H
    by_cases c16 : d0i = true
    ·subst c16
     rw [if_pos rfl] at H
     obtain ⟨rfl, rfl, rfl, rfl, rfl⟩ := s5_ H
     have h2V := a1i.out
     have h2W := a5z.out
     obtain ⟨e1d, e1e, g0v, e1f, e1g, g0w⟩ := a2G a0T.out
     go_wp2
     refine bodyPost_ret (a1e rfl _ _ a8O 58 #[.int .i64 0, .int .u32 0, .slice none 0 0] (0, 0) _ rfl (by refine l9 (cs := #[.int .i64 0, .int .u32 0, .slice none 0 0]) ?_ 2 _ rfl; refine l9 (cs := #[.int .i64 0, .int .u32 0, .slice none 0 0]) ?_ 1 _ rfl; refine l9 (cs := #[.int .i64 0, .int .u32 0, .slice none 0 0]) ?_ 0 _ rfl; exact a0T.out) Tryd.underlying58 rfl (by kernel_rfl)) rfl ?_
     exact ⟨_, by (rfl), by (exact Kd.a0I _ _ _ _ _), by repeat (with_reducible first | exact HB.out | refine o8 ?_ b81.out)⟩
    ·cases nt_ c16
     rw [if_neg a5a] at H
     obtain ⟨a3F, d5D⟩ := si_ ((wrap64 (rd l0 0)))
     rw [d5D] at H
     (try simp only [d5D] at Z5)
     have g7q : (IntKind.i64.wrap (rd l0 0)) = a3F := (a6w _).trans d5D
     have d0h := a4w H
     replace H := U9 H
     have f5w := a4w H
     replace H := U9 H
     have e8o := a_ H
     clear H
     have h2X := a5z.out
     have h2Y := a1i.out
     have b7j : wc.cell? ⟨b2W, 0, none⟩ = some (.int .i64 (a3F)) := (E5 Z5.out 0).trans (by rfl)
     have b7k := bc1 Z5
     have c2u := bc2 Z5
     have b7l := l7 Z5.out 0
     have b7m := l7 Z5.out 1
     have c2w := l7 Z5.out 2
     have e1s : 0 ≤ ((a3F) : Int) := Y9
     have d5E : (a3F) < (F8.length : Int) := of_decide_eq_true (by (assumption))
     obtain ⟨f5x, g7r, b7q, b7r⟩ := a7B a4Z.out (a3F) e1s d5E
     obtain rfl : (⟨0, 0, none⟩ : Addr) = f5x := (by injection g7r)
     (simp only [add_plain] at b7q)
     (simp only [add_plain] at b7r)
     replace b7q := cb_ HB b7q
     replace b7r := cb_ HB b7r
     replace e1s := eq_true e1s
     replace d5E := eq_true d5E
     have h2Z : ((a3F) < 8) = True := d5E
     go_upto_if 38 with (first | (refine be_ 6 #[.bool false, .int .i64 0] 131 ?_; intro b2X hg w25 hbox hb; have a1Z := a_ hbox; have e4R := lb_ HB hg; obtain ⟨a5A, b0f⟩ := nn_ a0T hg; obtain ⟨a6o, b2o⟩ := nn_ Z5 hg; replace a0T := U5 a0T hb; replace Z5 := U5 Z5 hb; replace HB := W9 HB hb; clear hb hbox hg; have f5y := b0f.out; have f5z := a5A.out; have f5A := b2o.out; have f5B := a6o.out; obtain ⟨b2k, b2l, b2m, b2n⟩ := a3n a1Z.out))
     go_cut [8] (fun v8 wc => ∃ (kq : Nat) (a8P : Int), v8 = .int .i64 a8P ∧ Aside0 (dump_Next.j1 kq l0 1 a8P (a3F) 0 ((J5 F8 (a3F)).f0) ((J5 F8 (a3F)).f1) = some (r1, r2, r3, r4, r5)) ∧ Aside0 (kq ≤ kj5) ∧ Aside0 (wc.heap[a8O]? = some (.cells #[.int .i64 0, .int .u32 0, (.slice none 0 0)] 58 (0, 0))) ∧ Aside0 (wc.heap[b2W]? = some (.cells #[.int .i64 (a3F), .int .u32 0, (.slice none 0 0)] 58 (0, 0))) ∧ Aside0 (wc.heap[b2X]? = some (.cells #[.bool ((J5 F8 (a3F)).f0), .int .i64 ((J5 F8 (a3F)).f1)] 131 (0, 0))) ∧ Aside0 (Below w.heap.size w wc))
     case first =>
      have H := e8o.out
      clear e8o
      obtain ⟨g7s, d5F⟩ : ∃ b_ : Bool, b_ = ((J5 F8 (a3F)).f0) := ⟨_, rfl⟩
      rw [← d5F] at H
      have d5G := a_ d5F
      clear d5F
      (try rw [← d5G.out])
      by_cases c30 : g7s = true
      ·subst c30
       rw [if_pos rfl] at H
       have H' := a_ H
       clear H
       go_wp2
       go_meet
       case rel => (try simp only [← d5G.out]); exact ⟨_, (2), (by rfl), H', ⟨by have := HJ5.out; (omega)⟩, ⟨by refine o9 ?_ a5A.out _; refine o9 ?_ a5A.out _; exact a0T.out⟩, ⟨by refine o9 ?_ a6o.out _; refine o9 ?_ a6o.out _; exact Z5.out⟩, ⟨by refine l9 (cs := #[.bool (true), .int .i64 0]) ?_ 1 _ rfl; refine l9 (cs := #[.bool false, .int .i64 0]) ?_ 0 _ rfl; exact a1Z.out⟩, ⟨by repeat (with_reducible first | exact HB.out | refine o8 ?_ e4R.out)⟩⟩
      ·cases nt_ c30
       rw [if_neg a5a] at H
       have H' := a_ H
       clear H
       go_wp2
       go_meet
       case rel => (try simp only [← d5G.out]); exact ⟨_, ((J5 F8 (a3F)).f1), (by rfl), H', ⟨by have := HJ5.out; (omega)⟩, ⟨by refine o9 ?_ a5A.out _; refine o9 ?_ a5A.out _; exact a0T.out⟩, ⟨by refine o9 ?_ a6o.out _; refine o9 ?_ a6o.out _; exact Z5.out⟩, ⟨by refine l9 (cs := #[.bool (false), .int .i64 0]) ?_ 1 _ rfl; refine l9 (cs := #[.bool false, .int .i64 0]) ?_ 0 _ rfl; exact a1Z.out⟩, ⟨by repeat (with_reducible first | exact HB.out | refine o8 ?_ e4R.out)⟩⟩
     case rest =>
      clear e8o
      try clear d0h
      try clear f5w
      try clear b7j
      try clear b7k
      try clear c2u
      try clear b2k
      try clear b2l
      try clear b7l
      try clear b7m
      try clear c2w
      try clear b2m
      try clear b2n
      try clear b7q
      try clear b7r
      try clear e1s
      try clear d5E
      obtain ⟨kq, a8P, rfl, HA, h5M, a0T, Z5, a1Z, HB⟩ := hcut
      cases kq with
      | zero => exact absurd HA.out (by simp [dump_Next.j1])
      | succ e8p =>
       have H := HA.out
       clear HA
       simp only [dump_Next.j1] at H
       replace H := Option.bind_eq_some_iff.mp H
       obtain ⟨⟨b2C, t159⟩, f5C, H⟩ := H
       try dsimp only at H
       have A31 := a_ f5C
       clear f5C
       by_cases c32 : t159 = true
       ·subst c32
        rw [if_pos rfl] at H
        replace H := Option.bind_eq_some_iff.mp H
        obtain ⟨⟨t162, e8q⟩, f5D, H⟩ := H
        try dsimp only at H
        have A33 := a_ f5D
        clear f5D
        by_cases c34 : ((J5 F8 (a3F)).f0) = true
        ·rw [if_pos c34] at H
         have e4S : ((J5 F8 (a3F)).f0) = true := c34
         clear c34
         replace H := Option.bind_eq_some_iff.mp H
         obtain ⟨⟨t164, g7u⟩, d5H, H⟩ := H
         try dsimp only at H
         have A35 := a_ d5H
         clear d5H
         by_cases c36 : g7u = true
         ·subst c36
          rw [if_pos rfl] at H
          obtain ⟨rfl, rfl, rfl, rfl, rfl⟩ := s5_ H
          go_wp2_with (first | (refine gl_ (some 43) Tryd.func80 #[.slice (some c0w) l0.length c0, .int .i64 1, .int .i64 a8P] ?_; (with_reducible refine (a1S.calls _ _ l0 1 a8P b2C true _ (Kd.D6 HR0.out HB.out) HC0.out A31.out).mono ?_); rintro e w37 ⟨v160, rfl, ho0, hb⟩; refine ⟨_, rfl, ?_⟩; have a3R := rl_ ho0 HB; replace a0T := U5 a0T hb; replace Z5 := U5 Z5 hb; replace a1Z := U5 a1Z hb; replace HB := W9 HB hb; (try clear hb); (try clear ho0); obtain ⟨f5E, f5F, g7v⟩ := Kd.J4 a3R.out; subst g7v) | (refine gl_ (some 51) Tryd.func83 #[.slice f5E b2C.length f5F, .bool true] ?_; (with_reducible refine (V3.calls e8p _ _ b2C true t162 e8q _ ((Kd.G5 a3R.out).2.2) ((Kd.G5 a3R.out).2.1) A33.out).mono ?_); rintro e w' ⟨rfl, ⟨nd, rfl⟩⟩; refine ⟨_, rfl, ?_⟩; (try (rw [a4p w37]; generalize hq_ : World.drewN w37 _ = w37; have n0_ : Aside0 (Kd.R (Kd.int .u8) 5 w37 w.heap.size (fun _ => True) (.slice f5E b2C.length f5F) b2C) := ⟨by rw [← hq_]; exact (by (with_reducible repeat (apply Kd.a1o)); exact a3R.out)⟩; have n1_ : Aside0 (w37.heap[a8O]? = some (.cells #[.int .i64 0, .int .u32 0, .slice none 0 0] 58 (0, 0))) := ⟨by rw [← hq_]; exact (by (with_reducible repeat (refine Q9 ?_ _)); exact a0T.out)⟩; have n2_ : Aside0 (w37.heap[b2W]? = some (.cells #[.int .i64 (a3F), .int .u32 0, .slice none 0 0] 58 (0, 0))) := ⟨by rw [← hq_]; exact (by (with_reducible repeat (refine Q9 ?_ _)); exact Z5.out)⟩; have n3_ : Aside0 (w37.heap[b2X]? = some (.cells #[.bool ((J5 F8 (a3F)).f0), .int .i64 ((J5 F8 (a3F)).f1)] 131 (0, 0))) := ⟨by rw [← hq_]; exact (by (with_reducible repeat (refine Q9 ?_ _)); exact a1Z.out)⟩; have n4_ : Aside0 (Below w.heap.size w w37) := ⟨by rw [← hq_]; exact (by repeat (with_reducible first | exact HB.out | apply o7))⟩; clear a3R a0T Z5 a1Z HB hq_; have a3R := n0_; have a0T := n1_; have Z5 := n2_; have a1Z := n3_; have HB := n4_; clear n0_ n1_ n2_ n3_ n4_)); have f5G := b0f.out; have f5H := a5A.out; have f5I := b2o.out; have f5J := a6o.out; have d0k : w37.cell? ⟨b2X, 0, none⟩ = some (.bool ((J5 F8 (a3F)).f0)) := (E5 a1Z.out 0).trans (by rfl); have d0l : w37.cell? ⟨b2X, 1, none⟩ = some (.int .i64 ((J5 F8 (a3F)).f1)) := (E5 a1Z.out 1).trans (by rfl); have d0m := l7 a1Z.out 0; have d0n := l7 a1Z.out 1) | (refine gl_ (some 70) Tryd.func80 #[.slice (some c0w) l0.length c0, .int .i64 (wrap64 (1 + a8P)), .int .i64 (wrap64 (t162))] ?_; (with_reducible refine (a1S.calls _ _ l0 (wrap64 (1 + a8P)) (wrap64 (t162)) t164 true _ (Kd.D6 HR0.out HB.out) HC0.out A35.out).mono ?_); rintro e w42 ⟨g7w, rfl, ho0, hb⟩; refine ⟨_, rfl, ?_⟩; have d0o := rn_ ho0 a3R HB; replace a3R := rR_ a3R ho0 hb; replace a0T := U5 a0T hb; replace Z5 := U5 Z5 hb; replace a1Z := U5 a1Z hb; replace HB := W9 HB hb; (try clear hb); (try clear ho0); obtain ⟨e8r, e8s, g7x⟩ := Kd.J4 d0o.out; subst g7x; have d4W := a5z.out; have d4X := a1i.out; have d0p : w42.cell? ⟨b2W, 0, none⟩ = some (.int .i64 (a3F)) := (E5 Z5.out 0).trans (by rfl); have d0q := bc1 Z5; have e1u := bc2 Z5; have d0r := l7 Z5.out 0; have d0s := l7 Z5.out 1; have e1v := l7 Z5.out 2; obtain ⟨c1W, c1X, c1Y, c1Z, c2a, c2c⟩ := a2G a0T.out))
          refine bodyPost_ret (a1e rfl _ _ a8O 58 #[.int .i64 (a3F), .int .u32 0, .slice e8r t164.length e8s] (0, 0) _ rfl (by refine l9 (cs := #[.int .i64 (a3F), .int .u32 0, .slice none 0 0]) ?_ 2 _ rfl; refine l9 (cs := #[.int .i64 (a3F), .int .u32 0, .slice none 0 0]) ?_ 1 _ rfl; refine l9 (cs := #[.int .i64 0, .int .u32 0, .slice none 0 0]) ?_ 0 _ rfl; refine o9 ?_ a1i.out _; exact a0T.out) Tryd.underlying58 rfl (by kernel_rfl)) rfl ?_
          exact ⟨_, by (rfl), by exact Kd.D8 (Kd.U7 (p := ⟨a8O, 2, none⟩) (Kd.U7 (p := ⟨a8O, 1, none⟩) (Kd.U7 (p := ⟨a8O, 0, none⟩) (Kd.U7 (p := ⟨b2W, 2, none⟩) (Kd.V7 (Kd.V7 d0o.out Z5.out (by decide)) a0T.out (by decide)) (fun _ hk => hk.1.2) (.slice e8r t164.length e8s)) (fun _ hk => hk.2) (.int .i64 (a3F))) (fun _ hk => hk.2) (.int .u32 0)) (fun _ hk => hk.2) (.slice e8r t164.length e8s)) (fun _ hk => trivial), by repeat (with_reducible first | exact HB.out | refine o8 ?_ b81.out | refine o8 ?_ c5o.out)⟩
         ·cases nt_ c36
          rw [if_neg a5a] at H
          obtain ⟨rfl, rfl, rfl, rfl, rfl⟩ := s5_ H
          go_wp2_with (first | (refine gl_ (some 43) Tryd.func80 #[.slice (some c0w) l0.length c0, .int .i64 1, .int .i64 a8P] ?_; (with_reducible refine (a1S.calls _ _ l0 1 a8P b2C true _ (Kd.D6 HR0.out HB.out) HC0.out A31.out).mono ?_); rintro e w47 ⟨v160, rfl, ho0, hb⟩; refine ⟨_, rfl, ?_⟩; have a3R := rl_ ho0 HB; replace a0T := U5 a0T hb; replace Z5 := U5 Z5 hb; replace a1Z := U5 a1Z hb; replace HB := W9 HB hb; (try clear hb); (try clear ho0); obtain ⟨e1w, e1x, e8t⟩ := Kd.J4 a3R.out; subst e8t) | (refine gl_ (some 51) Tryd.func83 #[.slice e1w b2C.length e1x, .bool true] ?_; (with_reducible refine (V3.calls e8p _ _ b2C true t162 e8q _ ((Kd.G5 a3R.out).2.2) ((Kd.G5 a3R.out).2.1) A33.out).mono ?_); rintro e w' ⟨rfl, ⟨nd, rfl⟩⟩; refine ⟨_, rfl, ?_⟩; (try (rw [a4p w47]; generalize hq_ : World.drewN w47 _ = w47; have n0_ : Aside0 (Kd.R (Kd.int .u8) 5 w47 w.heap.size (fun _ => True) (.slice e1w b2C.length e1x) b2C) := ⟨by rw [← hq_]; exact (by (with_reducible repeat (apply Kd.a1o)); exact a3R.out)⟩; have n1_ : Aside0 (w47.heap[a8O]? = some (.cells #[.int .i64 0, .int .u32 0, .slice none 0 0] 58 (0, 0))) := ⟨by rw [← hq_]; exact (by (with_reducible repeat (refine Q9 ?_ _)); exact a0T.out)⟩; have n2_ : Aside0 (w47.heap[b2W]? = some (.cells #[.int .i64 (a3F), .int .u32 0, .slice none 0 0] 58 (0, 0))) := ⟨by rw [← hq_]; exact (by (with_reducible repeat (refine Q9 ?_ _)); exact Z5.out)⟩; have n3_ : Aside0 (w47.heap[b2X]? = some (.cells #[.bool ((J5 F8 (a3F)).f0), .int .i64 ((J5 F8 (a3F)).f1)] 131 (0, 0))) := ⟨by rw [← hq_]; exact (by (with_reducible repeat (refine Q9 ?_ _)); exact a1Z.out)⟩; have n4_ : Aside0 (Below w.heap.size w w47) := ⟨by rw [← hq_]; exact (by repeat (with_reducible first | exact HB.out | apply o7))⟩; clear a3R a0T Z5 a1Z HB hq_; have a3R := n0_; have a0T := n1_; have Z5 := n2_; have a1Z := n3_; have HB := n4_; clear n0_ n1_ n2_ n3_ n4_)); have f5K := b0f.out; have f5L := a5A.out; have d4Y := b2o.out; have d4Z := a6o.out; have b7b : w47.cell? ⟨b2X, 0, none⟩ = some (.bool ((J5 F8 (a3F)).f0)) := (E5 a1Z.out 0).trans (by rfl); have b7c : w47.cell? ⟨b2X, 1, none⟩ = some (.int .i64 ((J5 F8 (a3F)).f1)) := (E5 a1Z.out 1).trans (by rfl); have b7d := l7 a1Z.out 0; have b7e := l7 a1Z.out 1) | (refine gl_ (some 70) Tryd.func80 #[.slice (some c0w) l0.length c0, .int .i64 (wrap64 (1 + a8P)), .int .i64 (wrap64 (t162))] ?_; (with_reducible refine (a1S.calls _ _ l0 (wrap64 (1 + a8P)) (wrap64 (t162)) t164 false _ (Kd.D6 HR0.out HB.out) HC0.out A35.out).mono ?_); rintro e w52 ⟨g7w, rfl, ho0, hb⟩; refine ⟨_, rfl, ?_⟩; have d0o := rn_ ho0 a3R HB; replace a3R := rR_ a3R ho0 hb; replace a0T := U5 a0T hb; replace Z5 := U5 Z5 hb; replace a1Z := U5 a1Z hb; replace HB := W9 HB hb; (try clear hb); (try clear ho0); obtain ⟨g7y, g7z, e8u⟩ := Kd.J4 d0o.out; subst e8u; have h24 := a5z.out; have h25 := a1i.out; have g0A : w52.cell? ⟨b2W, 0, none⟩ = some (.int .i64 (a3F)) := (E5 Z5.out 0).trans (by rfl); have g0B := bc1 Z5; have g0C := bc2 Z5; have g0D := l7 Z5.out 0; have g0E := l7 Z5.out 1; have g0F := l7 Z5.out 2; obtain ⟨c2d, c2e, c9Q, c2f, c2g, c9R⟩ := a2G a0T.out))
          refine bodyPost_ret (a1e rfl _ _ a8O 58 #[.int .i64 0, .int .u32 0, .slice none 0 0] (0, 0) _ rfl (by refine l9 (cs := #[.int .i64 0, .int .u32 0, .slice none 0 0]) ?_ 2 _ rfl; refine l9 (cs := #[.int .i64 0, .int .u32 0, .slice none 0 0]) ?_ 1 _ rfl; refine l9 (cs := #[.int .i64 0, .int .u32 0, .slice none 0 0]) ?_ 0 _ rfl; refine o9 ?_ a1i.out _; exact a0T.out) Tryd.underlying58 rfl (by kernel_rfl)) rfl ?_
          exact ⟨_, by (rfl), by (exact Kd.a0I _ _ _ _ _), by repeat (with_reducible first | exact HB.out | refine o8 ?_ b81.out | refine o8 ?_ c5o.out)⟩
        ·rw [if_neg c34] at H
         have e4S : ((J5 F8 (a3F)).f0) = false := by simpa using c34
         clear c34
         obtain ⟨rfl, rfl, rfl, rfl, rfl⟩ := s5_ H
         go_wp2_with (first | (refine gl_ (some 43) Tryd.func80 #[.slice (some c0w) l0.length c0, .int .i64 1, .int .i64 a8P] ?_; (with_reducible refine (a1S.calls _ _ l0 1 a8P b2C true _ (Kd.D6 HR0.out HB.out) HC0.out A31.out).mono ?_); rintro e w57 ⟨v160, rfl, ho0, hb⟩; refine ⟨_, rfl, ?_⟩; have a3R := rl_ ho0 HB; replace a0T := U5 a0T hb; replace Z5 := U5 Z5 hb; replace a1Z := U5 a1Z hb; replace HB := W9 HB hb; (try clear hb); (try clear ho0); obtain ⟨f5M, f5N, g7A⟩ := Kd.J4 a3R.out; subst g7A) | (refine gl_ (some 51) Tryd.func83 #[.slice f5M b2C.length f5N, .bool true] ?_; (with_reducible refine (V3.calls e8p _ _ b2C true t162 e8q _ ((Kd.G5 a3R.out).2.2) ((Kd.G5 a3R.out).2.1) A33.out).mono ?_); rintro e w' ⟨rfl, ⟨nd, rfl⟩⟩; refine ⟨_, rfl, ?_⟩; (try (rw [a4p w57]; generalize hq_ : World.drewN w57 _ = w57; have n0_ : Aside0 (Kd.R (Kd.int .u8) 5 w57 w.heap.size (fun _ => True) (.slice f5M b2C.length f5N) b2C) := ⟨by rw [← hq_]; exact (by (with_reducible repeat (apply Kd.a1o)); exact a3R.out)⟩; have n1_ : Aside0 (w57.heap[a8O]? = some (.cells #[.int .i64 0, .int .u32 0, .slice none 0 0] 58 (0, 0))) := ⟨by rw [← hq_]; exact (by (with_reducible repeat (refine Q9 ?_ _)); exact a0T.out)⟩; have n2_ : Aside0 (w57.heap[b2W]? = some (.cells #[.int .i64 (a3F), .int .u32 0, .slice none 0 0] 58 (0, 0))) := ⟨by rw [← hq_]; exact (by (with_reducible repeat (refine Q9 ?_ _)); exact Z5.out)⟩; have n3_ : Aside0 (w57.heap[b2X]? = some (.cells #[.bool ((J5 F8 (a3F)).f0), .int .i64 ((J5 F8 (a3F)).f1)] 131 (0, 0))) := ⟨by rw [← hq_]; exact (by (with_reducible repeat (refine Q9 ?_ _)); exact a1Z.out)⟩; have n4_ : Aside0 (Below w.heap.size w w57) := ⟨by rw [← hq_]; exact (by repeat (with_reducible first | exact HB.out | apply o7))⟩; clear a3R a0T Z5 a1Z HB hq_; have a3R := n0_; have a0T := n1_; have Z5 := n2_; have a1Z := n3_; have HB := n4_; clear n0_ n1_ n2_ n3_ n4_)); have h26 := b0f.out; have h29 := a5A.out; have h3a := b2o.out; have h3d := a6o.out; have g0G : w57.cell? ⟨b2X, 0, none⟩ = some (.bool ((J5 F8 (a3F)).f0)) := (E5 a1Z.out 0).trans (by rfl); have g0H : w57.cell? ⟨b2X, 1, none⟩ = some (.int .i64 ((J5 F8 (a3F)).f1)) := (E5 a1Z.out 1).trans (by rfl); have g0I := l7 a1Z.out 0; have g0J := l7 a1Z.out 1; have e4B := a5z.out; have e4C := a1i.out; have g0K : w57.cell? ⟨b2W, 0, none⟩ = some (.int .i64 (a3F)) := (E5 Z5.out 0).trans (by rfl); have g0L := bc1 Z5; have g0M := bc2 Z5; have g0N := l7 Z5.out 0; have g0O := l7 Z5.out 1; have g0P := l7 Z5.out 2; obtain ⟨c9W, c9X, c9Y, c9Z, c90, c94⟩ := a2G a0T.out))
         refine bodyPost_ret (a1e rfl _ _ a8O 58 #[.int .i64 (a3F), .int .u32 ((t162) % 4294967296), .slice none 0 0] (0, 0) _ rfl (by refine l9 (cs := #[.int .i64 (a3F), .int .u32 ((t162) % 4294967296), .slice none 0 0]) ?_ 2 _ rfl; refine l9 (cs := #[.int .i64 (a3F), .int .u32 0, .slice none 0 0]) ?_ 1 _ rfl; refine l9 (cs := #[.int .i64 0, .int .u32 0, .slice none 0 0]) ?_ 0 _ rfl; refine o9 ?_ a1i.out _; exact a0T.out) Tryd.underlying58 rfl (by kernel_rfl)) rfl ?_
         exact ⟨_, by (rfl), by (exact Kd.a0I _ _ _ _ _), by repeat (with_reducible first | exact HB.out | refine o8 ?_ b81.out | refine o8 ?_ c5o.out)⟩
       ·cases nt_ c32
        rw [if_neg a5a] at H
        obtain ⟨rfl, rfl, rfl, rfl, rfl⟩ := s5_ H
        go_wp2_with (first | (refine gl_ (some 43) Tryd.func80 #[.slice (some c0w) l0.length c0, .int .i64 1, .int .i64 a8P] ?_; (with_reducible refine (a1S.calls _ _ l0 1 a8P b2C false _ (Kd.D6 HR0.out HB.out) HC0.out A31.out).mono ?_); rintro e w65 ⟨v160, rfl, ho0, hb⟩; refine ⟨_, rfl, ?_⟩; have a3R := rl_ ho0 HB; replace a0T := U5 a0T hb; replace Z5 := U5 Z5 hb; replace a1Z := U5 a1Z hb; replace HB := W9 HB hb; (try clear hb); (try clear ho0); have h3e := a1i.out; have h3f := a5z.out; have h3g := a5A.out; have h3h := b0f.out; obtain ⟨g0Q, g0R, g0S, g0T, g0U, g0V⟩ := a2G a0T.out))
        refine bodyPost_ret (a1e rfl _ _ a8O 58 #[.int .i64 0, .int .u32 0, .slice none 0 0] (0, 0) _ rfl (by refine l9 (cs := #[.int .i64 0, .int .u32 0, .slice none 0 0]) ?_ 2 _ rfl; refine l9 (cs := #[.int .i64 0, .int .u32 0, .slice none 0 0]) ?_ 1 _ rfl; refine l9 (cs := #[.int .i64 0, .int .u32 0, .slice none 0 0]) ?_ 0 _ rfl; exact a0T.out) Tryd.underlying58 rfl (by kernel_rfl)) rfl ?_
        exact ⟨_, by (rfl), by (exact Kd.a0I _ _ _ _ _), by repeat (with_reducible first | exact HB.out | refine o8 ?_ b81.out)⟩

end Go.Proofs.YtgnonglkibhnhaaDoor.Print
