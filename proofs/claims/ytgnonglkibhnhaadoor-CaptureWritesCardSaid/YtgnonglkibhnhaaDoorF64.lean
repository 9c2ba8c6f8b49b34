import Derived.Test.YtgnonglkibhnhaaDoorM6
namespace Go.Proofs.YtgnonglkibhnhaaDoor.Print
open Go.RowKit Go.Proofs.YtgnonglkibhnhaaDoorW.PrintWords Go.Proofs.YtgnonglkibhnhaaDoorW.PrintLast Go.Proofs.YtgnonglkibhnhaaDoorW.PrintMore
attribute [local go_sem] a0d a0e a0V a0W X5 X6 a0f a0g
set_option linter.unusedVariables false
set_option linter.unusedSimpArgs false

/-! ### dump_Next: function 64 -/
mutual
def dump_Next.j0 : Nat → List Int → Bool → Int → Int → Option (Int × Int × List Int × Int × Int)
 | 0, _, _, _, _ => none
 | k + 1, x0, x29, a4i, b5l => if x29 = true then (some (0, 0, ([] : List Int), 0, 7)) else (if 0 ≤ a4i then (if a4i < 8 then (if (J4 G7 a4i).f0 = true then (dump_Next.j1 k x0 1 2 a4i b5l ((J4 G7 a4i).f0) ((J4 G7 a4i).f1)) else (dump_Next.j1 k x0 1 ((J4 G7 a4i).f1) a4i b5l ((J4 G7 a4i).f0) ((J4 G7 a4i).f1))) else (none)) else (none))
def dump_Next.j1 : Nat → List Int → Int → Int → Int → Int → Bool → Int → Option (Int × Int × List Int × Int × Int)
 | 0, _, _, _, _, _, _, _ => none
 | k + 1, x0, x7, x8, a4i, b5l, d9b, f5Z => (a18.f x0 x7 x8).bind fun e1c => (if e1c.2 = true then ((a0i.f k e1c.1 true).bind fun d45 => (if d9b = true then ((a18.f x0 (wrap64 (x7 + x8)) (wrap64 (d45.1))).bind fun e1d => (if e1d.2 = true then (some (a4i, b5l, e1d.1, wrap64 ((wrap64 (x7 + x8)) + (wrap64 (d45.1))), 0)) else (some (0, 0, ([] : List Int), 0, 2)))) else (some (a4i, (d45.1) % 4294967296, ([] : List Int), wrap64 (x7 + x8), 0)))) else (some (0, 0, ([] : List Int), 0, 2)))
end
def dump_Next.f (k : Nat) (l0 : List Int) : Option (Int × Int × List Int × Int × Int) := if (l0.length : Int) = 0 then (some (0, 0, ([] : List Int), 0, 2)) else (if 0 < (l0.length : Int) then (if (wrap64 (rd l0 0)) < 1 then (dump_Next.j0 k l0 true (wrap64 (rd l0 0)) 0) else (dump_Next.j0 k l0 (decide ((wrap64 (rd l0 0)) > 7)) (wrap64 (rd l0 0)) 0)) else (none))
set_option maxHeartbeats 8000000 in
set_option maxRecDepth 100000 in
theorem dump_Next.calls (k : Nat) (A0 : Option Addr) (c0 : Nat) (l0 : List Int) (r1 : Int) (r2 : Int) (r3 : List Int) (r4 : Int) (r5 : Int) (w : World) (hG0 : Kd.C b1a w (some ⟨0, 0, none⟩) 8 G7) (hr0 : Kd.C (Kd.int .u8) w A0 l0.length l0) (hc0 : l0.length ≤ c0) (h : dump_Next.f k l0 = some (r1, r2, r3, r4, r5)) :
  Calls Tryd.prog 64 #[.slice A0 l0.length c0] w fun e w' => ∃ v2_ : Value, e = .returned (.tuple #[.agg #[.int .i64 r1, .int .u32 r2, v2_], .int .i64 r4, .int .i64 r5]) ∧ Kd.R (Kd.int .u8) 5 w' w.heap.size (fun _ => True) v2_ r3 ∧ Below w.heap.size w w' := by
 have c1h := Tryd.underlying58
 have e02 := Tryd.underlying131
 have HR0 := a_ hr0
 have HC0 := a_ hc0
 clear hr0 hc0
 have a4w := a_ hG0
 clear hG0
 have HB := a_ (Below.refl w.heap.size w)
 have H := h
 clear h
 unfold dump_Next.f at H
 by_cases c2 : (l0.length : Int) = 0
 ·rw [if_pos c2] at H; obtain ⟨a7Y, c1x⟩ := bt_ c2; clear c2; obtain ⟨rfl, rfl, rfl, rfl, rfl⟩ := s5_ H
  go_enter Tryd.func64, Tryd.ntmps64
  go_wp2_with (first | (refine be_ 2 #[.int .i64 0, .int .u32 0, .slice none 0 0] 58 ?_; intro a6Z hg w3 hbox hb; have a0F := a_ hbox; have b7j := lb_ HB hg; replace HB := Q8 HB hb; clear hb hbox hg; obtain ⟨d46, d47, d48, d49, d5a, d5b⟩ := a0u a0F.out))
  refine bodyPost_ret (a2p rfl _ _ a6Z 58 #[.int .i64 0, .int .u32 0, .slice none 0 0] (0, 0) _ rfl (l9 (l9 (l9 a0F.out 0 _ rfl) 1 _ rfl) 2 _ rfl) Tryd.underlying58 rfl (by kernel_rfl)) rfl ?_; exact ⟨_, by (rfl), by (exact Kd.Y4 _ _ _ _ _), by repeat (with_reducible first | exact HB.out | refine o8 ?_ b7j.out)⟩
 ·rw [if_neg c2] at H; have a7Y := bq_ c2; have c1x := bn_ c2; have e74 : ¬ (l0 = []) := fun h_ => c2 (by rw [h_]; rfl)
  have c5 := X4 H; replace H := O6 H; have a7h := dt_ c5; have b3X : decide (0 < l0.length) = true := dt_ (by omega); clear c5; have HC6 := a_ H; clear H
  go_enter Tryd.func64, Tryd.ntmps64
  go_upto_region 4 with (first | (refine be_ 2 #[.int .i64 0, .int .u32 0, .slice none 0 0] 58 ?_; intro a6Z hg w7 hbox hb; have a0F := a_ hbox; have b7j := lb_ HB hg; replace HB := Q8 HB hb; clear hb hbox hg; have d9c : 0 ≤ (0 : Int) := (by omega); have d9d : 0 < (l0.length : Int) := U9; obtain ⟨b8k, e154, b3d⟩ := Kd.a0x HR0.out 0 d9c d9d; cases e154; have g6n : (0 < l0.length) = True := eq_true (by omega); (try rw [show (0 : Int).toNat = 0 from rfl] at b3d); (try rw [Addr.add_zero'] at b3d); replace b3d := J9 HB b3d; replace d9c := eq_true d9c; replace d9d := eq_true d9d) | (refine be_ 5 #[.int .i64 0, .int .u32 0, .slice none 0 0] 58 ?_; intro b06 hg w8 hbox hb; have Y6 := a_ hbox; have c2n := lb_ HB hg; obtain ⟨a02, a4j⟩ := nn_ a0F hg; replace a0F := X8 a0F hb; replace HB := Q8 HB hb; clear hb hbox hg; have f8k := a4j.out; have f8l := a02.out; obtain ⟨b4X, b4Y, b4Z, b40, b41, b42⟩ := a0u Y6.out))
  go_cut [29] (fun v29 wc => ∃ (kq : Nat) (c7D : Bool), v29 = .bool c7D ∧ Aside0 (dump_Next.j0 kq l0 c7D (wrap64 (rd l0 0)) 0 = some (r1, r2, r3, r4, r5)) ∧ Aside0 (kq ≤ k) ∧ Aside0 (wc.heap[a6Z]? = some (.cells #[.int .i64 0, .int .u32 0, (.slice none 0 0)] 58 (0, 0))) ∧ Aside0 (wc.heap[b06]? = some (.cells #[.int .i64 (wrap64 (rd l0 0)), .int .u32 0, (.slice none 0 0)] 58 (0, 0))) ∧ Aside0 (Below w.heap.size w wc))
  case first =>
   have H := HC6.out; clear HC6
   by_cases c11 : (wrap64 (rd l0 0)) < 1
   ·rw [if_pos c11] at H; have b77 := dt_ c11; clear c11; have H' := a_ H; clear H; have f0R := a4j.out; have f0S := a02.out; obtain ⟨b2K, b2L, b45, b2M, b2N, b46⟩ := a0u Y6.out
    go_wp2
    go_meet
    case rel => exact ⟨_, (true), (by rfl), H', ⟨by (omega)⟩, ⟨E5 (E5 (E5 a0F.out a02.out _) a02.out _) a02.out _⟩, ⟨l9 (l9 (l9 Y6.out 0 _ rfl) 1 _ rfl) 2 _ rfl⟩, ⟨by repeat (with_reducible first | exact HB.out | refine o8 ?_ c2n.out)⟩⟩
   ·rw [if_neg c11] at H; have b77 := df_ c11; clear c11; have H' := a_ H; clear H; have g6o := a4j.out; have g6p := a02.out; obtain ⟨c6z, c6A, c6B, c6C, c6D, c6E⟩ := a0u Y6.out
    go_wp2
    go_meet
    case rel => exact ⟨_, (decide ((wrap64 (rd l0 0)) > 7)), (by rfl), H', ⟨by (omega)⟩, ⟨E5 (E5 (E5 a0F.out a02.out _) a02.out _) a02.out _⟩, ⟨l9 (l9 (l9 Y6.out 0 _ rfl) 1 _ rfl) 2 _ rfl⟩, ⟨by repeat (with_reducible first | exact HB.out | refine o8 ?_ c2n.out)⟩⟩
  case rest =>
   clear HC6
   try clear c2
   try clear a7Y
   try clear c1x
   try clear e74
   try clear a7h
   try clear b3X
   try clear b4X
   try clear b4Y
   try clear b4Z
   try clear b40
   try clear b41
   try clear b42
   try clear b3d
   try clear d9c
   try clear d9d
   obtain ⟨kq, c7D, rfl, HA, HJ5, a0F, Y6, HB⟩ := hcut
   cases kq with
   | zero => exact absurd HA.out (by simp [dump_Next.j0])
   | succ kj5 =>
    have H := HA.out; clear HA
    simp only [dump_Next.j0] at H
    by_cases c16 : c7D = true
    ·subst c16; rw [if_pos rfl] at H; obtain ⟨rfl, rfl, rfl, rfl, rfl⟩ := s5_ H; have g6r := a02.out; have g6s := a4j.out; obtain ⟨c6O, c6P, d8d, c6Q, c6R, d8e⟩ := a0u a0F.out
     go_wp2
     refine bodyPost_ret (a2p rfl _ _ a6Z 58 #[.int .i64 0, .int .u32 0, .slice none 0 0] (0, 0) _ rfl (l9 (l9 (l9 a0F.out 0 _ rfl) 1 _ rfl) 2 _ rfl) Tryd.underlying58 rfl (by kernel_rfl)) rfl ?_; exact ⟨_, by (rfl), by (exact Kd.Y4 _ _ _ _ _), by repeat (with_reducible first | exact HB.out | refine o8 ?_ b7j.out)⟩
    ·cases nt_ c16
     rw [if_neg a2O] at H; obtain ⟨a3A, d5c⟩ := si_ ((wrap64 (rd l0 0))); rw [d5c] at H
     (try simp only [d5c] at Y6)
     have g2s : (IntKind.i64.wrap (rd l0 0)) = a3A := (a0D _).trans d5c; have c5m := a2Q H; replace H := O6 H; have d5d := a2Q H; replace H := O6 H; have e5c := a_ H; clear H; have g6t := a4j.out; have g6u := a02.out; have b5f : wc.cell? ⟨b06, 0, none⟩ = some (.int .i64 (a3A)) := (D8 Y6.out 0).trans (by rfl); have b5g := bc1 Y6; have b9z := bc2 Y6; have b5h := l7 Y6.out 0; have b5i := l7 Y6.out 1; have b9A := l7 Y6.out 2; have d9e : 0 ≤ ((a3A) : Int) := U9; have d5e : (a3A) < (G7.length : Int) := of_decide_eq_true (by (assumption)); obtain ⟨f1m, g2t, b5m, b5n⟩ := a5O a4w.out (a3A) d9e d5e; obtain rfl : (⟨0, 0, none⟩ : Addr) = f1m := (by injection g2t)
     (simp only [add_plain] at b5m)
     (simp only [add_plain] at b5n)
     replace b5m := J9 HB b5m; replace b5n := J9 HB b5n; replace d9e := eq_true d9e; replace d5e := eq_true d5e; have g6v : ((a3A) < 8) = True := d5e
     go_upto_if 38 with (first | (refine be_ 6 #[.bool false, .int .i64 0] 131 ?_; intro b07 hg w25 hbox hb; have a1J := a_ hbox; have e1e := lb_ HB hg; obtain ⟨a4k, a8i⟩ := nn_ a0F hg; obtain ⟨a4Q, b0o⟩ := nn_ Y6 hg; replace a0F := X8 a0F hb; replace Y6 := X8 Y6 hb; replace HB := Q8 HB hb; clear hb hbox hg; have f1n := a8i.out; have f1o := a4k.out; have e9M := b0o.out; have e9N := a4Q.out; obtain ⟨a8R, a8S, a8T, a8U⟩ := a4e a1J.out))
     go_cut [8] (fun v8 wc => ∃ (kq : Nat) (a7a : Int), v8 = .int .i64 a7a ∧ Aside0 (dump_Next.j1 kq l0 1 a7a (a3A) 0 ((J4 G7 (a3A)).f0) ((J4 G7 (a3A)).f1) = some (r1, r2, r3, r4, r5)) ∧ Aside0 (kq ≤ kj5) ∧ Aside0 (wc.heap[a6Z]? = some (.cells #[.int .i64 0, .int .u32 0, (.slice none 0 0)] 58 (0, 0))) ∧ Aside0 (wc.heap[b06]? = some (.cells #[.int .i64 (a3A), .int .u32 0, (.slice none 0 0)] 58 (0, 0))) ∧ Aside0 (wc.heap[b07]? = some (.cells #[.bool ((J4 G7 (a3A)).f0), .int .i64 ((J4 G7 (a3A)).f1)] 131 (0, 0))) ∧ Aside0 (Below w.heap.size w wc))
     case first =>
      have H := e5c.out; clear e5c; obtain ⟨g2u, d5f⟩ : ∃ b_ : Bool, b_ = ((J4 G7 (a3A)).f0) := ⟨_, rfl⟩; rw [← d5f] at H; have d5g := a_ d5f; clear d5f
      (try rw [← d5g.out])
      by_cases c30 : g2u = true
      ·subst c30; rw [if_pos rfl] at H; have H' := a_ H; clear H
       go_wp2
       go_meet
       case rel => (try simp only [← d5g.out]); exact ⟨_, (2), (by rfl), H', ⟨by have := HJ5.out; (omega)⟩, ⟨E5 (E5 a0F.out a4k.out _) a4k.out _⟩, ⟨E5 (E5 Y6.out a4Q.out _) a4Q.out _⟩, ⟨l9 (l9 a1J.out 0 _ rfl) 1 _ rfl⟩, ⟨by repeat (with_reducible first | exact HB.out | refine o8 ?_ e1e.out)⟩⟩
      ·cases nt_ c30
       rw [if_neg a2O] at H; have H' := a_ H; clear H
       go_wp2
       go_meet
       case rel => (try simp only [← d5g.out]); exact ⟨_, ((J4 G7 (a3A)).f1), (by rfl), H', ⟨by have := HJ5.out; (omega)⟩, ⟨E5 (E5 a0F.out a4k.out _) a4k.out _⟩, ⟨E5 (E5 Y6.out a4Q.out _) a4Q.out _⟩, ⟨l9 (l9 a1J.out 0 _ rfl) 1 _ rfl⟩, ⟨by repeat (with_reducible first | exact HB.out | refine o8 ?_ e1e.out)⟩⟩
     case rest =>
      clear e5c
      try clear c5m
      try clear d5d
      try clear b5f
      try clear b5g
      try clear b9z
      try clear a8R
      try clear a8S
      try clear b5h
      try clear b5i
      try clear b9A
      try clear a8T
      try clear a8U
      try clear b5m
      try clear b5n
      try clear d9e
      try clear d5e
      obtain ⟨kq, a7a, rfl, HA, g9X, a0F, Y6, a1J, HB⟩ := hcut
      cases kq with
      | zero => exact absurd HA.out (by simp [dump_Next.j1])
      | succ e5d =>
       have H := HA.out; clear HA
       simp only [dump_Next.j1] at H
       obtain ⟨⟨b0D, t159⟩, A31, H⟩ := bd_ H
       try dsimp only at H
       by_cases c32 : t159 = true
       ·subst c32; rw [if_pos rfl] at H; obtain ⟨⟨t162, e5e⟩, A33, H⟩ := bd_ H
        try dsimp only at H
        by_cases c34 : ((J4 G7 (a3A)).f0) = true
        ·rw [if_pos c34] at H; have e0R : ((J4 G7 (a3A)).f0) = true := c34; clear c34; obtain ⟨⟨t164, g2v⟩, A35, H⟩ := bd_ H
         try dsimp only at H
         by_cases c36 : g2v = true
         ·subst c36; rw [if_pos rfl] at H; obtain ⟨rfl, rfl, rfl, rfl, rfl⟩ := s5_ H
          go_wp2_with (first | (refine gl_ (some 43) Tryd.func80 #[.slice (some b8k) l0.length c0, .int .i64 1, .int .i64 a7a] ?_; (with_reducible refine (a18.calls _ _ l0 1 a7a b0D true _ (Kd.E8 HR0.out HB.out) HC0.out A31.out).mono ?_); rintro e w37 ⟨v160, rfl, ho0, hb⟩; refine ⟨_, rfl, ?_⟩; have a3j := rl_ ho0 HB; replace a0F := X8 a0F hb; replace Y6 := X8 Y6 hb; replace a1J := X8 a1J hb; replace HB := Q8 HB hb; (try clear hb); (try clear ho0); obtain ⟨f1q, f1r, g2w⟩ := Kd.H6 a3j.out; subst g2w) | (refine gl_ (some 51) Tryd.func83 #[.slice f1q b0D.length f1r, .bool true] ?_; (with_reducible refine (a0i.calls e5d _ _ b0D true t162 e5e _ ((Kd.F9 a3j.out).2.2) ((Kd.F9 a3j.out).2.1) A33.out).mono ?_); rintro e w' ⟨rfl, ⟨nd, rfl⟩⟩; refine ⟨_, rfl, ?_⟩; (try (rw [b1h w37]; generalize hq_ : World.drewN w37 _ = w37; have n0_ : Aside0 (Kd.R (Kd.int .u8) 5 w37 w.heap.size (fun _ => True) (.slice f1q b0D.length f1r) b0D) := ⟨by rw [← hq_]; exact (by (with_reducible repeat (apply Kd.a1Q)); exact a3j.out)⟩; have n1_ : Aside0 (w37.heap[a6Z]? = some (.cells #[.int .i64 0, .int .u32 0, .slice none 0 0] 58 (0, 0))) := ⟨by rw [← hq_]; exact (by (with_reducible repeat (refine a0r ?_ _)); exact a0F.out)⟩; have n2_ : Aside0 (w37.heap[b06]? = some (.cells #[.int .i64 (a3A), .int .u32 0, .slice none 0 0] 58 (0, 0))) := ⟨by rw [← hq_]; exact (by (with_reducible repeat (refine a0r ?_ _)); exact Y6.out)⟩; have n3_ : Aside0 (w37.heap[b07]? = some (.cells #[.bool ((J4 G7 (a3A)).f0), .int .i64 ((J4 G7 (a3A)).f1)] 131 (0, 0))) := ⟨by rw [← hq_]; exact (by (with_reducible repeat (refine a0r ?_ _)); exact a1J.out)⟩; have n4_ : Aside0 (Below w.heap.size w w37) := ⟨by rw [← hq_]; exact (by repeat (with_reducible first | exact HB.out | apply y5))⟩; clear a3j a0F Y6 a1J HB hq_; have a3j := n0_; have a0F := n1_; have Y6 := n2_; have a1J := n3_; have HB := n4_; clear n0_ n1_ n2_ n3_ n4_)); have e9R := a8i.out; have e9S := a4k.out; have e7n := b0o.out; have e7o := a4Q.out; have c5n : w37.cell? ⟨b07, 0, none⟩ = some (.bool ((J4 G7 (a3A)).f0)) := (D8 a1J.out 0).trans (by rfl); have c5o : w37.cell? ⟨b07, 1, none⟩ = some (.int .i64 ((J4 G7 (a3A)).f1)) := (D8 a1J.out 1).trans (by rfl); have c5p := l7 a1J.out 0; have c5q := l7 a1J.out 1) | (refine gl_ (some 70) Tryd.func80 #[.slice (some b8k) l0.length c0, .int .i64 (wrap64 (1 + a7a)), .int .i64 (wrap64 (t162))] ?_; (with_reducible refine (a18.calls _ _ l0 (wrap64 (1 + a7a)) (wrap64 (t162)) t164 true _ (Kd.E8 HR0.out HB.out) HC0.out A35.out).mono ?_); rintro e w42 ⟨g2x, rfl, ho0, hb⟩; refine ⟨_, rfl, ?_⟩; have c7E := rn_ ho0 a3j HB; replace a3j := rR_ a3j ho0 hb; replace a0F := X8 a0F hb; replace Y6 := X8 Y6 hb; replace a1J := X8 a1J hb; replace HB := Q8 HB hb; (try clear hb); (try clear ho0); obtain ⟨e5f, e5g, g2y⟩ := Kd.H6 c7E.out; subst g2y; have e0F := a4j.out; have e0G := a02.out; have c6s : w42.cell? ⟨b06, 0, none⟩ = some (.int .i64 (a3A)) := (D8 Y6.out 0).trans (by rfl); have c6t := bc1 Y6; have d75 := bc2 Y6; have c6u := l7 Y6.out 0; have c6v := l7 Y6.out 1; have d76 := l7 Y6.out 2; obtain ⟨c5P, c5Q, c5R, c5S, c5T, c5V⟩ := a0u a0F.out))
          refine bodyPost_ret (a2p rfl _ _ a6Z 58 #[.int .i64 (a3A), .int .u32 0, .slice e5f t164.length e5g] (0, 0) _ rfl (l9 (l9 (l9 (E5 a0F.out a02.out _) 0 _ rfl) 1 _ rfl) 2 _ rfl) Tryd.underlying58 rfl (by kernel_rfl)) rfl ?_; exact ⟨_, by (rfl), by exact Kd.y9 (Kd.V4 (p := ⟨a6Z, 2, none⟩) (Kd.V4 (p := ⟨a6Z, 1, none⟩) (Kd.V4 (p := ⟨a6Z, 0, none⟩) (Kd.V4 (p := ⟨b06, 2, none⟩) (Kd.U7 (Kd.U7 c7E.out Y6.out (by decide)) a0F.out (by decide)) (fun _ hk => hk.1.2) (.slice e5f t164.length e5g)) (fun _ hk => hk.2) (.int .i64 (a3A))) (fun _ hk => hk.2) (.int .u32 0)) (fun _ hk => hk.2) (.slice e5f t164.length e5g)) (fun _ hk => trivial), by repeat (with_reducible first | exact HB.out | refine o8 ?_ b7j.out | refine o8 ?_ c2n.out)⟩
         ·cases nt_ c36
          rw [if_neg a2O] at H; obtain ⟨rfl, rfl, rfl, rfl, rfl⟩ := s5_ H
          go_wp2_with (first | (refine gl_ (some 43) Tryd.func80 #[.slice (some b8k) l0.length c0, .int .i64 1, .int .i64 a7a] ?_; (with_reducible refine (a18.calls _ _ l0 1 a7a b0D true _ (Kd.E8 HR0.out HB.out) HC0.out A31.out).mono ?_); rintro e w47 ⟨v160, rfl, ho0, hb⟩; refine ⟨_, rfl, ?_⟩; have a3j := rl_ ho0 HB; replace a0F := X8 a0F hb; replace Y6 := X8 Y6 hb; replace a1J := X8 a1J hb; replace HB := Q8 HB hb; (try clear hb); (try clear ho0); obtain ⟨b0C, b2H, d24⟩ := Kd.H6 a3j.out; subst d24) | (refine gl_ (some 51) Tryd.func83 #[.slice b0C b0D.length b2H, .bool true] ?_; (with_reducible refine (a0i.calls e5d _ _ b0D true t162 e5e _ ((Kd.F9 a3j.out).2.2) ((Kd.F9 a3j.out).2.1) A33.out).mono ?_); rintro e w' ⟨rfl, ⟨nd, rfl⟩⟩; refine ⟨_, rfl, ?_⟩; (try (rw [b1h w47]; generalize hq_ : World.drewN w47 _ = w47; have n0_ : Aside0 (Kd.R (Kd.int .u8) 5 w47 w.heap.size (fun _ => True) (.slice b0C b0D.length b2H) b0D) := ⟨by rw [← hq_]; exact (by (with_reducible repeat (apply Kd.a1Q)); exact a3j.out)⟩; have n1_ : Aside0 (w47.heap[a6Z]? = some (.cells #[.int .i64 0, .int .u32 0, .slice none 0 0] 58 (0, 0))) := ⟨by rw [← hq_]; exact (by (with_reducible repeat (refine a0r ?_ _)); exact a0F.out)⟩; have n2_ : Aside0 (w47.heap[b06]? = some (.cells #[.int .i64 (a3A), .int .u32 0, .slice none 0 0] 58 (0, 0))) := ⟨by rw [← hq_]; exact (by (with_reducible repeat (refine a0r ?_ _)); exact Y6.out)⟩; have n3_ : Aside0 (w47.heap[b07]? = some (.cells #[.bool ((J4 G7 (a3A)).f0), .int .i64 ((J4 G7 (a3A)).f1)] 131 (0, 0))) := ⟨by rw [← hq_]; exact (by (with_reducible repeat (refine a0r ?_ _)); exact a1J.out)⟩; have n4_ : Aside0 (Below w.heap.size w w47) := ⟨by rw [← hq_]; exact (by repeat (with_reducible first | exact HB.out | apply y5))⟩; clear a3j a0F Y6 a1J HB hq_; have a3j := n0_; have a0F := n1_; have Y6 := n2_; have a1J := n3_; have HB := n4_; clear n0_ n1_ n2_ n3_ n4_)); have e7r := a8i.out; have e7s := a4k.out; have e0p := b0o.out; have e0q := a4Q.out; have b8R : w47.cell? ⟨b07, 0, none⟩ = some (.bool ((J4 G7 (a3A)).f0)) := (D8 a1J.out 0).trans (by rfl); have b8S : w47.cell? ⟨b07, 1, none⟩ = some (.int .i64 ((J4 G7 (a3A)).f1)) := (D8 a1J.out 1).trans (by rfl); have b8T := l7 a1J.out 0; have b8U := l7 a1J.out 1) | (refine gl_ (some 70) Tryd.func80 #[.slice (some b8k) l0.length c0, .int .i64 (wrap64 (1 + a7a)), .int .i64 (wrap64 (t162))] ?_; (with_reducible refine (a18.calls _ _ l0 (wrap64 (1 + a7a)) (wrap64 (t162)) t164 false _ (Kd.E8 HR0.out HB.out) HC0.out A35.out).mono ?_); rintro e w52 ⟨g2x, rfl, ho0, hb⟩; refine ⟨_, rfl, ?_⟩; have c7E := rn_ ho0 a3j HB; replace a3j := rR_ a3j ho0 hb; replace a0F := X8 a0F hb; replace Y6 := X8 Y6 hb; replace a1J := X8 a1J hb; replace HB := Q8 HB hb; (try clear hb); (try clear ho0); obtain ⟨f7O, f7P, e2t⟩ := Kd.H6 c7E.out; subst e2t; have g6w := a4j.out; have g6x := a02.out; have f6c : w52.cell? ⟨b06, 0, none⟩ = some (.int .i64 (a3A)) := (D8 Y6.out 0).trans (by rfl); have f6d := bc1 Y6; have f6e := bc2 Y6; have f6f := l7 Y6.out 0; have f6g := l7 Y6.out 1; have f6h := l7 Y6.out 2; obtain ⟨c5r, c5s, d7o, c5t, c5u, d7p⟩ := a0u a0F.out))
          refine bodyPost_ret (a2p rfl _ _ a6Z 58 #[.int .i64 0, .int .u32 0, .slice none 0 0] (0, 0) _ rfl (l9 (l9 (l9 (E5 a0F.out a02.out _) 0 _ rfl) 1 _ rfl) 2 _ rfl) Tryd.underlying58 rfl (by kernel_rfl)) rfl ?_; exact ⟨_, by (rfl), by (exact Kd.Y4 _ _ _ _ _), by repeat (with_reducible first | exact HB.out | refine o8 ?_ b7j.out | refine o8 ?_ c2n.out)⟩
        ·rw [if_neg c34] at H; have e0R : ((J4 G7 (a3A)).f0) = false := by simpa using c34
         clear c34; obtain ⟨rfl, rfl, rfl, rfl, rfl⟩ := s5_ H
         go_wp2_with (first | (refine gl_ (some 43) Tryd.func80 #[.slice (some b8k) l0.length c0, .int .i64 1, .int .i64 a7a] ?_; (with_reducible refine (a18.calls _ _ l0 1 a7a b0D true _ (Kd.E8 HR0.out HB.out) HC0.out A31.out).mono ?_); rintro e w57 ⟨v160, rfl, ho0, hb⟩; refine ⟨_, rfl, ?_⟩; have a3j := rl_ ho0 HB; replace a0F := X8 a0F hb; replace Y6 := X8 Y6 hb; replace a1J := X8 a1J hb; replace HB := Q8 HB hb; (try clear hb); (try clear ho0); obtain ⟨f1s, f1t, g2z⟩ := Kd.H6 a3j.out; subst g2z) | (refine gl_ (some 51) Tryd.func83 #[.slice f1s b0D.length f1t, .bool true] ?_; (with_reducible refine (a0i.calls e5d _ _ b0D true t162 e5e _ ((Kd.F9 a3j.out).2.2) ((Kd.F9 a3j.out).2.1) A33.out).mono ?_); rintro e w' ⟨rfl, ⟨nd, rfl⟩⟩; refine ⟨_, rfl, ?_⟩; (try (rw [b1h w57]; generalize hq_ : World.drewN w57 _ = w57; have n0_ : Aside0 (Kd.R (Kd.int .u8) 5 w57 w.heap.size (fun _ => True) (.slice f1s b0D.length f1t) b0D) := ⟨by rw [← hq_]; exact (by (with_reducible repeat (apply Kd.a1Q)); exact a3j.out)⟩; have n1_ : Aside0 (w57.heap[a6Z]? = some (.cells #[.int .i64 0, .int .u32 0, .slice none 0 0] 58 (0, 0))) := ⟨by rw [← hq_]; exact (by (with_reducible repeat (refine a0r ?_ _)); exact a0F.out)⟩; have n2_ : Aside0 (w57.heap[b06]? = some (.cells #[.int .i64 (a3A), .int .u32 0, .slice none 0 0] 58 (0, 0))) := ⟨by rw [← hq_]; exact (by (with_reducible repeat (refine a0r ?_ _)); exact Y6.out)⟩; have n3_ : Aside0 (w57.heap[b07]? = some (.cells #[.bool ((J4 G7 (a3A)).f0), .int .i64 ((J4 G7 (a3A)).f1)] 131 (0, 0))) := ⟨by rw [← hq_]; exact (by (with_reducible repeat (refine a0r ?_ _)); exact a1J.out)⟩; have n4_ : Aside0 (Below w.heap.size w w57) := ⟨by rw [← hq_]; exact (by repeat (with_reducible first | exact HB.out | apply y5))⟩; clear a3j a0F Y6 a1J HB hq_; have a3j := n0_; have a0F := n1_; have Y6 := n2_; have a1J := n3_; have HB := n4_; clear n0_ n1_ n2_ n3_ n4_)); have g6y := a8i.out; have g6z := a4k.out; have g6A := b0o.out; have g6B := a4Q.out; have f6i : w57.cell? ⟨b07, 0, none⟩ = some (.bool ((J4 G7 (a3A)).f0)) := (D8 a1J.out 0).trans (by rfl); have f6j : w57.cell? ⟨b07, 1, none⟩ = some (.int .i64 ((J4 G7 (a3A)).f1)) := (D8 a1J.out 1).trans (by rfl); have f6k := l7 a1J.out 0; have f6l := l7 a1J.out 1; have e7U := a4j.out; have e7V := a02.out; have f6m : w57.cell? ⟨b06, 0, none⟩ = some (.int .i64 (a3A)) := (D8 Y6.out 0).trans (by rfl); have f6n := bc1 Y6; have f6o := bc2 Y6; have f6p := l7 Y6.out 0; have f6q := l7 Y6.out 1; have f6r := l7 Y6.out 2; obtain ⟨d7q, d7r, d7s, d7t, d7u, d7v⟩ := a0u a0F.out))
         refine bodyPost_ret (a2p rfl _ _ a6Z 58 #[.int .i64 (a3A), .int .u32 ((t162) % 4294967296), .slice none 0 0] (0, 0) _ rfl (l9 (l9 (l9 (E5 a0F.out a02.out _) 0 _ rfl) 1 _ rfl) 2 _ rfl) Tryd.underlying58 rfl (by kernel_rfl)) rfl ?_; exact ⟨_, by (rfl), by (exact Kd.Y4 _ _ _ _ _), by repeat (with_reducible first | exact HB.out | refine o8 ?_ b7j.out | refine o8 ?_ c2n.out)⟩
       ·cases nt_ c32
        rw [if_neg a2O] at H; obtain ⟨rfl, rfl, rfl, rfl, rfl⟩ := s5_ H
        go_wp2_with (first | (refine gl_ (some 43) Tryd.func80 #[.slice (some b8k) l0.length c0, .int .i64 1, .int .i64 a7a] ?_; (with_reducible refine (a18.calls _ _ l0 1 a7a b0D false _ (Kd.E8 HR0.out HB.out) HC0.out A31.out).mono ?_); rintro e w65 ⟨v160, rfl, ho0, hb⟩; refine ⟨_, rfl, ?_⟩; have a3j := rl_ ho0 HB; replace a0F := X8 a0F hb; replace Y6 := X8 Y6 hb; replace a1J := X8 a1J hb; replace HB := Q8 HB hb; (try clear hb); (try clear ho0); have g6C := a02.out; have g6D := a4j.out; have g6E := a4k.out; have g6F := a8i.out; obtain ⟨f6s, f6t, f6u, f6v, f6w, f6x⟩ := a0u a0F.out))
        refine bodyPost_ret (a2p rfl _ _ a6Z 58 #[.int .i64 0, .int .u32 0, .slice none 0 0] (0, 0) _ rfl (l9 (l9 (l9 a0F.out 0 _ rfl) 1 _ rfl) 2 _ rfl) Tryd.underlying58 rfl (by kernel_rfl)) rfl ?_; exact ⟨_, by (rfl), by (exact Kd.Y4 _ _ _ _ _), by repeat (with_reducible first | exact HB.out | refine o8 ?_ b7j.out)⟩

end Go.Proofs.YtgnonglkibhnhaaDoor.Print
