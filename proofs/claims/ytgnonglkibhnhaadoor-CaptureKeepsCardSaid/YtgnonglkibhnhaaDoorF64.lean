import Derived.Test.YtgnonglkibhnhaaDoorM2
namespace Go.Proofs.YtgnonglkibhnhaaDoor.Print
open Go.RowKit Go.Proofs.YtgnonglkibhnhaaDoorW.PrintWords Go.Proofs.YtgnonglkibhnhaaDoorW.PrintLast Go.Proofs.YtgnonglkibhnhaaDoorW.PrintMore
attribute [local go_sem] a0o a0p a0R a0S Y5 Y6 a0q a0r
set_option linter.unusedVariables false
set_option linter.unusedSimpArgs false

/-! ### dump_Next: function 64 -/
mutual
def dump_Next.j0 : Nat → List Int → Bool → Int → Int → Option (Int × Int × List Int × Int × Int)
 | 0, _, _, _, _ => none
 | k + 1, x0, x29, a5K, b7V => if x29 = true then (some (0, 0, ([] : List Int), 0, 7)) else (if 0 ≤ a5K then (if a5K < 8 then (if (Q5 H7 a5K).f0 = true then (dump_Next.j1 k x0 1 2 a5K b7V ((Q5 H7 a5K).f0) ((Q5 H7 a5K).f1)) else (dump_Next.j1 k x0 1 ((Q5 H7 a5K).f1) a5K b7V ((Q5 H7 a5K).f0) ((Q5 H7 a5K).f1))) else (none)) else (none))
def dump_Next.j1 : Nat → List Int → Int → Int → Int → Int → Bool → Int → Option (Int × Int × List Int × Int × Int)
 | 0, _, _, _, _, _, _, _ => none
 | k + 1, x0, x7, x8, a5K, b7V, e3w, g1B => (a2m.f x0 x7 x8).bind fun e6w => (if e6w.2 = true then ((X4.f k e6w.1 true).bind fun d7Z => (if e3w = true then ((a2m.f x0 (wrap64 (x7 + x8)) (wrap64 (d7Z.1))).bind fun e6x => (if e6x.2 = true then (some (a5K, b7V, e6x.1, wrap64 ((wrap64 (x7 + x8)) + (wrap64 (d7Z.1))), 0)) else (some (0, 0, ([] : List Int), 0, 2)))) else (some (a5K, (d7Z.1) % 4294967296, ([] : List Int), wrap64 (x7 + x8), 0)))) else (some (0, 0, ([] : List Int), 0, 2)))
end
def dump_Next.f (k : Nat) (l0 : List Int) : Option (Int × Int × List Int × Int × Int) := if (l0.length : Int) = 0 then (some (0, 0, ([] : List Int), 0, 2)) else (if 0 < (l0.length : Int) then (if (wrap64 (rd l0 0)) < 1 then (dump_Next.j0 k l0 true (wrap64 (rd l0 0)) 0) else (dump_Next.j0 k l0 (decide ((wrap64 (rd l0 0)) > 7)) (wrap64 (rd l0 0)) 0)) else (none))
set_option maxHeartbeats 8000000 in
set_option maxRecDepth 100000 in
theorem dump_Next.calls (k : Nat) (A0 : Option Addr) (c0 : Nat) (l0 : List Int) (r1 : Int) (r2 : Int) (r3 : List Int) (r4 : Int) (r5 : Int) (w : World) (hG0 : Kd.C b35 w (some ⟨0, 0, none⟩) 8 H7) (hr0 : Kd.C (Kd.int .u8) w A0 l0.length l0) (hc0 : l0.length ≤ c0) (h : dump_Next.f k l0 = some (r1, r2, r3, r4, r5)) :
  Calls Tryd.prog 64 #[.slice A0 l0.length c0] w fun e w' => ∃ v2_ : Value, e = .returned (.tuple #[.agg #[.int .i64 r1, .int .u32 r2, v2_], .int .i64 r4, .int .i64 r5]) ∧ Kd.R (Kd.int .u8) 5 w' w.heap.size (fun _ => True) v2_ r3 ∧ Below w.heap.size w w' := by
 have c7K := Tryd.underlying58
 have e5l := Tryd.underlying131
 have HR0 := a_ hr0
 have HC0 := a_ hc0
 clear hr0 hc0
 have a5X := a_ hG0
 clear hG0
 have HB := a_ (Below.refl w.heap.size w)
 have H := h
 clear h
 unfold dump_Next.f at H
 by_cases c2 : (l0.length : Int) = 0
 ·rw [if_pos c2] at H; obtain ⟨b2i, c3A⟩ := bt_ c2; clear c2; obtain ⟨rfl, rfl, rfl, rfl, rfl⟩ := s5_ H
  go_enter Tryd.func64, Tryd.ntmps64
  go_wp2_with (first | (refine be_ 2 #[.int .i64 0, .int .u32 0, .slice none 0 0] 58 ?_; intro a9m hg w3 hbox hb; have a00 := a_ hbox; have b9z := lb_ HB hg; replace HB := V3 HB hb; clear hb hbox hg; obtain ⟨c8g, c8h, c8i, c8j, c8k, c8l⟩ := a1Z a00.out))
  refine bodyPost_ret (a0f rfl _ _ a9m 58 #[.int .i64 0, .int .u32 0, .slice none 0 0] (0, 0) _ rfl (l9 (l9 (l9 a00.out 0 _ rfl) 1 _ rfl) 2 _ rfl) Tryd.underlying58 rfl (by kernel_rfl)) rfl ?_; exact ⟨_, by (rfl), by (exact Kd.Y2 _ _ _ _ _), by repeat (with_reducible first | exact HB.out | refine o7 ?_ b9z.out)⟩
 ·rw [if_neg c2] at H; have b2i := bq_ c2; have c3A := bn_ c2; have e3p : ¬ (l0 = []) := fun h_ => c2 (by rw [h_]; rfl)
  have c5 := Z4 H; replace H := O5 H; have a5H := dt_ c5; have b1f : decide (0 < l0.length) = true := dt_ (by omega); clear c5; have HC6 := a_ H; clear H
  go_enter Tryd.func64, Tryd.ntmps64
  go_upto_region 4 with (first | (refine be_ 2 #[.int .i64 0, .int .u32 0, .slice none 0 0] 58 ?_; intro a9m hg w7 hbox hb; have a00 := a_ hbox; have b9z := lb_ HB hg; replace HB := V3 HB hb; clear hb hbox hg; have e3x : 0 ≤ (0 : Int) := (by omega); have e3y : 0 < (l0.length : Int) := V5; obtain ⟨c1j, e154, b5L⟩ := Kd.Q7 HR0.out 0 e3x e3y; cases e154; have h0x : (0 < l0.length) = True := eq_true (by omega); (try rw [show (0 : Int).toNat = 0 from rfl] at b5L); (try rw [Addr.add_zero'] at b5L); replace b5L := cb_ HB b5L; replace e3x := eq_true e3x; replace e3y := eq_true e3y) | (refine be_ 5 #[.int .i64 0, .int .u32 0, .slice none 0 0] 58 ?_; intro b31 hg w8 hbox hb; have a0t := a_ hbox; have c6s := lb_ HB hg; obtain ⟨a1v, a5L⟩ := nn_ a00 hg; replace a00 := X3 a00 hb; replace HB := V3 HB hb; clear hb hbox hg; have f4s := a5L.out; have f4t := a1v.out; obtain ⟨b3j, b3k, b3l, b3m, b3n, b3o⟩ := a1Z a0t.out))
  go_cut [29] (fun v29 wc => ∃ (kq : Nat) (d17 : Bool), v29 = .bool d17 ∧ Aside0 (dump_Next.j0 kq l0 d17 (wrap64 (rd l0 0)) 0 = some (r1, r2, r3, r4, r5)) ∧ Aside0 (kq ≤ k) ∧ Aside0 (wc.heap[a9m]? = some (.cells #[.int .i64 0, .int .u32 0, (.slice none 0 0)] 58 (0, 0))) ∧ Aside0 (wc.heap[b31]? = some (.cells #[.int .i64 (wrap64 (rd l0 0)), .int .u32 0, (.slice none 0 0)] 58 (0, 0))) ∧ Aside0 (Below w.heap.size w wc))
  case first =>
   have H := HC6.out; clear HC6
   by_cases c11 : (wrap64 (rd l0 0)) < 1
   ·rw [if_pos c11] at H; have a7L := dt_ c11; clear c11; have H' := a_ H; clear H; have d65 := a5L.out; have d66 := a1v.out; obtain ⟨b3e, b3f, b7J, b3g, b3h, b7K⟩ := a1Z a0t.out
    go_wp2
    go_meet
    case rel => exact ⟨_, (true), (by rfl), H', ⟨by (omega)⟩, ⟨o8 (o8 (o8 a00.out a1v.out _) a1v.out _) a1v.out _⟩, ⟨l9 (l9 (l9 a0t.out 0 _ rfl) 1 _ rfl) 2 _ rfl⟩, ⟨by repeat (with_reducible first | exact HB.out | refine o7 ?_ c6s.out)⟩⟩
   ·rw [if_neg c11] at H; have a7L := df_ c11; clear c11; have H' := a_ H; clear H; have f5s := a5L.out; have f5t := a1v.out; obtain ⟨d1j, d1k, d1l, d1m, d1n, d1o⟩ := a1Z a0t.out
    go_wp2
    go_meet
    case rel => exact ⟨_, (decide ((wrap64 (rd l0 0)) > 7)), (by rfl), H', ⟨by (omega)⟩, ⟨o8 (o8 (o8 a00.out a1v.out _) a1v.out _) a1v.out _⟩, ⟨l9 (l9 (l9 a0t.out 0 _ rfl) 1 _ rfl) 2 _ rfl⟩, ⟨by repeat (with_reducible first | exact HB.out | refine o7 ?_ c6s.out)⟩⟩
  case rest =>
   clear HC6
   try clear c2
   try clear b2i
   try clear c3A
   try clear e3p
   try clear a5H
   try clear b1f
   try clear b3j
   try clear b3k
   try clear b3l
   try clear b3m
   try clear b3n
   try clear b3o
   try clear b5L
   try clear e3x
   try clear e3y
   obtain ⟨kq, d17, rfl, HA, HJ5, a00, a0t, HB⟩ := hcut
   cases kq with
   | zero => exact absurd HA.out (by simp [dump_Next.j0])
   | succ kj5 =>
    have H := HA.out; clear HA
    simp only [dump_Next.j0] at H
    by_cases c16 : d17 = true
    ·subst c16; rw [if_pos rfl] at H; obtain ⟨rfl, rfl, rfl, rfl, rfl⟩ := s5_ H; have f5b := a1v.out; have f5c := a5L.out; obtain ⟨c3J, c3K, e3z, c3M, c3N, e3A⟩ := a1Z a00.out
     go_wp2
     refine bodyPost_ret (a0f rfl _ _ a9m 58 #[.int .i64 0, .int .u32 0, .slice none 0 0] (0, 0) _ rfl (l9 (l9 (l9 a00.out 0 _ rfl) 1 _ rfl) 2 _ rfl) Tryd.underlying58 rfl (by kernel_rfl)) rfl ?_; exact ⟨_, by (rfl), by (exact Kd.Y2 _ _ _ _ _), by repeat (with_reducible first | exact HB.out | refine o7 ?_ b9z.out)⟩
    ·cases nt_ c16
     rw [if_neg a3X] at H; obtain ⟨a3y, c1k⟩ := si_ ((wrap64 (rd l0 0))); rw [c1k] at H
     (try simp only [c1k] at a0t)
     have e9Y : (IntKind.i64.wrap (rd l0 0)) = a3y := (a0J _).trans c1k; have b8I := a2x H; replace H := O5 H; have e6y := a2x H; replace H := O5 H; have e9Z := a_ H; clear H; have e6z := a5L.out; have e6A := a1v.out; have a8t : wc.cell? ⟨b31, 0, none⟩ = some (.int .i64 (a3y)) := (D6 a0t.out 0).trans (by rfl); have a8u := bc1 a0t; have b5n := bc2 a0t; have a8v := l7 a0t.out 0; have a8w := l7 a0t.out 1; have b5o := l7 a0t.out 2; have e3B : 0 ≤ ((a3y) : Int) := V5; have d71 : (a3y) < (H7.length : Int) := of_decide_eq_true (by (assumption)); obtain ⟨f6N, g68, b7W, b7X⟩ := a7z a5X.out (a3y) e3B d71; obtain rfl : (⟨0, 0, none⟩ : Addr) = f6N := (by injection g68)
     (simp only [add_plain] at b7W)
     (simp only [add_plain] at b7X)
     replace b7W := cb_ HB b7W; replace b7X := cb_ HB b7X; replace e3B := eq_true e3B; replace d71 := eq_true d71; have h0y : ((a3y) < 8) = True := d71
     go_upto_if 38 with (first | (refine be_ 6 #[.bool false, .int .i64 0] 131 ?_; intro b33 hg w25 hbox hb; have a2u := a_ hbox; have e6B := lb_ HB hg; obtain ⟨a5M, b0t⟩ := nn_ a00 hg; obtain ⟨a6y, b3s⟩ := nn_ a0t hg; replace a00 := X3 a00 hb; replace a0t := X3 a0t hb; replace HB := V3 HB hb; clear hb hbox hg; have f2G := b0t.out; have f2H := a5M.out; have f3a := b3s.out; have f3b := a6y.out; obtain ⟨b3a, b3b, b3c, b3d⟩ := a1B a2u.out))
     go_cut [8] (fun v8 wc => ∃ (kq : Nat) (a9n : Int), v8 = .int .i64 a9n ∧ Aside0 (dump_Next.j1 kq l0 1 a9n (a3y) 0 ((Q5 H7 (a3y)).f0) ((Q5 H7 (a3y)).f1) = some (r1, r2, r3, r4, r5)) ∧ Aside0 (kq ≤ kj5) ∧ Aside0 (wc.heap[a9m]? = some (.cells #[.int .i64 0, .int .u32 0, (.slice none 0 0)] 58 (0, 0))) ∧ Aside0 (wc.heap[b31]? = some (.cells #[.int .i64 (a3y), .int .u32 0, (.slice none 0 0)] 58 (0, 0))) ∧ Aside0 (wc.heap[b33]? = some (.cells #[.bool ((Q5 H7 (a3y)).f0), .int .i64 ((Q5 H7 (a3y)).f1)] 131 (0, 0))) ∧ Aside0 (Below w.heap.size w wc))
     case first =>
      have H := e9Z.out; clear e9Z; obtain ⟨g69, d72⟩ : ∃ b_ : Bool, b_ = ((Q5 H7 (a3y)).f0) := ⟨_, rfl⟩; rw [← d72] at H; have d73 := a_ d72; clear d72
      (try rw [← d73.out])
      by_cases c30 : g69 = true
      ·subst c30; rw [if_pos rfl] at H; have H' := a_ H; clear H
       go_wp2
       go_meet
       case rel => (try simp only [← d73.out]); exact ⟨_, (2), (by rfl), H', ⟨by have := HJ5.out; (omega)⟩, ⟨o8 (o8 a00.out a5M.out _) a5M.out _⟩, ⟨o8 (o8 a0t.out a6y.out _) a6y.out _⟩, ⟨l9 (l9 a2u.out 0 _ rfl) 1 _ rfl⟩, ⟨by repeat (with_reducible first | exact HB.out | refine o7 ?_ e6B.out)⟩⟩
      ·cases nt_ c30
       rw [if_neg a3X] at H; have H' := a_ H; clear H
       go_wp2
       go_meet
       case rel => (try simp only [← d73.out]); exact ⟨_, ((Q5 H7 (a3y)).f1), (by rfl), H', ⟨by have := HJ5.out; (omega)⟩, ⟨o8 (o8 a00.out a5M.out _) a5M.out _⟩, ⟨o8 (o8 a0t.out a6y.out _) a6y.out _⟩, ⟨l9 (l9 a2u.out 0 _ rfl) 1 _ rfl⟩, ⟨by repeat (with_reducible first | exact HB.out | refine o7 ?_ e6B.out)⟩⟩
     case rest =>
      clear e9Z
      try clear b8I
      try clear e6y
      try clear a8t
      try clear a8u
      try clear b5n
      try clear b3a
      try clear b3b
      try clear a8v
      try clear a8w
      try clear b5o
      try clear b3c
      try clear b3d
      try clear b7W
      try clear b7X
      try clear e3B
      try clear d71
      obtain ⟨kq, a9n, rfl, HA, h4G, a00, a0t, a2u, HB⟩ := hcut
      cases kq with
      | zero => exact absurd HA.out (by simp [dump_Next.j1])
      | succ e90 =>
       have H := HA.out; clear HA
       simp only [dump_Next.j1] at H
       obtain ⟨⟨b3A, t159⟩, A31, H⟩ := bd_ H
       try dsimp only at H
       by_cases c32 : t159 = true
       ·subst c32; rw [if_pos rfl] at H; obtain ⟨⟨t162, e91⟩, A33, H⟩ := bd_ H
        try dsimp only at H
        by_cases c34 : ((Q5 H7 (a3y)).f0) = true
        ·rw [if_pos c34] at H; have e6C : ((Q5 H7 (a3y)).f0) = true := c34; clear c34; obtain ⟨⟨t164, g7b⟩, A35, H⟩ := bd_ H
         try dsimp only at H
         by_cases c36 : g7b = true
         ·subst c36; rw [if_pos rfl] at H; obtain ⟨rfl, rfl, rfl, rfl, rfl⟩ := s5_ H
          go_wp2_with (first | (refine gl_ (some 43) Tryd.func80 #[.slice (some c1j) l0.length c0, .int .i64 1, .int .i64 a9n] ?_; (with_reducible refine (a2m.calls _ _ l0 1 a9n b3A true _ (Kd.y9 HR0.out HB.out) HC0.out A31.out).mono ?_); rintro e w37 ⟨v160, rfl, ho0, hb⟩; refine ⟨_, rfl, ?_⟩; have a4n := rl_ ho0 HB; replace a00 := X3 a00 hb; replace a0t := X3 a0t hb; replace a2u := X3 a2u hb; replace HB := V3 HB hb; (try clear hb); (try clear ho0); obtain ⟨f6O, f6P, g7c⟩ := Kd.G7 a4n.out; subst g7c) | (refine gl_ (some 51) Tryd.func83 #[.slice f6O b3A.length f6P, .bool true] ?_; (with_reducible refine (X4.calls e90 _ _ b3A true t162 e91 _ ((Kd.D9 a4n.out).2.2) ((Kd.D9 a4n.out).2.1) A33.out).mono ?_); rintro e w' ⟨rfl, ⟨nd, rfl⟩⟩; refine ⟨_, rfl, ?_⟩; (try (rw [a4v w37]; generalize hq_ : World.drewN w37 _ = w37; have n0_ : Aside0 (Kd.R (Kd.int .u8) 5 w37 w.heap.size (fun _ => True) (.slice f6O b3A.length f6P) b3A) := ⟨by rw [← hq_]; exact (by (with_reducible repeat (apply Kd.a06)); exact a4n.out)⟩; have n1_ : Aside0 (w37.heap[a9m]? = some (.cells #[.int .i64 0, .int .u32 0, .slice none 0 0] 58 (0, 0))) := ⟨by rw [← hq_]; exact (by (with_reducible repeat (refine Y7 ?_ _)); exact a00.out)⟩; have n2_ : Aside0 (w37.heap[b31]? = some (.cells #[.int .i64 (a3y), .int .u32 0, .slice none 0 0] 58 (0, 0))) := ⟨by rw [← hq_]; exact (by (with_reducible repeat (refine Y7 ?_ _)); exact a0t.out)⟩; have n3_ : Aside0 (w37.heap[b33]? = some (.cells #[.bool ((Q5 H7 (a3y)).f0), .int .i64 ((Q5 H7 (a3y)).f1)] 131 (0, 0))) := ⟨by rw [← hq_]; exact (by (with_reducible repeat (refine Y7 ?_ _)); exact a2u.out)⟩; have n4_ : Aside0 (Below w.heap.size w w37) := ⟨by rw [← hq_]; exact (by repeat (with_reducible first | exact HB.out | apply o9))⟩; clear a4n a00 a0t a2u HB hq_; have a4n := n0_; have a00 := n1_; have a0t := n2_; have a2u := n3_; have HB := n4_; clear n0_ n1_ n2_ n3_ n4_)); have f3f := b0t.out; have f3g := a5M.out; have e5g := b3s.out; have e5h := a6y.out; have c9R : w37.cell? ⟨b33, 0, none⟩ = some (.bool ((Q5 H7 (a3y)).f0)) := (D6 a2u.out 0).trans (by rfl); have c9S : w37.cell? ⟨b33, 1, none⟩ = some (.int .i64 ((Q5 H7 (a3y)).f1)) := (D6 a2u.out 1).trans (by rfl); have c9T := l7 a2u.out 0; have c9U := l7 a2u.out 1) | (refine gl_ (some 70) Tryd.func80 #[.slice (some c1j) l0.length c0, .int .i64 (wrap64 (1 + a9n)), .int .i64 (wrap64 (t162))] ?_; (with_reducible refine (a2m.calls _ _ l0 (wrap64 (1 + a9n)) (wrap64 (t162)) t164 true _ (Kd.y9 HR0.out HB.out) HC0.out A35.out).mono ?_); rintro e w42 ⟨g7d, rfl, ho0, hb⟩; refine ⟨_, rfl, ?_⟩; have d18 := rn_ ho0 a4n HB; replace a4n := rR_ a4n ho0 hb; replace a00 := X3 a00 hb; replace a0t := X3 a0t hb; replace a2u := X3 a2u hb; replace HB := V3 HB hb; (try clear hb); (try clear ho0); obtain ⟨e92, e93, g7e⟩ := Kd.G7 d18.out; subst g7e; have d0l := a5L.out; have d0m := a1v.out; have c2K : w42.cell? ⟨b31, 0, none⟩ = some (.int .i64 (a3y)) := (D6 a0t.out 0).trans (by rfl); have c2M := bc1 a0t; have d19 := bc2 a0t; have c2N := l7 a0t.out 0; have c2O := l7 a0t.out 1; have d2a := l7 a0t.out 2; obtain ⟨b7C, b7D, b7E, b7F, b7G, b7H⟩ := a1Z a00.out))
          refine bodyPost_ret (a0f rfl _ _ a9m 58 #[.int .i64 (a3y), .int .u32 0, .slice e92 t164.length e93] (0, 0) _ rfl (l9 (l9 (l9 (o8 a00.out a1v.out _) 0 _ rfl) 1 _ rfl) 2 _ rfl) Tryd.underlying58 rfl (by kernel_rfl)) rfl ?_; exact ⟨_, by (rfl), by exact Kd.D7 (Kd.U0 (p := ⟨a9m, 2, none⟩) (Kd.U0 (p := ⟨a9m, 1, none⟩) (Kd.U0 (p := ⟨a9m, 0, none⟩) (Kd.U0 (p := ⟨b31, 2, none⟩) (Kd.P8 (Kd.P8 d18.out a0t.out (by decide)) a00.out (by decide)) (fun _ hk => hk.1.2) (.slice e92 t164.length e93)) (fun _ hk => hk.2) (.int .i64 (a3y))) (fun _ hk => hk.2) (.int .u32 0)) (fun _ hk => hk.2) (.slice e92 t164.length e93)) (fun _ hk => trivial), by repeat (with_reducible first | exact HB.out | refine o7 ?_ b9z.out | refine o7 ?_ c6s.out)⟩
         ·cases nt_ c36
          rw [if_neg a3X] at H; obtain ⟨rfl, rfl, rfl, rfl, rfl⟩ := s5_ H
          go_wp2_with (first | (refine gl_ (some 43) Tryd.func80 #[.slice (some c1j) l0.length c0, .int .i64 1, .int .i64 a9n] ?_; (with_reducible refine (a2m.calls _ _ l0 1 a9n b3A true _ (Kd.y9 HR0.out HB.out) HC0.out A31.out).mono ?_); rintro e w47 ⟨v160, rfl, ho0, hb⟩; refine ⟨_, rfl, ?_⟩; have a4n := rl_ ho0 HB; replace a00 := X3 a00 hb; replace a0t := X3 a0t hb; replace a2u := X3 a2u hb; replace HB := V3 HB hb; (try clear hb); (try clear ho0); obtain ⟨e3C, d74, d75⟩ := Kd.G7 a4n.out; subst d75) | (refine gl_ (some 51) Tryd.func83 #[.slice e3C b3A.length d74, .bool true] ?_; (with_reducible refine (X4.calls e90 _ _ b3A true t162 e91 _ ((Kd.D9 a4n.out).2.2) ((Kd.D9 a4n.out).2.1) A33.out).mono ?_); rintro e w' ⟨rfl, ⟨nd, rfl⟩⟩; refine ⟨_, rfl, ?_⟩; (try (rw [a4v w47]; generalize hq_ : World.drewN w47 _ = w47; have n0_ : Aside0 (Kd.R (Kd.int .u8) 5 w47 w.heap.size (fun _ => True) (.slice e3C b3A.length d74) b3A) := ⟨by rw [← hq_]; exact (by (with_reducible repeat (apply Kd.a06)); exact a4n.out)⟩; have n1_ : Aside0 (w47.heap[a9m]? = some (.cells #[.int .i64 0, .int .u32 0, .slice none 0 0] 58 (0, 0))) := ⟨by rw [← hq_]; exact (by (with_reducible repeat (refine Y7 ?_ _)); exact a00.out)⟩; have n2_ : Aside0 (w47.heap[b31]? = some (.cells #[.int .i64 (a3y), .int .u32 0, .slice none 0 0] 58 (0, 0))) := ⟨by rw [← hq_]; exact (by (with_reducible repeat (refine Y7 ?_ _)); exact a0t.out)⟩; have n3_ : Aside0 (w47.heap[b33]? = some (.cells #[.bool ((Q5 H7 (a3y)).f0), .int .i64 ((Q5 H7 (a3y)).f1)] 131 (0, 0))) := ⟨by rw [← hq_]; exact (by (with_reducible repeat (refine Y7 ?_ _)); exact a2u.out)⟩; have n4_ : Aside0 (Below w.heap.size w w47) := ⟨by rw [← hq_]; exact (by repeat (with_reducible first | exact HB.out | apply o9))⟩; clear a4n a00 a0t a2u HB hq_; have a4n := n0_; have a00 := n1_; have a0t := n2_; have a2u := n3_; have HB := n4_; clear n0_ n1_ n2_ n3_ n4_)); have e5i := b0t.out; have e5j := a5M.out; have d5I := b3s.out; have d5J := a6y.out; have b7o : w47.cell? ⟨b33, 0, none⟩ = some (.bool ((Q5 H7 (a3y)).f0)) := (D6 a2u.out 0).trans (by rfl); have b7p : w47.cell? ⟨b33, 1, none⟩ = some (.int .i64 ((Q5 H7 (a3y)).f1)) := (D6 a2u.out 1).trans (by rfl); have b7q := l7 a2u.out 0; have b7r := l7 a2u.out 1) | (refine gl_ (some 70) Tryd.func80 #[.slice (some c1j) l0.length c0, .int .i64 (wrap64 (1 + a9n)), .int .i64 (wrap64 (t162))] ?_; (with_reducible refine (a2m.calls _ _ l0 (wrap64 (1 + a9n)) (wrap64 (t162)) t164 false _ (Kd.y9 HR0.out HB.out) HC0.out A35.out).mono ?_); rintro e w52 ⟨g7d, rfl, ho0, hb⟩; refine ⟨_, rfl, ?_⟩; have d18 := rn_ ho0 a4n HB; replace a4n := rR_ a4n ho0 hb; replace a00 := X3 a00 hb; replace a0t := X3 a0t hb; replace a2u := X3 a2u hb; replace HB := V3 HB hb; (try clear hb); (try clear ho0); obtain ⟨f2m, f2n, d5K⟩ := Kd.G7 d18.out; subst d5K; have h0A := a5L.out; have h0C := a1v.out; have g1D : w52.cell? ⟨b31, 0, none⟩ = some (.int .i64 (a3y)) := (D6 a0t.out 0).trans (by rfl); have g1E := bc1 a0t; have g1F := bc2 a0t; have g1G := l7 a0t.out 0; have g1H := l7 a0t.out 1; have g1I := l7 a0t.out 2; obtain ⟨c2s, c2t, d1w, c2u, c2w, d1x⟩ := a1Z a00.out))
          refine bodyPost_ret (a0f rfl _ _ a9m 58 #[.int .i64 0, .int .u32 0, .slice none 0 0] (0, 0) _ rfl (l9 (l9 (l9 (o8 a00.out a1v.out _) 0 _ rfl) 1 _ rfl) 2 _ rfl) Tryd.underlying58 rfl (by kernel_rfl)) rfl ?_; exact ⟨_, by (rfl), by (exact Kd.Y2 _ _ _ _ _), by repeat (with_reducible first | exact HB.out | refine o7 ?_ b9z.out | refine o7 ?_ c6s.out)⟩
        ·rw [if_neg c34] at H; have e6C : ((Q5 H7 (a3y)).f0) = false := by simpa using c34
         clear c34; obtain ⟨rfl, rfl, rfl, rfl, rfl⟩ := s5_ H
         go_wp2_with (first | (refine gl_ (some 43) Tryd.func80 #[.slice (some c1j) l0.length c0, .int .i64 1, .int .i64 a9n] ?_; (with_reducible refine (a2m.calls _ _ l0 1 a9n b3A true _ (Kd.y9 HR0.out HB.out) HC0.out A31.out).mono ?_); rintro e w57 ⟨v160, rfl, ho0, hb⟩; refine ⟨_, rfl, ?_⟩; have a4n := rl_ ho0 HB; replace a00 := X3 a00 hb; replace a0t := X3 a0t hb; replace a2u := X3 a2u hb; replace HB := V3 HB hb; (try clear hb); (try clear ho0); obtain ⟨f6Q, f6R, g7f⟩ := Kd.G7 a4n.out; subst g7f) | (refine gl_ (some 51) Tryd.func83 #[.slice f6Q b3A.length f6R, .bool true] ?_; (with_reducible refine (X4.calls e90 _ _ b3A true t162 e91 _ ((Kd.D9 a4n.out).2.2) ((Kd.D9 a4n.out).2.1) A33.out).mono ?_); rintro e w' ⟨rfl, ⟨nd, rfl⟩⟩; refine ⟨_, rfl, ?_⟩; (try (rw [a4v w57]; generalize hq_ : World.drewN w57 _ = w57; have n0_ : Aside0 (Kd.R (Kd.int .u8) 5 w57 w.heap.size (fun _ => True) (.slice f6Q b3A.length f6R) b3A) := ⟨by rw [← hq_]; exact (by (with_reducible repeat (apply Kd.a06)); exact a4n.out)⟩; have n1_ : Aside0 (w57.heap[a9m]? = some (.cells #[.int .i64 0, .int .u32 0, .slice none 0 0] 58 (0, 0))) := ⟨by rw [← hq_]; exact (by (with_reducible repeat (refine Y7 ?_ _)); exact a00.out)⟩; have n2_ : Aside0 (w57.heap[b31]? = some (.cells #[.int .i64 (a3y), .int .u32 0, .slice none 0 0] 58 (0, 0))) := ⟨by rw [← hq_]; exact (by (with_reducible repeat (refine Y7 ?_ _)); exact a0t.out)⟩; have n3_ : Aside0 (w57.heap[b33]? = some (.cells #[.bool ((Q5 H7 (a3y)).f0), .int .i64 ((Q5 H7 (a3y)).f1)] 131 (0, 0))) := ⟨by rw [← hq_]; exact (by (with_reducible repeat (refine Y7 ?_ _)); exact a2u.out)⟩; have n4_ : Aside0 (Below w.heap.size w w57) := ⟨by rw [← hq_]; exact (by repeat (with_reducible first | exact HB.out | apply o9))⟩; clear a4n a00 a0t a2u HB hq_; have a4n := n0_; have a00 := n1_; have a0t := n2_; have a2u := n3_; have HB := n4_; clear n0_ n1_ n2_ n3_ n4_)); have h0D := b0t.out; have h0E := a5M.out; have h0F := b3s.out; have h0G := a6y.out; have g1J : w57.cell? ⟨b33, 0, none⟩ = some (.bool ((Q5 H7 (a3y)).f0)) := (D6 a2u.out 0).trans (by rfl); have g1K : w57.cell? ⟨b33, 1, none⟩ = some (.int .i64 ((Q5 H7 (a3y)).f1)) := (D6 a2u.out 1).trans (by rfl); have g1L := l7 a2u.out 0; have g1M := l7 a2u.out 1; have e5P := a5L.out; have e5Q := a1v.out; have g1N : w57.cell? ⟨b31, 0, none⟩ = some (.int .i64 (a3y)) := (D6 a0t.out 0).trans (by rfl); have g1O := bc1 a0t; have g1P := bc2 a0t; have g1Q := l7 a0t.out 0; have g1R := l7 a0t.out 1; have g1S := l7 a0t.out 2; obtain ⟨d1y, d1z, d1A, d1B, d1C, d1D⟩ := a1Z a00.out))
         refine bodyPost_ret (a0f rfl _ _ a9m 58 #[.int .i64 (a3y), .int .u32 ((t162) % 4294967296), .slice none 0 0] (0, 0) _ rfl (l9 (l9 (l9 (o8 a00.out a1v.out _) 0 _ rfl) 1 _ rfl) 2 _ rfl) Tryd.underlying58 rfl (by kernel_rfl)) rfl ?_; exact ⟨_, by (rfl), by (exact Kd.Y2 _ _ _ _ _), by repeat (with_reducible first | exact HB.out | refine o7 ?_ b9z.out | refine o7 ?_ c6s.out)⟩
       ·cases nt_ c32
        rw [if_neg a3X] at H; obtain ⟨rfl, rfl, rfl, rfl, rfl⟩ := s5_ H
        go_wp2_with (first | (refine gl_ (some 43) Tryd.func80 #[.slice (some c1j) l0.length c0, .int .i64 1, .int .i64 a9n] ?_; (with_reducible refine (a2m.calls _ _ l0 1 a9n b3A false _ (Kd.y9 HR0.out HB.out) HC0.out A31.out).mono ?_); rintro e w65 ⟨v160, rfl, ho0, hb⟩; refine ⟨_, rfl, ?_⟩; have a4n := rl_ ho0 HB; replace a00 := X3 a00 hb; replace a0t := X3 a0t hb; replace a2u := X3 a2u hb; replace HB := V3 HB hb; (try clear hb); (try clear ho0); have h0H := a1v.out; have h0I := a5L.out; have h0J := a5M.out; have h0K := b0t.out; obtain ⟨g1T, g1U, g1V, g1W, g1X, g1Y⟩ := a1Z a00.out))
        refine bodyPost_ret (a0f rfl _ _ a9m 58 #[.int .i64 0, .int .u32 0, .slice none 0 0] (0, 0) _ rfl (l9 (l9 (l9 a00.out 0 _ rfl) 1 _ rfl) 2 _ rfl) Tryd.underlying58 rfl (by kernel_rfl)) rfl ?_; exact ⟨_, by (rfl), by (exact Kd.Y2 _ _ _ _ _), by repeat (with_reducible first | exact HB.out | refine o7 ?_ b9z.out)⟩

end Go.Proofs.YtgnonglkibhnhaaDoor.Print
