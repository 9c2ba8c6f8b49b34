import Derived.Test.YtgnonglkibhnhaaDoorM2
namespace Go.Proofs.YtgnonglkibhnhaaDoor.Print
open Go.RowKit Go.Proofs.YtgnonglkibhnhaaDoorW.PrintWords Go.Proofs.YtgnonglkibhnhaaDoorW.PrintLast Go.Proofs.YtgnonglkibhnhaaDoorW.PrintMore
attribute [local go_sem] a0n a0o a0P a0Q Y4 Y5 a0p a0q
set_option linter.unusedVariables false
set_option linter.unusedSimpArgs false

/-! ### dump_Next: function 64 -/
mutual
def dump_Next.j0 : Nat → List Int → Bool → Int → Int → Option (Int × Int × List Int × Int × Int)
 | 0, _, _, _, _ => none
 | k + 1, x0, x29, a5A, b7i => if x29 = true then (some (0, 0, ([] : List Int), 0, 7)) else (if 0 ≤ a5A then (if a5A < 8 then (if (P7 H6 a5A).f0 = true then (dump_Next.j1 k x0 1 2 a5A b7i ((P7 H6 a5A).f0) ((P7 H6 a5A).f1)) else (dump_Next.j1 k x0 1 ((P7 H6 a5A).f1) a5A b7i ((P7 H6 a5A).f0) ((P7 H6 a5A).f1))) else (none)) else (none))
def dump_Next.j1 : Nat → List Int → Int → Int → Int → Int → Bool → Int → Option (Int × Int × List Int × Int × Int)
 | 0, _, _, _, _, _, _, _ => none
 | k + 1, x0, x7, x8, a5A, b7i, e1J, f9m => (a2c.f x0 x7 x8).bind fun e4l => (if e4l.2 = true then ((X3.f k e4l.1 true).bind fun d6v => (if e1J = true then ((a2c.f x0 (wrap64 (x7 + x8)) (wrap64 (d6v.1))).bind fun e4m => (if e4m.2 = true then (some (a5A, b7i, e4m.1, wrap64 ((wrap64 (x7 + x8)) + (wrap64 (d6v.1))), 0)) else (some (0, 0, ([] : List Int), 0, 2)))) else (some (a5A, (d6v.1) % 4294967296, ([] : List Int), wrap64 (x7 + x8), 0)))) else (some (0, 0, ([] : List Int), 0, 2)))
end
def dump_Next.f (k : Nat) (l0 : List Int) : Option (Int × Int × List Int × Int × Int) := if (l0.length : Int) = 0 then (some (0, 0, ([] : List Int), 0, 2)) else (if 0 < (l0.length : Int) then (if (wrap64 (rd l0 0)) < 1 then (dump_Next.j0 k l0 true (wrap64 (rd l0 0)) 0) else (dump_Next.j0 k l0 (decide ((wrap64 (rd l0 0)) > 7)) (wrap64 (rd l0 0)) 0)) else (none))
set_option maxHeartbeats 8000000 in
set_option maxRecDepth 100000 in
theorem dump_Next.calls (k : Nat) (A0 : Option Addr) (c0 : Nat) (l0 : List Int) (r1 : Int) (r2 : Int) (r3 : List Int) (r4 : Int) (r5 : Int) (w : World) (hG0 : Kd.C b3v w (some ⟨0, 0, none⟩) 8 H6) (hr0 : Kd.C (Kd.int .u8) w A0 l0.length l0) (hc0 : l0.length ≤ c0) (h : dump_Next.f k l0 = some (r1, r2, r3, r4, r5)) :
  Calls Tryd.prog 64 #[.slice A0 l0.length c0] w fun e w' => ∃ v2_ : Value, e = .returned (.tuple #[.agg #[.int .i64 r1, .int .u32 r2, v2_], .int .i64 r4, .int .i64 r5]) ∧ Kd.R (Kd.int .u8) 5 w' w.heap.size (fun _ => True) v2_ r3 ∧ Below w.heap.size w w' := by
 have c6F := Tryd.underlying58
 have e2Y := Tryd.underlying131
 have HR0 := a_ hr0
 have HC0 := a_ hc0
 clear hr0 hc0
 have a5T := a_ hG0
 clear hG0
 have HB := a_ (Below.refl w.heap.size w)
 have H := h
 clear h
 unfold dump_Next.f at H
 by_cases c2 : (l0.length : Int) = 0
 ·rw [if_pos c2] at H; obtain ⟨b1A, c2x⟩ := bt_ c2; clear c2; obtain ⟨rfl, rfl, rfl, rfl, rfl⟩ := s5_ H
  go_enter Tryd.func64, Tryd.ntmps64
  go_wp2_with (first | (refine be_ 2 #[.int .i64 0, .int .u32 0, .slice none 0 0] 58 ?_; intro a8X hg w3 hbox hb; have a0W := a_ hbox; have b8U := lb_ HB hg; replace HB := U9 HB hb; clear hb hbox hg; obtain ⟨c67, c68, c69, c7a, c7b, c7c⟩ := a1R a0W.out))
  refine bodyPost_ret (a0f rfl _ _ a8X 58 #[.int .i64 0, .int .u32 0, .slice none 0 0] (0, 0) _ rfl (l9 (l9 (l9 a0W.out 0 _ rfl) 1 _ rfl) 2 _ rfl) Tryd.underlying58 rfl (by kernel_rfl)) rfl ?_; exact ⟨_, by (rfl), by (exact Kd.Y1 _ _ _ _ _), by repeat (with_reducible first | exact HB.out | refine o7 ?_ b8U.out)⟩
 ·rw [if_neg c2] at H; have b1A := bq_ c2; have c2x := bn_ c2; have e1y : ¬ (l0 = []) := fun h_ => c2 (by rw [h_]; rfl)
  have c5 := Z7 H; replace H := O5 H; have a5y := dt_ c5; have b0H : decide (0 < l0.length) = true := dt_ (by omega); clear c5; have HC6 := a_ H; clear H
  go_enter Tryd.func64, Tryd.ntmps64
  go_upto_region 4 with (first | (refine be_ 2 #[.int .i64 0, .int .u32 0, .slice none 0 0] 58 ?_; intro a8X hg w7 hbox hb; have a0W := a_ hbox; have b8U := lb_ HB hg; replace HB := U9 HB hb; clear hb hbox hg; have e1K : 0 ≤ (0 : Int) := (by omega); have e1L : 0 < (l0.length : Int) := V9; obtain ⟨c0t, e154, b49⟩ := Kd.Q8 HR0.out 0 e1K e1L; cases e154; have g74 : (0 < l0.length) = True := eq_true (by omega); (try rw [show (0 : Int).toNat = 0 from rfl] at b49); (try rw [Addr.add_zero'] at b49); replace b49 := cb_ HB b49; replace e1K := eq_true e1K; replace e1L := eq_true e1L) | (refine be_ 5 #[.int .i64 0, .int .u32 0, .slice none 0 0] 58 ?_; intro b3r hg w8 hbox hb; have a0s := a_ hbox; have c5o := lb_ HB hg; obtain ⟨a1l, a5B⟩ := nn_ a0W hg; replace a0W := X4 a0W hb; replace HB := U9 HB hb; clear hb hbox hg; have f1W := a5B.out; have f1X := a1l.out; obtain ⟨b2D, b2E, b2F, b2G, b2H, b2I⟩ := a1R a0s.out))
  go_cut [29] (fun v29 wc => ∃ (kq : Nat) (d0C : Bool), v29 = .bool d0C ∧ Aside0 (dump_Next.j0 kq l0 d0C (wrap64 (rd l0 0)) 0 = some (r1, r2, r3, r4, r5)) ∧ Aside0 (kq ≤ k) ∧ Aside0 (wc.heap[a8X]? = some (.cells #[.int .i64 0, .int .u32 0, (.slice none 0 0)] 58 (0, 0))) ∧ Aside0 (wc.heap[b3r]? = some (.cells #[.int .i64 (wrap64 (rd l0 0)), .int .u32 0, (.slice none 0 0)] 58 (0, 0))) ∧ Aside0 (Below w.heap.size w wc))
  case first =>
   have H := HC6.out; clear HC6
   by_cases c11 : (wrap64 (rd l0 0)) < 1
   ·rw [if_pos c11] at H; have a7B := dt_ c11; clear c11; have H' := a_ H; clear H; have d5B := a5B.out; have d5C := a1l.out; obtain ⟨b2y, b2z, b62, b2A, b2B, b63⟩ := a1R a0s.out
    go_wp2
    go_meet
    case rel => exact ⟨_, (true), (by rfl), H', ⟨by (omega)⟩, ⟨o8 (o8 (o8 a0W.out a1l.out _) a1l.out _) a1l.out _⟩, ⟨l9 (l9 (l9 a0s.out 0 _ rfl) 1 _ rfl) 2 _ rfl⟩, ⟨by repeat (with_reducible first | exact HB.out | refine o7 ?_ c5o.out)⟩⟩
   ·rw [if_neg c11] at H; have a7B := df_ c11; clear c11; have H' := a_ H; clear H; have f2W := a5B.out; have f2X := a1l.out; obtain ⟨c9U, c9V, c9W, c9X, c9Y, c9Z⟩ := a1R a0s.out
    go_wp2
    go_meet
    case rel => exact ⟨_, (decide ((wrap64 (rd l0 0)) > 7)), (by rfl), H', ⟨by (omega)⟩, ⟨o8 (o8 (o8 a0W.out a1l.out _) a1l.out _) a1l.out _⟩, ⟨l9 (l9 (l9 a0s.out 0 _ rfl) 1 _ rfl) 2 _ rfl⟩, ⟨by repeat (with_reducible first | exact HB.out | refine o7 ?_ c5o.out)⟩⟩
  case rest =>
   clear HC6
   try clear c2
   try clear b1A
   try clear c2x
   try clear e1y
   try clear a5y
   try clear b0H
   try clear b2D
   try clear b2E
   try clear b2F
   try clear b2G
   try clear b2H
   try clear b2I
   try clear b49
   try clear e1K
   try clear e1L
   obtain ⟨kq, d0C, rfl, HA, HJ5, a0W, a0s, HB⟩ := hcut
   cases kq with
   | zero => exact absurd HA.out (by simp [dump_Next.j0])
   | succ kj5 =>
    have H := HA.out; clear HA
    simp only [dump_Next.j0] at H
    by_cases c16 : d0C = true
    ·subst c16; rw [if_pos rfl] at H; obtain ⟨rfl, rfl, rfl, rfl, rfl⟩ := s5_ H; have f2H := a1l.out; have f2I := a5B.out; obtain ⟨c2G, c2H, e1M, c2I, c2J, e1N⟩ := a1R a0W.out
     go_wp2
     refine bodyPost_ret (a0f rfl _ _ a8X 58 #[.int .i64 0, .int .u32 0, .slice none 0 0] (0, 0) _ rfl (l9 (l9 (l9 a0W.out 0 _ rfl) 1 _ rfl) 2 _ rfl) Tryd.underlying58 rfl (by kernel_rfl)) rfl ?_; exact ⟨_, by (rfl), by (exact Kd.Y1 _ _ _ _ _), by repeat (with_reducible first | exact HB.out | refine o7 ?_ b8U.out)⟩
    ·cases nt_ c16
     rw [if_neg a3S] at H; obtain ⟨a3u, c0u⟩ := si_ ((wrap64 (rd l0 0))); rw [c0u] at H
     (try simp only [c0u] at a0s)
     have e73 : (IntKind.i64.wrap (rd l0 0)) = a3u := (a0I _).trans c0u; have b74 := a2z H; replace H := O5 H; have e4n := a2z H; replace H := O5 H; have e74 := a_ H; clear H; have f4t := a5B.out; have f4u := a1l.out; have b0A : wc.cell? ⟨b3r, 0, none⟩ = some (.int .i64 (a3u)) := (D6 a0s.out 0).trans (by rfl); have b0B := bc1 a0s; have b4H := bc2 a0s; have b0C := l7 a0s.out 0; have b0D := l7 a0s.out 1; have b4I := l7 a0s.out 2; have e1O : 0 ≤ ((a3u) : Int) := V9; have d6x : (a3u) < (H6.length : Int) := of_decide_eq_true (by (assumption)); obtain ⟨f4v, g43, b7j, b7k⟩ := a7p a5T.out (a3u) e1O d6x; obtain rfl : (⟨0, 0, none⟩ : Addr) = f4v := (by injection g43)
     (simp only [add_plain] at b7j)
     (simp only [add_plain] at b7k)
     replace b7j := cb_ HB b7j; replace b7k := cb_ HB b7k; replace e1O := eq_true e1O; replace d6x := eq_true d6x; have g75 : ((a3u) < 8) = True := d6x
     go_upto_if 38 with (first | (refine be_ 6 #[.bool false, .int .i64 0] 131 ?_; intro b3s hg w25 hbox hb; have a2n := a_ hbox; have e4o := lb_ HB hg; obtain ⟨a5C, a97⟩ := nn_ a0W hg; obtain ⟨a6p, b2M⟩ := nn_ a0s hg; replace a0W := X4 a0W hb; replace a0s := X4 a0s hb; replace HB := U9 HB hb; clear hb hbox hg; have e3c := a97.out; have e3d := a5C.out; have f0J := b2M.out; have f0K := a6p.out; obtain ⟨b2u, b2v, b2w, b2x⟩ := a1p a2n.out))
     go_cut [8] (fun v8 wc => ∃ (kq : Nat) (a8Y : Int), v8 = .int .i64 a8Y ∧ Aside0 (dump_Next.j1 kq l0 1 a8Y (a3u) 0 ((P7 H6 (a3u)).f0) ((P7 H6 (a3u)).f1) = some (r1, r2, r3, r4, r5)) ∧ Aside0 (kq ≤ kj5) ∧ Aside0 (wc.heap[a8X]? = some (.cells #[.int .i64 0, .int .u32 0, (.slice none 0 0)] 58 (0, 0))) ∧ Aside0 (wc.heap[b3r]? = some (.cells #[.int .i64 (a3u), .int .u32 0, (.slice none 0 0)] 58 (0, 0))) ∧ Aside0 (wc.heap[b3s]? = some (.cells #[.bool ((P7 H6 (a3u)).f0), .int .i64 ((P7 H6 (a3u)).f1)] 131 (0, 0))) ∧ Aside0 (Below w.heap.size w wc))
     case first =>
      have H := e74.out; clear e74; obtain ⟨g44, d6y⟩ : ∃ b_ : Bool, b_ = ((P7 H6 (a3u)).f0) := ⟨_, rfl⟩; rw [← d6y] at H; have d6z := a_ d6y; clear d6y
      (try rw [← d6z.out])
      by_cases c30 : g44 = true
      ·subst c30; rw [if_pos rfl] at H; have H' := a_ H; clear H
       go_wp2
       go_meet
       case rel => (try simp only [← d6z.out]); exact ⟨_, (2), (by rfl), H', ⟨by have := HJ5.out; (omega)⟩, ⟨o8 (o8 a0W.out a5C.out _) a5C.out _⟩, ⟨o8 (o8 a0s.out a6p.out _) a6p.out _⟩, ⟨l9 (l9 a2n.out 0 _ rfl) 1 _ rfl⟩, ⟨by repeat (with_reducible first | exact HB.out | refine o7 ?_ e4o.out)⟩⟩
      ·cases nt_ c30
       rw [if_neg a3S] at H; have H' := a_ H; clear H
       go_wp2
       go_meet
       case rel => (try simp only [← d6z.out]); exact ⟨_, ((P7 H6 (a3u)).f1), (by rfl), H', ⟨by have := HJ5.out; (omega)⟩, ⟨o8 (o8 a0W.out a5C.out _) a5C.out _⟩, ⟨o8 (o8 a0s.out a6p.out _) a6p.out _⟩, ⟨l9 (l9 a2n.out 0 _ rfl) 1 _ rfl⟩, ⟨by repeat (with_reducible first | exact HB.out | refine o7 ?_ e4o.out)⟩⟩
     case rest =>
      clear e74
      try clear b74
      try clear e4n
      try clear b0A
      try clear b0B
      try clear b4H
      try clear b2u
      try clear b2v
      try clear b0C
      try clear b0D
      try clear b4I
      try clear b2w
      try clear b2x
      try clear b7j
      try clear b7k
      try clear e1O
      try clear d6x
      obtain ⟨kq, a8Y, rfl, HA, h1J, a0W, a0s, a2n, HB⟩ := hcut
      cases kq with
      | zero => exact absurd HA.out (by simp [dump_Next.j1])
      | succ e75 =>
       have H := HA.out; clear HA
       simp only [dump_Next.j1] at H
       obtain ⟨⟨b2V, t159⟩, A31, H⟩ := bd_ H
       try dsimp only at H
       by_cases c32 : t159 = true
       ·subst c32; rw [if_pos rfl] at H; obtain ⟨⟨t162, e76⟩, A33, H⟩ := bd_ H
        try dsimp only at H
        by_cases c34 : ((P7 H6 (a3u)).f0) = true
        ·rw [if_pos c34] at H; have e4p : ((P7 H6 (a3u)).f0) = true := c34; clear c34; obtain ⟨⟨t164, g46⟩, A35, H⟩ := bd_ H
         try dsimp only at H
         by_cases c36 : g46 = true
         ·subst c36; rw [if_pos rfl] at H; obtain ⟨rfl, rfl, rfl, rfl, rfl⟩ := s5_ H
          go_wp2_with (first | (refine gl_ (some 43) Tryd.func80 #[.slice (some c0t) l0.length c0, .int .i64 1, .int .i64 a8Y] ?_; (with_reducible refine (a2c.calls _ _ l0 1 a8Y b2V true _ (Kd.C9 HR0.out HB.out) HC0.out A31.out).mono ?_); rintro e w37 ⟨v160, rfl, ho0, hb⟩; refine ⟨_, rfl, ?_⟩; have a4i := rl_ ho0 HB; replace a0W := X4 a0W hb; replace a0s := X4 a0s hb; replace a2n := X4 a2n hb; replace HB := U9 HB hb; (try clear hb); (try clear ho0); obtain ⟨f4w, f4x, g49⟩ := Kd.G7 a4i.out; subst g49) | (refine gl_ (some 51) Tryd.func83 #[.slice f4w b2V.length f4x, .bool true] ?_; (with_reducible refine (X3.calls e75 _ _ b2V true t162 e76 _ ((Kd.E8 a4i.out).2.2) ((Kd.E8 a4i.out).2.1) A33.out).mono ?_); rintro e w' ⟨rfl, ⟨nd, rfl⟩⟩; refine ⟨_, rfl, ?_⟩; (try (rw [a4r w37]; generalize hq_ : World.drewN w37 _ = w37; have n0_ : Aside0 (Kd.R (Kd.int .u8) 5 w37 w.heap.size (fun _ => True) (.slice f4w b2V.length f4x) b2V) := ⟨by rw [← hq_]; exact (by (with_reducible repeat (apply Kd.a1g)); exact a4i.out)⟩; have n1_ : Aside0 (w37.heap[a8X]? = some (.cells #[.int .i64 0, .int .u32 0, .slice none 0 0] 58 (0, 0))) := ⟨by rw [← hq_]; exact (by (with_reducible repeat (refine Y6 ?_ _)); exact a0W.out)⟩; have n2_ : Aside0 (w37.heap[b3r]? = some (.cells #[.int .i64 (a3u), .int .u32 0, .slice none 0 0] 58 (0, 0))) := ⟨by rw [← hq_]; exact (by (with_reducible repeat (refine Y6 ?_ _)); exact a0s.out)⟩; have n3_ : Aside0 (w37.heap[b3s]? = some (.cells #[.bool ((P7 H6 (a3u)).f0), .int .i64 ((P7 H6 (a3u)).f1)] 131 (0, 0))) := ⟨by rw [← hq_]; exact (by (with_reducible repeat (refine Y6 ?_ _)); exact a2n.out)⟩; have n4_ : Aside0 (Below w.heap.size w w37) := ⟨by rw [← hq_]; exact (by repeat (with_reducible first | exact HB.out | apply o9))⟩; clear a4i a0W a0s a2n HB hq_; have a4i := n0_; have a0W := n1_; have a0s := n2_; have a2n := n3_; have HB := n4_; clear n0_ n1_ n2_ n3_ n4_)); have f0P := a97.out; have f0Q := a5C.out; have e95 := b2M.out; have e96 := a6p.out; have c8y : w37.cell? ⟨b3s, 0, none⟩ = some (.bool ((P7 H6 (a3u)).f0)) := (D6 a2n.out 0).trans (by rfl); have c8A : w37.cell? ⟨b3s, 1, none⟩ = some (.int .i64 ((P7 H6 (a3u)).f1)) := (D6 a2n.out 1).trans (by rfl); have c8B := l7 a2n.out 0; have c8C := l7 a2n.out 1) | (refine gl_ (some 70) Tryd.func80 #[.slice (some c0t) l0.length c0, .int .i64 (wrap64 (1 + a8Y)), .int .i64 (wrap64 (t162))] ?_; (with_reducible refine (a2c.calls _ _ l0 (wrap64 (1 + a8Y)) (wrap64 (t162)) t164 true _ (Kd.C9 HR0.out HB.out) HC0.out A35.out).mono ?_); rintro e w42 ⟨g5a, rfl, ho0, hb⟩; refine ⟨_, rfl, ?_⟩; have d0D := rn_ ho0 a4i HB; replace a4i := rR_ a4i ho0 hb; replace a0W := X4 a0W hb; replace a0s := X4 a0s hb; replace a2n := X4 a2n hb; replace HB := U9 HB hb; (try clear hb); (try clear ho0); obtain ⟨e77, e78, g5b⟩ := Kd.G7 d0D.out; subst g5b; have c82 := a5B.out; have c83 := a1l.out; have c1B : w42.cell? ⟨b3r, 0, none⟩ = some (.int .i64 (a3u)) := (D6 a0s.out 0).trans (by rfl); have c1C := bc1 a0s; have d0E := bc2 a0s; have c1E := l7 a0s.out 0; have c1F := l7 a0s.out 1; have d0F := l7 a0s.out 2; obtain ⟨b6V, b6W, b6X, b6Y, b6Z, b60⟩ := a1R a0W.out))
          refine bodyPost_ret (a0f rfl _ _ a8X 58 #[.int .i64 (a3u), .int .u32 0, .slice e77 t164.length e78] (0, 0) _ rfl (l9 (l9 (l9 (o8 a0W.out a1l.out _) 0 _ rfl) 1 _ rfl) 2 _ rfl) Tryd.underlying58 rfl (by kernel_rfl)) rfl ?_; exact ⟨_, by (rfl), by exact Kd.D7 (Kd.V3 (p := ⟨a8X, 2, none⟩) (Kd.V3 (p := ⟨a8X, 1, none⟩) (Kd.V3 (p := ⟨a8X, 0, none⟩) (Kd.V3 (p := ⟨b3r, 2, none⟩) (Kd.U2 (Kd.U2 d0D.out a0s.out (by decide)) a0W.out (by decide)) (fun _ hk => hk.1.2) (.slice e77 t164.length e78)) (fun _ hk => hk.2) (.int .i64 (a3u))) (fun _ hk => hk.2) (.int .u32 0)) (fun _ hk => hk.2) (.slice e77 t164.length e78)) (fun _ hk => trivial), by repeat (with_reducible first | exact HB.out | refine o7 ?_ b8U.out | refine o7 ?_ c5o.out)⟩
         ·cases nt_ c36
          rw [if_neg a3S] at H; obtain ⟨rfl, rfl, rfl, rfl, rfl⟩ := s5_ H
          go_wp2_with (first | (refine gl_ (some 43) Tryd.func80 #[.slice (some c0t) l0.length c0, .int .i64 1, .int .i64 a8Y] ?_; (with_reducible refine (a2c.calls _ _ l0 1 a8Y b2V true _ (Kd.C9 HR0.out HB.out) HC0.out A31.out).mono ?_); rintro e w47 ⟨v160, rfl, ho0, hb⟩; refine ⟨_, rfl, ?_⟩; have a4i := rl_ ho0 HB; replace a0W := X4 a0W hb; replace a0s := X4 a0s hb; replace a2n := X4 a2n hb; replace HB := U9 HB hb; (try clear hb); (try clear ho0); obtain ⟨e1P, e1Q, e79⟩ := Kd.G7 a4i.out; subst e79) | (refine gl_ (some 51) Tryd.func83 #[.slice e1P b2V.length e1Q, .bool true] ?_; (with_reducible refine (X3.calls e75 _ _ b2V true t162 e76 _ ((Kd.E8 a4i.out).2.2) ((Kd.E8 a4i.out).2.1) A33.out).mono ?_); rintro e w' ⟨rfl, ⟨nd, rfl⟩⟩; refine ⟨_, rfl, ?_⟩; (try (rw [a4r w47]; generalize hq_ : World.drewN w47 _ = w47; have n0_ : Aside0 (Kd.R (Kd.int .u8) 5 w47 w.heap.size (fun _ => True) (.slice e1P b2V.length e1Q) b2V) := ⟨by rw [← hq_]; exact (by (with_reducible repeat (apply Kd.a1g)); exact a4i.out)⟩; have n1_ : Aside0 (w47.heap[a8X]? = some (.cells #[.int .i64 0, .int .u32 0, .slice none 0 0] 58 (0, 0))) := ⟨by rw [← hq_]; exact (by (with_reducible repeat (refine Y6 ?_ _)); exact a0W.out)⟩; have n2_ : Aside0 (w47.heap[b3r]? = some (.cells #[.int .i64 (a3u), .int .u32 0, .slice none 0 0] 58 (0, 0))) := ⟨by rw [← hq_]; exact (by (with_reducible repeat (refine Y6 ?_ _)); exact a0s.out)⟩; have n3_ : Aside0 (w47.heap[b3s]? = some (.cells #[.bool ((P7 H6 (a3u)).f0), .int .i64 ((P7 H6 (a3u)).f1)] 131 (0, 0))) := ⟨by rw [← hq_]; exact (by (with_reducible repeat (refine Y6 ?_ _)); exact a2n.out)⟩; have n4_ : Aside0 (Below w.heap.size w w47) := ⟨by rw [← hq_]; exact (by repeat (with_reducible first | exact HB.out | apply o9))⟩; clear a4i a0W a0s a2n HB hq_; have a4i := n0_; have a0W := n1_; have a0s := n2_; have a2n := n3_; have HB := n4_; clear n0_ n1_ n2_ n3_ n4_)); have e2V := a97.out; have e2W := a5C.out; have d4g := b2M.out; have d4h := a6p.out; have b6N : w47.cell? ⟨b3s, 0, none⟩ = some (.bool ((P7 H6 (a3u)).f0)) := (D6 a2n.out 0).trans (by rfl); have b6O : w47.cell? ⟨b3s, 1, none⟩ = some (.int .i64 ((P7 H6 (a3u)).f1)) := (D6 a2n.out 1).trans (by rfl); have b6P := l7 a2n.out 0; have b6Q := l7 a2n.out 1) | (refine gl_ (some 70) Tryd.func80 #[.slice (some c0t) l0.length c0, .int .i64 (wrap64 (1 + a8Y)), .int .i64 (wrap64 (t162))] ?_; (with_reducible refine (a2c.calls _ _ l0 (wrap64 (1 + a8Y)) (wrap64 (t162)) t164 false _ (Kd.C9 HR0.out HB.out) HC0.out A35.out).mono ?_); rintro e w52 ⟨g5a, rfl, ho0, hb⟩; refine ⟨_, rfl, ?_⟩; have d0D := rn_ ho0 a4i HB; replace a4i := rR_ a4i ho0 hb; replace a0W := X4 a0W hb; replace a0s := X4 a0s hb; replace a2n := X4 a2n hb; replace HB := U9 HB hb; (try clear hb); (try clear ho0); obtain ⟨g0B, g0C, e5z⟩ := Kd.G7 d0D.out; subst e5z; have g76 := a5B.out; have g77 := a1l.out; have f9o : w52.cell? ⟨b3r, 0, none⟩ = some (.int .i64 (a3u)) := (D6 a0s.out 0).trans (by rfl); have f9p := bc1 a0s; have f9q := bc2 a0s; have f9r := l7 a0s.out 0; have f9s := l7 a0s.out 1; have f9t := l7 a0s.out 2; obtain ⟨c1o, c1p, c99, c1q, c1r, d0a⟩ := a1R a0W.out))
          refine bodyPost_ret (a0f rfl _ _ a8X 58 #[.int .i64 0, .int .u32 0, .slice none 0 0] (0, 0) _ rfl (l9 (l9 (l9 (o8 a0W.out a1l.out _) 0 _ rfl) 1 _ rfl) 2 _ rfl) Tryd.underlying58 rfl (by kernel_rfl)) rfl ?_; exact ⟨_, by (rfl), by (exact Kd.Y1 _ _ _ _ _), by repeat (with_reducible first | exact HB.out | refine o7 ?_ b8U.out | refine o7 ?_ c5o.out)⟩
        ·rw [if_neg c34] at H; have e4p : ((P7 H6 (a3u)).f0) = false := by simpa using c34
         clear c34; obtain ⟨rfl, rfl, rfl, rfl, rfl⟩ := s5_ H
         go_wp2_with (first | (refine gl_ (some 43) Tryd.func80 #[.slice (some c0t) l0.length c0, .int .i64 1, .int .i64 a8Y] ?_; (with_reducible refine (a2c.calls _ _ l0 1 a8Y b2V true _ (Kd.C9 HR0.out HB.out) HC0.out A31.out).mono ?_); rintro e w57 ⟨v160, rfl, ho0, hb⟩; refine ⟨_, rfl, ?_⟩; have a4i := rl_ ho0 HB; replace a0W := X4 a0W hb; replace a0s := X4 a0s hb; replace a2n := X4 a2n hb; replace HB := U9 HB hb; (try clear hb); (try clear ho0); obtain ⟨f4y, f4z, g5c⟩ := Kd.G7 a4i.out; subst g5c) | (refine gl_ (some 51) Tryd.func83 #[.slice f4y b2V.length f4z, .bool true] ?_; (with_reducible refine (X3.calls e75 _ _ b2V true t162 e76 _ ((Kd.E8 a4i.out).2.2) ((Kd.E8 a4i.out).2.1) A33.out).mono ?_); rintro e w' ⟨rfl, ⟨nd, rfl⟩⟩; refine ⟨_, rfl, ?_⟩; (try (rw [a4r w57]; generalize hq_ : World.drewN w57 _ = w57; have n0_ : Aside0 (Kd.R (Kd.int .u8) 5 w57 w.heap.size (fun _ => True) (.slice f4y b2V.length f4z) b2V) := ⟨by rw [← hq_]; exact (by (with_reducible repeat (apply Kd.a1g)); exact a4i.out)⟩; have n1_ : Aside0 (w57.heap[a8X]? = some (.cells #[.int .i64 0, .int .u32 0, .slice none 0 0] 58 (0, 0))) := ⟨by rw [← hq_]; exact (by (with_reducible repeat (refine Y6 ?_ _)); exact a0W.out)⟩; have n2_ : Aside0 (w57.heap[b3r]? = some (.cells #[.int .i64 (a3u), .int .u32 0, .slice none 0 0] 58 (0, 0))) := ⟨by rw [← hq_]; exact (by (with_reducible repeat (refine Y6 ?_ _)); exact a0s.out)⟩; have n3_ : Aside0 (w57.heap[b3s]? = some (.cells #[.bool ((P7 H6 (a3u)).f0), .int .i64 ((P7 H6 (a3u)).f1)] 131 (0, 0))) := ⟨by rw [← hq_]; exact (by (with_reducible repeat (refine Y6 ?_ _)); exact a2n.out)⟩; have n4_ : Aside0 (Below w.heap.size w w57) := ⟨by rw [← hq_]; exact (by repeat (with_reducible first | exact HB.out | apply o9))⟩; clear a4i a0W a0s a2n HB hq_; have a4i := n0_; have a0W := n1_; have a0s := n2_; have a2n := n3_; have HB := n4_; clear n0_ n1_ n2_ n3_ n4_)); have g78 := a97.out; have g79 := a5C.out; have g8a := b2M.out; have g8b := a6p.out; have f9u : w57.cell? ⟨b3s, 0, none⟩ = some (.bool ((P7 H6 (a3u)).f0)) := (D6 a2n.out 0).trans (by rfl); have f9v : w57.cell? ⟨b3s, 1, none⟩ = some (.int .i64 ((P7 H6 (a3u)).f1)) := (D6 a2n.out 1).trans (by rfl); have f9w := l7 a2n.out 0; have f9x := l7 a2n.out 1; have e3D := a5B.out; have e3E := a1l.out; have f9y : w57.cell? ⟨b3r, 0, none⟩ = some (.int .i64 (a3u)) := (D6 a0s.out 0).trans (by rfl); have f9z := bc1 a0s; have f9A := bc2 a0s; have f9B := l7 a0s.out 0; have f9C := l7 a0s.out 1; have f9D := l7 a0s.out 2; obtain ⟨d0b, d0c, d0d, d0e, d0f, d0g⟩ := a1R a0W.out))
         refine bodyPost_ret (a0f rfl _ _ a8X 58 #[.int .i64 (a3u), .int .u32 ((t162) % 4294967296), .slice none 0 0] (0, 0) _ rfl (l9 (l9 (l9 (o8 a0W.out a1l.out _) 0 _ rfl) 1 _ rfl) 2 _ rfl) Tryd.underlying58 rfl (by kernel_rfl)) rfl ?_; exact ⟨_, by (rfl), by (exact Kd.Y1 _ _ _ _ _), by repeat (with_reducible first | exact HB.out | refine o7 ?_ b8U.out | refine o7 ?_ c5o.out)⟩
       ·cases nt_ c32
        rw [if_neg a3S] at H; obtain ⟨rfl, rfl, rfl, rfl, rfl⟩ := s5_ H
        go_wp2_with (first | (refine gl_ (some 43) Tryd.func80 #[.slice (some c0t) l0.length c0, .int .i64 1, .int .i64 a8Y] ?_; (with_reducible refine (a2c.calls _ _ l0 1 a8Y b2V false _ (Kd.C9 HR0.out HB.out) HC0.out A31.out).mono ?_); rintro e w65 ⟨v160, rfl, ho0, hb⟩; refine ⟨_, rfl, ?_⟩; have a4i := rl_ ho0 HB; replace a0W := X4 a0W hb; replace a0s := X4 a0s hb; replace a2n := X4 a2n hb; replace HB := U9 HB hb; (try clear hb); (try clear ho0); have g8c := a1l.out; have g8d := a5B.out; have g8e := a5C.out; have g8f := a97.out; obtain ⟨f9E, f9F, f9G, f9H, f9I, f9J⟩ := a1R a0W.out))
        refine bodyPost_ret (a0f rfl _ _ a8X 58 #[.int .i64 0, .int .u32 0, .slice none 0 0] (0, 0) _ rfl (l9 (l9 (l9 a0W.out 0 _ rfl) 1 _ rfl) 2 _ rfl) Tryd.underlying58 rfl (by kernel_rfl)) rfl ?_; exact ⟨_, by (rfl), by (exact Kd.Y1 _ _ _ _ _), by repeat (with_reducible first | exact HB.out | refine o7 ?_ b8U.out)⟩

end Go.Proofs.YtgnonglkibhnhaaDoor.Print
