import Derived.Test.YtgnonglkibhnhaaDoorZ
namespace Go.Proofs.YtgnonglkibhnhaaDoor.Print
open Go.RowKit Go.Proofs.YtgnonglkibhnhaaDoorW.PrintWords Go.Proofs.YtgnonglkibhnhaaDoorW.PrintLast Go.Proofs.YtgnonglkibhnhaaDoorW.PrintMore
attribute [local go_sem] a0n a0o a0P a0Q Y4 Y5 a0p a0q
set_option linter.unusedVariables false
set_option linter.unusedSimpArgs false

/-! ### umpireref10_Next: function 39 -/
mutual
def umpireref10_Next.j0 : Nat → List Int → Int → Bool → Option (Int × Int × List Int × Int × Int)
 | 0, _, _, _ => none
 | k + 1, x0, x5, x23 => if x23 = true then (some (0, 0, ([] : List Int), 0, 7)) else ((some (([0, 2, 2, 0, 0, 4, 1, 4] : List Int) : List Int)).bind fun c2W => (if 0 ≤ x5 then (if x5 < (c2W.length : Int) then (if (x0.length : Int) < (wrap64 (1 + (rd c2W x5))) then (some (0, 0, ([] : List Int), 0, 2)) else (umpireref10_Next.l0 k x0 x5 (rd c2W x5) 0 0 x5 0)) else (none)) else (none)))
def umpireref10_Next.l0 : Nat → List Int → Int → Int → Int → Int → Int → Int → Option (Int × Int × List Int × Int × Int)
 | 0, _, _, _, _, _, _, _ => none
 | k + 1, x0, x5, x6, x8, x9, c2X, d0N => if x9 < x6 then (if 0 ≤ (wrap64 (1 + x9)) then (if (wrap64 (1 + x9)) < (x0.length : Int) then (umpireref10_Next.l0 k x0 x5 x6 ((((256 * x8) % 4294967296) + ((rd x0 (wrap64 (1 + x9))) % 4294967296)) % 4294967296) (wrap64 (x9 + 1)) c2X d0N) else (none)) else (none)) else (if x5 > 2 then (some (c2X, x8, ([] : List Int), wrap64 (1 + x6), 0)) else (if (x0.length : Int) < (wrap64 (3 + (wrap64 (x8)))) then (some (0, 0, ([] : List Int), 0, 2)) else (if 3 ≤ (wrap64 (3 + (wrap64 (x8)))) then (if (wrap64 (3 + (wrap64 (x8)))) ≤ (x0.length : Int) then (if ([] : List Int).length + ((x0.take ((wrap64 (3 + (wrap64 (x8)))) : Int).toNat).drop 3).length < 140737488355328 then (some (c2X, d0N, (([] : List Int) ++ ((x0.take ((wrap64 (3 + (wrap64 (x8)))) : Int).toNat).drop 3)), wrap64 (3 + (wrap64 (x8))), 0)) else (none)) else (none)) else (none))))
end
def umpireref10_Next.f (k : Nat) (l0 : List Int) : Option (Int × Int × List Int × Int × Int) := if (l0.length : Int) = 0 then (some (0, 0, ([] : List Int), 0, 2)) else (if 0 < (l0.length : Int) then (if (wrap64 (rd l0 0)) < 1 then (umpireref10_Next.j0 k l0 (wrap64 (rd l0 0)) true) else (umpireref10_Next.j0 k l0 (wrap64 (rd l0 0)) (decide ((wrap64 (rd l0 0)) > 7)))) else (none))
def umpireref10_Next.T20 : Bool × List (List Nat × List Nat) := (true, [([], []), ([0], [0]), ([], []), ([], []), ([3], [3]), ([4], [4]), ([2, 5], [2, 5]), ([1, 6], [1, 6]), ([0, 1, 2, 3, 4, 5, 6, 7], []), ([8, 7, 7, 0, 1, 2, 3, 4, 5, 6, 7], [7, 8])])
def umpireref10_Next.B20 : List Nat := [0, 1, 0, 0, 8, 24, 60, 127, 255, 511]
theorem umpireref10_Next.f5e : a3b .any (opsOf Tryd.f39 20) = umpireref10_Next.T20 := by kernel_rfl
theorem umpireref10_Next.e8y : a2C umpireref10_Next.T20.2 umpireref10_Next.B20 = true := by kernel_rfl
set_option maxHeartbeats 8000000 in
set_option maxRecDepth 100000 in
theorem umpireref10_Next.calls (k : Nat) (A0 : Option Addr) (c0 : Nat) (l0 : List Int) (r1 : Int) (r2 : Int) (r3 : List Int) (r4 : Int) (r5 : Int) (w : World) (hr0 : Kd.C (Kd.int .u8) w A0 l0.length l0) (hc0 : l0.length ≤ c0) (h : umpireref10_Next.f k l0 = some (r1, r2, r3, r4, r5)) :
  Calls Tryd.prog 39 #[.slice A0 l0.length c0] w fun e w' => ∃ v2_ : Value, e = .returned (.tuple #[.agg #[.int .i64 r1, .int .u32 r2, v2_], .int .i64 r4, .int .i64 r5]) ∧ Kd.R (Kd.int .u8) 5 w' w.heap.size (fun _ => True) v2_ r3 ∧ Below w.heap.size w w' := by
 have c6F := Tryd.underlying58
 have HR0 := a_ hr0
 have HC0 := a_ hc0
 clear hr0 hc0
 have HB := a_ (Below.refl w.heap.size w)
 have H := h
 clear h
 unfold umpireref10_Next.f at H
 by_cases c2 : (l0.length : Int) = 0
 ·rw [if_pos c2] at H; obtain ⟨b1A, c2x⟩ := bt_ c2; clear c2; obtain ⟨rfl, rfl, rfl, rfl, rfl⟩ := s5_ H
  go_enter Tryd.func39, Tryd.ntmps39
  go_wp2_with (first | (refine be_ 2 #[.int .i64 0, .int .u32 0, .slice none 0 0] 58 ?_; intro b05 hg w3 hbox hb; have a2Y := a_ hbox; have b84 := lb_ HB hg; replace HB := U9 HB hb; clear hb hbox hg; obtain ⟨c67, c68, c69, c7a, c7b, c7c⟩ := a1R a2Y.out))
  refine bodyPost_ret (a0f rfl _ _ b05 58 #[.int .i64 0, .int .u32 0, .slice none 0 0] (0, 0) _ rfl (l9 (l9 (l9 a2Y.out 0 _ rfl) 1 _ rfl) 2 _ rfl) Tryd.underlying58 rfl (by kernel_rfl)) rfl ?_; exact ⟨_, by (rfl), by (exact Kd.Y1 _ _ _ _ _), by repeat (with_reducible first | exact HB.out | refine o7 ?_ b84.out)⟩
 ·rw [if_neg c2] at H; have b1A := bq_ c2; have c2x := bn_ c2; have e1y : ¬ (l0 = []) := fun h_ => c2 (by rw [h_]; rfl)
  have c5 := Z7 H; replace H := O5 H; have a5y := dt_ c5; have b0H : decide (0 < l0.length) = true := dt_ (by omega); clear c5; have HC6 := a_ H; clear H
  go_enter Tryd.func39, Tryd.ntmps39
  go_upto_region 4 with (first | (refine be_ 2 #[.int .i64 0, .int .u32 0, .slice none 0 0] 58 ?_; intro b05 hg w7 hbox hb; have a2Y := a_ hbox; have b84 := lb_ HB hg; replace HB := U9 HB hb; clear hb hbox hg; have e1Y : 0 ≤ (0 : Int) := (by omega); have e1Z : 0 < (l0.length : Int) := V9; obtain ⟨e4s, g5D, b5e⟩ := Kd.Q8 HR0.out 0 e1Y e1Z; cases g5D; have g8j : (0 < l0.length) = True := eq_true (by omega); (try rw [show (0 : Int).toNat = 0 from rfl] at b5e); (try rw [Addr.add_zero'] at b5e); replace b5e := cb_ HB b5e; replace e1Y := eq_true e1Y; replace e1Z := eq_true e1Z))
  go_cut [23] (fun v23 wc => ∃ (kq : Nat) (d0O : Bool), v23 = .bool d0O ∧ Aside0 (umpireref10_Next.j0 kq l0 (wrap64 (rd l0 0)) d0O = some (r1, r2, r3, r4, r5)) ∧ Aside0 (kq ≤ k) ∧ Aside0 (wc.heap[b05]? = some (.cells #[.int .i64 0, .int .u32 0, (.slice none 0 0)] 58 (0, 0))) ∧ Aside0 (Below w.heap.size w wc))
  case first =>
   have H := HC6.out; clear HC6
   by_cases c8 : (wrap64 (rd l0 0)) < 1
   ·rw [if_pos c8] at H; have b1u := dt_ c8; clear c8; have H' := a_ H; clear H
    go_wp2
    go_meet
    case rel => exact ⟨_, (true), (by rfl), H', ⟨by (omega)⟩, ⟨by exact a2Y.out⟩, ⟨by exact HB.out⟩⟩
   ·rw [if_neg c8] at H; have b1u := df_ c8; clear c8; have H' := a_ H; clear H
    go_wp2
    go_meet
    case rel => exact ⟨_, (decide ((wrap64 (rd l0 0)) > 7)), (by rfl), H', ⟨by (omega)⟩, ⟨by exact a2Y.out⟩, ⟨by exact HB.out⟩⟩
  case rest =>
   clear HC6
   try clear c2
   try clear b1A
   try clear c2x
   try clear e1y
   try clear a5y
   try clear b0H
   try clear b5e
   try clear e1Y
   try clear e1Z
   obtain ⟨kq, d0O, rfl, HA, HJ5, a2Y, HB⟩ := hcut
   cases kq with
   | zero => exact absurd HA.out (by simp [umpireref10_Next.j0])
   | succ kj5 =>
    have H := HA.out; clear HA
    simp only [umpireref10_Next.j0] at H
    by_cases c9 : d0O = true
    ·subst c9; rw [if_pos rfl] at H; obtain ⟨rfl, rfl, rfl, rfl, rfl⟩ := s5_ H; obtain ⟨b2D, b2E, b2F, b2G, b2H, b2I⟩ := a1R a2Y.out
     go_wp2
     refine bodyPost_ret (a0f rfl _ _ b05 58 #[.int .i64 0, .int .u32 0, .slice none 0 0] (0, 0) _ rfl (l9 (l9 (l9 a2Y.out 0 _ rfl) 1 _ rfl) 2 _ rfl) Tryd.underlying58 rfl (by kernel_rfl)) rfl ?_; exact ⟨_, by (rfl), by (exact Kd.Y1 _ _ _ _ _), by repeat (with_reducible first | exact HB.out | refine o7 ?_ b84.out)⟩
    ·cases nt_ c9
     rw [if_neg a3S] at H; obtain ⟨c2W, d6X⟩ := is_ ([0, 2, 2, 0, 0, 4, 1, 4] : List Int); rw [Option.bind_some, ← d6X] at H; have e4t := a_ d6X; clear d6X; obtain ⟨a6T, c4K⟩ := si_ ((wrap64 (rd l0 0))); rw [c4K] at H; have e6b : (IntKind.i64.wrap (rd l0 0)) = a6T := (a0I _).trans c4K; have a9S := a2z H; replace H := O5 H; have b73 := a2z H; replace H := O5 H
     by_cases c14 : (l0.length : Int) < (wrap64 (1 + (rd c2W (a6T))))
     ·rw [if_pos c14] at H; have b8i := dt_ c14; clear c14; obtain ⟨rfl, rfl, rfl, rfl, rfl⟩ := s5_ H
      go_wp2_with (first | ((with_reducible refine X0 (N := 25) rfl ?_); refine Kd.a9I (Kd.int .i64) _ 3 ?hg (N := 25) ?hd (xs := ([0, 2, 2, 0, 0, 4, 1, 4] : List Int)) (inner := [.int .i64 0, .int .i64 2, .int .i64 2, .int .i64 0, .int .i64 0, .int .i64 4, .int .i64 1, .int .i64 4]) (ok := fun _ => True) (okp := fun _ => True) ?hr ?hp (fun _ hk => hk) trivial (Below.refl _ _) (Nat.le_refl _) (by simp) ?_; (case hd => rfl); (case hg => rfl); (case hr => (go_simp; done)); (case hp => exact (L8.one (show Kd.M (Kd.int .i64) _ _ _ 0 [.int .i64 0] from rfl) (L8.one (show Kd.M (Kd.int .i64) _ _ _ 2 [.int .i64 2] from rfl) (L8.one (show Kd.M (Kd.int .i64) _ _ _ 2 [.int .i64 2] from rfl) (L8.one (show Kd.M (Kd.int .i64) _ _ _ 0 [.int .i64 0] from rfl) (L8.one (show Kd.M (Kd.int .i64) _ _ _ 0 [.int .i64 0] from rfl) (L8.one (show Kd.M (Kd.int .i64) _ _ _ 4 [.int .i64 4] from rfl) (L8.one (show Kd.M (Kd.int .i64) _ _ _ 1 [.int .i64 1] from rfl) (L8.one (show Kd.M (Kd.int .i64) _ _ _ 4 [.int .i64 4] from rfl) (L8.none _ _)))))))))); intro g5E w15 c5t hb hg_ a1B; clear hg_ a1B; (rw [← e4t.out] at c5t); have b85 := rl_ c5t HB; replace a2Y := X4 a2Y hb; replace HB := U9 HB hb; clear hb c5t; obtain ⟨h1Y, h1Z, g5F⟩ := Kd.G7 b85.out; subst g5F; have f5f : (0 ≤ ((a6T) : Int)) = True := et_; have f5g : ((a6T) < (c2W.length : Int)) = True := et_; obtain ⟨f5h, e8z, d0P⟩ := Kd.Q8 (Kd.E8 b85.out).2.2 (a6T) V9 V9; cases e8z; obtain ⟨c2G, c2H, e1M, c2I, c2J, e1N⟩ := a1R a2Y.out))
      refine bodyPost_ret (a0f rfl _ _ b05 58 #[.int .i64 0, .int .u32 0, .slice none 0 0] (0, 0) _ rfl (l9 (l9 (l9 a2Y.out 0 _ rfl) 1 _ rfl) 2 _ rfl) Tryd.underlying58 rfl (by kernel_rfl)) rfl ?_; exact ⟨_, by (rfl), by (exact Kd.Y1 _ _ _ _ _), by repeat (with_reducible first | exact HB.out | refine o7 ?_ b84.out)⟩
     ·rw [if_neg c14] at H; have b8i := df_ c14; clear c14; have H' := a_ H; clear H
      go_wp2_with (first | ((with_reducible refine X0 (N := 25) rfl ?_); refine Kd.a9I (Kd.int .i64) _ 3 ?hg (N := 25) ?hd (xs := ([0, 2, 2, 0, 0, 4, 1, 4] : List Int)) (inner := [.int .i64 0, .int .i64 2, .int .i64 2, .int .i64 0, .int .i64 0, .int .i64 4, .int .i64 1, .int .i64 4]) (ok := fun _ => True) (okp := fun _ => True) ?hr ?hp (fun _ hk => hk) trivial (Below.refl _ _) (Nat.le_refl _) (by simp) ?_; (case hd => rfl); (case hg => rfl); (case hr => (go_simp; done)); (case hp => exact (L8.one (show Kd.M (Kd.int .i64) _ _ _ 0 [.int .i64 0] from rfl) (L8.one (show Kd.M (Kd.int .i64) _ _ _ 2 [.int .i64 2] from rfl) (L8.one (show Kd.M (Kd.int .i64) _ _ _ 2 [.int .i64 2] from rfl) (L8.one (show Kd.M (Kd.int .i64) _ _ _ 0 [.int .i64 0] from rfl) (L8.one (show Kd.M (Kd.int .i64) _ _ _ 0 [.int .i64 0] from rfl) (L8.one (show Kd.M (Kd.int .i64) _ _ _ 4 [.int .i64 4] from rfl) (L8.one (show Kd.M (Kd.int .i64) _ _ _ 1 [.int .i64 1] from rfl) (L8.one (show Kd.M (Kd.int .i64) _ _ _ 4 [.int .i64 4] from rfl) (L8.none _ _)))))))))); intro g5E w19 e8A hb hg_ a1B; clear hg_ a1B; (rw [← e4t.out] at e8A); have b85 := rl_ e8A HB; replace a2Y := X4 a2Y hb; replace HB := U9 HB hb; clear hb e8A; obtain ⟨b8m, b8n, c2h⟩ := Kd.G7 b85.out; subst c2h; have f5f : (0 ≤ ((a6T) : Int)) = True := et_; have f5g : ((a6T) < (c2W.length : Int)) = True := et_; obtain ⟨f5h, e8z, d0P⟩ := Kd.Q8 (Kd.E8 b85.out).2.2 (a6T) V9 V9; cases e8z) | (refine be_ 7 #[.int .i64 0, .int .u32 0, .slice none 0 0] 58 ?_; intro b86 hg w22 hbox hb; have a3y := a_ hbox; have d6Y := lb_ HB hg; obtain ⟨a4L, b0d⟩ := nn_ a2Y hg; replace b85 := rb_ b85 hb; replace a2Y := X4 a2Y hb; replace HB := U9 HB hb; clear hb hbox hg; have f4t := b0d.out; have f4u := a4L.out; obtain ⟨b0A, b0B, b4H, b0C, b0D, b4I⟩ := a1R a3y.out))
      go_loopg [8, 9] kj5 (fun kq v8 v9 w' => ∃ (b0a : Int) (b2X : Int), v8 = .int .u32 b0a ∧ v9 = .int .i64 b2X ∧ Aside0 (umpireref10_Next.l0 kq l0 (a6T) (rd c2W (a6T)) b0a b2X (a6T) 0 = some (r1, r2, r3, r4, r5)) ∧ Aside0 (kq ≤ kj5) ∧ Aside0 (w'.heap[b05]? = some (.cells #[.int .i64 0, .int .u32 0, (.slice none 0 0)] 58 (0, 0))) ∧ Aside0 (w'.heap[b86]? = some (.cells #[.int .i64 (a6T), .int .u32 0, (.slice none 0 0)] 58 (0, 0))) ∧ Aside0 (Below w.heap.size w w'))
      case atStart => exact ⟨(0), (0), (by rfl), (by rfl), H', ⟨Nat.le_refl _⟩, ⟨o8 (o8 (o8 a2Y.out a4L.out _) a4L.out _) a4L.out _⟩, ⟨l9 (l9 (l9 a3y.out 0 _ rfl) 1 _ rfl) 2 _ rfl⟩, ⟨by repeat (with_reducible first | exact HB.out | refine o7 ?_ d6Y.out)⟩⟩
      case round =>
       clear H'
       try clear a9S
       try clear b73
       try clear b8i
       try clear b0A
       try clear b0B
       try clear b4H
       try clear b0C
       try clear b0D
       try clear b4I
       try clear d0P
       try clear f5f
       try clear f5g
       obtain ⟨b0a, b2X, rfl, rfl, HA, HK2, a2Y, a3y, HB⟩ := hrel
       cases gk with
       | zero => exact absurd HA.out (by simp [umpireref10_Next.l0])
       | succ k2 =>
        have H := HA.out; clear HA
        simp only [umpireref10_Next.l0] at H
        by_cases c25 : b2X < (rd c2W (a6T))
        ·rw [if_pos c25] at H; have e3J := dt_ c25; clear c25; obtain ⟨d6Z, e4u⟩ := si_ ((wrap64 (1 + b2X))); rw [e4u] at H; have g5G : (IntKind.i64.wrap (1 + b2X)) = d6Z := (a0I _).trans e4u; have e3K := a2z H; replace H := O5 H; have c9K := a2z H; replace H := O5 H; have H' := a_ H; clear H; have e8B : 0 ≤ ((d6Z) : Int) := V9; have e8C : (d6Z) < (l0.length : Int) := V9; obtain ⟨f5i, g5H, d0Q⟩ := Kd.Q8 HR0.out (d6Z) e8B e8C; obtain rfl : e4s = f5i := (by injection g5H); replace d0Q := cb_ HB d0Q; replace e8B := eq_true e8B; replace e8C := eq_true e8C
         go_wp2
         go_roundg k2
         case measure => have := HJ5.out; have := HK2.out; omega
         case rel => exact ⟨((((256 * b0a) % 4294967296) + ((rd l0 (d6Z)) % 4294967296)) % 4294967296), (wrap64 (b2X + 1)), (by (simp; done)), (by rfl), H', ⟨by have := HJ5.out; have := HK2.out; omega⟩, ⟨by exact a2Y.out⟩, ⟨by exact a3y.out⟩, ⟨by exact HB.out⟩⟩
        ·rw [if_neg c25] at H; have e3J := df_ c25; clear c25
         by_cases c29 : (a6T) > 2
         ·rw [if_pos c29] at H; have f5j : decide (2 < (a6T)) = true := dt_ c29; clear c29; obtain ⟨rfl, rfl, rfl, rfl, rfl⟩ := s5_ H; have e3z := b0d.out; have e3A := a4L.out; have c1Y : wr.cell? ⟨b86, 0, none⟩ = some (.int .i64 (a6T)) := (D6 a3y.out 0).trans (by rfl); have c1Z := bc1 a3y; have c2a := bc2 a3y; have c2c := l7 a3y.out 0; have c2d := l7 a3y.out 1; have c2e := l7 a3y.out 2; obtain ⟨e1p, e1q, f9N, e1r, e1s, f9O⟩ := a1R a2Y.out
          go_wp2
          refine bodyPost_ret (a0f rfl _ _ b05 58 #[.int .i64 (a6T), .int .u32 b0a, .slice none 0 0] (0, 0) _ rfl (l9 (l9 (l9 (o8 a2Y.out a4L.out _) 0 _ rfl) 1 _ rfl) 2 _ rfl) Tryd.underlying58 rfl (by kernel_rfl)) rfl ?_; exact ⟨_, by (rfl), by (exact Kd.Y1 _ _ _ _ _), by repeat (with_reducible first | exact HB.out | refine o7 ?_ b84.out | refine o7 ?_ d6Y.out)⟩
         ·rw [if_neg c29] at H; have f5j : decide (2 < (a6T)) = false := df_ c29; clear c29
          by_cases c33 : (l0.length : Int) < (wrap64 (3 + (wrap64 (b0a))))
          ·rw [if_pos c33] at H; have c4Z := dt_ c33; clear c33; obtain ⟨rfl, rfl, rfl, rfl, rfl⟩ := s5_ H; have f2M := a4L.out; have f2N := b0d.out; obtain ⟨c9g, c9h, d9C, c9i, c9j, d9D⟩ := a1R a2Y.out
           go_wp2
           refine bodyPost_ret (a0f rfl _ _ b05 58 #[.int .i64 0, .int .u32 0, .slice none 0 0] (0, 0) _ rfl (l9 (l9 (l9 a2Y.out 0 _ rfl) 1 _ rfl) 2 _ rfl) Tryd.underlying58 rfl (by kernel_rfl)) rfl ?_; exact ⟨_, by (rfl), by (exact Kd.Y1 _ _ _ _ _), by repeat (with_reducible first | exact HB.out | refine o7 ?_ b84.out)⟩
          ·rw [if_neg c33] at H; have c4Z := df_ c33; clear c33; have c36 := Z7 H; replace H := O5 H; have e3h := eq_true c36; have e3i := dt_ c36; have c37 := Z7 H; replace H := O5 H; have e3n := eq_true c37; have e3o := dt_ c37; have c38 := Z7 H; replace H := O5 H; have d60 := a_ c38; clear c38; obtain ⟨e8D, d61⟩ := is_ ((([] : List Int) ++ ((l0.take ((wrap64 (3 + (wrap64 (b0a)))) : Int).toNat).drop 3)) : List Int); rw [← d61] at H; have f5l := a_ d61; clear d61; obtain ⟨rfl, rfl, rfl, rfl, rfl⟩ := s5_ H
           try go_wp2
           replace a2Y := a_ (G8 a2Y.out); replace a3y := a_ (G8 a3y.out); replace HB := a_ (Y3 HB.out); obtain ⟨h14, e4v, _, e4w, _⟩ := info_parts info5; obtain ⟨A40, g5I, f5m, f5n⟩ := a5t (P := Tryd.prog) (Value.int .u8) 0 22 5 .i64 .i64 Tryd.underlying22 e4v e4w (some e4s) c0 l0 3 (wrap64 (3 + (wrap64 (b0a)))) (by omega) (by omega) (V9) HC0.out; have e4x := ci_ (Kd.Y8 (h1 := fun _ => rfl) (f5m _ (Kd.Y2 HR0.out))); have g8k := a_ f5n; clear f5m f5n e4v e4w; refine a2x (n := 10) (S := fun w' => w'.cell? ⟨b86, 0, none⟩ = some (.int .i64 (a6T)) ∧ w'.cell? ⟨b86, 1, none⟩ = some (.int .u32 0) ∧ w'.cell? ⟨b86, 2, none⟩ = some (.slice none 0 0)) (ds := [9]) (bo_ 10 0) (by kernel_rfl) rfl rfl ⟨bc0 a3y, bc1 a3y, bc2 a3y⟩ (fun hHeld => ?_); refine a2D umpireref10_Next.f5e umpireref10_Next.e8y (fun Z8 HW_ => ?_); generalize wr.drew = w39 at a2Y a3y HB e4x hHeld ⊢; refine pu_ 0 (some 65) Z8 ?_; refine pu_ 2 (some 67) Z8 ?_; refine pu_ 3 (some 68) Z8 ?_; refine pu_ 4 (some 69) Z8 ?_; refine pu_ 5 (some 70) Z8 ?_; refine pu_ 6 (some 71) Z8 ?_; refine a1w (i := 1) (N := some 66) (v := ?_) (a' := ?_) (bo_ 10 127) rfl rfl (a1x Z8.out HW_.out (by kernel_rfl)) (fun _ _ _ h => h) (Or.inl ⟨by rfl, ?_⟩) hHeld ?_ ?_
           rotate_left
           ·rintro w' ⟨s0, s1, s2⟩
            go_simp
            with_reducible rfl
           rotate_left
           ·simp only [Act.put, List.setIfInBounds_toArray, List.set_cons_zero, List.set_cons_succ, a0I, a1W]
            rfl
           refine a6e (i := 7) (N := some 72) (bo_ 10 255) rfl rfl (a1I Z8.out (by kernel_rfl)) (by decide) (fun K hK => ?_); refine Kd.a4m (Kd.int .u8) (w0 := w) w.heap.size (by rfl) (.tmp 66) (.tmp 71) 22 5 (.int .u8 0) 1 rfl Tryd.underlying22 info5 rfl (by decide) (by omega) (.slice none 0 0) ([] : List Int) ((l0.take ((wrap64 (3 + (wrap64 (b0a)))) : Int).toNat).drop 3) _ _ _ (fun _ => True) (fun _ => False) rfl rfl ?aO ?aR (fun _ _ h => h) (fun _ h => h.elim) ?aF ?aB ?aS ?aL ?_
           (case aR => (rw [← show ((l0.take ((wrap64 (3 + (wrap64 (b0a)))) : Int).toNat).drop 3).length = ((wrap64 (3 + (wrap64 (b0a)))).toNat - 3) from (by rw [List.length_drop, List.length_take]; have h_ : ((wrap64 (3 + (wrap64 (b0a)))) : Int) ≤ (l0.length : Int) := V9; omega)]; exact (Kd.C9 e4x.out HB.out)))
           (case aB => exact HB.out)
           (case aF => exact (fun _ _ => trivial))
           (case aO => exact (Kd.Y1 _ _ _ _ (fun _ => True)))
           (case aS => exact (y5 HB.out))
           (case aL => have := d60.out; have e6y := (show ((l0.take ((wrap64 (3 + (wrap64 (b0a)))) : Int).toNat).drop 3).length = ((wrap64 (3 + (wrap64 (b0a)))).toNat - 3) from (by rw [List.length_drop, List.length_take]; have h_ : ((wrap64 (3 + (wrap64 (b0a)))) : Int) ≤ (l0.length : Int) := V9; omega)); omega)
           intro h2a w41 ho hb hg hat; rw [← f5l.out] at ho; have e4y := a_ ho; replace a2Y := a_ (N7 a2Y.out hg (by simp [Value.ownBlock])); replace a3y := a_ (N7 a3y.out hg (by simp [Value.ownBlock])); replace HB := a_ hb; clear ho hb hg hat; obtain ⟨d2y, d2z, e8E⟩ := Kd.G7 e4y.out; subst e8E; refine hK.out _ _ ⟨bc0 a3y, bc1 a3y, bc2 a3y⟩ (fun hHeld => ?_); clear hK K; refine nm_ (some 72) ?_; refine pu_ 8 (some 73) Z8 ?_; refine b1k (i := 9) (N := none) (bo_ 10 1023) rfl rfl (a1I Z8.out (by kernel_rfl)) (by decide) (fun K hK => ?_); have g1C := bc2 a3y; have f1r := l7 a3y.out 2; have f9P := a4L.out; have f9Q := b0d.out; refine a7x (w1 := ?_) (by rfl) rfl ?_ ?_
           rotate_left
           ·go_simp
            rfl
           refine hK.out _ _ ?_; clear hK K; refine a4y (a5v Z8.out (by kernel_rfl)) ?_; have c82 := b0d.out; have c83 := a4L.out; have c1B : w41.cell? ⟨b86, 0, none⟩ = some (.int .i64 (a6T)) := (D6 a3y.out 0).trans (by rfl); have c1C := bc1 a3y; have d0E := bc2 a3y; have c1E := l7 a3y.out 0; have c1F := l7 a3y.out 1; have d0F := l7 a3y.out 2; obtain ⟨b6V, b6W, b6X, b6Y, b6Z, b60⟩ := a1R a2Y.out
           try go_wp2
           refine bodyPost_ret (a0f rfl _ _ b05 58 #[.int .i64 (a6T), .int .u32 0, .slice d2y e8D.length d2z] (0, 0) _ rfl (l9 (l9 (l9 (o8 a2Y.out a4L.out _) 0 _ rfl) 1 _ rfl) 2 _ rfl) Tryd.underlying58 rfl (by kernel_rfl)) rfl ?_; exact ⟨_, by (rfl), by exact Kd.D7 (Kd.V3 (p := ⟨b05, 2, none⟩) (Kd.V3 (p := ⟨b05, 1, none⟩) (Kd.V3 (p := ⟨b05, 0, none⟩) (Kd.V3 (p := ⟨b86, 2, none⟩) (Kd.U2 (Kd.U2 e4y.out a3y.out (by decide)) a2Y.out (by decide)) (fun _ hk => hk.1.2) (.slice d2y e8D.length d2z)) (fun _ hk => hk.2) (.int .i64 (a6T))) (fun _ hk => hk.2) (.int .u32 0)) (fun _ hk => hk.2) (.slice d2y e8D.length d2z)) (fun _ hk => trivial), by repeat (with_reducible first | exact HB.out | refine o7 ?_ b84.out | refine o7 ?_ d6Y.out)⟩

end Go.Proofs.YtgnonglkibhnhaaDoor.Print
