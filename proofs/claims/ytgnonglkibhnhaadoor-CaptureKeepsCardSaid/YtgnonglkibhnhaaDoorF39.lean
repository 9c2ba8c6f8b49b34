import Derived.Test.YtgnonglkibhnhaaDoorZ
namespace Go.Proofs.YtgnonglkibhnhaaDoor.Print
open Go.RowKit Go.Proofs.YtgnonglkibhnhaaDoorW.PrintWords Go.Proofs.YtgnonglkibhnhaaDoorW.PrintLast Go.Proofs.YtgnonglkibhnhaaDoorW.PrintMore
attribute [local go_sem] a0o a0p a0R a0S Y5 Y6 a0q a0r
set_option linter.unusedVariables false
set_option linter.unusedSimpArgs false

/-! ### umpireref10_Next: function 39 -/
mutual
def umpireref10_Next.j0 : Nat → List Int → Int → Bool → Option (Int × Int × List Int × Int × Int)
 | 0, _, _, _ => none
 | k + 1, x0, x5, x23 => if x23 = true then (some (0, 0, ([] : List Int), 0, 7)) else ((some (([0, 2, 2, 0, 0, 4, 1, 4] : List Int) : List Int)).bind fun c4c => (if 0 ≤ x5 then (if x5 < (c4c.length : Int) then (if (x0.length : Int) < (wrap64 (1 + (rd c4c x5))) then (some (0, 0, ([] : List Int), 0, 2)) else (umpireref10_Next.l0 k x0 x5 (rd c4c x5) 0 0 x5 0)) else (none)) else (none)))
def umpireref10_Next.l0 : Nat → List Int → Int → Int → Int → Int → Int → Int → Option (Int × Int × List Int × Int × Int)
 | 0, _, _, _, _, _, _, _ => none
 | k + 1, x0, x5, x6, x8, x9, c4d, d2i => if x9 < x6 then (if 0 ≤ (wrap64 (1 + x9)) then (if (wrap64 (1 + x9)) < (x0.length : Int) then (umpireref10_Next.l0 k x0 x5 x6 ((((256 * x8) % 4294967296) + ((rd x0 (wrap64 (1 + x9))) % 4294967296)) % 4294967296) (wrap64 (x9 + 1)) c4d d2i) else (none)) else (none)) else (if x5 > 2 then (some (c4d, x8, ([] : List Int), wrap64 (1 + x6), 0)) else (if (x0.length : Int) < (wrap64 (3 + (wrap64 (x8)))) then (some (0, 0, ([] : List Int), 0, 2)) else (if 3 ≤ (wrap64 (3 + (wrap64 (x8)))) then (if (wrap64 (3 + (wrap64 (x8)))) ≤ (x0.length : Int) then (if ([] : List Int).length + ((x0.take ((wrap64 (3 + (wrap64 (x8)))) : Int).toNat).drop 3).length < 140737488355328 then (some (c4d, d2i, (([] : List Int) ++ ((x0.take ((wrap64 (3 + (wrap64 (x8)))) : Int).toNat).drop 3)), wrap64 (3 + (wrap64 (x8))), 0)) else (none)) else (none)) else (none))))
end
def umpireref10_Next.f (k : Nat) (l0 : List Int) : Option (Int × Int × List Int × Int × Int) := if (l0.length : Int) = 0 then (some (0, 0, ([] : List Int), 0, 2)) else (if 0 < (l0.length : Int) then (if (wrap64 (rd l0 0)) < 1 then (umpireref10_Next.j0 k l0 (wrap64 (rd l0 0)) true) else (umpireref10_Next.j0 k l0 (wrap64 (rd l0 0)) (decide ((wrap64 (rd l0 0)) > 7)))) else (none))
def umpireref10_Next.T20 : Bool × List (List Nat × List Nat) := (true, [([], []), ([0], [0]), ([], []), ([], []), ([3], [3]), ([4], [4]), ([2, 5], [2, 5]), ([1, 6], [1, 6]), ([0, 1, 2, 3, 4, 5, 6, 7], []), ([8, 7, 7, 0, 1, 2, 3, 4, 5, 6, 7], [7, 8])])
def umpireref10_Next.B20 : List Nat := [0, 1, 0, 0, 8, 24, 60, 127, 255, 511]
theorem umpireref10_Next.f7w : a3g .any (opsOf Tryd.f39 20) = umpireref10_Next.T20 := by kernel_rfl
theorem umpireref10_Next.f0t : a2I umpireref10_Next.T20.2 umpireref10_Next.B20 = true := by kernel_rfl
set_option maxHeartbeats 8000000 in
set_option maxRecDepth 100000 in
theorem umpireref10_Next.calls (k : Nat) (A0 : Option Addr) (c0 : Nat) (l0 : List Int) (r1 : Int) (r2 : Int) (r3 : List Int) (r4 : Int) (r5 : Int) (w : World) (hr0 : Kd.C (Kd.int .u8) w A0 l0.length l0) (hc0 : l0.length ≤ c0) (h : umpireref10_Next.f k l0 = some (r1, r2, r3, r4, r5)) :
  Calls Tryd.prog 39 #[.slice A0 l0.length c0] w fun e w' => ∃ v2_ : Value, e = .returned (.tuple #[.agg #[.int .i64 r1, .int .u32 r2, v2_], .int .i64 r4, .int .i64 r5]) ∧ Kd.R (Kd.int .u8) 5 w' w.heap.size (fun _ => True) v2_ r3 ∧ Below w.heap.size w w' := by
 have c7K := Tryd.underlying58
 have HR0 := a_ hr0
 have HC0 := a_ hc0
 clear hr0 hc0
 have HB := a_ (Below.refl w.heap.size w)
 have H := h
 clear h
 unfold umpireref10_Next.f at H
 by_cases c2 : (l0.length : Int) = 0
 ·rw [if_pos c2] at H; obtain ⟨b2i, c3A⟩ := bt_ c2; clear c2; obtain ⟨rfl, rfl, rfl, rfl, rfl⟩ := s5_ H
  go_enter Tryd.func39, Tryd.ntmps39
  go_wp2_with (first | (refine be_ 2 #[.int .i64 0, .int .u32 0, .slice none 0 0] 58 ?_; intro b1z hg w3 hbox hb; have a3d := a_ hbox; have b9J := lb_ HB hg; replace HB := V3 HB hb; clear hb hbox hg; obtain ⟨c8g, c8h, c8i, c8j, c8k, c8l⟩ := a1Z a3d.out))
  refine bodyPost_ret (a0f rfl _ _ b1z 58 #[.int .i64 0, .int .u32 0, .slice none 0 0] (0, 0) _ rfl (l9 (l9 (l9 a3d.out 0 _ rfl) 1 _ rfl) 2 _ rfl) Tryd.underlying58 rfl (by kernel_rfl)) rfl ?_; exact ⟨_, by (rfl), by (exact Kd.Y2 _ _ _ _ _), by repeat (with_reducible first | exact HB.out | refine o7 ?_ b9J.out)⟩
 ·rw [if_neg c2] at H; have b2i := bq_ c2; have c3A := bn_ c2; have e3p : ¬ (l0 = []) := fun h_ => c2 (by rw [h_]; rfl)
  have c5 := Z4 H; replace H := O5 H; have a5H := dt_ c5; have b1f : decide (0 < l0.length) = true := dt_ (by omega); clear c5; have HC6 := a_ H; clear H
  go_enter Tryd.func39, Tryd.ntmps39
  go_upto_region 4 with (first | (refine be_ 2 #[.int .i64 0, .int .u32 0, .slice none 0 0] 58 ?_; intro b1z hg w7 hbox hb; have a3d := a_ hbox; have b9J := lb_ HB hg; replace HB := V3 HB hb; clear hb hbox hg; have e3K : 0 ≤ (0 : Int) := (by omega); have e3L : 0 < (l0.length : Int) := V5; obtain ⟨e6F, g7G, b5Q⟩ := Kd.Q7 HR0.out 0 e3K e3L; cases g7G; have h0O : (0 < l0.length) = True := eq_true (by omega); (try rw [show (0 : Int).toNat = 0 from rfl] at b5Q); (try rw [Addr.add_zero'] at b5Q); replace b5Q := cb_ HB b5Q; replace e3K := eq_true e3K; replace e3L := eq_true e3L))
  go_cut [23] (fun v23 wc => ∃ (kq : Nat) (d2j : Bool), v23 = .bool d2j ∧ Aside0 (umpireref10_Next.j0 kq l0 (wrap64 (rd l0 0)) d2j = some (r1, r2, r3, r4, r5)) ∧ Aside0 (kq ≤ k) ∧ Aside0 (wc.heap[b1z]? = some (.cells #[.int .i64 0, .int .u32 0, (.slice none 0 0)] 58 (0, 0))) ∧ Aside0 (Below w.heap.size w wc))
  case first =>
   have H := HC6.out; clear HC6
   by_cases c8 : (wrap64 (rd l0 0)) < 1
   ·rw [if_pos c8] at H; have b2c := dt_ c8; clear c8; have H' := a_ H; clear H
    go_wp2
    go_meet
    case rel => exact ⟨_, (true), (by rfl), H', ⟨by (omega)⟩, ⟨by exact a3d.out⟩, ⟨by exact HB.out⟩⟩
   ·rw [if_neg c8] at H; have b2c := df_ c8; clear c8; have H' := a_ H; clear H
    go_wp2
    go_meet
    case rel => exact ⟨_, (decide ((wrap64 (rd l0 0)) > 7)), (by rfl), H', ⟨by (omega)⟩, ⟨by exact a3d.out⟩, ⟨by exact HB.out⟩⟩
  case rest =>
   clear HC6
   try clear c2
   try clear b2i
   try clear c3A
   try clear e3p
   try clear a5H
   try clear b1f
   try clear b5Q
   try clear e3K
   try clear e3L
   obtain ⟨kq, d2j, rfl, HA, HJ5, a3d, HB⟩ := hcut
   cases kq with
   | zero => exact absurd HA.out (by simp [umpireref10_Next.j0])
   | succ kj5 =>
    have H := HA.out; clear HA
    simp only [umpireref10_Next.j0] at H
    by_cases c9 : d2j = true
    ·subst c9; rw [if_pos rfl] at H; obtain ⟨rfl, rfl, rfl, rfl, rfl⟩ := s5_ H; obtain ⟨b3j, b3k, b3l, b3m, b3n, b3o⟩ := a1Z a3d.out
     go_wp2
     refine bodyPost_ret (a0f rfl _ _ b1z 58 #[.int .i64 0, .int .u32 0, .slice none 0 0] (0, 0) _ rfl (l9 (l9 (l9 a3d.out 0 _ rfl) 1 _ rfl) 2 _ rfl) Tryd.underlying58 rfl (by kernel_rfl)) rfl ?_; exact ⟨_, by (rfl), by (exact Kd.Y2 _ _ _ _ _), by repeat (with_reducible first | exact HB.out | refine o7 ?_ b9J.out)⟩
    ·cases nt_ c9
     rw [if_neg a3X] at H; obtain ⟨c4c, d8u⟩ := is_ ([0, 2, 2, 0, 0, 4, 1, 4] : List Int); rw [Option.bind_some, ← d8u] at H; have e6G := a_ d8u; clear d8u; obtain ⟨a7f, c5X⟩ := si_ ((wrap64 (rd l0 0))); rw [c5X] at H; have e8a : (IntKind.i64.wrap (rd l0 0)) = a7f := (a0J _).trans c5X; have b0h := a2x H; replace H := O5 H; have b8H := a2x H; replace H := O5 H
     by_cases c14 : (l0.length : Int) < (wrap64 (1 + (rd c4c (a7f))))
     ·rw [if_pos c14] at H; have b8W := dt_ c14; clear c14; obtain ⟨rfl, rfl, rfl, rfl, rfl⟩ := s5_ H
      go_wp2_with (first | ((with_reducible refine X0 (N := 25) rfl ?_); refine Kd.a96 (Kd.int .i64) _ 3 ?hg (N := 25) ?hd (xs := ([0, 2, 2, 0, 0, 4, 1, 4] : List Int)) (inner := [.int .i64 0, .int .i64 2, .int .i64 2, .int .i64 0, .int .i64 0, .int .i64 4, .int .i64 1, .int .i64 4]) (ok := fun _ => True) (okp := fun _ => True) ?hr ?hp (fun _ hk => hk) trivial (Below.refl _ _) (Nat.le_refl _) (by simp) ?_; (case hd => rfl); (case hg => rfl); (case hr => (go_simp; done)); (case hp => exact (N8.one (show Kd.M (Kd.int .i64) _ _ _ 0 [.int .i64 0] from rfl) (N8.one (show Kd.M (Kd.int .i64) _ _ _ 2 [.int .i64 2] from rfl) (N8.one (show Kd.M (Kd.int .i64) _ _ _ 2 [.int .i64 2] from rfl) (N8.one (show Kd.M (Kd.int .i64) _ _ _ 0 [.int .i64 0] from rfl) (N8.one (show Kd.M (Kd.int .i64) _ _ _ 0 [.int .i64 0] from rfl) (N8.one (show Kd.M (Kd.int .i64) _ _ _ 4 [.int .i64 4] from rfl) (N8.one (show Kd.M (Kd.int .i64) _ _ _ 1 [.int .i64 1] from rfl) (N8.one (show Kd.M (Kd.int .i64) _ _ _ 4 [.int .i64 4] from rfl) (N8.none _ _)))))))))); intro g7H w15 c6x hb hg_ a1P; clear hg_ a1P; (rw [← e6G.out] at c6x); have b9K := rl_ c6x HB; replace a3d := X3 a3d hb; replace HB := V3 HB hb; clear hb c6x; obtain ⟨h4V, h4W, g7I⟩ := Kd.G7 b9K.out; subst g7I; have f7x : (0 ≤ ((a7f) : Int)) = True := et_; have f7y : ((a7f) < (c4c.length : Int)) = True := et_; obtain ⟨f7z, f0u, d2k⟩ := Kd.Q7 (Kd.D9 b9K.out).2.2 (a7f) V5 V5; cases f0u; obtain ⟨c3J, c3K, e3z, c3M, c3N, e3A⟩ := a1Z a3d.out))
      refine bodyPost_ret (a0f rfl _ _ b1z 58 #[.int .i64 0, .int .u32 0, .slice none 0 0] (0, 0) _ rfl (l9 (l9 (l9 a3d.out 0 _ rfl) 1 _ rfl) 2 _ rfl) Tryd.underlying58 rfl (by kernel_rfl)) rfl ?_; exact ⟨_, by (rfl), by (exact Kd.Y2 _ _ _ _ _), by repeat (with_reducible first | exact HB.out | refine o7 ?_ b9J.out)⟩
     ·rw [if_neg c14] at H; have b8W := df_ c14; clear c14; have H' := a_ H; clear H
      go_wp2_with (first | ((with_reducible refine X0 (N := 25) rfl ?_); refine Kd.a96 (Kd.int .i64) _ 3 ?hg (N := 25) ?hd (xs := ([0, 2, 2, 0, 0, 4, 1, 4] : List Int)) (inner := [.int .i64 0, .int .i64 2, .int .i64 2, .int .i64 0, .int .i64 0, .int .i64 4, .int .i64 1, .int .i64 4]) (ok := fun _ => True) (okp := fun _ => True) ?hr ?hp (fun _ hk => hk) trivial (Below.refl _ _) (Nat.le_refl _) (by simp) ?_; (case hd => rfl); (case hg => rfl); (case hr => (go_simp; done)); (case hp => exact (N8.one (show Kd.M (Kd.int .i64) _ _ _ 0 [.int .i64 0] from rfl) (N8.one (show Kd.M (Kd.int .i64) _ _ _ 2 [.int .i64 2] from rfl) (N8.one (show Kd.M (Kd.int .i64) _ _ _ 2 [.int .i64 2] from rfl) (N8.one (show Kd.M (Kd.int .i64) _ _ _ 0 [.int .i64 0] from rfl) (N8.one (show Kd.M (Kd.int .i64) _ _ _ 0 [.int .i64 0] from rfl) (N8.one (show Kd.M (Kd.int .i64) _ _ _ 4 [.int .i64 4] from rfl) (N8.one (show Kd.M (Kd.int .i64) _ _ _ 1 [.int .i64 1] from rfl) (N8.one (show Kd.M (Kd.int .i64) _ _ _ 4 [.int .i64 4] from rfl) (N8.none _ _)))))))))); intro g7H w19 f0v hb hg_ a1P; clear hg_ a1P; (rw [← e6G.out] at f0v); have b9K := rl_ f0v HB; replace a3d := X3 a3d hb; replace HB := V3 HB hb; clear hb f0v; obtain ⟨b81, b82, c3j⟩ := Kd.G7 b9K.out; subst c3j; have f7x : (0 ≤ ((a7f) : Int)) = True := et_; have f7y : ((a7f) < (c4c.length : Int)) = True := et_; obtain ⟨f7z, f0u, d2k⟩ := Kd.Q7 (Kd.D9 b9K.out).2.2 (a7f) V5 V5; cases f0u) | (refine be_ 7 #[.int .i64 0, .int .u32 0, .slice none 0 0] 58 ?_; intro b9L hg w22 hbox hb; have a3C := a_ hbox; have d8v := lb_ HB hg; obtain ⟨a4R, b0z⟩ := nn_ a3d hg; replace b9K := rb_ b9K hb; replace a3d := X3 a3d hb; replace HB := V3 HB hb; clear hb hbox hg; have e6z := b0z.out; have e6A := a4R.out; obtain ⟨a8t, a8u, b5n, a8v, a8w, b5o⟩ := a1Z a3C.out))
      go_loopg [8, 9] kj5 (fun kq v8 v9 w' => ∃ (b0w : Int) (b3C : Int), v8 = .int .u32 b0w ∧ v9 = .int .i64 b3C ∧ Aside0 (umpireref10_Next.l0 kq l0 (a7f) (rd c4c (a7f)) b0w b3C (a7f) 0 = some (r1, r2, r3, r4, r5)) ∧ Aside0 (kq ≤ kj5) ∧ Aside0 (w'.heap[b1z]? = some (.cells #[.int .i64 0, .int .u32 0, (.slice none 0 0)] 58 (0, 0))) ∧ Aside0 (w'.heap[b9L]? = some (.cells #[.int .i64 (a7f), .int .u32 0, (.slice none 0 0)] 58 (0, 0))) ∧ Aside0 (Below w.heap.size w w'))
      case atStart => exact ⟨(0), (0), (by rfl), (by rfl), H', ⟨Nat.le_refl _⟩, ⟨o8 (o8 (o8 a3d.out a4R.out _) a4R.out _) a4R.out _⟩, ⟨l9 (l9 (l9 a3C.out 0 _ rfl) 1 _ rfl) 2 _ rfl⟩, ⟨by repeat (with_reducible first | exact HB.out | refine o7 ?_ d8v.out)⟩⟩
      case round =>
       clear H'
       try clear b0h
       try clear b8H
       try clear b8W
       try clear a8t
       try clear a8u
       try clear b5n
       try clear a8v
       try clear a8w
       try clear b5o
       try clear d2k
       try clear f7x
       try clear f7y
       obtain ⟨b0w, b3C, rfl, rfl, HA, HK2, a3d, a3C, HB⟩ := hrel
       cases gk with
       | zero => exact absurd HA.out (by simp [umpireref10_Next.l0])
       | succ k2 =>
        have H := HA.out; clear HA
        simp only [umpireref10_Next.l0] at H
        by_cases c25 : b3C < (rd c4c (a7f))
        ·rw [if_pos c25] at H; have e5V := dt_ c25; clear c25; obtain ⟨d8w, e6H⟩ := si_ ((wrap64 (1 + b3C))); rw [e6H] at H; have g7J : (IntKind.i64.wrap (1 + b3C)) = d8w := (a0J _).trans e6H; have e5W := a2x H; replace H := O5 H; have d09 := a2x H; replace H := O5 H; have H' := a_ H; clear H; have f0w : 0 ≤ ((d8w) : Int) := V5; have f0x : (d8w) < (l0.length : Int) := V5; obtain ⟨f7A, g7K, d2l⟩ := Kd.Q7 HR0.out (d8w) f0w f0x; obtain rfl : e6F = f7A := (by injection g7K); replace d2l := cb_ HB d2l; replace f0w := eq_true f0w; replace f0x := eq_true f0x
         go_wp2
         go_roundg k2
         case measure => have := HJ5.out; have := HK2.out; omega
         case rel => exact ⟨((((256 * b0w) % 4294967296) + ((rd l0 (d8w)) % 4294967296)) % 4294967296), (wrap64 (b3C + 1)), (by (simp; done)), (by rfl), H', ⟨by have := HJ5.out; have := HK2.out; omega⟩, ⟨by exact a3d.out⟩, ⟨by exact a3C.out⟩, ⟨by exact HB.out⟩⟩
        ·rw [if_neg c25] at H; have e5V := df_ c25; clear c25
         by_cases c29 : (a7f) > 2
         ·rw [if_pos c29] at H; have d2m : decide (2 < (a7f)) = true := dt_ c29; clear c29; obtain ⟨rfl, rfl, rfl, rfl, rfl⟩ := s5_ H; have e5L := b0z.out; have e5M := a4R.out; have c3a : wr.cell? ⟨b9L, 0, none⟩ = some (.int .i64 (a7f)) := (D6 a3C.out 0).trans (by rfl); have c3c := bc1 a3C; have c3d := bc2 a3C; have c3e := l7 a3C.out 0; have c3f := l7 a3C.out 1; have c3g := l7 a3C.out 2; obtain ⟨e3f, e3g, g2c, e3h, e3i, g2d⟩ := a1Z a3d.out
          go_wp2
          refine bodyPost_ret (a0f rfl _ _ b1z 58 #[.int .i64 (a7f), .int .u32 b0w, .slice none 0 0] (0, 0) _ rfl (l9 (l9 (l9 (o8 a3d.out a4R.out _) 0 _ rfl) 1 _ rfl) 2 _ rfl) Tryd.underlying58 rfl (by kernel_rfl)) rfl ?_; exact ⟨_, by (rfl), by (exact Kd.Y2 _ _ _ _ _), by repeat (with_reducible first | exact HB.out | refine o7 ?_ b9J.out | refine o7 ?_ d8v.out)⟩
         ·rw [if_neg c29] at H; have d2m : decide (2 < (a7f)) = false := df_ c29; clear c29
          by_cases c33 : (l0.length : Int) < (wrap64 (3 + (wrap64 (b0w))))
          ·rw [if_pos c33] at H; have c6d := dt_ c33; clear c33; obtain ⟨rfl, rfl, rfl, rfl, rfl⟩ := s5_ H; have f5g := a4R.out; have f5h := b0z.out; obtain ⟨d0B, d0C, e1a, d0D, d0E, e1b⟩ := a1Z a3d.out
           go_wp2
           refine bodyPost_ret (a0f rfl _ _ b1z 58 #[.int .i64 0, .int .u32 0, .slice none 0 0] (0, 0) _ rfl (l9 (l9 (l9 a3d.out 0 _ rfl) 1 _ rfl) 2 _ rfl) Tryd.underlying58 rfl (by kernel_rfl)) rfl ?_; exact ⟨_, by (rfl), by (exact Kd.Y2 _ _ _ _ _), by repeat (with_reducible first | exact HB.out | refine o7 ?_ b9J.out)⟩
          ·rw [if_neg c33] at H; have c6d := df_ c33; clear c33; have c36 := Z4 H; replace H := O5 H; have e5s := eq_true c36; have e5t := dt_ c36; have c37 := Z4 H; replace H := O5 H; have e5z := eq_true c37; have e5A := dt_ c37; have c38 := Z4 H; replace H := O5 H; have d8x := a_ c38; clear c38; obtain ⟨f0y, d8y⟩ := is_ ((([] : List Int) ++ ((l0.take ((wrap64 (3 + (wrap64 (b0w)))) : Int).toNat).drop 3)) : List Int); rw [← d8y] at H; have f7C := a_ d8y; clear d8y; obtain ⟨rfl, rfl, rfl, rfl, rfl⟩ := s5_ H
           try go_wp2
           replace a3d := a_ (G9 a3d.out); replace a3C := a_ (G9 a3C.out); replace HB := a_ (Y4 HB.out); obtain ⟨h4X, e6I, _, e6J, _⟩ := info_parts info5; obtain ⟨A40, g7L, f7D, f7E⟩ := a5B (P := Tryd.prog) (Value.int .u8) 0 22 5 .i64 .i64 Tryd.underlying22 e6I e6J (some e6F) c0 l0 3 (wrap64 (3 + (wrap64 (b0w)))) (by omega) (by omega) (V5) HC0.out; have e6K := ci_ (Kd.Y8 (h1 := fun _ => rfl) (f7D _ (Kd.Y3 HR0.out))); have h0P := a_ f7E; clear f7D f7E e6I e6J; refine a2E (n := 10) (S := fun w' => w'.cell? ⟨b9L, 0, none⟩ = some (.int .i64 (a7f)) ∧ w'.cell? ⟨b9L, 1, none⟩ = some (.int .u32 0) ∧ w'.cell? ⟨b9L, 2, none⟩ = some (.slice none 0 0)) (ds := [9]) (bo_ 10 0) (by kernel_rfl) rfl rfl ⟨bc0 a3C, bc1 a3C, bc2 a3C⟩ (fun hHeld => ?_); refine a2J umpireref10_Next.f7w umpireref10_Next.f0t (fun Z8 HW_ => ?_); generalize wr.drew = w39 at a3d a3C HB e6K hHeld ⊢; refine pu_ 0 (some 65) Z8 ?_; refine pu_ 2 (some 67) Z8 ?_; refine pu_ 3 (some 68) Z8 ?_; refine pu_ 4 (some 69) Z8 ?_; refine pu_ 5 (some 70) Z8 ?_; refine pu_ 6 (some 71) Z8 ?_; refine a1H (i := 1) (N := some 66) (v := ?_) (a' := ?_) (bo_ 10 127) rfl rfl (a1I Z8.out HW_.out (by kernel_rfl)) (fun _ _ _ h => h) (Or.inl ⟨by rfl, ?_⟩) hHeld ?_ ?_
           rotate_left
           ·rintro w' ⟨s0, s1, s2⟩
            go_simp
            with_reducible rfl
           rotate_left
           ·simp only [Act.put, List.setIfInBounds_toArray, List.set_cons_zero, List.set_cons_succ, a0J, a2b]
            rfl
           refine a6o (i := 7) (N := some 72) (bo_ 10 255) rfl rfl (a1U Z8.out (by kernel_rfl)) (by decide) (fun K hK => ?_); refine Kd.a4q (Kd.int .u8) (w0 := w) w.heap.size (by rfl) (.tmp 66) (.tmp 71) 22 5 (.int .u8 0) 1 rfl Tryd.underlying22 info5 rfl (by decide) (by omega) (.slice none 0 0) ([] : List Int) ((l0.take ((wrap64 (3 + (wrap64 (b0w)))) : Int).toNat).drop 3) _ _ _ (fun _ => True) (fun _ => False) rfl rfl ?aO ?aR (fun _ _ h => h) (fun _ h => h.elim) ?aF ?aB ?aS ?aL ?_
           (case aR => (rw [← show ((l0.take ((wrap64 (3 + (wrap64 (b0w)))) : Int).toNat).drop 3).length = ((wrap64 (3 + (wrap64 (b0w)))).toNat - 3) from (by rw [List.length_drop, List.length_take]; have h_ : ((wrap64 (3 + (wrap64 (b0w)))) : Int) ≤ (l0.length : Int) := V5; omega)]; exact (Kd.y9 e6K.out HB.out)))
           (case aB => exact HB.out)
           (case aF => exact (fun _ _ => trivial))
           (case aO => exact (Kd.Y2 _ _ _ _ (fun _ => True)))
           (case aS => exact (y5 HB.out))
           (case aL => have := d8x.out; have e8x := (show ((l0.take ((wrap64 (3 + (wrap64 (b0w)))) : Int).toNat).drop 3).length = ((wrap64 (3 + (wrap64 (b0w)))).toNat - 3) from (by rw [List.length_drop, List.length_take]; have h_ : ((wrap64 (3 + (wrap64 (b0w)))) : Int) ≤ (l0.length : Int) := V5; omega)); omega)
           intro h4Y w41 ho hb hg hat; rw [← f7C.out] at ho; have e6L := a_ ho; replace a3d := a_ (J7 a3d.out hg (by simp [Value.ownBlock])); replace a3C := a_ (J7 a3C.out hg (by simp [Value.ownBlock])); replace HB := a_ hb; clear ho hb hg hat; obtain ⟨d3W, d3X, f0z⟩ := Kd.G7 e6L.out; subst f0z; refine hK.out _ _ ⟨bc0 a3C, bc1 a3C, bc2 a3C⟩ (fun hHeld => ?_); clear hK K; refine nm_ (some 72) ?_; refine pu_ 8 (some 73) Z8 ?_; refine b1Q (i := 9) (N := none) (bo_ 10 1023) rfl rfl (a1U Z8.out (by kernel_rfl)) (by decide) (fun K hK => ?_); have g3U := bc2 a3C; have f3O := l7 a3C.out 2; have g2e := a4R.out; have g2f := b0z.out; refine a7H (w1 := ?_) (by rfl) rfl ?_ ?_
           rotate_left
           ·go_simp
            rfl
           refine hK.out _ _ ?_; clear hK K; refine a4D (a5D Z8.out (by kernel_rfl)) ?_; have d0l := b0z.out; have d0m := a4R.out; have c2K : w41.cell? ⟨b9L, 0, none⟩ = some (.int .i64 (a7f)) := (D6 a3C.out 0).trans (by rfl); have c2M := bc1 a3C; have d19 := bc2 a3C; have c2N := l7 a3C.out 0; have c2O := l7 a3C.out 1; have d2a := l7 a3C.out 2; obtain ⟨b7C, b7D, b7E, b7F, b7G, b7H⟩ := a1Z a3d.out
           try go_wp2
           refine bodyPost_ret (a0f rfl _ _ b1z 58 #[.int .i64 (a7f), .int .u32 0, .slice d3W f0y.length d3X] (0, 0) _ rfl (l9 (l9 (l9 (o8 a3d.out a4R.out _) 0 _ rfl) 1 _ rfl) 2 _ rfl) Tryd.underlying58 rfl (by kernel_rfl)) rfl ?_; exact ⟨_, by (rfl), by exact Kd.D7 (Kd.U0 (p := ⟨b1z, 2, none⟩) (Kd.U0 (p := ⟨b1z, 1, none⟩) (Kd.U0 (p := ⟨b1z, 0, none⟩) (Kd.U0 (p := ⟨b9L, 2, none⟩) (Kd.P8 (Kd.P8 e6L.out a3C.out (by decide)) a3d.out (by decide)) (fun _ hk => hk.1.2) (.slice d3W f0y.length d3X)) (fun _ hk => hk.2) (.int .i64 (a7f))) (fun _ hk => hk.2) (.int .u32 0)) (fun _ hk => hk.2) (.slice d3W f0y.length d3X)) (fun _ hk => trivial), by repeat (with_reducible first | exact HB.out | refine o7 ?_ b9J.out | refine o7 ?_ d8v.out)⟩

end Go.Proofs.YtgnonglkibhnhaaDoor.Print
