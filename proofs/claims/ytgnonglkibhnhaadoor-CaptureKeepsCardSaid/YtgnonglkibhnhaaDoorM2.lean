-- laid together by this session's own program (wip/tools/merge.py) of texts that its program laid
import Derived.Test.YtgnonglkibhnhaaDoorM1
namespace Go.Proofs.YtgnonglkibhnhaaDoor.Print
open Go.RowKit Go.Proofs.YtgnonglkibhnhaaDoorW.PrintWords Go.Proofs.YtgnonglkibhnhaaDoorW.PrintLast Go.Proofs.YtgnonglkibhnhaaDoorW.PrintMore
attribute [local go_sem] a0o a0p a0R a0S Y5 Y6 a0q a0r
set_option linter.unusedVariables false
set_option linter.unusedSimpArgs false
set_option maxHeartbeats 16000000
set_option maxRecDepth 100000
def a2m.f (l0 : List Int) (a1 : Int) (a2 : Int) : Option (List Int × Bool) := if a1 < 0 then (some (([] : List Int), false)) else (if a2 < 0 then (some (([] : List Int), false)) else (if a1 > (l0.length : Int) then (some (([] : List Int), false)) else (if a2 > (wrap64 ((l0.length : Int) - a1)) then (some (([] : List Int), false)) else (if 0 ≤ a1 then (if a1 ≤ (wrap64 (a1 + a2)) then (if (wrap64 (a1 + a2)) ≤ (l0.length : Int) then ((P5.f ((l0.take ((wrap64 (a1 + a2)) : Int).toNat).drop (a1 : Int).toNat)).bind fun e9t => (some (e9t, true))) else (none)) else (none)) else (none)))))
theorem a2m.calls (A0 : Option Addr) (c0 : Nat) (l0 : List Int) (a1 : Int) (a2 : Int) (r1 : List Int) (r2 : Bool) (w : World) (hr0 : Kd.C (Kd.int .u8) w A0 l0.length l0) (hc0 : l0.length ≤ c0) (h : a2m.f l0 a1 a2 = some (r1, r2)) :
  Calls Tryd.prog 80 #[.slice A0 l0.length c0, .int .i64 a1, .int .i64 a2] w fun e w' => ∃ v0_ : Value, e = .returned (.tuple #[v0_, .bool r2]) ∧ Kd.R (Kd.int .u8) 5 w' w.heap.size (fun _ => True) v0_ r1 ∧ Below w.heap.size w w' := by
 have HR0 := a_ hr0
 have HC0 := a_ hc0
 clear hr0 hc0
 have HB := a_ (Below.refl w.heap.size w)
 have H := h
 clear h
 unfold a2m.f at H
 by_cases c4 : a1 < 0
 ·rw [if_pos c4] at H; have a4i := dt_ c4; clear c4; obtain ⟨rfl, rfl⟩ := s2_ H
  go_enter Tryd.func80, Tryd.ntmps80
  go_wp2
  go_ret2
  exact ⟨_, by (rfl), by (exact Kd.Y2 _ _ _ _ _), by exact HB.out⟩
 ·rw [if_neg c4] at H; have a4i := df_ c4; clear c4
  by_cases c5 : a2 < 0
  ·rw [if_pos c5] at H; have a5H := dt_ c5; clear c5; obtain ⟨rfl, rfl⟩ := s2_ H
   go_enter Tryd.func80, Tryd.ntmps80
   go_wp2
   go_ret2
   exact ⟨_, by (rfl), by (exact Kd.Y2 _ _ _ _ _), by exact HB.out⟩
  ·rw [if_neg c5] at H; have a5H := df_ c5; clear c5
   by_cases c6 : a1 > (l0.length : Int)
   ·rw [if_pos c6] at H; have a8y : decide ((l0.length : Int) < a1) = true := dt_ c6; clear c6; obtain ⟨rfl, rfl⟩ := s2_ H
    go_enter Tryd.func80, Tryd.ntmps80
    go_wp2
    go_ret2
    exact ⟨_, by (rfl), by (exact Kd.Y2 _ _ _ _ _), by exact HB.out⟩
   ·rw [if_neg c6] at H; have a8y : decide ((l0.length : Int) < a1) = false := df_ c6; clear c6
    by_cases c7 : a2 > (wrap64 ((l0.length : Int) - a1))
    ·rw [if_pos c7] at H; have a6f : decide ((wrap64 ((l0.length : Int) - a1)) < a2) = true := dt_ c7; clear c7; obtain ⟨rfl, rfl⟩ := s2_ H
     go_enter Tryd.func80, Tryd.ntmps80
     go_wp2
     go_ret2
     exact ⟨_, by (rfl), by (exact Kd.Y2 _ _ _ _ _), by exact HB.out⟩
    ·rw [if_neg c7] at H; have a6f : decide ((wrap64 ((l0.length : Int) - a1)) < a2) = false := df_ c7; clear c7; have c8 := Z4 H; replace H := O5 H; have b2c := eq_true c8; have d3C := dt_ c8; clear c8; have c9 := Z4 H; replace H := O5 H; have b2d := eq_true c9; have b8F := dt_ c9; have c10 := Z4 H; replace H := O5 H; have a9w := eq_true c10; have b8G := dt_ c10; obtain ⟨e9t, A11, H⟩ := bd_ H
     (try dsimp only at H); obtain ⟨rfl, rfl⟩ := s2_ H; obtain ⟨g46, c6l, _, c6m, _⟩ := info_parts info5; obtain ⟨A12, e9u, d7n, d7o⟩ := a5B (P := Tryd.prog) (Value.int .u8) 0 22 5 .i64 .i64 Tryd.underlying22 c6l c6m A0 c0 l0 a1 (wrap64 (a1 + a2)) (V5) (by omega) (V5) HC0.out; have f5Q := ci_ (Kd.Y8 (h1 := fun _ => rfl) (d7n _ (Kd.Y3 HR0.out))); have f5R := a_ d7o; clear d7n d7o c6l c6m
     go_enter Tryd.func80, Tryd.ntmps80
     go_wp2_with (first | (refine gl_ (some 34) Tryd.func96 #[.slice A12 ((l0.take ((wrap64 (a1 + a2)) : Int).toNat).drop (a1 : Int).toNat).length (c0 - a1.toNat)] ?_ (hargs := by (try simp only [List.map_toArray, List.map_cons, List.map_nil]); (rw [show ((l0.take ((wrap64 (a1 + a2)) : Int).toNat).drop (a1 : Int).toNat).length = ((wrap64 (a1 + a2)).toNat - a1.toNat) from (by rw [List.length_drop, List.length_take]; have h_ : ((wrap64 (a1 + a2)) : Int) ≤ (l0.length : Int) := V5; omega)] <;> rfl)); (with_reducible refine (P5.calls _ _ ((l0.take ((wrap64 (a1 + a2)) : Int).toNat).drop (a1 : Int).toNat) e9t _ f5Q.out f5R.out A11.out).mono ?_); rintro e w13 ⟨h4m, rfl, ho0, hb⟩; refine ⟨_, rfl, ?_⟩; have f5S := rl_ ho0 HB; replace HB := V3 HB hb; (try clear hb); (try clear ho0)))
     go_ret2
     exact ⟨_, by (rfl), by exact f5S.out, by exact HB.out⟩
def a4N.f (k : Nat) (l0 : List Int) (a1 : Bool) : Option (Int × Int × Int × List Int × Int × Int) :=
 if (l0.length : Int) < 16 then some (0, 0, 0, ([] : List Int), 0, 2) else
 (y8.num k l0 a1 0 4).bind fun t1 => (y8.num k l0 a1 4 4).bind fun t2 => (y8.num k l0 a1 8 4).bind fun t3 => (y8.num k l0 a1 12 4).bind fun t4 =>
  if t3 > 131072 then some (0, 0, 0, ([] : List Int), 0, 4) else
  (a2m.f l0 16 t3).bind fun c => if c.2 = true then some (t1, t2, t4, c.1, 16 + t3, 0) else some (0, 0, 0, ([] : List Int), 0, 2)
theorem a4N.calls (k : Nat) (A0 : Option Addr) (c0 : Nat) (l0 : List Int) (a1 : Bool) (r1 : Int) (r2 : Int) (r3 : Int) (r4 : List Int) (r5 : Int) (r6 : Int) (w : World) (hr0 : Kd.C (Kd.int .u8) w A0 l0.length l0) (hc0 : l0.length ≤ c0) (h : a4N.f k l0 a1 = some (r1, r2, r3, r4, r5, r6)) :
  Calls Tryd.prog 62 #[.slice A0 l0.length c0, .bool a1] w fun e w' => ∃ v3_ : Value, e = .returned (.tuple #[.agg #[.int .u32 r1, .int .u32 r2, .int .u32 r3, v3_], .int .i64 r5, .int .i64 r6]) ∧ Kd.R (Kd.int .u8) 5 w' w.heap.size (fun _ => True) v3_ r4 ∧ Below w.heap.size w w' := by
 have c7W := Tryd.underlying51
 unfold a4N.f at h
 have HR0 := a_ hr0
 have HC0 := a_ hc0
 have HW := a_ (Below.refl w.heap.size w)
 by_cases c1 : (l0.length : Int) < 16
 ·rw [if_pos c1] at h
  simp only [Option.some.injEq, Prod.mk.injEq] at h
  obtain ⟨rfl, rfl, rfl, rfl, rfl, rfl⟩ := h; have c1b := dt_ c1; clear c1 hr0 hc0
  go_enter Tryd.func62, Tryd.ntmps62
  go_wp2_with ((refine be_ 4 #[.int .u32 0, .int .u32 0, .int .u32 0, .slice none 0 0] 51 ?_; intro g4 hg w1 hbox hb; have BK4 := a_ hbox; have HB1 := V3 HW hb; have GE4 : Aside0 (w.heap.size ≤ g4) := ⟨by rw [hg]; exact Nat.le_refl _⟩; clear hg hbox hb; obtain ⟨b9k, b9l, b9m, b9n, b9o, b9p, b9q, b9r⟩ := blk4 BK4.out))
  refine bodyPost_ret (a0f rfl _ _ g4 51 #[.int .u32 0, .int .u32 0, .int .u32 0, .slice none 0 0] (0, 0) _ rfl (l9 (l9 (l9 (l9 BK4.out 0 _ rfl) 1 _ rfl) 2 _ rfl) 3 _ rfl) Tryd.underlying51 rfl (by kernel_rfl)) rfl ?_; exact ⟨_, rfl, Kd.Y2 _ _ _ _ _, by repeat (first | exact HB1.out | refine o7 ?_ GE4.out)⟩
 ·rw [if_neg c1] at h; replace h := Option.bind_eq_some_iff.1 h; obtain ⟨t1, h1, h⟩ := h; replace h := Option.bind_eq_some_iff.1 h; obtain ⟨t2, h2, h⟩ := h; replace h := Option.bind_eq_some_iff.1 h; obtain ⟨t3, h3, h⟩ := h; replace h := Option.bind_eq_some_iff.1 h; obtain ⟨t4, h4, h⟩ := h; have c1b := df_ c1; have hlen : 16 ≤ (l0.length : Int) := by omega
  have r30 := (y8.range h3).1; have r31 := (y8.range h3).2; have HL := a_ hlen; have H1 := a_ h1; have H2 := a_ h2; have H3 := a_ h3; have H4 := a_ h4; have H := a_ h; clear h1 h2 h3 h4 h c1 hr0 hc0
  go_enter Tryd.func62, Tryd.ntmps62
  go_wp2_with ((refine be_ 4 #[.int .u32 0, .int .u32 0, .int .u32 0, .slice none 0 0] 51 ?_; intro g4 hg w1 hbox hb; have BK4 := a_ hbox; have HB1 := V3 HW hb; have GE4 : Aside0 (w.heap.size ≤ g4) := ⟨by rw [hg]; exact Nat.le_refl _⟩; clear hg hbox hb; obtain ⟨b9k, b9l, b9m, b9n, b9o, b9p, b9q, b9r⟩ := blk4 BK4.out))
  refine (y8.calls A0 l0.length c0 a1 _).mono ?_; rintro e w2 ⟨gb, ga, gg, rfl, hI2, hb2⟩; have d7p := X3 BK4 hb2; have HB2 := V3 HB1 hb2; have LA := a_ (Nat.le_trans (y5 HB1.out) hI2.la); have I2 := a_ (hI2.lower (y5 HB1.out)); have NB4 : Aside0 (g4 ≠ ga) := ⟨a6E d7p.out hI2.ha (by decide)⟩; clear hI2 hb2 BK4 HB1
  go_wp2_with (fail)
  refine (y8.next k A0 l0 c0 a1 0 4 t1 _ gb ga gg _ I2.out (Kd.y9 HR0.out HB2.out) HC0.out (by omega) (by omega) (by have := HL.out; omega) H1.out).mono ?_; rintro e w3 ⟨rfl, hI3, hk3, hb3⟩; have d7q := a_ (hk3.blk d7p.out NB4.out (by simp)); have HB3 := a_ (hb3 w HB2.out LA.out); have I3 : Aside0 (y8.Inv w3 w.heap.size A0 l0.length c0 a1 4 gb ga gg) := ⟨hI3⟩; clear hI3 hk3 hb3 d7p HB2 I2
  go_wp2_with ((refine be_ 8 #[.int .u32 0, .int .u32 0, .int .u32 0, .slice none 0 0] 51 ?_; intro g8 hg w4 hbox hb; have BK8 := a_ hbox; have GE8 : Aside0 (w.heap.size ≤ g8) := ⟨by rw [hg]; exact y5 HB3.out⟩; have c6n : Aside0 (g4 ≠ g8) := ⟨by rw [hg]; exact Nat.ne_of_lt (a0u d7q.out)⟩; have b5F := X3 d7q hb; have I4 := a_ (I3.out.below hb); have HB4 := V3 HB3 hb; have N8b : Aside0 (gb ≠ g8) := ⟨a6E I4.out.hb BK8.out (by decide)⟩; have N8a : Aside0 (ga ≠ g8) := ⟨a6E I4.out.ha BK8.out (by decide)⟩; have N8g : Aside0 (gg ≠ g8) := ⟨a6E I4.out.hg BK8.out (by decide)⟩; clear hg hbox hb d7q HB3 I3; obtain ⟨c0T, c0U, e6e, c1f, c0S, d1c, e6f, e6g⟩ := blk4 BK8.out))
  refine (y8.next k A0 l0 c0 a1 4 4 t2 w.heap.size gb ga gg _ (by repeat (first | exact I4.out | refine y8.Inv.far ?_ N8b.out N8a.out N8g.out _)) (Kd.y9 HR0.out (by repeat (first | exact HB4.out | refine o7 ?_ GE8.out))) HC0.out (by omega) (by omega) (by have := HL.out; omega) H2.out).mono ?_; rintro e w5 ⟨rfl, hI, hk, hb⟩; have b3T := a_ (hk.blk (o := .cells #[.int .u32 t1, .int .u32 0, .int .u32 0, .slice none 0 0] 51 (0, 0)) (g' := g8) (l9 (l9 (l9 (l9 BK8.out 0 _ rfl) 1 _ rfl) 2 _ rfl) 3 _ rfl) N8a.out.symm (by simp)); have b0o := a_ (hk.blk (o := .cells #[.int .u32 0, .int .u32 0, .int .u32 0, .slice none 0 0] 51 (0, 0)) (g' := g4) (by repeat (first | exact b5F.out | refine o8 ?_ c6n.out _)) NB4.out (by simp)); have HB5 := a_ (hb w (by repeat (first | exact HB4.out | refine o7 ?_ GE8.out)) LA.out); have I5 : Aside0 (y8.Inv w5 w.heap.size A0 l0.length c0 a1 8 gb ga gg) := ⟨hI⟩; clear hI hk hb BK8 b5F HB4 I4; have g49 := bc0 b3T; have g5a := l7 b3T.out 0; have g5b := bc1 b3T; have g5c := l7 b3T.out 1; have g5d := bc2 b3T; have g5e := l7 b3T.out 2; have g5f := bc3 b3T; have g5g := l7 b3T.out 3
  go_wp2_with (fail)
  refine (y8.next k A0 l0 c0 a1 8 4 t3 w.heap.size gb ga gg _ (by repeat (first | exact I5.out | refine y8.Inv.far ?_ N8b.out N8a.out N8g.out _)) (Kd.y9 HR0.out (by repeat (first | exact HB5.out | refine o7 ?_ GE8.out))) HC0.out (by omega) (by omega) (by have := HL.out; omega) H3.out).mono ?_; rintro e w6 ⟨rfl, hI, hk, hb⟩; have b3U := a_ (hk.blk (o := .cells #[.int .u32 t1, .int .u32 t2, .int .u32 0, .slice none 0 0] 51 (0, 0)) (g' := g8) (l9 b3T.out 1 _ rfl) N8a.out.symm (by simp)); have b0p := a_ (hk.blk (o := .cells #[.int .u32 0, .int .u32 0, .int .u32 0, .slice none 0 0] 51 (0, 0)) (g' := g4) (by repeat (first | exact b0o.out | refine o8 ?_ c6n.out _)) NB4.out (by simp)); have HB6 := a_ (hb w (by repeat (first | exact HB5.out | refine o7 ?_ GE8.out)) LA.out); have I6 : Aside0 (y8.Inv w6 w.heap.size A0 l0.length c0 a1 12 gb ga gg) := ⟨hI⟩; clear hI hk hb b3T b0o HB5 I5; have g5h := bc0 b3U; have g5i := l7 b3U.out 0; have g5j := bc1 b3U; have g5k := l7 b3U.out 1; have g5l := bc2 b3U; have g5m := l7 b3U.out 2; have g5n := bc3 b3U; have g5o := l7 b3U.out 3
  go_wp2_with (fail)
  refine (y8.next k A0 l0 c0 a1 12 4 t4 w.heap.size gb ga gg _ I6.out (Kd.y9 HR0.out HB6.out) HC0.out (by omega) (by omega) (by have := HL.out; omega) H4.out).mono ?_; rintro e w7 ⟨rfl, hI, hk, hb⟩; have b5G := a_ (hk.blk b3U.out N8a.out.symm (by simp)); have a5V := a_ (hk.blk b0p.out NB4.out (by simp)); have HB7 := a_ (hb w HB6.out LA.out); clear hI hk hb b3U b0p HB6 I6; have g5p := bc0 b5G; have g5q := l7 b5G.out 0; have g5r := bc1 b5G; have g5s := l7 b5G.out 1; have g5t := bc2 b5G; have g5u := l7 b5G.out 2; have g5v := bc3 b5G; have g5w := l7 b5G.out 3; have e9v := bc0 a5V; have e9w := l7 a5V.out 0; have e9x := bc1 a5V; have e9y := l7 a5V.out 1; have e9z := bc2 a5V; have e9A := l7 a5V.out 2; have e9B := bc3 a5V; have e9C := l7 a5V.out 3; have n48 : g4 ≠ g8 := c6n.out; have n84 : g8 ≠ g4 := c6n.out.symm
  by_cases c2 : t3 > 131072
  ·have h := H.out; rw [if_pos c2] at h
   simp only [Option.some.injEq, Prod.mk.injEq] at h
   obtain ⟨rfl, rfl, rfl, rfl, rfl, rfl⟩ := h; have c2b : decide (131072 < t3) = true := dt_ c2
   go_wp2_with (fail)
   refine bodyPost_ret (a0f rfl _ _ g4 51 #[.int .u32 0, .int .u32 0, .int .u32 0, .slice none 0 0] (0, 0) _ rfl (l9 (l9 (l9 (l9 (o8 a5V.out c6n.out _) 0 _ rfl) 1 _ rfl) 2 _ rfl) 3 _ rfl) Tryd.underlying51 rfl (by kernel_rfl)) rfl ?_; exact ⟨_, rfl, Kd.Y2 _ _ _ _ _, by repeat (first | exact HB7.out | refine o7 ?_ GE4.out | refine o7 ?_ GE8.out)⟩
  ·have h := H.out; rw [if_neg c2] at h; obtain ⟨⟨d1, d2⟩, h5, h6⟩ := Option.bind_eq_some_iff.1 h; have H5 := a_ h5; have c2b : decide (131072 < t3) = false := df_ c2; have r32 : t3 ≤ 131072 := by omega
   cases d2 with
   | false =>
    simp only [Bool.false_eq_true, if_false, Option.some.injEq, Prod.mk.injEq] at h6
    obtain ⟨rfl, rfl, rfl, rfl, rfl, rfl⟩ := h6; clear h h5 c2
    go_wp2_with (fail)
    refine (a2m.calls A0 c0 l0 16 t3 d1 false _ (Kd.y9 HR0.out (by repeat (first | exact HB7.out | refine o7 ?_ GE8.out))) HC0.out H5.out).mono ?_; rintro e w8 ⟨v, rfl, hv, hb⟩; have a3A := a_ (L6 (g := g4) (o := .cells #[.int .u32 0, .int .u32 0, .int .u32 0, .slice none 0 0] 51 (0, 0)) (by repeat (first | exact a5V.out | refine o8 ?_ c6n.out _)) hb); have HB8 := a_ (J6 (by repeat (first | exact HB7.out | refine o7 ?_ GE8.out)) hb); clear hv hb; have d7r := bc0 a3A; have d7s := l7 a3A.out 0; have d7t := bc1 a3A; have d7u := l7 a3A.out 1; have d7v := bc2 a3A; have d7w := l7 a3A.out 2; have d7x := bc3 a3A; have d7y := l7 a3A.out 3
    go_wp2_with (fail)
    refine bodyPost_ret (a0f rfl _ _ g4 51 #[.int .u32 0, .int .u32 0, .int .u32 0, .slice none 0 0] (0, 0) _ rfl (l9 (l9 (l9 (l9 a3A.out 0 _ rfl) 1 _ rfl) 2 _ rfl) 3 _ rfl) Tryd.underlying51 rfl (by kernel_rfl)) rfl ?_; exact ⟨_, rfl, Kd.Y2 _ _ _ _ _, by repeat (first | exact HB8.out | refine o7 ?_ GE4.out)⟩
   | true =>
    simp only [if_true, Option.some.injEq, Prod.mk.injEq] at h6
    obtain ⟨rfl, rfl, rfl, rfl, rfl, rfl⟩ := h6; clear h h5 c2
    go_wp2_with (fail)
    refine (a2m.calls A0 c0 l0 16 t3 d1 true _ (Kd.y9 HR0.out (by repeat (first | exact HB7.out | refine o7 ?_ GE8.out))) HC0.out H5.out).mono ?_; rintro e w8 ⟨v, rfl, hv, hb⟩; obtain ⟨Av, cv, rfl⟩ := Kd.G7 hv; have a3A := a_ (L6 (g := g4) (o := .cells #[.int .u32 0, .int .u32 0, .int .u32 0, .slice none 0 0] 51 (0, 0)) (by repeat (first | exact a5V.out | refine o8 ?_ c6n.out _)) hb); have b5H := a_ (L6 (g := g8) (o := .cells #[.int .u32 t1, .int .u32 t2, .int .u32 t4, .slice none 0 0] 51 (0, 0)) (l9 b5G.out 2 _ rfl) hb); have HB8 := a_ (J6 (by repeat (first | exact HB7.out | refine o7 ?_ GE8.out)) hb); have HO := a_ (Kd.Z9 hv (y5 (by repeat (first | exact HB7.out | refine o7 ?_ GE8.out)))); clear hv hb; have d7r := bc0 a3A; have d7s := l7 a3A.out 0; have d7t := bc1 a3A; have d7u := l7 a3A.out 1; have d7v := bc2 a3A; have d7w := l7 a3A.out 2; have d7x := bc3 a3A; have d7y := l7 a3A.out 3; have g5x := bc0 b5H; have g5y := l7 b5H.out 0; have g5z := bc1 b5H; have g5A := l7 b5H.out 1; have g5B := bc2 b5H; have g5C := l7 b5H.out 2; have g5D := bc3 b5H; have g5E := l7 b5H.out 3
    go_wp2_with (fail)
    have B0 := a_ (o8 (p := ⟨g8, 3, none⟩) a3A.out c6n.out (.slice Av d1.length cv)); have B1 := a_ (l9 B0.out 0 (.int .u32 t1) (cs' := #[.int .u32 t1, .int .u32 0, .int .u32 0, .slice none 0 0]) rfl); have B2 := a_ (l9 B1.out 1 (.int .u32 t2) (cs' := #[.int .u32 t1, .int .u32 t2, .int .u32 0, .slice none 0 0]) rfl); have B3 := a_ (l9 B2.out 2 (.int .u32 t4) (cs' := #[.int .u32 t1, .int .u32 t2, .int .u32 t4, .slice none 0 0]) rfl); have B4 := a_ (l9 B3.out 3 (.slice Av d1.length cv) (cs' := #[.int .u32 t1, .int .u32 t2, .int .u32 t4, .slice Av d1.length cv]) rfl); have O0 := a_ (Kd.c0q HO.out b5H.out (by decide) 3 (.slice Av d1.length cv)); have O1 := a_ (Kd.c0q O0.out B0.out (by decide) 0 (.int .u32 t1)); have O2 := a_ (Kd.c0q O1.out B1.out (by decide) 1 (.int .u32 t2)); have O3 := a_ (Kd.c0q O2.out B2.out (by decide) 2 (.int .u32 t4)); have O4 := a_ (Kd.c0q O3.out B3.out (by decide) 3 (.slice Av d1.length cv)); refine bodyPost_ret (a0f rfl _ _ g4 51 #[.int .u32 t1, .int .u32 t2, .int .u32 t4, .slice Av d1.length cv] (0, 0) _ rfl B4.out Tryd.underlying51 rfl (by kernel_rfl)) rfl ?_; exact ⟨_, rfl, O4.out, by repeat (first | exact HB8.out | refine o7 ?_ GE4.out | refine o7 ?_ GE8.out)⟩
def a3p.f (l0 : List Int) : Option (Int × Int) := if (l0.length : Int) = 0 then (some (0, 2)) else (if 0 < (l0.length : Int) then (if (rd l0 0) = 255 then (if (l0.length : Int) = 1 then (some (0, 2)) else (if 1 < (l0.length : Int) then (if (rd l0 1) = 3 then (some (2, 0)) else (some (0, 3))) else (none))) else (some (0, 0))) else (none))
theorem a3p.calls (A0 : Option Addr) (c0 : Nat) (l0 : List Int) (r1 : Int) (r2 : Int) (w : World) (hr0 : Kd.C (Kd.int .u8) w A0 l0.length l0) (hc0 : l0.length ≤ c0) (h : a3p.f l0 = some (r1, r2)) :
  Calls Tryd.prog 97 #[.slice A0 l0.length c0] w fun e w' => e = .returned (.tuple #[.int .i64 r1, .int .i64 r2]) ∧ G5 w w' := by
 have HR0 := a_ hr0
 have HC0 := a_ hc0
 clear hr0 hc0
 have H := h
 clear h
 unfold a3p.f at H
 by_cases c2 : (l0.length : Int) = 0
 ·rw [if_pos c2] at H; obtain ⟨b2i, c3A⟩ := bt_ c2; clear c2; obtain ⟨rfl, rfl⟩ := s2_ H
  go_enter Tryd.func97, Tryd.ntmps97
  go_wp2
  go_ret2
  exact ⟨by (rfl), by exact G5.refl _⟩
 ·rw [if_neg c2] at H; have b2i := bq_ c2; have c3A := bn_ c2; have e3p : ¬ (l0 = []) := fun h_ => c2 (by rw [h_]; rfl)
  have c3 := Z4 H; replace H := O5 H; have a3T := dt_ c3; have b1E : decide (0 < l0.length) = true := dt_ (by omega); clear c3
  by_cases c4 : (rd l0 0) = 255
  ·rw [if_pos c4] at H; obtain ⟨a4i, b2z⟩ := bt_ c4; clear c4
   by_cases c5 : (l0.length : Int) = 1
   ·rw [if_pos c5] at H; obtain ⟨a5H, b1f⟩ := bt_ c5; clear c5; obtain ⟨rfl, rfl⟩ := s2_ H; have b4s : 0 ≤ (0 : Int) := (by omega); have b4t : 0 < (l0.length : Int) := V5; obtain ⟨c6o, e126, a6S⟩ := Kd.Q7 HR0.out 0 b4s b4t
    cases e126
    have d7z : (0 < l0.length) = True := eq_true (by omega)
    (try rw [show (0 : Int).toNat = 0 from rfl] at a6S)
    (try rw [Addr.add_zero'] at a6S)
    replace b4s := eq_true b4s; replace b4t := eq_true b4t
    go_enter Tryd.func97, Tryd.ntmps97
    go_wp2
    go_ret2
    exact ⟨by (rfl), by exact G5.refl _⟩
   ·rw [if_neg c5] at H; have a5H := bq_ c5; have b1f := bn_ c5; have c6 := Z4 H; replace H := O5 H; have a8y := dt_ c6; have b5p : decide (1 < l0.length) = true := dt_ (by omega); clear c6
    by_cases c7 : (rd l0 1) = 3
    ·rw [if_pos c7] at H; obtain ⟨a6f, b0g⟩ := bt_ c7; clear c7; obtain ⟨rfl, rfl⟩ := s2_ H; have b4s : 0 ≤ (0 : Int) := (by omega); have b4t : 0 < (l0.length : Int) := V5; obtain ⟨c6o, e126, a6S⟩ := Kd.Q7 HR0.out 0 b4s b4t
     cases e126
     have d7z : (0 < l0.length) = True := eq_true (by omega)
     (try rw [show (0 : Int).toNat = 0 from rfl] at a6S)
     (try rw [Addr.add_zero'] at a6S)
     replace b4s := eq_true b4s; replace b4t := eq_true b4t; have c8r : 0 ≤ (1 : Int) := (by omega); have c8s : 1 < (l0.length : Int) := V5; obtain ⟨d7A, e127, c3T⟩ := Kd.Q7 HR0.out 1 c8r c8s; obtain rfl : c6o = d7A := (by injection e127)
     (try simp only [show (1 : Int).toNat = 1 from rfl, Nat.reduceMul, Nat.reduceEqDiff, Go.Addr.add, ↓reduceIte] at c3T)
     have f5W : (1 < l0.length) = True := eq_true (by omega); replace c8r := eq_true c8r; replace c8s := eq_true c8s
     go_enter Tryd.func97, Tryd.ntmps97
     go_wp2
     go_ret2
     exact ⟨by (rfl), by exact G5.refl _⟩
    ·rw [if_neg c7] at H; have a6f := bq_ c7; have b0g := bn_ c7; obtain ⟨rfl, rfl⟩ := s2_ H; have b4s : 0 ≤ (0 : Int) := (by omega); have b4t : 0 < (l0.length : Int) := V5; obtain ⟨c6o, e126, a6S⟩ := Kd.Q7 HR0.out 0 b4s b4t
     cases e126
     have d7z : (0 < l0.length) = True := eq_true (by omega)
     (try rw [show (0 : Int).toNat = 0 from rfl] at a6S)
     (try rw [Addr.add_zero'] at a6S)
     replace b4s := eq_true b4s; replace b4t := eq_true b4t; have c8r : 0 ≤ (1 : Int) := (by omega); have c8s : 1 < (l0.length : Int) := V5; obtain ⟨d7A, e127, c3T⟩ := Kd.Q7 HR0.out 1 c8r c8s; obtain rfl : c6o = d7A := (by injection e127)
     (try simp only [show (1 : Int).toNat = 1 from rfl, Nat.reduceMul, Nat.reduceEqDiff, Go.Addr.add, ↓reduceIte] at c3T)
     have f5W : (1 < l0.length) = True := eq_true (by omega); replace c8r := eq_true c8r; replace c8s := eq_true c8s
     go_enter Tryd.func97, Tryd.ntmps97
     go_wp2
     go_ret2
     exact ⟨by (rfl), by exact G5.refl _⟩
  ·rw [if_neg c4] at H; have a4i := bq_ c4; have b2z := bn_ c4; obtain ⟨rfl, rfl⟩ := s2_ H; have b4s : 0 ≤ (0 : Int) := (by omega); have b4t : 0 < (l0.length : Int) := V5; obtain ⟨c6o, e126, a6S⟩ := Kd.Q7 HR0.out 0 b4s b4t
   cases e126
   have d7z : (0 < l0.length) = True := eq_true (by omega)
   (try rw [show (0 : Int).toNat = 0 from rfl] at a6S)
   (try rw [Addr.add_zero'] at a6S)
   replace b4s := eq_true b4s; replace b4t := eq_true b4t
   go_enter Tryd.func97, Tryd.ntmps97
   go_wp2
   go_ret2
   exact ⟨by (rfl), by exact G5.refl _⟩
def a4w.f (l0 : List Int) (a1 : Int) : Option (List Int) := if 0 ≤ (mn (mx a1 0) (l0.length : Int)) then (if (mn (mx a1 0) (l0.length : Int)) ≤ (l0.length : Int) then ((P5.f (l0.drop ((mn (mx a1 0) (l0.length : Int)) : Int).toNat)).bind fun t141 => (some t141)) else (none)) else (none)
theorem a4w.calls (A0 : Option Addr) (c0 : Nat) (l0 : List Int) (a1 : Int) (r : List Int) (w : World) (hr0 : Kd.C (Kd.int .u8) w A0 l0.length l0) (hc0 : l0.length ≤ c0) (h : a4w.f l0 a1 = some r) :
  Calls Tryd.prog 82 #[.slice A0 l0.length c0, .int .i64 a1] w fun e w' => ∃ v0_ : Value, e = .returned (v0_) ∧ Kd.R (Kd.int .u8) 5 w' w.heap.size (fun _ => True) v0_ r ∧ Below w.heap.size w w' := by
 have HR0 := a_ hr0
 have HC0 := a_ hc0
 clear hr0 hc0
 have HB := a_ (Below.refl w.heap.size w)
 have H := h
 clear h
 unfold a4w.f at H
 obtain ⟨ji3, e9D⟩ := si_ ((mx a1 0))
 rw [e9D] at H
 (try (have g9W : 0 ≤ ji3 := by (rw [← e9D]; unfold mx; (repeat' split) <;> omega)))
 (try (have g9X : 0 ≤ ji3 := by omega))
 have g9Y : (if a1 < 0 then 0 else a1) = ji3 := e9D
 obtain ⟨ji4, f5X⟩ := si_ ((mn (ji3) (l0.length : Int)))
 rw [f5X] at H
 have g9Z : (if (l0.length : Int) < (ji3) then (l0.length : Int) else (ji3)) = ji4 := f5X
 have c5 := Z4 H
 replace H := O5 H
 have a5H := eq_true c5
 have b1f := dt_ c5
 clear c5
 have c6 := Z4 H
 replace H := O5 H
 have a8y := eq_true c6
 have b5p := dt_ c6
 clear c6
 obtain ⟨t141, A7, H⟩ := bd_ H
 try dsimp only at H
 obtain rfl := oj_ H
 obtain ⟨i08, c6p, _, c6q, _⟩ := info_parts info5
 obtain ⟨A8, e6h, hA8, hC8⟩ := a0O (P := Tryd.prog) (Value.int .u8) 0 22 5 .i64 Tryd.underlying22 c6p c6q A0 c0 l0 (ji4) (V5) (V5) HC0.out
 have f5Y := ci_ (Kd.Y8 (h1 := fun _ => rfl) (hA8 _ (Kd.Y3 HR0.out)))
 have f5Z := a_ hC8
 clear hA8 hC8 c6p c6q
 go_enter Tryd.func82, Tryd.ntmps82
 go_wp2_with (first | (refine gl_ (some 12) Tryd.func96 #[.slice A8 (l0.drop ((ji4) : Int).toNat).length (c0 - (ji4).toNat)] ?_ (hargs := by (try simp only [List.map_toArray, List.map_cons, List.map_nil]); (rw [show (l0.drop ((ji4) : Int).toNat).length = (l0.length - (ji4).toNat) from List.length_drop] <;> rfl)); (with_reducible refine (P5.calls _ _ (l0.drop ((ji4) : Int).toNat) t141 _ f5Y.out f5Z.out A7.out).mono ?_); rintro e w9 ⟨h4n, rfl, ho0, hb⟩; refine ⟨_, rfl, ?_⟩; have f6a := rl_ ho0 HB; replace HB := V3 HB hb; (try clear hb); (try clear ho0)))
 go_ret
 exact ⟨_, by (rfl), by exact f6a.out, by exact HB.out⟩
structure DF where
 inn : Bool
 held : List Int
 tg : Int
 ta : Int
 ts : Int
 tl : Int
 tw : Int
 done : List (List Int)
def DF.init : DF := ⟨false, [], 0, 0, 0, 0, 0, []⟩
def DF.fn : Bool → Nat → Value
 | true, p => .func (.func 84) #[.pointer (some ⟨p, 0, none⟩)] #[]
 | false, p => .func (.func 65) #[.pointer (some ⟨p, 0, none⟩)] #[]
def DF.cells (m : Int) (wide : Bool) (p : Nat) (vh vd : Value) (s : DF) : Array Value := #[.int .u32 m, .bool wide, DF.fn s.inn p, vh, .int .i64 s.tg, .int .i64 s.ta, .int .i64 s.ts, .int .i64 s.tl, .int .i64 s.tw, vd]
structure DFI (B D : Nat) (W : World) (p : Nat) (vh vd : Value) (m : Int) (wide : Bool) (s : DF) : Prop where
 blk : W.heap[p]? = some (.cells (DF.cells m wide p vh vd s) 120 (0, 0))
 held : Kd.R (Kd.int .u8) 5 W B (fun k => k ≠ p ∧ some k ≠ vd.ownBlock) vh s.held
 done : Kd.S (Kd.slice 5 (Kd.int .u8)) 22 W D (fun k => k ≠ p ∧ some k ≠ vh.ownBlock) vd s.done
 le : B ≤ p
theorem DFI.below {B D : Nat} {W W1 : World} {p : Nat} {vh vd : Value} {m : Int} {wide : Bool} {s : DF} (h : DFI B D W p vh vd m wide s) (hb : Below W.heap.size W W1) : DFI B D W1 p vh vd m wide s := ⟨L6 h.blk hb, Kd.a2a h.held hb, Kd.a4s h.done hb, h.le⟩
theorem DFI.drewN {B D : Nat} {W : World} {p : Nat} {vh vd : Value} {m : Int} {wide : Bool} {s : DF} (h : DFI B D W p vh vd m wide s) (n : Nat) : DFI B D (W.drewN n) p vh vd m wide s := h.below (o9 (Below.refl _ _) n)
theorem DFI.set {B D : Nat} {W : World} {p : Nat} {vh vd : Value} {m : Int} {wide : Bool} {s : DF} (h : DFI B D W p vh vd m wide s) (j : Nat) (u : Value) (s' : DF) (he : (DF.cells m wide p vh vd s).setIfInBounds j u = DF.cells m wide p vh vd s') (h1 : s'.held = s.held) (h2 : s'.done = s.done) : DFI B D (W.setCell ⟨p, j, none⟩ u) p vh vd m wide s' :=
 ⟨by rw [← he]; exact a3Z h.blk j u, by rw [h1]; exact Kd.U0 h.held (fun k hk => hk.1) u, by rw [h2]; exact Kd.V9 h.done (fun k hk => hk.1) u, h.le⟩
theorem DFI.cell {B D : Nat} {W : World} {p : Nat} {vh vd : Value} {m : Int} {wide : Bool} {s : DF} (h : DFI B D W p vh vd m wide s) (j : Nat) (u : Value) (he : (DF.cells m wide p vh vd s)[j]? = some u) : W.cell? ⟨p, j, none⟩ = some u := (D6 h.blk j).trans he
theorem DFI.free {B D : Nat} {W : World} {p : Nat} {vh vd : Value} {m : Int} {wide : Bool} {s : DF} (h : DFI B D W p vh vd m wide s) (j : Nat) : W.frozen? ⟨p, j, none⟩ = false := l7 h.blk j
structure DFK (B : Nat) (W W' : World) (S : Nat → Prop) : Prop where
 bel : Below B W W'
 kept : Kept W W' S
theorem DFK.below {B : Nat} {W W' W2 : World} {S : Nat → Prop} (h : DFK B W W' S) (hB : B ≤ W.heap.size) (hb : Below W'.heap.size W' W2) : DFK B W W2 S := ⟨h.bel.trans (hb.mono (Nat.le_trans hB h.kept.1)), h.kept.below hb⟩
theorem DFK.refl (B : Nat) (W : World) (S : Nat → Prop) : DFK B W W S := ⟨Below.refl _ _, Kept.refl _ _⟩
theorem DFK.set {B : Nat} {W W' : World} {S : Nat → Prop} (h : DFK B W W' S) {p : Nat} (hp : S p) (hB : B ≤ p) (j : Nat) (u : Value) : DFK B W (W'.setCell ⟨p, j, none⟩ u) S := ⟨h.bel.setCell hB u, h.kept.setCell (Or.inl hp) u⟩
theorem DFK.grown {B D : Nat} {W W' W2 : World} {S : Nat → Prop} {row : Option Nat} (h : DFK B W W' S) (hB : B ≤ D) (hb : Below D W' W2) (hg : W'.grownBy W2 row) (hr : ∀ k, row = some k → S k) : DFK B W W2 S := ⟨h.bel.trans (hb.mono hB), h.kept.b4O hg (fun k hk => Or.inl (hr k hk))⟩
theorem DFK.trans {B : Nat} {w W W2 : World} {S S2 : Nat → Prop} (h : DFK B w W S) (h2 : DFK B W W2 S2) (hs : ∀ k, S2 k → S k ∨ w.heap.size ≤ k) : DFK B w W2 S := ⟨h.bel.trans h2.bel, h.kept.then_ h2.kept hs⟩
theorem DFK.drewN {B : Nat} {W W' : World} {S : Nat → Prop} (h : DFK B W W' S) (n : Nat) : DFK B W (W'.drewN n) S := ⟨h.bel.trans (o9 (Below.refl _ _) n), h.kept.drewN n⟩
theorem b3p.calls (m : Int) (wide : Bool) (w : World) :
  Calls Tryd.prog 45 #[.int .u32 m, .bool wide] w fun e w' => e = .returned (.pointer (some ⟨w.heap.size, 0, none⟩)) ∧ Aside0 (∀ D, DFI w.heap.size D w' w.heap.size (.slice none 0 0) (.slice none 0 0) m wide DF.init) ∧ Aside0 (Below w.heap.size w w') := by
 have hu := Tryd.underlying120
 go_enter Tryd.func45, Tryd.ntmps45
 go_wp2
 go_ret
 exact ⟨rfl, ⟨fun D => ⟨heap_alloc_new w _, Kd.Y2 _ _ _ _ _, Kd.a5p _ _ _ _ _, Nat.le_refl _⟩⟩, ⟨a0A (Below.refl _ _) _⟩⟩
theorem a4B.flag (B D p : Nat) (vh vd : Value) (m : Int) (wide : Bool) (s : DF) (W : World) (h : DFI B D W p vh vd m wide s) (hB : B ≤ W.heap.size) (hs : s.inn = false) :
  Calls Tryd.prog 65 #[.pointer (some ⟨p, 0, none⟩), .int .u8 126] W fun e W' => e = .returned (.tuple #[]) ∧ Aside0 (DFI B D W' p vh vd m wide { s with inn := true }) ∧ Aside0 (DFK B W W' (fun k => k = p)) := by
 have HH := a_ h
 have HBB := a_ hB
 have hu := Tryd.underlying120
 have hc2 := h.cell 2 _ rfl
 have hf2 := h.free 2
 have HS := a_ hs
 clear h hB hs
 go_enter Tryd.func65, Tryd.ntmps65
 go_wp2
 go_end0
 exact ⟨rfl, ⟨HH.out.set 2 _ { s with inn := true } (by unfold DF.cells; rfl) rfl rfl⟩, ⟨DFK.set (S := fun k => k = p) (DFK.refl B W _) (show p = p from rfl) HH.out.le 2 _⟩⟩
theorem a4B.other (c : Int) (hc : c ≠ 126) (p : Nat) (W : World) :
  Calls Tryd.prog 65 #[.pointer (some ⟨p, 0, none⟩), .int .u8 c] W fun e W' => e = .returned (.tuple #[]) ∧ W' = W := by
 have h1 : (c == 126) = false := by simpa using hc
 have h2 : decide (c = 126) = false := by simpa using hc
 clear hc
 go_enter Tryd.func65, Tryd.ntmps65
 go_wp2
 go_end0
 exact ⟨rfl, rfl⟩
def a2R.f (a0 : Bool) : Option (Int) := if a0 = true then (some 4) else (some 2)
theorem a2R.calls (a0 : Bool) (r : Int) (w : World) (h : a2R.f a0 = some r) :
  Calls Tryd.prog 105 #[.bool a0] w fun e w' => e = .returned (.int .i64 r) ∧ G5 w w' := by
 have H := h
 clear h
 unfold a2R.f at H
 by_cases c2 : a0 = true
 ·subst c2; rw [if_pos rfl] at H; obtain rfl := oj_ H
  go_enter Tryd.func105, Tryd.ntmps105
  go_wp2
  go_ret
  exact ⟨by (rfl), by exact G5.refl _⟩
 ·cases nt_ c2
  rw [if_neg a3X] at H; obtain rfl := oj_ H
  go_enter Tryd.func105, Tryd.ntmps105
  go_wp2
  go_ret
  exact ⟨by (rfl), by exact G5.refl _⟩
def a4E.f (a0 : Int) (a1 : Int) : Option (Bool) := if a1 < 32 then (if 0 ≤ a1 then (some ((Go.bits .and .u32 (shr .u32 a0 a1) 1) == 1)) else (none)) else (some false)
theorem a4E.calls (a0 : Int) (a1 : Int) (r : Bool) (w : World) (h : a4E.f a0 a1 = some r) :
  Calls Tryd.prog 111 #[.int .u32 a0, .int .u8 a1] w fun e w' => e = .returned (.bool r) ∧ G5 w w' := by
 have H := h
 clear h
 unfold a4E.f at H
 by_cases c3 : a1 < 32
 ·rw [if_pos c3] at H; have a3T := dt_ c3; clear c3; have c4 := Z4 H; replace H := O5 H; have a4i := eq_true c4; have b2z := dt_ c4; clear c4; obtain ⟨ji5, c0c⟩ := si_ ((shr .u32 a0 a1)); rw [c0c] at H; have f3D : (a0 / 2 ^ min a1.toNat 32) = ji5 := c0c; have g91 : a1 ≤ 32 → (a0 / 2 ^ a1.toNat) = ji5 := b6g c0c; obtain rfl := oj_ H
  go_enter Tryd.func111, Tryd.ntmps111
  go_wp2
  go_ret
  exact ⟨by (rfl), by exact G5.refl _⟩
 ·rw [if_neg c3] at H; have a3T := df_ c3; clear c3; obtain rfl := oj_ H
  go_enter Tryd.func111, Tryd.ntmps111
  go_wp2
  go_ret
  exact ⟨by (rfl), by exact G5.refl _⟩
def V6.l0 : Nat → Int → List Int → Bool → List Int → Int → Int → Option (List Int × Bool)
 | 0, _, _, _, _, _, _ => none
 | k + 1, x1, x6, x7, x10, x11, x12 => if x12 < x11 then (if 0 ≤ x12 then (if x12 < (x10.length : Int) then (if (rd x10 x12) = 126 then (some (([] : List Int), false)) else ((a4E.f x1 (rd x10 x12)).bind fun t182 => (if t182 = true then (V6.l0 k x1 x6 x7 x10 x11 (wrap64 (x12 + 1))) else (if x7 = true then (if x6.length < 140737488355328 then (V6.l0 k x1 (x6 ++ [Go.bits .xor .u8 (rd x10 x12) 32]) false x10 x11 (wrap64 (x12 + 1))) else (none)) else (if (rd x10 x12) = 125 then (V6.l0 k x1 x6 true x10 x11 (wrap64 (x12 + 1))) else (if x6.length < 140737488355328 then (V6.l0 k x1 (x6 ++ [rd x10 x12]) x7 x10 x11 (wrap64 (x12 + 1))) else (none))))))) else (none)) else (none)) else (if x7 = true then (some (([] : List Int), false)) else (some (x6, true)))
def V6.f (k : Nat) (l0 : List Int) (a1 : Int) : Option (List Int × Bool) := V6.l0 k a1 ([] : List Int) false l0 (l0.length : Int) 0
theorem V6.calls (k : Nat) (A0 : Option Addr) (c0 : Nat) (l0 : List Int) (a1 : Int) (r1 : List Int) (r2 : Bool) (w : World) (hr0 : Kd.C (Kd.int .u8) w A0 l0.length l0) (hc0 : l0.length ≤ c0) (h : V6.f k l0 a1 = some (r1, r2)) :
  Calls Tryd.prog 106 #[.slice A0 l0.length c0, .int .u32 a1] w fun e w' => ∃ v0_ : Value, e = .returned (.tuple #[v0_, .bool r2]) ∧ Kd.R (Kd.int .u8) 5 w' w.heap.size (fun _ => True) v0_ r1 ∧ Below w.heap.size w w' := by
 have HR0 := a_ hr0
 have HC0 := a_ hc0
 clear hr0 hc0
 have HB := a_ (Below.refl w.heap.size w)
 have H := h
 clear h
 unfold V6.f at H
 have H' := a_ H
 clear H
 go_enter Tryd.func106, Tryd.ntmps106
 go_wp2
 go_loopg [6, 7, 12] k (fun kq v6 v7 v12 w' => ∃ (a1d : List Int) (a2y : Bool) (D5 : Int), v7 = .bool a2y ∧ v12 = .int .i64 D5 ∧ Aside0 (V6.l0 kq a1 a1d a2y l0 (l0.length : Int) D5 = some (r1, r2)) ∧ Aside0 (kq ≤ k) ∧ Aside0 (Kd.R (Kd.int .u8) 5 w' w.heap.size (fun _ => True) v6 a1d) ∧ Aside0 (Below w.heap.size w w'))
 case atStart => exact ⟨([] : List Int), (false), (0), (by rfl), (by rfl), H', ⟨Nat.le_refl _⟩, ⟨by (exact Kd.Y2 _ _ _ _ _)⟩, ⟨by exact HB.out⟩⟩
 case round =>
  clear H'; obtain ⟨a1d, a2y, D5, rfl, rfl, HA, HK1, a0Y, HB⟩ := hrel
  cases gk with
  | zero => exact absurd HA.out (by simp [V6.l0])
  | succ k1 =>
   have H := HA.out; clear HA
   simp only [V6.l0] at H
   by_cases c3 : D5 < (l0.length : Int)
   ·rw [if_pos c3] at H; have a3T := dt_ c3; clear c3; have a4i := a2x H; replace H := O5 H; have a5H := a2x H; replace H := O5 H
    by_cases c6 : (rd l0 D5) = 126
    ·rw [if_pos c6] at H; obtain ⟨a8y, b5p⟩ := bt_ c6; clear c6; obtain ⟨rfl, rfl⟩ := s2_ H; have b1k : 0 ≤ (D5 : Int) := V5; have b1l : D5 < (l0.length : Int) := V5; obtain ⟨d1V, e181, a5i⟩ := Kd.Q7 HR0.out D5 b1k b1l
     cases e181
     replace a5i := cb_ HB a5i; replace b1k := eq_true b1k; replace b1l := eq_true b1l
     go_wp2
     go_ret2
     exact ⟨_, by (rfl), by (exact Kd.Y2 _ _ _ _ _), by exact HB.out⟩
    ·rw [if_neg c6] at H; have a8y := bq_ c6; have b5p := bn_ c6; obtain ⟨t182, A7, H⟩ := bd_ H
     try dsimp only at H
     by_cases c8 : t182 = true
     ·subst c8; rw [if_pos rfl] at H; have H' := a_ H; clear H; have b1k : 0 ≤ (D5 : Int) := V5; have b1l : D5 < (l0.length : Int) := V5; obtain ⟨d1V, e181, a5i⟩ := Kd.Q7 HR0.out D5 b1k b1l
      cases e181
      replace a5i := cb_ HB a5i; replace b1k := eq_true b1k; replace b1l := eq_true b1l
      go_wp2_with (first | (refine gl_ (some 26) Tryd.func111 #[.int .u32 a1, .int .u8 (rd l0 D5)] ?_; (with_reducible refine (a4E.calls a1 (rd l0 D5) true _ A7.out).mono ?_); rintro e w' ⟨rfl, ⟨nd, rfl⟩⟩; refine ⟨_, rfl, ?_⟩))
      go_roundg k1
      case measure => have := HK1.out; omega
      case rel => exact ⟨(a1d), (a2y), (wrap64 (D5 + 1)), (by rfl), (by rfl), H', ⟨by have := HK1.out; omega⟩, ⟨by (with_reducible repeat (apply Kd.a06)); exact a0Y.out⟩, ⟨by repeat (with_reducible first | exact HB.out | apply o9)⟩⟩
     ·cases nt_ c8
      rw [if_neg a3X] at H
      by_cases c9 : a2y = true
      ·subst c9; rw [if_pos rfl] at H; have c10 := Z4 H; replace H := O5 H; have c6f := a_ c10; clear c10; obtain ⟨g5F, d7B⟩ := is_ ((a1d ++ [Go.bits .xor .u8 (rd l0 D5) 32]) : List Int); rw [← d7B] at H; have f6b := a_ d7B; clear d7B; have H' := a_ H; clear H; have b1k : 0 ≤ (D5 : Int) := V5; have b1l : D5 < (l0.length : Int) := V5; obtain ⟨d1V, e181, a5i⟩ := Kd.Q7 HR0.out D5 b1k b1l
       cases e181
       replace a5i := cb_ HB a5i; replace b1k := eq_true b1k; replace b1l := eq_true b1l
       go_wp2_with (first | (refine gl_ (some 26) Tryd.func111 #[.int .u32 a1, .int .u8 (rd l0 D5)] ?_; (with_reducible refine (a4E.calls a1 (rd l0 D5) false _ A7.out).mono ?_); rintro e w' ⟨rfl, ⟨nd, rfl⟩⟩; refine ⟨_, rfl, ?_⟩) | ((with_reducible refine E8 (b := .append) (xs := #[.tmp 29, .tmp 32]) rfl ?_); at_builtin; refine Kd.a2Q (Kd.int .u8) (w0 := w) w.heap.size rfl (.tmp 29) (.tmp 32) 22 5 (.int .u8 0) 1 rfl Tryd.underlying22 info5 rfl (by decide) (by omega) u6 a1d (Go.bits .xor .u8 (rd l0 D5) 32) [.int .u8 (Go.bits .xor .u8 (rd l0 D5) 32)] (fun _ => True) (fun _ => False) rfl rfl ?aP (fun _ hk => hk.elim) ?aF ?aO ?aB ?aS ?aL ?_; (case aP => exact rfl); (case aB => exact (by repeat (with_reducible first | exact HB.out | apply o9))); (case aF => exact (fun _ _ => trivial)); (case aO => exact (by (with_reducible repeat (apply Kd.a06)); exact a0Y.out)); (case aS => exact (y5 (by repeat (with_reducible first | exact HB.out | apply o9)))); (case aL => have := c6f.out; omega); intro h4o w11 ho hb hg hat; rw [← f6b.out] at ho; have f6c := a_ ho; replace HB := a_ hb; clear a0Y ho hb hg hat))
       go_roundg k1
       case measure => have := HK1.out; omega
       case rel => exact ⟨(g5F), (false), (wrap64 (D5 + 1)), (by rfl), (by rfl), H', ⟨by have := HK1.out; omega⟩, ⟨by exact f6c.out⟩, ⟨by exact HB.out⟩⟩
      ·cases nt_ c9
       rw [if_neg a3X] at H
       by_cases c12 : (rd l0 D5) = 125
       ·rw [if_pos c12] at H; obtain ⟨b0h, b6U⟩ := bt_ c12; clear c12; have H' := a_ H; clear H; have b1k : 0 ≤ (D5 : Int) := V5; have b1l : D5 < (l0.length : Int) := V5; obtain ⟨d1V, e181, a5i⟩ := Kd.Q7 HR0.out D5 b1k b1l
        cases e181
        replace a5i := cb_ HB a5i; replace b1k := eq_true b1k; replace b1l := eq_true b1l
        go_wp2_with (first | (refine gl_ (some 26) Tryd.func111 #[.int .u32 a1, .int .u8 (rd l0 D5)] ?_; (with_reducible refine (a4E.calls a1 (rd l0 D5) false _ A7.out).mono ?_); rintro e w' ⟨rfl, ⟨nd, rfl⟩⟩; refine ⟨_, rfl, ?_⟩))
        go_roundg k1
        case measure => have := HK1.out; omega
        case rel => exact ⟨(a1d), (true), (wrap64 (D5 + 1)), (by rfl), (by rfl), H', ⟨by have := HK1.out; omega⟩, ⟨by (with_reducible repeat (apply Kd.a06)); exact a0Y.out⟩, ⟨by repeat (with_reducible first | exact HB.out | apply o9)⟩⟩
       ·rw [if_neg c12] at H; have b0h := bq_ c12; have b6U := bn_ c12; have c13 := Z4 H; replace H := O5 H; have d7C := a_ c13; clear c13; obtain ⟨g5G, d7D⟩ := is_ ((a1d ++ [rd l0 D5]) : List Int); rw [← d7D] at H; have f6d := a_ d7D; clear d7D; have H' := a_ H; clear H; have b1k : 0 ≤ (D5 : Int) := V5; have b1l : D5 < (l0.length : Int) := V5; obtain ⟨d1V, e181, a5i⟩ := Kd.Q7 HR0.out D5 b1k b1l
        cases e181
        replace a5i := cb_ HB a5i; replace b1k := eq_true b1k; replace b1l := eq_true b1l
        go_wp2_with (first | (refine gl_ (some 26) Tryd.func111 #[.int .u32 a1, .int .u8 (rd l0 D5)] ?_; (with_reducible refine (a4E.calls a1 (rd l0 D5) false _ A7.out).mono ?_); rintro e w' ⟨rfl, ⟨nd, rfl⟩⟩; refine ⟨_, rfl, ?_⟩) | ((with_reducible refine E8 (b := .append) (xs := #[.tmp 16, .tmp 18]) rfl ?_); at_builtin; refine Kd.a2Q (Kd.int .u8) (w0 := w) w.heap.size rfl (.tmp 16) (.tmp 18) 22 5 (.int .u8 0) 1 rfl Tryd.underlying22 info5 rfl (by decide) (by omega) u6 a1d (rd l0 D5) [.int .u8 (rd l0 D5)] (fun _ => True) (fun _ => False) rfl rfl ?aP (fun _ hk => hk.elim) ?aF ?aO ?aB ?aS ?aL ?_; (case aP => exact rfl); (case aB => exact (by repeat (with_reducible first | exact HB.out | apply o9))); (case aF => exact (fun _ _ => trivial)); (case aO => exact (by (with_reducible repeat (apply Kd.a06)); exact a0Y.out)); (case aS => exact (y5 (by repeat (with_reducible first | exact HB.out | apply o9)))); (case aL => have := d7C.out; omega); intro h4p w14 ho hb hg hat; rw [← f6d.out] at ho; have f6e := a_ ho; replace HB := a_ hb; clear a0Y ho hb hg hat))
        go_roundg k1
        case measure => have := HK1.out; omega
        case rel => exact ⟨(g5G), (false), (wrap64 (D5 + 1)), (by rfl), (by rfl), H', ⟨by have := HK1.out; omega⟩, ⟨by exact f6e.out⟩, ⟨by exact HB.out⟩⟩
   ·rw [if_neg c3] at H; have a3T := df_ c3; clear c3
    by_cases c15 : a2y = true
    ·subst c15; rw [if_pos rfl] at H; obtain ⟨rfl, rfl⟩ := s2_ H
     go_wp2
     go_ret2
     exact ⟨_, by (rfl), by (exact Kd.Y2 _ _ _ _ _), by exact HB.out⟩
    ·cases nt_ c15
     rw [if_neg a3X] at H; obtain ⟨rfl, rfl⟩ := s2_ H
     go_wp2
     go_ret2
     exact ⟨_, by (rfl), by exact a0Y.out, by exact HB.out⟩
def a4d.f (a0 : Bool) : Option (Int) := if a0 = true then (some 4294967295) else (some 65535)
theorem a4d.calls (a0 : Bool) (r : Int) (w : World) (h : a4d.f a0 = some r) :
  Calls Tryd.prog 110 #[.bool a0] w fun e w' => e = .returned (.int .u32 r) ∧ G5 w w' := by
 have H := h
 clear h
 unfold a4d.f at H
 by_cases c2 : a0 = true
 ·subst c2; rw [if_pos rfl] at H; obtain rfl := oj_ H
  go_enter Tryd.func110, Tryd.ntmps110
  go_wp2
  go_ret
  exact ⟨by (rfl), by exact G5.refl _⟩
 ·cases nt_ c2
  rw [if_neg a3X] at H; obtain rfl := oj_ H
  go_enter Tryd.func110, Tryd.ntmps110
  go_wp2
  go_ret
  exact ⟨by (rfl), by exact G5.refl _⟩
def F9.bit (p x : Int) : Int := if Go.bits .and .u32 x 1 = 1 then Go.bits .xor .u32 (x / 2) p else x / 2
def F9.b04 (p : Int) : Nat → Int → Int
 | 0, x => x
 | m + 1, x => F9.bit p (F9.b04 p m x)
def F9.by (b : Bool) : Int := if b = true then 3988292384 else 33800
structure F9.Inv (w0 W : World) (B : Nat) (p : Int) (j : Nat) : Prop where mk :: (out : ∃ cs : Array Value, W.heap[B]? = some (.cells cs 167 (0, 0)) ∧ cs.size = 256 ∧ (∀ i : Nat, i < j → cs[i]? = some (.int .u32 (F9.b04 p 8 (i : Int)))) ∧ Below w0.heap.size w0 W ∧ w0.heap.size ≤ B)
theorem F9.zero (w : World) : (zeroValue 167).run Tryd.prog w = .ok (.agg (Array.replicate 256 (.int .u32 0))) w := by kernel_rfl
theorem F9.start (w : World) (p : Int) : F9.Inv w (w.alloc (.cells (Array.replicate 256 (.int .u32 0)) 167)) w.heap.size p 0 :=
 ⟨⟨_, heap_alloc_new w _, Array.size_replicate, (fun i hi => absurd hi (Nat.not_lt_zero i)), a0A (Below.refl _ _) _, Nat.le_refl _⟩⟩
theorem F9.next {w0 W : World} {B : Nat} {p : Int} {j : Nat} (hj : j < 256) (h : F9.Inv w0 W B p j) : F9.Inv w0 (W.setCell ⟨B, j, none⟩ (.int .u32 (F9.b04 p 8 (j : Int)))) B p (j + 1) := by
 obtain ⟨cs, h1, h2, h3, h4, h5⟩ := h.out
 refine ⟨⟨_, a3Z h1 j _, by simpa using h2, ?_, o7 h4 h5, h5⟩⟩
 intro i hi
 rw [Array.getElem?_setIfInBounds]
 split
 ·rename_i e
  subst e
  split
  ·rfl
  ·rename_i hn
   exact absurd (show j < cs.size by omega) hn
 ·rename_i e
  exact h3 i (by omega)
theorem F9.cell {w0 W : World} {B : Nat} {p : Int} {j : Nat} (hj : j < 256) (h : F9.Inv w0 W B p j) : ∃ c, W.cell? ⟨B, j, none⟩ = some c ∧ W.frozen? ⟨B, j, none⟩ = false := by
 obtain ⟨cs, h1, h2, h3, h4, h5⟩ := h.out
 exact ⟨_, (D6 h1 j).trans (Array.getElem?_eq_getElem (by omega)), l7 h1 j⟩
theorem F9.c6r (p : Int) (m : Nat) (x : Int) (h : Go.bits .and .u32 (F9.b04 p m x) 1 = 1) : F9.b04 p (m + 1) x = Go.bits .xor .u32 (F9.b04 p m x / 2) p := by
 rw [F9.b04, F9.bit, if_pos h]
theorem F9.d1W (p : Int) (m : Nat) (x : Int) (h : ¬ Go.bits .and .u32 (F9.b04 p m x) 1 = 1) : F9.b04 p (m + 1) x = F9.b04 p m x / 2 := by
 rw [F9.b04, F9.bit, if_neg h]
theorem F9.calls (b : Bool) (w : World) :
  Calls Tryd.prog 113 #[.bool b] w fun e w' => ∃ B : Nat, e = .returned (.pointer (some ⟨B, 0, none⟩)) ∧ F9.Inv w w' B (F9.by b) 256 := by
 cases b with
 | true =>
  have hby : F9.by true = 3988292384 := rfl
  rw [hby]
  go_enter Tryd.func113, Tryd.ntmps113
  go_wp2
  go_loopg [9] 256 (fun kq v9 w' => ∃ j : Nat, Aside0 (kq + j = 256) ∧ v9 = .int .i64 (j : Int) ∧ Aside0 (F9.Inv w w' w.heap.size 3988292384 j))
  case atStart => exact ⟨0, ⟨rfl⟩, rfl, ⟨F9.start w _⟩⟩
  case round =>
   obtain ⟨j, HJ, rfl, HI⟩ := hrel; have hj := HJ.out
   by_cases hlt : j < 256
   ·obtain ⟨k1, rfl⟩ : ∃ k1, gk = k1 + 1 := ⟨gk - 1, by omega⟩; have hjc : (j : Int) < 256 := by omega
    go_wp2
    go_loopg [14, 6] 8 (fun kq v14 v6 w'' => ∃ m : Nat, Aside0 (kq + m = 8) ∧ v14 = .int .i64 (m : Int) ∧ v6 = .int .u32 (F9.b04 3988292384 m (j : Int)) ∧ Aside0 (F9.Inv w w'' w.heap.size 3988292384 j))
    case atStart => exact ⟨0, ⟨rfl⟩, rfl, rfl, HI⟩
    case round =>
     obtain ⟨m, HM, rfl, rfl, HI⟩ := hrel; have hm := HM.out
     by_cases hmt : m < 8
     ·obtain ⟨k2, rfl⟩ : ∃ k2, gk = k2 + 1 := ⟨gk - 1, by omega⟩; have hmc : (m : Int) < 8 := by omega
      by_cases hb : Go.bits .and .u32 (F9.b04 3988292384 m (j : Int)) 1 = 1
      ·go_wp2
       go_roundg k2
       case measure => omega
       case rel => exact ⟨m + 1, ⟨by omega⟩, by go_num, (by rw [F9.c6r _ _ _ hb]), HI⟩
      ·go_wp2
       go_roundg k2
       case measure => omega
       case rel => exact ⟨m + 1, ⟨by omega⟩, by go_num, (by rw [F9.d1W _ _ _ hb]), HI⟩
     ·have hmc : ¬ (m : Int) < 8 := by omega
      obtain rfl : m = 8 := by omega
      obtain ⟨c, hcell, hfr⟩ := F9.cell hlt HI.out; have HN := a_ (F9.next hlt HI.out)
      go_wp2
      go_roundg k1
      case measure => omega
      case rel => exact ⟨j + 1, ⟨by omega⟩, by go_num, HN⟩
   ·have hjc : ¬ (j : Int) < 256 := by omega
    go_wp2
    go_ret
    obtain rfl : j = 256 := by omega
    exact ⟨_, rfl, HI.out⟩
 | false =>
  have hby : F9.by false = 33800 := rfl
  rw [hby]
  go_enter Tryd.func113, Tryd.ntmps113
  go_wp2
  go_loopg [9] 256 (fun kq v9 w' => ∃ j : Nat, Aside0 (kq + j = 256) ∧ v9 = .int .i64 (j : Int) ∧ Aside0 (F9.Inv w w' w.heap.size 33800 j))
  case atStart => exact ⟨0, ⟨rfl⟩, rfl, ⟨F9.start w _⟩⟩
  case round =>
   obtain ⟨j, HJ, rfl, HI⟩ := hrel; have hj := HJ.out
   by_cases hlt : j < 256
   ·obtain ⟨k1, rfl⟩ : ∃ k1, gk = k1 + 1 := ⟨gk - 1, by omega⟩; have hjc : (j : Int) < 256 := by omega
    go_wp2
    go_loopg [14, 6] 8 (fun kq v14 v6 w'' => ∃ m : Nat, Aside0 (kq + m = 8) ∧ v14 = .int .i64 (m : Int) ∧ v6 = .int .u32 (F9.b04 33800 m (j : Int)) ∧ Aside0 (F9.Inv w w'' w.heap.size 33800 j))
    case atStart => exact ⟨0, ⟨rfl⟩, rfl, rfl, HI⟩
    case round =>
     obtain ⟨m, HM, rfl, rfl, HI⟩ := hrel; have hm := HM.out
     by_cases hmt : m < 8
     ·obtain ⟨k2, rfl⟩ : ∃ k2, gk = k2 + 1 := ⟨gk - 1, by omega⟩; have hmc : (m : Int) < 8 := by omega
      by_cases hb : Go.bits .and .u32 (F9.b04 33800 m (j : Int)) 1 = 1
      ·go_wp2
       go_roundg k2
       case measure => omega
       case rel => exact ⟨m + 1, ⟨by omega⟩, by go_num, (by rw [F9.c6r _ _ _ hb]), HI⟩
      ·go_wp2
       go_roundg k2
       case measure => omega
       case rel => exact ⟨m + 1, ⟨by omega⟩, by go_num, (by rw [F9.d1W _ _ _ hb]), HI⟩
     ·have hmc : ¬ (m : Int) < 8 := by omega
      obtain rfl : m = 8 := by omega
      obtain ⟨c, hcell, hfr⟩ := F9.cell hlt HI.out; have HN := a_ (F9.next hlt HI.out)
      go_wp2
      go_roundg k1
      case measure => omega
      case rel => exact ⟨j + 1, ⟨by omega⟩, by go_num, HN⟩
   ·have hjc : ¬ (j : Int) < 256 := by omega
    go_wp2
    go_ret
    obtain rfl : j = 256 := by omega
    exact ⟨_, rfl, HI.out⟩
def W9.l0 : Nat → Int → Int → Int → Option (Bool)
 | 0, _, _, _ => none
 | k + 1, x0, x1, x5 => if x5 < x1 then (W9.l0 k ((Int.tdiv x0 2) % 4294967296) x1 ((x5 + 1) % 256)) else (some ((Int.tmod x0 2) == 1))
def W9.f (k : Nat) (a0 : Int) (a1 : Int) : Option (Bool) := if a1 > 31 then (some false) else (W9.l0 k a0 a1 0)
theorem W9.calls (k : Nat) (a0 : Int) (a1 : Int) (r : Bool) (w : World) (h : W9.f k a0 a1 = some r) :
  Calls Tryd.prog 92 #[.int .u32 a0, .int .u8 a1] w fun e w' => e = .returned (.bool r) ∧ G5 w w' := by
 have H := h
 clear h
 unfold W9.f at H
 by_cases c3 : a1 > 31
 ·rw [if_pos c3] at H; have a3T : decide (31 < a1) = true := dt_ c3; clear c3; obtain rfl := oj_ H
  go_enter Tryd.func92, Tryd.ntmps92
  go_wp2
  go_ret
  exact ⟨by (rfl), by exact G5.refl _⟩
 ·rw [if_neg c3] at H; have a3T : decide (31 < a1) = false := df_ c3; clear c3; have H' := a_ H; clear H
  go_enter Tryd.func92, Tryd.ntmps92
  go_wp2
  go_loopg [0, 5] k (fun kq v0 v5 w' => ∃ (a5Y : Int) (L9 : Int), v0 = .int .u32 a5Y ∧ v5 = .int .u8 L9 ∧ Aside0 (W9.l0 kq a5Y a1 L9 = some r) ∧ Aside0 (kq ≤ k) ∧ G5 w w')
  case atStart => exact ⟨(a0), (0), (by rfl), (by rfl), H', ⟨Nat.le_refl _⟩, by exact G5.refl _⟩
  case round =>
   clear H'
   try clear a3T
   obtain ⟨a5Y, L9, rfl, rfl, HA, HK1, ⟨m1, rfl⟩⟩ := hrel
   cases gk with
   | zero => exact absurd HA.out (by simp [W9.l0])
   | succ k1 =>
    have H := HA.out; clear HA
    simp only [W9.l0] at H
    by_cases c4 : L9 < a1
    ·rw [if_pos c4] at H; have a4i := dt_ c4; clear c4; have H' := a_ H; clear H
     go_wp2
     go_roundg k1
     case measure => have := HK1.out; omega
     case rel => exact ⟨((Int.tdiv a5Y 2) % 4294967296), ((L9 + 1) % 256), (by rfl), (by rfl), H', ⟨by have := HK1.out; omega⟩, by repeat (first | exact G5.refl _ | apply G5.step)⟩
    ·rw [if_neg c4] at H; have a4i := df_ c4; clear c4; obtain rfl := oj_ H
     go_wp2
     go_ret
     exact ⟨by (rfl), by repeat (first | exact G5.refl _ | apply G5.step)⟩
end Go.Proofs.YtgnonglkibhnhaaDoor.Print
