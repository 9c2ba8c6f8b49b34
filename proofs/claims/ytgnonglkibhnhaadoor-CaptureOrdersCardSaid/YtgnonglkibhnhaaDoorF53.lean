import Derived.Test.YtgnonglkibhnhaaDoorZ
import Derived.Test.YtgnonglkibhnhaaDoorM4
namespace Go.Proofs.YtgnonglkibhnhaaDoor.Print
open Go.RowKit Go.Proofs.YtgnonglkibhnhaaDoorW.PrintWords Go.Proofs.YtgnonglkibhnhaaDoorW.PrintLast Go.Proofs.YtgnonglkibhnhaaDoorW.PrintMore
attribute [local go_sem] a0u a0v a1m a1n Y7 Y8 a0w a0x
set_option linter.unusedVariables false
set_option linter.unusedSimpArgs false

/-! ### dump_Put: function 53 -/
def dump_Put.l0 : Nat → List Int → List (S58) → Int → Int → Option (List Int × Int)
 | 0, _, _, _, _ => none
 | k + 1, x4, x10, x11, x12 => if x12 < x11 then (if 0 ≤ x12 then (if x12 < (x10.length : Int) then ((a1w.f k ((F5 x10 x12).f0) ((F5 x10 x12).f1) ((F5 x10 x12).f2)).bind fun e9f => (if e9f = true then (if (((F5 x10 x12).f2).length : Int) > 65535 then (some (([] : List Int), 4)) else (if x4.length < 140737488355328 then ((some (x4 ++ [((F5 x10 x12).f0) % 256] : List Int)).bind fun c2Q => (if 0 ≤ ((F5 x10 x12).f0) then (if ((F5 x10 x12).f0) < 8 then (if (J5 F8 ((F5 x10 x12).f0)).f0 = true then ((some (([((((F5 x10 x12).f2).length : Int) / 256) % 256, ((((F5 x10 x12).f2).length : Int)) % 256] : List Int) : List Int)).bind fun c7H => (if c2Q.length + c7H.length < 140737488355328 then ((some (c2Q ++ c7H : List Int)).bind fun d6D => (if d6D.length + ((F5 x10 x12).f2).length < 140737488355328 then (dump_Put.l0 k (d6D ++ ((F5 x10 x12).f2)) x10 x11 (wrap64 (x12 + 1))) else (none))) else (none))) else ((a0O.f k (IntKind.u64.wrap ((F5 x10 x12).f1)) ((J5 F8 ((F5 x10 x12).f0)).f1) true).bind fun e5e => (if c2Q.length + e5e.1.length < 140737488355328 then (dump_Put.l0 k (c2Q ++ e5e.1) x10 x11 (wrap64 (x12 + 1))) else (none)))) else (none)) else (none))) else (none))) else (some (([] : List Int), 1)))) else (none)) else (none)) else (some (x4, 0))
def dump_Put.f (k : Nat) (l0 : List (S58)) : Option (List Int × Int) := dump_Put.l0 k ([] : List Int) l0 (l0.length : Int) 0
set_option maxHeartbeats 8000000 in
set_option maxRecDepth 100000 in
theorem dump_Put.calls (k : Nat) (A0 : Option Addr) (c0 : Nat) (l0 : List (S58)) (r1 : List Int) (r2 : Int) (w : World) (hG0 : Kd.C b0s w (some ⟨0, 0, none⟩) 8 F8) (hr0 : Kd.C k58 w A0 l0.length l0) (hc0 : l0.length ≤ c0) (h : dump_Put.f k l0 = some (r1, r2)) :
  Calls Tryd.prog 53 #[.slice A0 l0.length c0] w fun e w' => ∃ v0_ : Value, e = .returned (.tuple #[v0_, .int .i64 r2]) ∧ Kd.R (Kd.int .u8) 5 w' w.heap.size (fun _ => True) v0_ r1 ∧ Below w.heap.size w w' := by
 have e0M := Tryd.underlying58
 have e4Q := Tryd.underlying131
 have HR0 := a_ hr0
 have HC0 := a_ hc0
 clear hr0 hc0
 have a4Z := a_ hG0
 clear hG0
 have HB := a_ (Below.refl w.heap.size w)
 have H := h
 clear h
 unfold dump_Put.f at H
 have H' := a_ H
 clear H
 go_enter Tryd.func53, Tryd.ntmps53
 go_wp2
 go_loopg [4, 12] k (fun kq v4 v12 w' => ∃ (a7Q : List Int) (y8 : Int), v12 = .int .i64 y8 ∧ Aside0 (dump_Put.l0 kq a7Q l0 (l0.length : Int) y8 = some (r1, r2)) ∧ Aside0 (kq ≤ k) ∧ Aside0 (Kd.R (Kd.int .u8) 5 w' w.heap.size (fun _ => True) v4 a7Q) ∧ Aside0 (Below w.heap.size w w'))
 case atStart => exact ⟨([] : List Int), (0), (by rfl), H', ⟨Nat.le_refl _⟩, ⟨by (exact Kd.a0I _ _ _ _ _)⟩, ⟨by exact HB.out⟩⟩
 case round =>
  clear H'
  obtain ⟨a7Q, y8, rfl, HA, HK1, a3u, HB⟩ := hrel
  cases gk with
  | zero => exact absurd HA.out (by simp [dump_Put.l0])
  | succ k1 =>
   have H := HA.out
   clear HA
   simp only [dump_Put.l0] at H
   by_cases c2 : y8 < (l0.length : Int)
   ·rw [if_pos c2] at H
    have b6B := decide_eq_true c2
    clear c2
    have a5g := a4w H
    replace H := U9 H
    have a6r := a4w H
    replace H := U9 H
    replace H := Option.bind_eq_some_iff.mp H
    obtain ⟨e9f, A50, H⟩ := H
    try dsimp only at H
    have A5 := a_ A50
    clear A50
    by_cases c6 : e9f = true
    ·subst c6
     rw [if_pos rfl] at H
     by_cases c7 : (((F5 l0 y8).f2).length : Int) > 65535
     ·rw [if_pos c7] at H
      have a9h := decide_eq_true c7
      have b5j : decide (65535 < ((F5 l0 y8).f2).length) = true := decide_eq_true (by omega)
      clear c7
      obtain ⟨rfl, rfl⟩ := s2_ H
      have b3A : 0 ≤ (y8 : Int) := Y9
      have b3B : y8 < (l0.length : Int) := Y9
      obtain ⟨d6E, a5k, a5l, e308, a6L, a6M, a6N, a6O, a6P⟩ := b73 HR0.out y8 b3A b3B
      cases e308
      replace a6L := cb_ HB a6L
      replace a6M := cb_ HB a6M
      replace a6N := cb_ HB a6N
      have a9z := a_ a6P
      have b0K := a_ a6O
      clear a6P a6O
      replace b3A := eq_true b3A
      replace b3B := eq_true b3B
      go_wp2_with (first | (refine be_ 6 #[.int .i64 0, .int .u32 0, .slice none 0 0] 58 ?_; intro a5Z hg w8 hbox hb; have a0t := a_ hbox; have a8U := lb_ HB hg; replace a3u := rb_ a3u hb; replace HB := W9 HB hb; clear hb hbox hg; obtain ⟨d5n, d5o, e84, d5p, d5q, e85⟩ := a2G a0t.out) | (refine gl_ (some 18) Tryd.func71 #[.agg #[.int .i64 ((F5 l0 y8).f0), .int .u32 ((F5 l0 y8).f1), .slice a5k ((F5 l0 y8).f2).length a5l]] ?_; (with_reducible refine (a1w.calls k1 ((F5 l0 y8).f0) ((F5 l0 y8).f1) _ _ ((F5 l0 y8).f2) true _ (Kd.D6 a4Z.out (by repeat (with_reducible first | exact HB.out | refine o8 ?_ a8U.out))) (Kd.D6 a9z.out (by repeat (with_reducible first | exact HB.out | refine o8 ?_ a8U.out))) b0K.out A5.out).mono ?_); rintro e w10 ⟨rfl, hb⟩; refine ⟨_, rfl, ?_⟩; replace a3u := a_ (Kd.a1Y (by exact (Kd.D8 (Kd.U7 (p := ⟨a5Z, 2, none⟩) (Kd.U7 (p := ⟨a5Z, 1, none⟩) (Kd.U7 (p := ⟨a5Z, 0, none⟩) (Kd.V7 a3u.out a0t.out (by decide)) (fun _ hk => hk.2) (.int .i64 ((F5 l0 y8).f0))) (fun _ hk => hk.2) (.int .u32 ((F5 l0 y8).f1))) (fun _ hk => hk.2) (.slice a5k ((F5 l0 y8).f2).length a5l)) (fun _ h_ => h_.1))) hb); replace a0t := a_ (J3 (g := a5Z) (o := .cells #[.int .i64 ((F5 l0 y8).f0), .int .u32 ((F5 l0 y8).f1), .slice a5k ((F5 l0 y8).f2).length a5l] 58 (0, 0)) (by refine l9 (cs := #[.int .i64 ((F5 l0 y8).f0), .int .u32 ((F5 l0 y8).f1), .slice none 0 0]) ?_ 2 _ rfl; refine l9 (cs := #[.int .i64 ((F5 l0 y8).f0), .int .u32 0, .slice none 0 0]) ?_ 1 _ rfl; refine l9 (cs := #[.int .i64 0, .int .u32 0, .slice none 0 0]) ?_ 0 _ rfl; exact a0t.out) hb); replace HB := a_ (G9 (by repeat (with_reducible first | exact HB.out | refine o8 ?_ a8U.out)) hb); (try clear hb); obtain ⟨g1Q, g1R, g1S, g1T, g1U, g1V⟩ := a2G a0t.out))
      go_ret2
      exact ⟨_, by (rfl), by (exact Kd.a0I _ _ _ _ _), by exact HB.out⟩
     ·rw [if_neg c7] at H
      have a9h := decide_eq_false c7
      have b5j : decide (65535 < ((F5 l0 y8).f2).length) = false := decide_eq_false (by omega)
      clear c7
      have c12 := a0o H
      replace H := U9 H
      have e5f := a_ c12
      clear c12
      obtain ⟨c2Q, d6F⟩ := is_ ((a7Q ++ [((F5 l0 y8).f0) % 256]))
      rw [Option.bind_some, ← d6F] at H
      have e5g := a_ d6F
      clear d6F
      have c9w := a4w H
      replace H := U9 H
      have d5r := a4w H
      replace H := U9 H
      obtain ⟨g8O, d6G⟩ : ∃ b_ : Bool, b_ = ((J5 F8 ((F5 l0 y8).f0)).f0) := ⟨_, rfl⟩
      rw [← d6G] at H
      have e5h := a_ d6G
      clear d6G
      by_cases c16 : g8O = true
      ·subst c16
       rw [if_pos rfl] at H
       obtain ⟨c7H, d6H⟩ := is_ ((([((((F5 l0 y8).f2).length : Int) / 256) % 256, ((((F5 l0 y8).f2).length : Int)) % 256] : List Int)))
       rw [Option.bind_some, ← d6H] at H
       have f7E := a_ d6H
       clear d6H
       have c17 := a0o H
       replace H := U9 H
       have f7F := a_ c17
       clear c17
       obtain ⟨d6D, d6I⟩ := is_ ((c2Q ++ c7H))
       rw [Option.bind_some, ← d6I] at H
       have f7G := a_ d6I
       clear d6I
       have c18 := a0o H
       replace H := U9 H
       have d6i := a_ c18
       clear c18
       obtain ⟨g8P, d6J⟩ := is_ ((d6D ++ ((F5 l0 y8).f2)))
       rw [← d6J] at H
       have f7H := a_ d6J
       clear d6J
       have H' := a_ H
       clear H
       have b3A : 0 ≤ (y8 : Int) := Y9
       have b3B : y8 < (l0.length : Int) := Y9
       obtain ⟨d6E, a5k, a5l, e308, a6L, a6M, a6N, a6O, a6P⟩ := b73 HR0.out y8 b3A b3B
       cases e308
       replace a6L := cb_ HB a6L
       replace a6M := cb_ HB a6M
       replace a6N := cb_ HB a6N
       have a9z := a_ a6P
       have b0K := a_ a6O
       clear a6P a6O
       replace b3A := eq_true b3A
       replace b3B := eq_true b3B
       go_wp2_with (first | (refine be_ 6 #[.int .i64 0, .int .u32 0, .slice none 0 0] 58 ?_; intro a5Z hg w19 hbox hb; have a0t := a_ hbox; have a8U := lb_ HB hg; replace a3u := rb_ a3u hb; replace HB := W9 HB hb; clear hb hbox hg; obtain ⟨d0L, d0M, d0N, d0O, d0P, d0Q⟩ := a2G a0t.out) | (refine gl_ (some 18) Tryd.func71 #[.agg #[.int .i64 ((F5 l0 y8).f0), .int .u32 ((F5 l0 y8).f1), .slice a5k ((F5 l0 y8).f2).length a5l]] ?_; (with_reducible refine (a1w.calls k1 ((F5 l0 y8).f0) ((F5 l0 y8).f1) _ _ ((F5 l0 y8).f2) true _ (Kd.D6 a4Z.out (by repeat (with_reducible first | exact HB.out | refine o8 ?_ a8U.out))) (Kd.D6 a9z.out (by repeat (with_reducible first | exact HB.out | refine o8 ?_ a8U.out))) b0K.out A5.out).mono ?_); rintro e w21 ⟨rfl, hb⟩; refine ⟨_, rfl, ?_⟩; replace a3u := a_ (Kd.a1Y (by exact (Kd.D8 (Kd.U7 (p := ⟨a5Z, 2, none⟩) (Kd.U7 (p := ⟨a5Z, 1, none⟩) (Kd.U7 (p := ⟨a5Z, 0, none⟩) (Kd.V7 a3u.out a0t.out (by decide)) (fun _ hk => hk.2) (.int .i64 ((F5 l0 y8).f0))) (fun _ hk => hk.2) (.int .u32 ((F5 l0 y8).f1))) (fun _ hk => hk.2) (.slice a5k ((F5 l0 y8).f2).length a5l)) (fun _ h_ => h_.1))) hb); replace a0t := a_ (J3 (g := a5Z) (o := .cells #[.int .i64 ((F5 l0 y8).f0), .int .u32 ((F5 l0 y8).f1), .slice a5k ((F5 l0 y8).f2).length a5l] 58 (0, 0)) (by refine l9 (cs := #[.int .i64 ((F5 l0 y8).f0), .int .u32 ((F5 l0 y8).f1), .slice none 0 0]) ?_ 2 _ rfl; refine l9 (cs := #[.int .i64 ((F5 l0 y8).f0), .int .u32 0, .slice none 0 0]) ?_ 1 _ rfl; refine l9 (cs := #[.int .i64 0, .int .u32 0, .slice none 0 0]) ?_ 0 _ rfl; exact a0t.out) hb); replace HB := a_ (G9 (by repeat (with_reducible first | exact HB.out | refine o8 ?_ a8U.out)) hb); (try clear hb); obtain ⟨b6M, b6N, b6O, b6P, b6Q, b6R⟩ := a2G a0t.out) | ((with_reducible refine G7 (b := .append) (xs := #[.tmp 25, .tmp 29]) rfl ?_); at_builtin; refine Kd.a5c (Kd.int .u8) (w0 := w) w.heap.size rfl (.tmp 25) (.tmp 29) 22 5 (.int .u8 0) 1 rfl Tryd.underlying22 info5 rfl (by decide) (by omega) u4 a7Q (((F5 l0 y8).f0) % 256) [.int .u8 (((F5 l0 y8).f0) % 256)] (fun _ => True) (fun _ => False) rfl rfl ?aP (fun _ hk => hk.elim) ?aF ?aO ?aB ?aS ?aL ?_; (case aP => exact rfl); (case aB => exact HB.out); (case aF => exact (fun _ _ => trivial)); (case aO => exact a3u.out); (case aS => exact (y5 HB.out)); (case aL => have := e5f.out; omega); intro e9g w23 ho hb hg hat; rw [← e5g.out] at ho; have a6Q := a_ ho; replace a0t := a_ (F9 a0t.out hg (Kd.a6B a3u.out a0t.out (by decide))); replace HB := a_ hb; clear a3u; clear ho hb hg hat; obtain ⟨b7j, b7k, c2u, b7l, b7m, c2w⟩ := a2G a0t.out; have c7I : 0 ≤ (((F5 l0 y8).f0) : Int) := Y9; have c2R : ((F5 l0 y8).f0) < (F8.length : Int) := of_decide_eq_true (by (assumption)); obtain ⟨d6K, e314, a8u, b0L⟩ := a7B a4Z.out ((F5 l0 y8).f0) c7I c2R; (try rw [← e5h.out] at a8u); obtain rfl : (⟨0, 0, none⟩ : Addr) = d6K := (by injection e314); (simp only [add_plain] at a8u); (simp only [add_plain] at b0L); replace a8u := cb_ HB a8u; replace b0L := cb_ HB b0L; replace c7I := eq_true c7I; replace c2R := eq_true c2R; have f7I : (((F5 l0 y8).f0) < 8) = True := c2R) | (refine be_ 7 #[.bool false, .int .i64 0] 131 ?_; intro b1E hg w25 hbox hb; have a6p := a_ hbox; have c5I := lb_ HB hg; obtain ⟨a7u, b5F⟩ := nn_ a0t hg; replace a6Q := rb_ a6Q hb; replace a0t := U5 a0t hb; replace HB := W9 HB hb; clear hb hbox hg; have f5y := b5F.out; have f5z := a7u.out; obtain ⟨c2p, c2r, c2s, c2t⟩ := a3n a6p.out; obtain ⟨b2k, b2l, g1W, b2m, b2n, g1X⟩ := a2G a0t.out) | ((with_reducible refine P9 (N := 47) rfl ?_); refine Kd.b03 (Kd.int .u8) _ 5 ?hg (N := 47) ?hd (xs := ([((((F5 l0 y8).f2).length : Int) / 256) % 256, ((((F5 l0 y8).f2).length : Int)) % 256] : List Int)) (inner := [.int .u8 (((((F5 l0 y8).f2).length : Int) / 256) % 256), .int .u8 (((((F5 l0 y8).f2).length : Int)) % 256)]) (ok := fun _ => True) (okp := fun _ => True) ?hr ?hp (fun _ hk => hk) trivial (Below.refl _ _) (Nat.le_refl _) (by simp) ?_; (case hd => rfl); (case hg => rfl); (case hr => (go_simp; done)); (case hp => exact (N9.one (show Kd.M (Kd.int .u8) _ _ _ (((((F5 l0 y8).f2).length : Int) / 256) % 256) [.int .u8 (((((F5 l0 y8).f2).length : Int) / 256) % 256)] from rfl) (N9.one (show Kd.M (Kd.int .u8) _ _ _ (((((F5 l0 y8).f2).length : Int)) % 256) [.int .u8 (((((F5 l0 y8).f2).length : Int)) % 256)] from rfl) (N9.none _ _)))); intro h7e w29 e2j hb hg_ a1q; clear hg_ a1q; (rw [← f7E.out] at e2j); have b6f := a_ (Kd.X4 (Kd.a2n e2j (Kd.a0h (by exact (Kd.D8 (Kd.U7 (p := ⟨b1E, 1, none⟩) (Kd.U7 (p := ⟨b1E, 0, none⟩) (Kd.V7 a6Q.out a6p.out (by decide)) (fun _ hk => hk.2) (.bool true)) (fun _ hk => hk.2) (.int .i64 ((J5 F8 ((F5 l0 y8).f0)).f1))) (fun _ h_ => h_.1))))) (y5 (by repeat (with_reducible first | exact HB.out | refine o8 ?_ c5I.out)))); replace a6Q := a_ (Kd.a3P (by exact (Kd.D8 (Kd.U7 (p := ⟨b1E, 1, none⟩) (Kd.U7 (p := ⟨b1E, 0, none⟩) (Kd.V7 a6Q.out a6p.out (by decide)) (fun _ hk => hk.2) (.bool true)) (fun _ hk => hk.2) (.int .i64 ((J5 F8 ((F5 l0 y8).f0)).f1))) (fun _ h_ => h_.1))) (Kd.a0n e2j) hb); replace a0t := a_ (J3 (g := a5Z) (o := .cells #[.int .i64 ((F5 l0 y8).f0), .int .u32 ((F5 l0 y8).f1), .slice a5k ((F5 l0 y8).f2).length a5l] 58 (0, 0)) (by refine o9 ?_ a7u.out _; refine o9 ?_ a7u.out _; exact a0t.out) hb); replace a6p := a_ (J3 (g := b1E) (o := .cells #[.bool true, .int .i64 ((J5 F8 ((F5 l0 y8).f0)).f1)] 131 (0, 0)) (by refine l9 (cs := #[.bool true, .int .i64 0]) ?_ 1 _ rfl; refine l9 (cs := #[.bool false, .int .i64 0]) ?_ 0 _ rfl; exact a6p.out) hb); replace HB := a_ (G9 (by repeat (with_reducible first | exact HB.out | refine o8 ?_ c5I.out)) hb); clear hb e2j; obtain ⟨f7J, f7K, g8Q⟩ := Kd.J4 b6f.out; subst g8Q) | ((with_reducible refine G7 (b := .append) (xs := #[.tmp 37, .tmp 47]) rfl ?_); at_builtin; refine Kd.Q8 (Kd.int .u8) (w0 := w) w.heap.size rfl (.tmp 37) (.tmp 47) 22 5 (.int .u8 0) 1 rfl Tryd.underlying22 info5 rfl (by decide) (by omega) e9g c2Q c7H _ _ _ (fun k_ => some k_ ≠ (.slice f7J c7H.length f7K : Value).ownBlock) (fun _ => False) rfl rfl ?aO ?aR (fun _ _ h => h) (fun _ h => h.elim) ?aF ?aB ?aS ?aL ?_; (case aR => exact (Kd.G5 b6f.out).2.2); (case aB => exact HB.out); (case aF => exact (fun k_ hk => Kd.fresh' (Kd.a0h b6f.out) k_ hk)); (case aO => exact (by exact Kd.D8 a6Q.out (fun _ hk => hk.2))); (case aS => exact (y5 HB.out)); (case aL => have := f7F.out; omega); intro g8R w31 ho hb hg hat; rw [← f7G.out] at ho; have d0U := a_ ho; replace a0t := a_ (F9 a0t.out hg (Kd.a6B a6Q.out a0t.out (by decide))); replace a6p := a_ (F9 a6p.out hg (Kd.a6B a6Q.out a6p.out (by decide))); replace b6f := a_ (Kd.a1f (ok := (fun _ => True)) b6f.out hg hat); replace HB := a_ hb; clear a6Q; clear ho hb hg hat; obtain ⟨g1Y, g1Z, g2a, g2b, g2c, g2d⟩ := a2G a0t.out) | ((with_reducible refine G7 (b := .append) (xs := #[.tmp 49, .tmp 51]) rfl ?_); at_builtin; refine Kd.Q8 (Kd.int .u8) (w0 := w) w.heap.size rfl (.tmp 49) (.tmp 51) 22 5 (.int .u8 0) 1 rfl Tryd.underlying22 info5 rfl (by decide) (by omega) g8R d6D ((F5 l0 y8).f2) _ _ _ (fun k_ => some k_ ≠ (.slice f7J c7H.length f7K : Value).ownBlock) (fun _ => False) rfl rfl ?aO ?aR (fun _ _ h => h) (fun _ h => h.elim) ?aF ?aB ?aS ?aL ?_; (case aR => exact (Kd.D6 a9z.out HB.out)); (case aB => exact HB.out); (case aF => exact (fun k_ hk => Kd.fresh' (Kd.a0h b6f.out) k_ hk)); (case aO => exact d0U.out); (case aS => exact (y5 HB.out)); (case aL => have := d6i.out; omega); intro h7f w34 ho hb hg hat; rw [← f7H.out] at ho; have f7L := a_ ho; replace a0t := a_ (F9 a0t.out hg (Kd.a6B d0U.out a0t.out (by decide))); replace a6p := a_ (F9 a6p.out hg (Kd.a6B d0U.out a6p.out (by decide))); replace b6f := a_ (Kd.a1f (ok := (fun _ => True)) b6f.out hg hat); replace HB := a_ hb; clear d0U; clear ho hb hg hat))
       go_roundg k1
       case measure => have := HK1.out; omega
       case rel => exact ⟨(g8P), (wrap64 (y8 + 1)), (by rfl), H', ⟨by have := HK1.out; omega⟩, ⟨by exact Kd.D8 f7L.out (fun _ hk => trivial)⟩, ⟨by exact HB.out⟩⟩
      ·cases nt_ c16
       rw [if_neg a5a] at H
       replace H := Option.bind_eq_some_iff.mp H
       obtain ⟨⟨e2k, g8T⟩, d5H, H⟩ := H
       try dsimp only at H
       have A35 := a_ d5H
       clear d5H
       have c36 := a0o H
       replace H := U9 H
       have d6w := a_ c36
       clear c36
       obtain ⟨g8U, d6L⟩ := is_ ((c2Q ++ e2k))
       rw [← d6L] at H
       have f7M := a_ d6L
       clear d6L
       have H' := a_ H
       clear H
       have b3A : 0 ≤ (y8 : Int) := Y9
       have b3B : y8 < (l0.length : Int) := Y9
       obtain ⟨d6E, a5k, a5l, e308, a6L, a6M, a6N, a6O, a6P⟩ := b73 HR0.out y8 b3A b3B
       cases e308
       replace a6L := cb_ HB a6L
       replace a6M := cb_ HB a6M
       replace a6N := cb_ HB a6N
       have a9z := a_ a6P
       have b0K := a_ a6O
       clear a6P a6O
       replace b3A := eq_true b3A
       replace b3B := eq_true b3B
       go_wp2_with (first | (refine be_ 6 #[.int .i64 0, .int .u32 0, .slice none 0 0] 58 ?_; intro a5Z hg w37 hbox hb; have a0t := a_ hbox; have a8U := lb_ HB hg; replace a3u := rb_ a3u hb; replace HB := W9 HB hb; clear hb hbox hg; obtain ⟨e2l, e2m, e2n, e2o, e2p, e2q⟩ := a2G a0t.out) | (refine gl_ (some 18) Tryd.func71 #[.agg #[.int .i64 ((F5 l0 y8).f0), .int .u32 ((F5 l0 y8).f1), .slice a5k ((F5 l0 y8).f2).length a5l]] ?_; (with_reducible refine (a1w.calls k1 ((F5 l0 y8).f0) ((F5 l0 y8).f1) _ _ ((F5 l0 y8).f2) true _ (Kd.D6 a4Z.out (by repeat (with_reducible first | exact HB.out | refine o8 ?_ a8U.out))) (Kd.D6 a9z.out (by repeat (with_reducible first | exact HB.out | refine o8 ?_ a8U.out))) b0K.out A5.out).mono ?_); rintro e w39 ⟨rfl, hb⟩; refine ⟨_, rfl, ?_⟩; replace a3u := a_ (Kd.a1Y (by exact (Kd.D8 (Kd.U7 (p := ⟨a5Z, 2, none⟩) (Kd.U7 (p := ⟨a5Z, 1, none⟩) (Kd.U7 (p := ⟨a5Z, 0, none⟩) (Kd.V7 a3u.out a0t.out (by decide)) (fun _ hk => hk.2) (.int .i64 ((F5 l0 y8).f0))) (fun _ hk => hk.2) (.int .u32 ((F5 l0 y8).f1))) (fun _ hk => hk.2) (.slice a5k ((F5 l0 y8).f2).length a5l)) (fun _ h_ => h_.1))) hb); replace a0t := a_ (J3 (g := a5Z) (o := .cells #[.int .i64 ((F5 l0 y8).f0), .int .u32 ((F5 l0 y8).f1), .slice a5k ((F5 l0 y8).f2).length a5l] 58 (0, 0)) (by refine l9 (cs := #[.int .i64 ((F5 l0 y8).f0), .int .u32 ((F5 l0 y8).f1), .slice none 0 0]) ?_ 2 _ rfl; refine l9 (cs := #[.int .i64 ((F5 l0 y8).f0), .int .u32 0, .slice none 0 0]) ?_ 1 _ rfl; refine l9 (cs := #[.int .i64 0, .int .u32 0, .slice none 0 0]) ?_ 0 _ rfl; exact a0t.out) hb); replace HB := a_ (G9 (by repeat (with_reducible first | exact HB.out | refine o8 ?_ a8U.out)) hb); (try clear hb); obtain ⟨e1R, e1S, g2e, e1T, e1U, g2f⟩ := a2G a0t.out) | ((with_reducible refine G7 (b := .append) (xs := #[.tmp 25, .tmp 29]) rfl ?_); at_builtin; refine Kd.a5c (Kd.int .u8) (w0 := w) w.heap.size rfl (.tmp 25) (.tmp 29) 22 5 (.int .u8 0) 1 rfl Tryd.underlying22 info5 rfl (by decide) (by omega) u4 a7Q (((F5 l0 y8).f0) % 256) [.int .u8 (((F5 l0 y8).f0) % 256)] (fun _ => True) (fun _ => False) rfl rfl ?aP (fun _ hk => hk.elim) ?aF ?aO ?aB ?aS ?aL ?_; (case aP => exact rfl); (case aB => exact HB.out); (case aF => exact (fun _ _ => trivial)); (case aO => exact a3u.out); (case aS => exact (y5 HB.out)); (case aL => have := e5f.out; omega); intro e9g w41 ho hb hg hat; rw [← e5g.out] at ho; have a6Q := a_ ho; replace a0t := a_ (F9 a0t.out hg (Kd.a6B a3u.out a0t.out (by decide))); replace HB := a_ hb; clear a3u; clear ho hb hg hat; obtain ⟨g2g, g2h, g2i, g2j, g2k, g2l⟩ := a2G a0t.out; have c7I : 0 ≤ (((F5 l0 y8).f0) : Int) := Y9; have c2R : ((F5 l0 y8).f0) < (F8.length : Int) := of_decide_eq_true (by (assumption)); obtain ⟨d6K, e314, a8u, b0L⟩ := a7B a4Z.out ((F5 l0 y8).f0) c7I c2R; (try rw [← e5h.out] at a8u); obtain rfl : (⟨0, 0, none⟩ : Addr) = d6K := (by injection e314); (simp only [add_plain] at a8u); (simp only [add_plain] at b0L); replace a8u := cb_ HB a8u; replace b0L := cb_ HB b0L; replace c7I := eq_true c7I; replace c2R := eq_true c2R; have f7I : (((F5 l0 y8).f0) < 8) = True := c2R) | (refine be_ 7 #[.bool false, .int .i64 0] 131 ?_; intro b1E hg w43 hbox hb; have a6p := a_ hbox; have c5I := lb_ HB hg; obtain ⟨a7u, b5F⟩ := nn_ a0t hg; replace a6Q := rb_ a6Q hb; replace a0t := U5 a0t hb; replace HB := W9 HB hb; clear hb hbox hg; have d4W := b5F.out; have d4X := a7u.out; obtain ⟨d0p, d0q, d0r, d0s⟩ := a3n a6p.out; obtain ⟨c1W, c1X, c1Y, c1Z, c2a, c2c⟩ := a2G a0t.out) | (refine gl_ (some 59) Tryd.func72 #[.int .u64 (IntKind.u64.wrap ((F5 l0 y8).f1)), .int .i64 ((J5 F8 ((F5 l0 y8).f0)).f1), .bool true] ?_; (with_reducible refine (a0O.calls k1 (IntKind.u64.wrap ((F5 l0 y8).f1)) ((J5 F8 ((F5 l0 y8).f0)).f1) true e2k g8T _ A35.out).mono ?_); rintro e w47 ⟨h7i, rfl, ho0, hb⟩; refine ⟨_, rfl, ?_⟩; have c5J := a_ (Kd.X4 (Kd.a2n ho0 (Kd.a0h (by exact (Kd.D8 (Kd.U7 (p := ⟨b1E, 1, none⟩) (Kd.U7 (p := ⟨b1E, 0, none⟩) (Kd.V7 a6Q.out a6p.out (by decide)) (fun _ hk => hk.2) (.bool false)) (fun _ hk => hk.2) (.int .i64 ((J5 F8 ((F5 l0 y8).f0)).f1))) (fun _ h_ => h_.1))))) (y5 (by repeat (with_reducible first | exact HB.out | refine o8 ?_ c5I.out)))); replace a6Q := a_ (Kd.a3P (by exact (Kd.D8 (Kd.U7 (p := ⟨b1E, 1, none⟩) (Kd.U7 (p := ⟨b1E, 0, none⟩) (Kd.V7 a6Q.out a6p.out (by decide)) (fun _ hk => hk.2) (.bool false)) (fun _ hk => hk.2) (.int .i64 ((J5 F8 ((F5 l0 y8).f0)).f1))) (fun _ h_ => h_.1))) (Kd.a0n ho0) hb); replace a0t := a_ (J3 (g := a5Z) (o := .cells #[.int .i64 ((F5 l0 y8).f0), .int .u32 ((F5 l0 y8).f1), .slice a5k ((F5 l0 y8).f2).length a5l] 58 (0, 0)) (by refine o9 ?_ a7u.out _; refine o9 ?_ a7u.out _; exact a0t.out) hb); replace a6p := a_ (J3 (g := b1E) (o := .cells #[.bool false, .int .i64 ((J5 F8 ((F5 l0 y8).f0)).f1)] 131 (0, 0)) (by refine l9 (cs := #[.bool false, .int .i64 0]) ?_ 1 _ rfl; refine l9 (cs := #[.bool false, .int .i64 0]) ?_ 0 _ rfl; exact a6p.out) hb); replace HB := a_ (G9 (by repeat (with_reducible first | exact HB.out | refine o8 ?_ c5I.out)) hb); (try clear hb); (try clear ho0); obtain ⟨g8V, f1i, e5E⟩ := Kd.J4 c5J.out; subst e5E) | ((with_reducible refine G7 (b := .append) (xs := #[.tmp 62, .tmp 63]) rfl ?_); at_builtin; refine Kd.Q8 (Kd.int .u8) (w0 := w) w.heap.size rfl (.tmp 62) (.tmp 63) 22 5 (.int .u8 0) 1 rfl Tryd.underlying22 info5 rfl (by decide) (by omega) e9g c2Q e2k _ _ _ (fun k_ => some k_ ≠ (.slice g8V e2k.length f1i : Value).ownBlock) (fun _ => False) rfl rfl ?aO ?aR (fun _ _ h => h) (fun _ h => h.elim) ?aF ?aB ?aS ?aL ?_; (case aR => exact (Kd.G5 c5J.out).2.2); (case aB => exact HB.out); (case aF => exact (fun k_ hk => Kd.fresh' (Kd.a0h c5J.out) k_ hk)); (case aO => exact (by exact Kd.D8 a6Q.out (fun _ hk => hk.2))); (case aS => exact (y5 HB.out)); (case aL => have := d6w.out; omega); intro h7j w48 ho hb hg hat; rw [← f7M.out] at ho; have f7N := a_ ho; replace a0t := a_ (F9 a0t.out hg (Kd.a6B a6Q.out a0t.out (by decide))); replace a6p := a_ (F9 a6p.out hg (Kd.a6B a6Q.out a6p.out (by decide))); replace c5J := a_ (Kd.a1f (ok := (fun _ => True)) c5J.out hg hat); replace HB := a_ hb; clear a6Q; clear ho hb hg hat))
       go_roundg k1
       case measure => have := HK1.out; omega
       case rel => exact ⟨(g8U), (wrap64 (y8 + 1)), (by rfl), H', ⟨by have := HK1.out; omega⟩, ⟨by exact Kd.D8 f7N.out (fun _ hk => trivial)⟩, ⟨by exact HB.out⟩⟩
    ·cases nt_ c6
     rw [if_neg a5a] at H
     obtain ⟨rfl, rfl⟩ := s2_ H
     have b3A : 0 ≤ (y8 : Int) := Y9
     have b3B : y8 < (l0.length : Int) := Y9
     obtain ⟨d6E, a5k, a5l, e308, a6L, a6M, a6N, a6O, a6P⟩ := b73 HR0.out y8 b3A b3B
     cases e308
     replace a6L := cb_ HB a6L
     replace a6M := cb_ HB a6M
     replace a6N := cb_ HB a6N
     have a9z := a_ a6P
     have b0K := a_ a6O
     clear a6P a6O
     replace b3A := eq_true b3A
     replace b3B := eq_true b3B
     go_wp2_with (first | (refine be_ 6 #[.int .i64 0, .int .u32 0, .slice none 0 0] 58 ?_; intro a5Z hg w50 hbox hb; have a0t := a_ hbox; have a8U := lb_ HB hg; replace a3u := rb_ a3u hb; replace HB := W9 HB hb; clear hb hbox hg; obtain ⟨b7b, b7c, g2m, b7d, b7e, g2n⟩ := a2G a0t.out) | (refine gl_ (some 18) Tryd.func71 #[.agg #[.int .i64 ((F5 l0 y8).f0), .int .u32 ((F5 l0 y8).f1), .slice a5k ((F5 l0 y8).f2).length a5l]] ?_; (with_reducible refine (a1w.calls k1 ((F5 l0 y8).f0) ((F5 l0 y8).f1) _ _ ((F5 l0 y8).f2) false _ (Kd.D6 a4Z.out (by repeat (with_reducible first | exact HB.out | refine o8 ?_ a8U.out))) (Kd.D6 a9z.out (by repeat (with_reducible first | exact HB.out | refine o8 ?_ a8U.out))) b0K.out A5.out).mono ?_); rintro e w52 ⟨rfl, hb⟩; refine ⟨_, rfl, ?_⟩; replace a3u := a_ (Kd.a1Y (by exact (Kd.D8 (Kd.U7 (p := ⟨a5Z, 2, none⟩) (Kd.U7 (p := ⟨a5Z, 1, none⟩) (Kd.U7 (p := ⟨a5Z, 0, none⟩) (Kd.V7 a3u.out a0t.out (by decide)) (fun _ hk => hk.2) (.int .i64 ((F5 l0 y8).f0))) (fun _ hk => hk.2) (.int .u32 ((F5 l0 y8).f1))) (fun _ hk => hk.2) (.slice a5k ((F5 l0 y8).f2).length a5l)) (fun _ h_ => h_.1))) hb); replace a0t := a_ (J3 (g := a5Z) (o := .cells #[.int .i64 ((F5 l0 y8).f0), .int .u32 ((F5 l0 y8).f1), .slice a5k ((F5 l0 y8).f2).length a5l] 58 (0, 0)) (by refine l9 (cs := #[.int .i64 ((F5 l0 y8).f0), .int .u32 ((F5 l0 y8).f1), .slice none 0 0]) ?_ 2 _ rfl; refine l9 (cs := #[.int .i64 ((F5 l0 y8).f0), .int .u32 0, .slice none 0 0]) ?_ 1 _ rfl; refine l9 (cs := #[.int .i64 0, .int .u32 0, .slice none 0 0]) ?_ 0 _ rfl; exact a0t.out) hb); replace HB := a_ (G9 (by repeat (with_reducible first | exact HB.out | refine o8 ?_ a8U.out)) hb); (try clear hb)))
     go_ret2
     exact ⟨_, by (rfl), by (exact Kd.a0I _ _ _ _ _), by exact HB.out⟩
   ·rw [if_neg c2] at H
    have b6B := decide_eq_false c2
    clear c2
    obtain ⟨rfl, rfl⟩ := s2_ H
    go_wp2
    go_ret2
    exact ⟨_, by (rfl), by exact a3u.out, by exact HB.out⟩

end Go.Proofs.YtgnonglkibhnhaaDoor.Print
