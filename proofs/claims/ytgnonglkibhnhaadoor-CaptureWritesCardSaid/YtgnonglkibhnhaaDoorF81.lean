import Derived.Test.YtgnonglkibhnhaaDoorM6
namespace Go.Proofs.YtgnonglkibhnhaaDoor.Print
open Go.RowKit Go.Proofs.YtgnonglkibhnhaaDoorW.PrintWords Go.Proofs.YtgnonglkibhnhaaDoorW.PrintLast Go.Proofs.YtgnonglkibhnhaaDoorW.PrintMore
attribute [local go_sem] a0d a0e a0V a0W X5 X6 a0f a0g
set_option linter.unusedVariables false
set_option linter.unusedSimpArgs false

/-! ### head_Read: function 81 -/
def head_Read.j0 : Nat → Int → List Int → Bool → Option (Int × Int × Int)
 | 0, _, _, _ => none
 | k + 1, x4, x6, x25 => if x25 = true then (if 0 < (x6.length : Int) then (some (wrap64 (rd x6 0), wrap64 (x4 + 1), 0)) else (none)) else (if 0 < (x6.length : Int) then (if (Go.bits .and .u8 (rd x6 0) 1) = 1 then (some (0, 0, 3)) else (if (x6.length : Int) = 1 then (some (0, 0, 2)) else (if 1 < (x6.length : Int) then ((Z4.f (Go.bits .or .i64 (wrap64 ((wrap64 (rd x6 0)) * 256)) (wrap64 (rd x6 1)))).bind fun t139 => (if t139 = true then (some (Go.bits .or .i64 (wrap64 ((wrap64 (rd x6 0)) * 256)) (wrap64 (rd x6 1)), wrap64 (x4 + 2), 0)) else (some (0, 0, 3)))) else (none)))) else (none))
def head_Read.f (k : Nat) (l0 : List Int) : Option (Int × Int × Int) := (a4H.f l0).bind fun a9c => (if a9c.2 = 0 then (if 0 ≤ a9c.1 then (if a9c.1 ≤ (l0.length : Int) then (if ((l0.drop (a9c.1 : Int).toNat).length : Int) = 0 then (some (0, 0, 2)) else (if 0 < ((l0.drop (a9c.1 : Int).toNat).length : Int) then (if (Go.bits .and .u8 (rd (l0.drop (a9c.1 : Int).toNat) 0) 1) = 1 then ((Z4.f (wrap64 (rd (l0.drop (a9c.1 : Int).toNat) 0))).bind fun d89 => (head_Read.j0 k a9c.1 (l0.drop (a9c.1 : Int).toNat) d89)) else (head_Read.j0 k a9c.1 (l0.drop (a9c.1 : Int).toNat) false)) else (none))) else (none)) else (none)) else (some (0, 0, a9c.2)))
set_option maxHeartbeats 8000000 in
set_option maxRecDepth 100000 in
theorem head_Read.calls (k : Nat) (A0 : Option Addr) (c0 : Nat) (l0 : List Int) (r1 : Int) (r2 : Int) (r3 : Int) (w : World) (hr0 : Kd.C (Kd.int .u8) w A0 l0.length l0) (hc0 : l0.length ≤ c0) (h : head_Read.f k l0 = some (r1, r2, r3)) :
  Calls Tryd.prog 81 #[.slice A0 l0.length c0] w fun e w' => e = .returned (.tuple #[.agg #[.int .i64 r1, .int .i64 r2], .int .i64 r3]) ∧ Below w.heap.size w w' := by
 have f0L := Tryd.underlying122
 have HR0 := a_ hr0
 have HC0 := a_ hc0
 clear hr0 hc0
 have HB := a_ (Below.refl w.heap.size w)
 have H := h
 clear h
 unfold head_Read.f at H
 obtain ⟨⟨Z9, t130⟩, A2, H⟩ := bd_ H
 try dsimp only at H
 by_cases c3 : t130 = 0
 ·rw [if_pos c3] at H; obtain ⟨a3w, b1t⟩ := bt_ c3; clear c3; have c4 := X4 H; replace H := O6 H; have a3x := eq_true c4; have a9S := dt_ c4; clear c4; have c5 := X4 H; replace H := O6 H; have a7h := eq_true c5; have b3X := dt_ c5; clear c5
  by_cases c6 : ((l0.drop (Z9 : Int).toNat).length : Int) = 0
  ·rw [if_pos c6] at H; have a5Y := beq_iff_eq.mpr c6; have b2w := bne_eq_false_iff_eq.mpr c6; have f0V : (((l0.length - (Z9 : Int).toNat : Nat) : Int) == 0) = true := by rw [← List.length_drop]; exact beq_iff_eq.mpr c6
   have g2d : (((l0.length - (Z9 : Int).toNat : Nat) : Int) != 0) = false := by rw [← List.length_drop]; exact bne_eq_false_iff_eq.mpr c6
   clear c6; obtain ⟨rfl, rfl, rfl⟩ := s3_ H
   go_enter Tryd.func81, Tryd.ntmps81
   go_wp2_with (first | (refine be_ 2 #[.int .i64 0, .int .i64 0] 122 ?_; intro b05 hg w7 hbox hb; have a3X := a_ hbox; have b3c := lb_ HB hg; replace HB := Q8 HB hb; clear hb hbox hg) | (go_at_call 97; (with_reducible refine (a4H.calls _ _ l0 Z9 t130 _ (Kd.E8 HR0.out HB.out) HC0.out A2.out).mono ?_); rintro e w' ⟨rfl, ⟨nd, rfl⟩⟩; obtain ⟨i08, d4X, _, d4Y, _⟩ := info_parts info5; obtain ⟨A8, f0W, hA8, hC8⟩ := a2q (P := Tryd.prog) (Value.int .u8) 0 22 5 .i64 Tryd.underlying22 d4X d4Y A0 c0 l0 Z9 (U9) (U9) HC0.out; have a8g := ci_ (Kd.a2a (h1 := fun _ => rfl) (hA8 _ (Kd.a1L HR0.out))); have f0X := a_ hC8; clear hA8 hC8 d4X d4Y; obtain ⟨d4g, d4h, d4i, d4j⟩ := a4e a3X.out))
   refine bodyPost_ret (a0C rfl _ _ b05 122 #[.int .i64 0, .int .i64 0] (0, 0) _ rfl (by refine l9 (cs := #[.int .i64 0, .int .i64 0]) ?_ 1 _ rfl; refine l9 (cs := #[.int .i64 0, .int .i64 0]) ?_ 0 _ rfl; (with_reducible repeat (refine a0r ?_ _)); exact a3X.out) Tryd.underlying122 rfl (by kernel_rfl)) rfl ?_; exact ⟨by (rfl), by repeat (with_reducible first | exact HB.out | apply y5 | refine o8 ?_ b3c.out)⟩
  ·rw [if_neg c6] at H; have a5Y := bq_ c6; have b2w := bn_ c6; have f0V : ¬ ((l0.drop (Z9 : Int).toNat) = []) := fun h_ => c6 (by rw [h_]; rfl)
   have g2d : (((l0.length - (Z9 : Int).toNat : Nat) : Int) == 0) = false := by rw [← List.length_drop]; exact bq_ c6
   have g9N : (((l0.length - (Z9 : Int).toNat : Nat) : Int) != 0) = true := by rw [← List.length_drop]; exact bn_ c6
   have e4R := a_ H; clear H
   go_enter Tryd.func81, Tryd.ntmps81
   go_upto_region 7 with (first | (refine be_ 2 #[.int .i64 0, .int .i64 0] 122 ?_; intro b05 hg w11 hbox hb; have a3X := a_ hbox; have b3c := lb_ HB hg; replace HB := Q8 HB hb; clear hb hbox hg) | (go_at_call 97; (with_reducible refine (a4H.calls _ _ l0 Z9 t130 _ (Kd.E8 HR0.out HB.out) HC0.out A2.out).mono ?_); rintro e w' ⟨rfl, ⟨nd, rfl⟩⟩; obtain ⟨f98, c1t, _, c1u, _⟩ := info_parts info5; obtain ⟨A12, e3f, d2i, d2j⟩ := a2q (P := Tryd.prog) (Value.int .u8) 0 22 5 .i64 Tryd.underlying22 c1t c1u A0 c0 l0 Z9 (U9) (U9) HC0.out; have a8g := ci_ (Kd.a2a (h1 := fun _ => rfl) (d2i _ (Kd.a1L HR0.out))); have f0X := a_ d2j; clear d2i d2j c1t c1u))
   go_cut [25] (fun v25 wc => ∃ (kq : Nat) (c7B : Bool), v25 = .bool c7B ∧ Aside0 (head_Read.j0 kq Z9 (l0.drop (Z9 : Int).toNat) c7B = some (r1, r2, r3)) ∧ Aside0 (kq ≤ k) ∧ Aside0 (wc.heap[b05]? = some (.cells #[.int .i64 0, .int .i64 0] 122 (0, 0))) ∧ Aside0 (Below w.heap.size w wc))
   case first =>
    have H := e4R.out; clear e4R; have c13 := X4 H; replace H := O6 H; have c09 := dt_ c13; have c5l : decide (0 < (l0.drop (Z9 : Int).toNat).length) = true := dt_ (by omega); have e7j : decide (0 < ((l0.length - (Z9 : Int).toNat : Nat) : Int)) = true := by rw [← List.length_drop]; exact dt_ c13
    have g5X : (0 < ((l0.length - (Z9 : Int).toNat : Nat) : Int)) = True := by rw [← List.length_drop]; exact eq_true (by (exact of_decide_eq_true (dt_ c13)))
    have g5Y : decide (0 < (l0.length - (Z9 : Int).toNat)) = true := by rw [← List.length_drop]; exact dt_ (by omega)
    have g5Z : (0 < (l0.length - (Z9 : Int).toNat)) = True := by rw [← List.length_drop]; exact eq_true (by (exact of_decide_eq_true (dt_ (by omega))))
    clear c13
    by_cases c14 : (Go.bits .and .u8 (rd (l0.drop (Z9 : Int).toNat) 0) 1) = 1
    ·rw [if_pos c14] at H; obtain ⟨d3g, f0Y⟩ := bt_ c14; clear c14; obtain ⟨d89, A15, H⟩ := bd_ H
     (try dsimp only at H); have H' := a_ H; clear H; have c4s : 0 ≤ (0 : Int) := (by omega); have c4t : 0 < ((l0.drop (Z9 : Int).toNat).length : Int) := U9; obtain ⟨e08, e4S, a6u⟩ := Kd.a0x a8g.out 0 c4s c4t
     cases e4S
     have f0Z : (0 < (l0.drop (Z9 : Int).toNat).length) = True := eq_true (by omega)
     (try rw [show (0 : Int).toNat = 0 from rfl] at a6u)
     (try rw [Addr.add_zero'] at a6u)
     replace a6u := J9 HB a6u; replace c4s := eq_true c4s; replace c4t := eq_true c4t; have e4T : 0 ≤ (0 : Int) := (by omega); have e4U : 0 < ((l0.drop (Z9 : Int).toNat).length : Int) := U9; obtain ⟨f00, g2f, b5j⟩ := Kd.a0x a8g.out 0 e4T e4U; obtain rfl : e08 = f00 := (by injection g2f); have g50 : (0 < (l0.drop (Z9 : Int).toNat).length) = True := eq_true (by omega)
     (try rw [show (0 : Int).toNat = 0 from rfl] at b5j)
     (try rw [Addr.add_zero'] at b5j)
     replace b5j := J9 HB b5j; replace e4T := eq_true e4T; replace e4U := eq_true e4U
     go_wp2_with (first | (go_at_call 33; (with_reducible refine (Z4.calls (wrap64 (rd (l0.drop (Z9 : Int).toNat) 0)) d89 _ A15.out).mono ?_); rintro e w' ⟨rfl, ⟨nd, rfl⟩⟩))
     go_meet
     case rel => exact ⟨_, (d89), (by rfl), H', ⟨by (omega)⟩, ⟨by (with_reducible repeat (refine a0r ?_ _)); exact a3X.out⟩, ⟨by repeat (with_reducible first | exact HB.out | apply y5)⟩⟩
    ·rw [if_neg c14] at H; have d3g := bq_ c14; have f0Y := bn_ c14; have H' := a_ H; clear H; have c4s : 0 ≤ (0 : Int) := (by omega); have c4t : 0 < ((l0.drop (Z9 : Int).toNat).length : Int) := U9; obtain ⟨e08, e4S, a6u⟩ := Kd.a0x a8g.out 0 c4s c4t
     cases e4S
     have f0Z : (0 < (l0.drop (Z9 : Int).toNat).length) = True := eq_true (by omega)
     (try rw [show (0 : Int).toNat = 0 from rfl] at a6u)
     (try rw [Addr.add_zero'] at a6u)
     replace a6u := J9 HB a6u; replace c4s := eq_true c4s; replace c4t := eq_true c4t
     go_wp2
     go_meet
     case rel => exact ⟨_, (false), (by rfl), H', ⟨by (omega)⟩, ⟨by (with_reducible repeat (refine a0r ?_ _)); exact a3X.out⟩, ⟨by repeat (with_reducible first | exact HB.out | apply y5)⟩⟩
   case rest =>
    clear e4R
    try clear a3w
    try clear b1t
    try clear a3x
    try clear a9S
    try clear a7h
    try clear b3X
    try clear c6
    try clear a5Y
    try clear b2w
    try clear f0V
    obtain ⟨kq, c7B, rfl, HA, HJ9, a3X, HB⟩ := hcut
    cases kq with
    | zero => exact absurd HA.out (by simp [head_Read.j0])
    | succ kj9 =>
     have H := HA.out; clear HA
     simp only [head_Read.j0] at H
     by_cases c16 : c7B = true
     ·subst c16; rw [if_pos rfl] at H; have c17 := X4 H; replace H := O6 H; have d1o := dt_ c17; have d1p : decide (0 < (l0.drop (Z9 : Int).toNat).length) = true := dt_ (by omega); have g51 : decide (0 < ((l0.length - (Z9 : Int).toNat : Nat) : Int)) = true := by rw [← List.length_drop]; exact dt_ c17
      have g52 : (0 < ((l0.length - (Z9 : Int).toNat : Nat) : Int)) = True := by rw [← List.length_drop]; exact eq_true (by (exact of_decide_eq_true (dt_ c17)))
      have g53 : decide (0 < (l0.length - (Z9 : Int).toNat)) = true := by rw [← List.length_drop]; exact dt_ (by omega)
      have g54 : (0 < (l0.length - (Z9 : Int).toNat)) = True := by rw [← List.length_drop]; exact eq_true (by (exact of_decide_eq_true (dt_ (by omega))))
      clear c17; obtain ⟨rfl, rfl, rfl⟩ := s3_ H; have e4V : 0 ≤ (0 : Int) := (by omega); have e4W : 0 < ((l0.drop (Z9 : Int).toNat).length : Int) := U9; obtain ⟨g55, g2g, b5k⟩ := Kd.a0x a8g.out 0 e4V e4W
      cases g2g
      have g56 : (0 < (l0.drop (Z9 : Int).toNat).length) = True := eq_true (by omega)
      (try rw [show (0 : Int).toNat = 0 from rfl] at b5k)
      (try rw [Addr.add_zero'] at b5k)
      replace b5k := J9 HB b5k; replace e4V := eq_true e4V; replace e4W := eq_true e4W; obtain ⟨c6O, c6P, c6Q, c6R⟩ := a4e a3X.out
      go_wp2
      refine bodyPost_ret (a0C rfl _ _ b05 122 #[.int .i64 (wrap64 (rd (l0.drop (Z9 : Int).toNat) 0)), .int .i64 (wrap64 (Z9 + 1))] (0, 0) _ rfl (l9 (l9 a3X.out 0 _ rfl) 1 _ rfl) Tryd.underlying122 rfl (by kernel_rfl)) rfl ?_; exact ⟨by (rfl), by repeat (with_reducible first | exact HB.out | refine o8 ?_ b3c.out)⟩
     ·cases nt_ c16
      rw [if_neg a2O] at H; have c19 := X4 H; replace H := O6 H; have d1q := dt_ c19; have d1r : decide (0 < (l0.drop (Z9 : Int).toNat).length) = true := dt_ (by omega); have e7k : decide (0 < ((l0.length - (Z9 : Int).toNat : Nat) : Int)) = true := by rw [← List.length_drop]; exact dt_ c19
      have g57 : (0 < ((l0.length - (Z9 : Int).toNat : Nat) : Int)) = True := by rw [← List.length_drop]; exact eq_true (by (exact of_decide_eq_true (dt_ c19)))
      have g58 : decide (0 < (l0.length - (Z9 : Int).toNat)) = true := by rw [← List.length_drop]; exact dt_ (by omega)
      have g59 : (0 < (l0.length - (Z9 : Int).toNat)) = True := by rw [← List.length_drop]; exact eq_true (by (exact of_decide_eq_true (dt_ (by omega))))
      clear c19
      by_cases c20 : (Go.bits .and .u8 (rd (l0.drop (Z9 : Int).toNat) 0) 1) = 1
      ·rw [if_pos c20] at H; obtain ⟨c5m, e0n⟩ := bt_ c20; clear c20; obtain ⟨rfl, rfl, rfl⟩ := s3_ H; have b1N : 0 ≤ (0 : Int) := (by omega); have b1O : 0 < ((l0.drop (Z9 : Int).toNat).length : Int) := U9; obtain ⟨b7i, c4u, a2o⟩ := Kd.a0x a8g.out 0 b1N b1O
       cases c4u
       have d4Z : (0 < (l0.drop (Z9 : Int).toNat).length) = True := eq_true (by omega)
       (try rw [show (0 : Int).toNat = 0 from rfl] at a2o)
       (try rw [Addr.add_zero'] at a2o)
       replace a2o := J9 HB a2o; replace b1N := eq_true b1N; replace b1O := eq_true b1O; obtain ⟨d8f, d8g, d8h, d8i⟩ := a4e a3X.out
       go_wp2
       refine bodyPost_ret (a0C rfl _ _ b05 122 #[.int .i64 0, .int .i64 0] (0, 0) _ rfl (l9 (l9 a3X.out 0 _ rfl) 1 _ rfl) Tryd.underlying122 rfl (by kernel_rfl)) rfl ?_; exact ⟨by (rfl), by repeat (with_reducible first | exact HB.out | refine o8 ?_ b3c.out)⟩
      ·rw [if_neg c20] at H; have c5m := bq_ c20; have e0n := bn_ c20
       by_cases c22 : ((l0.drop (Z9 : Int).toNat).length : Int) = 1
       ·rw [if_pos c22] at H; have e09 := beq_iff_eq.mpr c22; have f01 := bne_eq_false_iff_eq.mpr c22; have f02 : (((l0.length - (Z9 : Int).toNat : Nat) : Int) == 1) = true := by rw [← List.length_drop]; exact beq_iff_eq.mpr c22
        have f03 : (((l0.length - (Z9 : Int).toNat : Nat) : Int) != 1) = false := by rw [← List.length_drop]; exact bne_eq_false_iff_eq.mpr c22
        clear c22; obtain ⟨rfl, rfl, rfl⟩ := s3_ H; have b1N : 0 ≤ (0 : Int) := (by omega); have b1O : 0 < ((l0.drop (Z9 : Int).toNat).length : Int) := U9; obtain ⟨b7i, c4u, a2o⟩ := Kd.a0x a8g.out 0 b1N b1O
        cases c4u
        have d4Z : (0 < (l0.drop (Z9 : Int).toNat).length) = True := eq_true (by omega)
        (try rw [show (0 : Int).toNat = 0 from rfl] at a2o)
        (try rw [Addr.add_zero'] at a2o)
        replace a2o := J9 HB a2o; replace b1N := eq_true b1N; replace b1O := eq_true b1O; obtain ⟨d8q, d8r, d8s, d8t⟩ := a4e a3X.out
        go_wp2
        refine bodyPost_ret (a0C rfl _ _ b05 122 #[.int .i64 0, .int .i64 0] (0, 0) _ rfl (l9 (l9 a3X.out 0 _ rfl) 1 _ rfl) Tryd.underlying122 rfl (by kernel_rfl)) rfl ?_; exact ⟨by (rfl), by repeat (with_reducible first | exact HB.out | refine o8 ?_ b3c.out)⟩
       ·rw [if_neg c22] at H; have e09 := bq_ c22; have f01 := bn_ c22; have f02 : (((l0.length - (Z9 : Int).toNat : Nat) : Int) == 1) = false := by rw [← List.length_drop]; exact bq_ c22
        have f03 : (((l0.length - (Z9 : Int).toNat : Nat) : Int) != 1) = true := by rw [← List.length_drop]; exact bn_ c22
        have c24 := X4 H; replace H := O6 H; have e03 := dt_ c24; have e04 : decide (1 < (l0.drop (Z9 : Int).toNat).length) = true := dt_ (by omega); have g6a : decide (1 < ((l0.length - (Z9 : Int).toNat : Nat) : Int)) = true := by rw [← List.length_drop]; exact dt_ c24
        have g6b : (1 < ((l0.length - (Z9 : Int).toNat : Nat) : Int)) = True := by rw [← List.length_drop]; exact eq_true (by (exact of_decide_eq_true (dt_ c24)))
        have g6c : decide (1 < (l0.length - (Z9 : Int).toNat)) = true := by rw [← List.length_drop]; exact dt_ (by omega)
        have g6d : (1 < (l0.length - (Z9 : Int).toNat)) = True := by rw [← List.length_drop]; exact eq_true (by (exact of_decide_eq_true (dt_ (by omega))))
        clear c24; obtain ⟨t139, A25, H⟩ := bd_ H
        try dsimp only at H
        by_cases c26 : t139 = true
        ·subst c26; rw [if_pos rfl] at H; obtain ⟨rfl, rfl, rfl⟩ := s3_ H; have b1N : 0 ≤ (0 : Int) := (by omega); have b1O : 0 < ((l0.drop (Z9 : Int).toNat).length : Int) := U9; obtain ⟨b7i, c4u, a2o⟩ := Kd.a0x a8g.out 0 b1N b1O
         cases c4u
         have d4Z : (0 < (l0.drop (Z9 : Int).toNat).length) = True := eq_true (by omega)
         (try rw [show (0 : Int).toNat = 0 from rfl] at a2o)
         (try rw [Addr.add_zero'] at a2o)
         replace a2o := J9 HB a2o; replace b1N := eq_true b1N; replace b1O := eq_true b1O; have c4v : 0 ≤ (0 : Int) := (by omega); have c4w : 0 < ((l0.drop (Z9 : Int).toNat).length : Int) := U9; obtain ⟨d41, e137, a6v⟩ := Kd.a0x a8g.out 0 c4v c4w; obtain rfl : b7i = d41 := (by injection e137); have f04 : (0 < (l0.drop (Z9 : Int).toNat).length) = True := eq_true (by omega)
         (try rw [show (0 : Int).toNat = 0 from rfl] at a6v)
         (try rw [Addr.add_zero'] at a6v)
         replace a6v := J9 HB a6v; replace c4v := eq_true c4v; replace c4w := eq_true c4w; have c4x : 0 ≤ (1 : Int) := (by omega); have c4y : 1 < ((l0.drop (Z9 : Int).toNat).length : Int) := U9; obtain ⟨d42, e138, a8V⟩ := Kd.a0x a8g.out 1 c4x c4y; obtain rfl : b7i = d42 := (by injection e138)
         (try simp only [show (1 : Int).toNat = 1 from rfl, Nat.reduceMul, Nat.reduceEqDiff, Go.Addr.add, ↓reduceIte] at a8V)
         have f05 : (1 < (l0.drop (Z9 : Int).toNat).length) = True := eq_true (by omega); replace a8V := J9 HB a8V; replace c4x := eq_true c4x; replace c4y := eq_true c4y
         go_wp2_with (first | (go_at_call 33; (with_reducible refine (Z4.calls (Go.bits .or .i64 (wrap64 ((wrap64 (rd (l0.drop (Z9 : Int).toNat) 0)) * 256)) (wrap64 (rd (l0.drop (Z9 : Int).toNat) 1))) true _ A25.out).mono ?_); rintro e w' ⟨rfl, ⟨nd, rfl⟩⟩; (try first | exact ⟨rfl, _, World.drewN_drewN _ _ _⟩ | exact ⟨rfl, _, Eq.trans (World.drewN_drewN _ _ _) (congrArg (World.drewN _) (Nat.add_assoc _ _ _))⟩); obtain ⟨b9P, b9Q, b9R, b9S⟩ := a4e a3X.out))
         repeat (go_quiet (first | (go_at_call 33; (with_reducible refine (Z4.calls (Go.bits .or .i64 (wrap64 ((wrap64 (rd (l0.drop (Z9 : Int).toNat) 0)) * 256)) (wrap64 (rd (l0.drop (Z9 : Int).toNat) 1))) true _ A25.out).mono ?_); rintro e w' ⟨rfl, ⟨nd, rfl⟩⟩; (try first | exact ⟨rfl, _, World.drewN_drewN _ _ _⟩ | exact ⟨rfl, _, Eq.trans (World.drewN_drewN _ _ _) (congrArg (World.drewN _) (Nat.add_assoc _ _ _))⟩); obtain ⟨b9P, b9Q, b9R, b9S⟩ := a4e a3X.out)); try go_wp2_with (first | (go_at_call 33; (with_reducible refine (Z4.calls (Go.bits .or .i64 (wrap64 ((wrap64 (rd (l0.drop (Z9 : Int).toNat) 0)) * 256)) (wrap64 (rd (l0.drop (Z9 : Int).toNat) 1))) true _ A25.out).mono ?_); rintro e w' ⟨rfl, ⟨nd, rfl⟩⟩; obtain ⟨b9P, b9Q, b9R, b9S⟩ := a4e a3X.out)))
         refine bodyPost_ret (a0C rfl _ _ b05 122 #[.int .i64 (Go.bits .or .i64 (wrap64 ((wrap64 (rd (l0.drop (Z9 : Int).toNat) 0)) * 256)) (wrap64 (rd (l0.drop (Z9 : Int).toNat) 1))), .int .i64 (wrap64 (Z9 + 2))] (0, 0) _ rfl (by refine l9 (cs := #[.int .i64 (Go.bits .or .i64 (wrap64 ((wrap64 (rd (l0.drop (Z9 : Int).toNat) 0)) * 256)) (wrap64 (rd (l0.drop (Z9 : Int).toNat) 1))), .int .i64 0]) ?_ 1 _ rfl; refine l9 (cs := #[.int .i64 0, .int .i64 0]) ?_ 0 _ rfl; (with_reducible repeat (refine a0r ?_ _)); exact a3X.out) Tryd.underlying122 rfl (by kernel_rfl)) rfl ?_; exact ⟨by (rfl), by repeat (with_reducible first | exact HB.out | apply y5 | refine o8 ?_ b3c.out)⟩
        ·cases nt_ c26
         rw [if_neg a2O] at H; obtain ⟨rfl, rfl, rfl⟩ := s3_ H; have b1N : 0 ≤ (0 : Int) := (by omega); have b1O : 0 < ((l0.drop (Z9 : Int).toNat).length : Int) := U9; obtain ⟨b7i, c4u, a2o⟩ := Kd.a0x a8g.out 0 b1N b1O
         cases c4u
         have d4Z : (0 < (l0.drop (Z9 : Int).toNat).length) = True := eq_true (by omega)
         (try rw [show (0 : Int).toNat = 0 from rfl] at a2o)
         (try rw [Addr.add_zero'] at a2o)
         replace a2o := J9 HB a2o; replace b1N := eq_true b1N; replace b1O := eq_true b1O; have c4v : 0 ≤ (0 : Int) := (by omega); have c4w : 0 < ((l0.drop (Z9 : Int).toNat).length : Int) := U9; obtain ⟨d41, e137, a6v⟩ := Kd.a0x a8g.out 0 c4v c4w; obtain rfl : b7i = d41 := (by injection e137); have f04 : (0 < (l0.drop (Z9 : Int).toNat).length) = True := eq_true (by omega)
         (try rw [show (0 : Int).toNat = 0 from rfl] at a6v)
         (try rw [Addr.add_zero'] at a6v)
         replace a6v := J9 HB a6v; replace c4v := eq_true c4v; replace c4w := eq_true c4w; have c4x : 0 ≤ (1 : Int) := (by omega); have c4y : 1 < ((l0.drop (Z9 : Int).toNat).length : Int) := U9; obtain ⟨d42, e138, a8V⟩ := Kd.a0x a8g.out 1 c4x c4y; obtain rfl : b7i = d42 := (by injection e138)
         (try simp only [show (1 : Int).toNat = 1 from rfl, Nat.reduceMul, Nat.reduceEqDiff, Go.Addr.add, ↓reduceIte] at a8V)
         have f05 : (1 < (l0.drop (Z9 : Int).toNat).length) = True := eq_true (by omega); replace a8V := J9 HB a8V; replace c4x := eq_true c4x; replace c4y := eq_true c4y
         go_wp2_with (first | (go_at_call 33; (with_reducible refine (Z4.calls (Go.bits .or .i64 (wrap64 ((wrap64 (rd (l0.drop (Z9 : Int).toNat) 0)) * 256)) (wrap64 (rd (l0.drop (Z9 : Int).toNat) 1))) false _ A25.out).mono ?_); rintro e w' ⟨rfl, ⟨nd, rfl⟩⟩; (try first | exact ⟨rfl, _, World.drewN_drewN _ _ _⟩ | exact ⟨rfl, _, Eq.trans (World.drewN_drewN _ _ _) (congrArg (World.drewN _) (Nat.add_assoc _ _ _))⟩); obtain ⟨a8R, a8S, a8T, a8U⟩ := a4e a3X.out))
         repeat (go_quiet (first | (go_at_call 33; (with_reducible refine (Z4.calls (Go.bits .or .i64 (wrap64 ((wrap64 (rd (l0.drop (Z9 : Int).toNat) 0)) * 256)) (wrap64 (rd (l0.drop (Z9 : Int).toNat) 1))) false _ A25.out).mono ?_); rintro e w' ⟨rfl, ⟨nd, rfl⟩⟩; (try first | exact ⟨rfl, _, World.drewN_drewN _ _ _⟩ | exact ⟨rfl, _, Eq.trans (World.drewN_drewN _ _ _) (congrArg (World.drewN _) (Nat.add_assoc _ _ _))⟩); obtain ⟨a8R, a8S, a8T, a8U⟩ := a4e a3X.out)); try go_wp2_with (first | (go_at_call 33; (with_reducible refine (Z4.calls (Go.bits .or .i64 (wrap64 ((wrap64 (rd (l0.drop (Z9 : Int).toNat) 0)) * 256)) (wrap64 (rd (l0.drop (Z9 : Int).toNat) 1))) false _ A25.out).mono ?_); rintro e w' ⟨rfl, ⟨nd, rfl⟩⟩; obtain ⟨a8R, a8S, a8T, a8U⟩ := a4e a3X.out)))
         refine bodyPost_ret (a0C rfl _ _ b05 122 #[.int .i64 0, .int .i64 0] (0, 0) _ rfl (by refine l9 (cs := #[.int .i64 0, .int .i64 0]) ?_ 1 _ rfl; refine l9 (cs := #[.int .i64 0, .int .i64 0]) ?_ 0 _ rfl; (with_reducible repeat (refine a0r ?_ _)); exact a3X.out) Tryd.underlying122 rfl (by kernel_rfl)) rfl ?_; exact ⟨by (rfl), by repeat (with_reducible first | exact HB.out | apply y5 | refine o8 ?_ b3c.out)⟩
 ·rw [if_neg c3] at H; have a3w := bq_ c3; have b1t := bn_ c3; obtain ⟨rfl, rfl, rfl⟩ := s3_ H
  go_enter Tryd.func81, Tryd.ntmps81
  go_wp2_with (first | (refine be_ 2 #[.int .i64 0, .int .i64 0] 122 ?_; intro b05 hg w29 hbox hb; have a3X := a_ hbox; have b3c := lb_ HB hg; replace HB := Q8 HB hb; clear hb hbox hg) | (go_at_call 97; (with_reducible refine (a4H.calls _ _ l0 Z9 t130 _ (Kd.E8 HR0.out HB.out) HC0.out A2.out).mono ?_); rintro e w' ⟨rfl, ⟨nd, rfl⟩⟩; obtain ⟨f5T, f5U, f5V, f5W⟩ := a4e a3X.out))
  refine bodyPost_ret (a0C rfl _ _ b05 122 #[.int .i64 0, .int .i64 0] (0, 0) _ rfl (by refine l9 (cs := #[.int .i64 0, .int .i64 0]) ?_ 1 _ rfl; refine l9 (cs := #[.int .i64 0, .int .i64 0]) ?_ 0 _ rfl; (with_reducible repeat (refine a0r ?_ _)); exact a3X.out) Tryd.underlying122 rfl (by kernel_rfl)) rfl ?_; exact ⟨by (rfl), by repeat (with_reducible first | exact HB.out | apply y5 | refine o8 ?_ b3c.out)⟩

end Go.Proofs.YtgnonglkibhnhaaDoor.Print
