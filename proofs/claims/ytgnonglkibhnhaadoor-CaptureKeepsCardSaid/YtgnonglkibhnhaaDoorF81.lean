import Derived.Test.YtgnonglkibhnhaaDoorM2
namespace Go.Proofs.YtgnonglkibhnhaaDoor.Print
open Go.RowKit Go.Proofs.YtgnonglkibhnhaaDoorW.PrintWords Go.Proofs.YtgnonglkibhnhaaDoorW.PrintLast Go.Proofs.YtgnonglkibhnhaaDoorW.PrintMore
attribute [local go_sem] a0o a0p a0R a0S Y5 Y6 a0q a0r
set_option linter.unusedVariables false
set_option linter.unusedSimpArgs false

/-! ### head_Read: function 81 -/
def head_Read.j0 : Nat → Int → List Int → Bool → Option (Int × Int × Int)
 | 0, _, _, _ => none
 | k + 1, x4, x6, x25 => if x25 = true then (if 0 < (x6.length : Int) then (some (wrap64 (rd x6 0), wrap64 (x4 + 1), 0)) else (none)) else (if 0 < (x6.length : Int) then (if (Go.bits .and .u8 (rd x6 0) 1) = 1 then (some (0, 0, 3)) else (if (x6.length : Int) = 1 then (some (0, 0, 2)) else (if 1 < (x6.length : Int) then ((a0z.f (Go.bits .or .i64 (wrap64 ((wrap64 (rd x6 0)) * 256)) (wrap64 (rd x6 1)))).bind fun t139 => (if t139 = true then (some (Go.bits .or .i64 (wrap64 ((wrap64 (rd x6 0)) * 256)) (wrap64 (rd x6 1)), wrap64 (x4 + 2), 0)) else (some (0, 0, 3)))) else (none)))) else (none))
def head_Read.f (k : Nat) (l0 : List Int) : Option (Int × Int × Int) := (a3p.f l0).bind fun b1y => (if b1y.2 = 0 then (if 0 ≤ b1y.1 then (if b1y.1 ≤ (l0.length : Int) then (if ((l0.drop (b1y.1 : Int).toNat).length : Int) = 0 then (some (0, 0, 2)) else (if 0 < ((l0.drop (b1y.1 : Int).toNat).length : Int) then (if (Go.bits .and .u8 (rd (l0.drop (b1y.1 : Int).toNat) 0) 1) = 1 then ((a0z.f (wrap64 (rd (l0.drop (b1y.1 : Int).toNat) 0))).bind fun e3v => (head_Read.j0 k b1y.1 (l0.drop (b1y.1 : Int).toNat) e3v)) else (head_Read.j0 k b1y.1 (l0.drop (b1y.1 : Int).toNat) false)) else (none))) else (none)) else (none)) else (some (0, 0, b1y.2)))
set_option maxHeartbeats 8000000 in
set_option maxRecDepth 100000 in
theorem head_Read.calls (k : Nat) (A0 : Option Addr) (c0 : Nat) (l0 : List Int) (r1 : Int) (r2 : Int) (r3 : Int) (w : World) (hr0 : Kd.C (Kd.int .u8) w A0 l0.length l0) (hc0 : l0.length ≤ c0) (h : head_Read.f k l0 = some (r1, r2, r3)) :
  Calls Tryd.prog 81 #[.slice A0 l0.length c0] w fun e w' => e = .returned (.tuple #[.agg #[.int .i64 r1, .int .i64 r2], .int .i64 r3]) ∧ Below w.heap.size w w' := by
 have d64 := Tryd.underlying122
 have HR0 := a_ hr0
 have HC0 := a_ hc0
 clear hr0 hc0
 have HB := a_ (Below.refl w.heap.size w)
 have H := h
 clear h
 unfold head_Read.f at H
 obtain ⟨⟨a0B, t130⟩, A2, H⟩ := bd_ H
 try dsimp only at H
 by_cases c3 : t130 = 0
 ·rw [if_pos c3] at H; obtain ⟨a3T, b1E⟩ := bt_ c3; clear c3; have c4 := Z4 H; replace H := O5 H; have a4i := eq_true c4; have b2z := dt_ c4; clear c4; have c5 := Z4 H; replace H := O5 H; have a5H := eq_true c5; have b1f := dt_ c5; clear c5
  by_cases c6 : ((l0.drop (a0B : Int).toNat).length : Int) = 0
  ·rw [if_pos c6] at H; have a8y := beq_iff_eq.mpr c6; have b5p := bne_eq_false_iff_eq.mpr c6; have f6B : (((l0.length - (a0B : Int).toNat : Nat) : Int) == 0) = true := by rw [← List.length_drop]; exact beq_iff_eq.mpr c6
   have g65 : (((l0.length - (a0B : Int).toNat : Nat) : Int) != 0) = false := by rw [← List.length_drop]; exact bne_eq_false_iff_eq.mpr c6
   clear c6; obtain ⟨rfl, rfl, rfl⟩ := s3_ H
   go_enter Tryd.func81, Tryd.ntmps81
   go_wp2_with (first | (refine be_ 2 #[.int .i64 0, .int .i64 0] 122 ?_; intro b30 hg w7 hbox hb; have a5v := a_ hbox; have b5K := lb_ HB hg; replace HB := V3 HB hb; clear hb hbox hg) | (go_at_call 97; (with_reducible refine (a3p.calls _ _ l0 a0B t130 _ (Kd.y9 HR0.out HB.out) HC0.out A2.out).mono ?_); rintro e w' ⟨rfl, ⟨nd, rfl⟩⟩; obtain ⟨i08, c6p, _, c6q, _⟩ := info_parts info5; obtain ⟨A8, e6h, hA8, hC8⟩ := a0O (P := Tryd.prog) (Value.int .u8) 0 22 5 .i64 Tryd.underlying22 c6p c6q A0 c0 l0 a0B (V5) (V5) HC0.out; have b0s := ci_ (Kd.Y8 (h1 := fun _ => rfl) (hA8 _ (Kd.Y3 HR0.out))); have f6C := a_ hC8; clear hA8 hC8 c6p c6q; obtain ⟨c7L, c7M, c7N, c7O⟩ := a1B a5v.out))
   refine bodyPost_ret (U9 rfl _ _ b30 122 #[.int .i64 0, .int .i64 0] (0, 0) _ rfl (by refine l9 (cs := #[.int .i64 0, .int .i64 0]) ?_ 1 _ rfl; refine l9 (cs := #[.int .i64 0, .int .i64 0]) ?_ 0 _ rfl; (with_reducible repeat (refine Y7 ?_ _)); exact a5v.out) Tryd.underlying122 rfl (by kernel_rfl)) rfl ?_; exact ⟨by (rfl), by repeat (with_reducible first | exact HB.out | apply o9 | refine o7 ?_ b5K.out)⟩
  ·rw [if_neg c6] at H; have a8y := bq_ c6; have b5p := bn_ c6; have f6B : ¬ ((l0.drop (a0B : Int).toNat) = []) := fun h_ => c6 (by rw [h_]; rfl)
   have g65 : (((l0.length - (a0B : Int).toNat : Nat) : Int) == 0) = false := by rw [← List.length_drop]; exact bq_ c6
   have h4F : (((l0.length - (a0B : Int).toNat : Nat) : Int) != 0) = true := by rw [← List.length_drop]; exact bn_ c6
   have e9R := a_ H; clear H
   go_enter Tryd.func81, Tryd.ntmps81
   go_upto_region 7 with (first | (refine be_ 2 #[.int .i64 0, .int .i64 0] 122 ?_; intro b30 hg w11 hbox hb; have a5v := a_ hbox; have b5K := lb_ HB hg; replace HB := V3 HB hb; clear hb hbox hg) | (go_at_call 97; (with_reducible refine (a3p.calls _ _ l0 a0B t130 _ (Kd.y9 HR0.out HB.out) HC0.out A2.out).mono ?_); rintro e w' ⟨rfl, ⟨nd, rfl⟩⟩; obtain ⟨g46, c6l, _, c6m, _⟩ := info_parts info5; obtain ⟨A12, e9u, d7n, d7o⟩ := a0O (P := Tryd.prog) (Value.int .u8) 0 22 5 .i64 Tryd.underlying22 c6l c6m A0 c0 l0 a0B (V5) (V5) HC0.out; have b0s := ci_ (Kd.Y8 (h1 := fun _ => rfl) (d7n _ (Kd.Y3 HR0.out))); have f6C := a_ d7o; clear d7n d7o c6l c6m))
   go_cut [25] (fun v25 wc => ∃ (kq : Nat) (d15 : Bool), v25 = .bool d15 ∧ Aside0 (head_Read.j0 kq a0B (l0.drop (a0B : Int).toNat) d15 = some (r1, r2, r3)) ∧ Aside0 (kq ≤ k) ∧ Aside0 (wc.heap[b30]? = some (.cells #[.int .i64 0, .int .i64 0] 122 (0, 0))) ∧ Aside0 (Below w.heap.size w wc))
   case first =>
    have H := e9R.out; clear e9R; have c13 := Z4 H; replace H := O5 H; have b8H := dt_ c13; have d5B : decide (0 < (l0.drop (a0B : Int).toNat).length) = true := dt_ (by omega); have f2h : decide (0 < ((l0.length - (a0B : Int).toNat : Nat) : Int)) = true := by rw [← List.length_drop]; exact dt_ c13
    have g98 : (0 < ((l0.length - (a0B : Int).toNat : Nat) : Int)) = True := by rw [← List.length_drop]; exact eq_true (by (exact of_decide_eq_true (dt_ c13)))
    have g99 : decide (0 < (l0.length - (a0B : Int).toNat)) = true := by rw [← List.length_drop]; exact dt_ (by omega)
    have h0a : (0 < (l0.length - (a0B : Int).toNat)) = True := by rw [← List.length_drop]; exact eq_true (by (exact of_decide_eq_true (dt_ (by omega))))
    clear c13
    by_cases c14 : (Go.bits .and .u8 (rd (l0.drop (a0B : Int).toNat) 0) 1) = 1
    ·rw [if_pos c14] at H; obtain ⟨b8W, f6D⟩ := bt_ c14; clear c14; obtain ⟨e3v, A15, H⟩ := bd_ H
     (try dsimp only at H); have H' := a_ H; clear H; have c8D : 0 ≤ (0 : Int) := (by omega); have c8E : 0 < ((l0.drop (a0B : Int).toNat).length : Int) := V5; obtain ⟨e6v, e9S, a8B⟩ := Kd.Q7 b0s.out 0 c8D c8E
     cases e9S
     have f6E : (0 < (l0.drop (a0B : Int).toNat).length) = True := eq_true (by omega)
     (try rw [show (0 : Int).toNat = 0 from rfl] at a8B)
     (try rw [Addr.add_zero'] at a8B)
     replace a8B := cb_ HB a8B; replace c8D := eq_true c8D; replace c8E := eq_true c8E; have e9T : 0 ≤ (0 : Int) := (by omega); have e9U : 0 < ((l0.drop (a0B : Int).toNat).length : Int) := V5; obtain ⟨f6F, g66, b7T⟩ := Kd.Q7 b0s.out 0 e9T e9U; obtain rfl : e6v = f6F := (by injection g66); have h0b : (0 < (l0.drop (a0B : Int).toNat).length) = True := eq_true (by omega)
     (try rw [show (0 : Int).toNat = 0 from rfl] at b7T)
     (try rw [Addr.add_zero'] at b7T)
     replace b7T := cb_ HB b7T; replace e9T := eq_true e9T; replace e9U := eq_true e9U
     go_wp2_with (first | (go_at_call 33; (with_reducible refine (a0z.calls (wrap64 (rd (l0.drop (a0B : Int).toNat) 0)) e3v _ A15.out).mono ?_); rintro e w' ⟨rfl, ⟨nd, rfl⟩⟩))
     go_meet
     case rel => exact ⟨_, (e3v), (by rfl), H', ⟨by (omega)⟩, ⟨by (with_reducible repeat (refine Y7 ?_ _)); exact a5v.out⟩, ⟨by repeat (with_reducible first | exact HB.out | apply o9)⟩⟩
    ·rw [if_neg c14] at H; have b8W := bq_ c14; have f6D := bn_ c14; have H' := a_ H; clear H; have c8D : 0 ≤ (0 : Int) := (by omega); have c8E : 0 < ((l0.drop (a0B : Int).toNat).length : Int) := V5; obtain ⟨e6v, e9S, a8B⟩ := Kd.Q7 b0s.out 0 c8D c8E
     cases e9S
     have f6E : (0 < (l0.drop (a0B : Int).toNat).length) = True := eq_true (by omega)
     (try rw [show (0 : Int).toNat = 0 from rfl] at a8B)
     (try rw [Addr.add_zero'] at a8B)
     replace a8B := cb_ HB a8B; replace c8D := eq_true c8D; replace c8E := eq_true c8E
     go_wp2
     go_meet
     case rel => exact ⟨_, (false), (by rfl), H', ⟨by (omega)⟩, ⟨by (with_reducible repeat (refine Y7 ?_ _)); exact a5v.out⟩, ⟨by repeat (with_reducible first | exact HB.out | apply o9)⟩⟩
   case rest =>
    clear e9R
    try clear a3T
    try clear b1E
    try clear a4i
    try clear b2z
    try clear a5H
    try clear b1f
    try clear c6
    try clear a8y
    try clear b5p
    try clear f6B
    obtain ⟨kq, d15, rfl, HA, HJ9, a5v, HB⟩ := hcut
    cases kq with
    | zero => exact absurd HA.out (by simp [head_Read.j0])
    | succ kj9 =>
     have H := HA.out; clear HA
     simp only [head_Read.j0] at H
     by_cases c16 : d15 = true
     ·subst c16; rw [if_pos rfl] at H; have c17 := Z4 H; replace H := O5 H; have b5a := dt_ c17; have c9L : decide (0 < (l0.drop (a0B : Int).toNat).length) = true := dt_ (by omega); have h0d : decide (0 < ((l0.length - (a0B : Int).toNat : Nat) : Int)) = true := by rw [← List.length_drop]; exact dt_ c17
      have h0e : (0 < ((l0.length - (a0B : Int).toNat : Nat) : Int)) = True := by rw [← List.length_drop]; exact eq_true (by (exact of_decide_eq_true (dt_ c17)))
      have h0f : decide (0 < (l0.length - (a0B : Int).toNat)) = true := by rw [← List.length_drop]; exact dt_ (by omega)
      have h0g : (0 < (l0.length - (a0B : Int).toNat)) = True := by rw [← List.length_drop]; exact eq_true (by (exact of_decide_eq_true (dt_ (by omega))))
      clear c17; obtain ⟨rfl, rfl, rfl⟩ := s3_ H; have e9V : 0 ≤ (0 : Int) := (by omega); have e9W : 0 < ((l0.drop (a0B : Int).toNat).length : Int) := V5; obtain ⟨h0h, g67, b7U⟩ := Kd.Q7 b0s.out 0 e9V e9W
      cases g67
      have h0m : (0 < (l0.drop (a0B : Int).toNat).length) = True := eq_true (by omega)
      (try rw [show (0 : Int).toNat = 0 from rfl] at b7U)
      (try rw [Addr.add_zero'] at b7U)
      replace b7U := cb_ HB b7U; replace e9V := eq_true e9V; replace e9W := eq_true e9W; obtain ⟨c3J, c3K, c3M, c3N⟩ := a1B a5v.out
      go_wp2
      refine bodyPost_ret (U9 rfl _ _ b30 122 #[.int .i64 (wrap64 (rd (l0.drop (a0B : Int).toNat) 0)), .int .i64 (wrap64 (a0B + 1))] (0, 0) _ rfl (l9 (l9 a5v.out 0 _ rfl) 1 _ rfl) Tryd.underlying122 rfl (by kernel_rfl)) rfl ?_; exact ⟨by (rfl), by repeat (with_reducible first | exact HB.out | refine o7 ?_ b5K.out)⟩
     ·cases nt_ c16
      rw [if_neg a3X] at H; have c19 := Z4 H; replace H := O5 H; have f2i := dt_ c19; have f2j : decide (0 < (l0.drop (a0B : Int).toNat).length) = true := dt_ (by omega); have f2k : decide (0 < ((l0.length - (a0B : Int).toNat : Nat) : Int)) = true := by rw [← List.length_drop]; exact dt_ c19
      have h0o : (0 < ((l0.length - (a0B : Int).toNat : Nat) : Int)) = True := by rw [← List.length_drop]; exact eq_true (by (exact of_decide_eq_true (dt_ c19)))
      have h0p : decide (0 < (l0.length - (a0B : Int).toNat)) = true := by rw [← List.length_drop]; exact dt_ (by omega)
      have h0q : (0 < (l0.length - (a0B : Int).toNat)) = True := by rw [← List.length_drop]; exact eq_true (by (exact of_decide_eq_true (dt_ (by omega))))
      clear c19
      by_cases c20 : (Go.bits .and .u8 (rd (l0.drop (a0B : Int).toNat) 0) 1) = 1
      ·rw [if_pos c20] at H; obtain ⟨b8I, e5e⟩ := bt_ c20; clear c20; obtain ⟨rfl, rfl, rfl⟩ := s3_ H; have b4w : 0 ≤ (0 : Int) := (by omega); have b4x : 0 < ((l0.drop (a0B : Int).toNat).length : Int) := V5; obtain ⟨b9y, c8F, a2X⟩ := Kd.Q7 b0s.out 0 b4w b4x
       cases c8F
       have d7W : (0 < (l0.drop (a0B : Int).toNat).length) = True := eq_true (by omega)
       (try rw [show (0 : Int).toNat = 0 from rfl] at a2X)
       (try rw [Addr.add_zero'] at a2X)
       replace a2X := cb_ HB a2X; replace b4w := eq_true b4w; replace b4x := eq_true b4x; obtain ⟨g1x, g1y, g1z, g1A⟩ := a1B a5v.out
       go_wp2
       refine bodyPost_ret (U9 rfl _ _ b30 122 #[.int .i64 0, .int .i64 0] (0, 0) _ rfl (l9 (l9 a5v.out 0 _ rfl) 1 _ rfl) Tryd.underlying122 rfl (by kernel_rfl)) rfl ?_; exact ⟨by (rfl), by repeat (with_reducible first | exact HB.out | refine o7 ?_ b5K.out)⟩
      ·rw [if_neg c20] at H; have b8I := bq_ c20; have e5e := bn_ c20
       by_cases c22 : ((l0.drop (a0B : Int).toNat).length : Int) = 1
       ·rw [if_pos c22] at H; have f6G := beq_iff_eq.mpr c22; have f6H := bne_eq_false_iff_eq.mpr c22; have f6I : (((l0.length - (a0B : Int).toNat : Nat) : Int) == 1) = true := by rw [← List.length_drop]; exact beq_iff_eq.mpr c22
        have f6J : (((l0.length - (a0B : Int).toNat : Nat) : Int) != 1) = false := by rw [← List.length_drop]; exact bne_eq_false_iff_eq.mpr c22
        clear c22; obtain ⟨rfl, rfl, rfl⟩ := s3_ H; have b4w : 0 ≤ (0 : Int) := (by omega); have b4x : 0 < ((l0.drop (a0B : Int).toNat).length : Int) := V5; obtain ⟨b9y, c8F, a2X⟩ := Kd.Q7 b0s.out 0 b4w b4x
        cases c8F
        have d7W : (0 < (l0.drop (a0B : Int).toNat).length) = True := eq_true (by omega)
        (try rw [show (0 : Int).toNat = 0 from rfl] at a2X)
        (try rw [Addr.add_zero'] at a2X)
        replace a2X := cb_ HB a2X; replace b4w := eq_true b4w; replace b4x := eq_true b4x; obtain ⟨b7L, b7M, b7N, b7O⟩ := a1B a5v.out
        go_wp2
        refine bodyPost_ret (U9 rfl _ _ b30 122 #[.int .i64 0, .int .i64 0] (0, 0) _ rfl (l9 (l9 a5v.out 0 _ rfl) 1 _ rfl) Tryd.underlying122 rfl (by kernel_rfl)) rfl ?_; exact ⟨by (rfl), by repeat (with_reducible first | exact HB.out | refine o7 ?_ b5K.out)⟩
       ·rw [if_neg c22] at H; have f6G := bq_ c22; have f6H := bn_ c22; have f6I : (((l0.length - (a0B : Int).toNat : Nat) : Int) == 1) = false := by rw [← List.length_drop]; exact bq_ c22
        have f6J : (((l0.length - (a0B : Int).toNat : Nat) : Int) != 1) = true := by rw [← List.length_drop]; exact bn_ c22
        have c24 := Z4 H; replace H := O5 H; have c5Z := dt_ c24; have e5w : decide (1 < (l0.drop (a0B : Int).toNat).length) = true := dt_ (by omega); have h0s : decide (1 < ((l0.length - (a0B : Int).toNat : Nat) : Int)) = true := by rw [← List.length_drop]; exact dt_ c24
        have h0u : (1 < ((l0.length - (a0B : Int).toNat : Nat) : Int)) = True := by rw [← List.length_drop]; exact eq_true (by (exact of_decide_eq_true (dt_ c24)))
        have h0v : decide (1 < (l0.length - (a0B : Int).toNat)) = true := by rw [← List.length_drop]; exact dt_ (by omega)
        have h0w : (1 < (l0.length - (a0B : Int).toNat)) = True := by rw [← List.length_drop]; exact eq_true (by (exact of_decide_eq_true (dt_ (by omega))))
        clear c24; obtain ⟨t139, A25, H⟩ := bd_ H
        try dsimp only at H
        by_cases c26 : t139 = true
        ·subst c26; rw [if_pos rfl] at H; obtain ⟨rfl, rfl, rfl⟩ := s3_ H; have b4w : 0 ≤ (0 : Int) := (by omega); have b4x : 0 < ((l0.drop (a0B : Int).toNat).length : Int) := V5; obtain ⟨b9y, c8F, a2X⟩ := Kd.Q7 b0s.out 0 b4w b4x
         cases c8F
         have d7W : (0 < (l0.drop (a0B : Int).toNat).length) = True := eq_true (by omega)
         (try rw [show (0 : Int).toNat = 0 from rfl] at a2X)
         (try rw [Addr.add_zero'] at a2X)
         replace a2X := cb_ HB a2X; replace b4w := eq_true b4w; replace b4x := eq_true b4x; have c8G : 0 ≤ (0 : Int) := (by omega); have c8H : 0 < ((l0.drop (a0B : Int).toNat).length : Int) := V5; obtain ⟨d7X, e137, a8C⟩ := Kd.Q7 b0s.out 0 c8G c8H; obtain rfl : b9y = d7X := (by injection e137); have f6K : (0 < (l0.drop (a0B : Int).toNat).length) = True := eq_true (by omega)
         (try rw [show (0 : Int).toNat = 0 from rfl] at a8C)
         (try rw [Addr.add_zero'] at a8C)
         replace a8C := cb_ HB a8C; replace c8G := eq_true c8G; replace c8H := eq_true c8H; have c8I : 0 ≤ (1 : Int) := (by omega); have c8J : 1 < ((l0.drop (a0B : Int).toNat).length : Int) := V5; obtain ⟨d7Y, e138, b1m⟩ := Kd.Q7 b0s.out 1 c8I c8J; obtain rfl : b9y = d7Y := (by injection e138)
         (try simp only [show (1 : Int).toNat = 1 from rfl, Nat.reduceMul, Nat.reduceEqDiff, Go.Addr.add, ↓reduceIte] at b1m)
         have f6L : (1 < (l0.drop (a0B : Int).toNat).length) = True := eq_true (by omega); replace b1m := cb_ HB b1m; replace c8I := eq_true c8I; replace c8J := eq_true c8J
         go_wp2_with (first | (go_at_call 33; (with_reducible refine (a0z.calls (Go.bits .or .i64 (wrap64 ((wrap64 (rd (l0.drop (a0B : Int).toNat) 0)) * 256)) (wrap64 (rd (l0.drop (a0B : Int).toNat) 1))) true _ A25.out).mono ?_); rintro e w' ⟨rfl, ⟨nd, rfl⟩⟩; (try first | exact ⟨rfl, _, World.drewN_drewN _ _ _⟩ | exact ⟨rfl, _, Eq.trans (World.drewN_drewN _ _ _) (congrArg (World.drewN _) (Nat.add_assoc _ _ _))⟩); obtain ⟨b7y, b7z, b7A, b7B⟩ := a1B a5v.out))
         repeat (go_quiet (first | (go_at_call 33; (with_reducible refine (a0z.calls (Go.bits .or .i64 (wrap64 ((wrap64 (rd (l0.drop (a0B : Int).toNat) 0)) * 256)) (wrap64 (rd (l0.drop (a0B : Int).toNat) 1))) true _ A25.out).mono ?_); rintro e w' ⟨rfl, ⟨nd, rfl⟩⟩; (try first | exact ⟨rfl, _, World.drewN_drewN _ _ _⟩ | exact ⟨rfl, _, Eq.trans (World.drewN_drewN _ _ _) (congrArg (World.drewN _) (Nat.add_assoc _ _ _))⟩); obtain ⟨b7y, b7z, b7A, b7B⟩ := a1B a5v.out)); try go_wp2_with (first | (go_at_call 33; (with_reducible refine (a0z.calls (Go.bits .or .i64 (wrap64 ((wrap64 (rd (l0.drop (a0B : Int).toNat) 0)) * 256)) (wrap64 (rd (l0.drop (a0B : Int).toNat) 1))) true _ A25.out).mono ?_); rintro e w' ⟨rfl, ⟨nd, rfl⟩⟩; obtain ⟨b7y, b7z, b7A, b7B⟩ := a1B a5v.out)))
         refine bodyPost_ret (U9 rfl _ _ b30 122 #[.int .i64 (Go.bits .or .i64 (wrap64 ((wrap64 (rd (l0.drop (a0B : Int).toNat) 0)) * 256)) (wrap64 (rd (l0.drop (a0B : Int).toNat) 1))), .int .i64 (wrap64 (a0B + 2))] (0, 0) _ rfl (by refine l9 (cs := #[.int .i64 (Go.bits .or .i64 (wrap64 ((wrap64 (rd (l0.drop (a0B : Int).toNat) 0)) * 256)) (wrap64 (rd (l0.drop (a0B : Int).toNat) 1))), .int .i64 0]) ?_ 1 _ rfl; refine l9 (cs := #[.int .i64 0, .int .i64 0]) ?_ 0 _ rfl; (with_reducible repeat (refine Y7 ?_ _)); exact a5v.out) Tryd.underlying122 rfl (by kernel_rfl)) rfl ?_; exact ⟨by (rfl), by repeat (with_reducible first | exact HB.out | apply o9 | refine o7 ?_ b5K.out)⟩
        ·cases nt_ c26
         rw [if_neg a3X] at H; obtain ⟨rfl, rfl, rfl⟩ := s3_ H; have b4w : 0 ≤ (0 : Int) := (by omega); have b4x : 0 < ((l0.drop (a0B : Int).toNat).length : Int) := V5; obtain ⟨b9y, c8F, a2X⟩ := Kd.Q7 b0s.out 0 b4w b4x
         cases c8F
         have d7W : (0 < (l0.drop (a0B : Int).toNat).length) = True := eq_true (by omega)
         (try rw [show (0 : Int).toNat = 0 from rfl] at a2X)
         (try rw [Addr.add_zero'] at a2X)
         replace a2X := cb_ HB a2X; replace b4w := eq_true b4w; replace b4x := eq_true b4x; have c8G : 0 ≤ (0 : Int) := (by omega); have c8H : 0 < ((l0.drop (a0B : Int).toNat).length : Int) := V5; obtain ⟨d7X, e137, a8C⟩ := Kd.Q7 b0s.out 0 c8G c8H; obtain rfl : b9y = d7X := (by injection e137); have f6K : (0 < (l0.drop (a0B : Int).toNat).length) = True := eq_true (by omega)
         (try rw [show (0 : Int).toNat = 0 from rfl] at a8C)
         (try rw [Addr.add_zero'] at a8C)
         replace a8C := cb_ HB a8C; replace c8G := eq_true c8G; replace c8H := eq_true c8H; have c8I : 0 ≤ (1 : Int) := (by omega); have c8J : 1 < ((l0.drop (a0B : Int).toNat).length : Int) := V5; obtain ⟨d7Y, e138, b1m⟩ := Kd.Q7 b0s.out 1 c8I c8J; obtain rfl : b9y = d7Y := (by injection e138)
         (try simp only [show (1 : Int).toNat = 1 from rfl, Nat.reduceMul, Nat.reduceEqDiff, Go.Addr.add, ↓reduceIte] at b1m)
         have f6L : (1 < (l0.drop (a0B : Int).toNat).length) = True := eq_true (by omega); replace b1m := cb_ HB b1m; replace c8I := eq_true c8I; replace c8J := eq_true c8J
         go_wp2_with (first | (go_at_call 33; (with_reducible refine (a0z.calls (Go.bits .or .i64 (wrap64 ((wrap64 (rd (l0.drop (a0B : Int).toNat) 0)) * 256)) (wrap64 (rd (l0.drop (a0B : Int).toNat) 1))) false _ A25.out).mono ?_); rintro e w' ⟨rfl, ⟨nd, rfl⟩⟩; (try first | exact ⟨rfl, _, World.drewN_drewN _ _ _⟩ | exact ⟨rfl, _, Eq.trans (World.drewN_drewN _ _ _) (congrArg (World.drewN _) (Nat.add_assoc _ _ _))⟩); obtain ⟨b3a, b3b, b3c, b3d⟩ := a1B a5v.out))
         repeat (go_quiet (first | (go_at_call 33; (with_reducible refine (a0z.calls (Go.bits .or .i64 (wrap64 ((wrap64 (rd (l0.drop (a0B : Int).toNat) 0)) * 256)) (wrap64 (rd (l0.drop (a0B : Int).toNat) 1))) false _ A25.out).mono ?_); rintro e w' ⟨rfl, ⟨nd, rfl⟩⟩; (try first | exact ⟨rfl, _, World.drewN_drewN _ _ _⟩ | exact ⟨rfl, _, Eq.trans (World.drewN_drewN _ _ _) (congrArg (World.drewN _) (Nat.add_assoc _ _ _))⟩); obtain ⟨b3a, b3b, b3c, b3d⟩ := a1B a5v.out)); try go_wp2_with (first | (go_at_call 33; (with_reducible refine (a0z.calls (Go.bits .or .i64 (wrap64 ((wrap64 (rd (l0.drop (a0B : Int).toNat) 0)) * 256)) (wrap64 (rd (l0.drop (a0B : Int).toNat) 1))) false _ A25.out).mono ?_); rintro e w' ⟨rfl, ⟨nd, rfl⟩⟩; obtain ⟨b3a, b3b, b3c, b3d⟩ := a1B a5v.out)))
         refine bodyPost_ret (U9 rfl _ _ b30 122 #[.int .i64 0, .int .i64 0] (0, 0) _ rfl (by refine l9 (cs := #[.int .i64 0, .int .i64 0]) ?_ 1 _ rfl; refine l9 (cs := #[.int .i64 0, .int .i64 0]) ?_ 0 _ rfl; (with_reducible repeat (refine Y7 ?_ _)); exact a5v.out) Tryd.underlying122 rfl (by kernel_rfl)) rfl ?_; exact ⟨by (rfl), by repeat (with_reducible first | exact HB.out | apply o9 | refine o7 ?_ b5K.out)⟩
 ·rw [if_neg c3] at H; have a3T := bq_ c3; have b1E := bn_ c3; obtain ⟨rfl, rfl, rfl⟩ := s3_ H
  go_enter Tryd.func81, Tryd.ntmps81
  go_wp2_with (first | (refine be_ 2 #[.int .i64 0, .int .i64 0] 122 ?_; intro b30 hg w29 hbox hb; have a5v := a_ hbox; have b5K := lb_ HB hg; replace HB := V3 HB hb; clear hb hbox hg) | (go_at_call 97; (with_reducible refine (a3p.calls _ _ l0 a0B t130 _ (Kd.y9 HR0.out HB.out) HC0.out A2.out).mono ?_); rintro e w' ⟨rfl, ⟨nd, rfl⟩⟩; obtain ⟨c3o, c3p, c3q, c3r⟩ := a1B a5v.out))
  refine bodyPost_ret (U9 rfl _ _ b30 122 #[.int .i64 0, .int .i64 0] (0, 0) _ rfl (by refine l9 (cs := #[.int .i64 0, .int .i64 0]) ?_ 1 _ rfl; refine l9 (cs := #[.int .i64 0, .int .i64 0]) ?_ 0 _ rfl; (with_reducible repeat (refine Y7 ?_ _)); exact a5v.out) Tryd.underlying122 rfl (by kernel_rfl)) rfl ?_; exact ⟨by (rfl), by repeat (with_reducible first | exact HB.out | apply o9 | refine o7 ?_ b5K.out)⟩

end Go.Proofs.YtgnonglkibhnhaaDoor.Print
