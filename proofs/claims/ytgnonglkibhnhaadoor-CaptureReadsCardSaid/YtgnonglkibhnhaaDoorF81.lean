import Derived.Test.YtgnonglkibhnhaaDoorM2
namespace Go.Proofs.YtgnonglkibhnhaaDoor.Print
open Go.RowKit Go.Proofs.YtgnonglkibhnhaaDoorW.PrintWords Go.Proofs.YtgnonglkibhnhaaDoorW.PrintLast Go.Proofs.YtgnonglkibhnhaaDoorW.PrintMore
attribute [local go_sem] a0n a0o a0P a0Q Y4 Y5 a0p a0q
set_option linter.unusedVariables false
set_option linter.unusedSimpArgs false

/-! ### head_Read: function 81 -/
def head_Read.j0 : Nat → Int → List Int → Bool → Option (Int × Int × Int)
 | 0, _, _, _ => none
 | k + 1, x4, x6, x25 => if x25 = true then (if 0 < (x6.length : Int) then (some (wrap64 (rd x6 0), wrap64 (x4 + 1), 0)) else (none)) else (if 0 < (x6.length : Int) then (if (Go.bits .and .u8 (rd x6 0) 1) = 1 then (some (0, 0, 3)) else (if (x6.length : Int) = 1 then (some (0, 0, 2)) else (if 1 < (x6.length : Int) then ((a0x.f (Go.bits .or .i64 (wrap64 ((wrap64 (rd x6 0)) * 256)) (wrap64 (rd x6 1)))).bind fun t139 => (if t139 = true then (some (Go.bits .or .i64 (wrap64 ((wrap64 (rd x6 0)) * 256)) (wrap64 (rd x6 1)), wrap64 (x4 + 2), 0)) else (some (0, 0, 3)))) else (none)))) else (none))
def head_Read.f (k : Nat) (l0 : List Int) : Option (Int × Int × Int) := (a3m.f l0).bind fun b04 => (if b04.2 = 0 then (if 0 ≤ b04.1 then (if b04.1 ≤ (l0.length : Int) then (if ((l0.drop (b04.1 : Int).toNat).length : Int) = 0 then (some (0, 0, 2)) else (if 0 < ((l0.drop (b04.1 : Int).toNat).length : Int) then (if (Go.bits .and .u8 (rd (l0.drop (b04.1 : Int).toNat) 0) 1) = 1 then ((a0x.f (wrap64 (rd (l0.drop (b04.1 : Int).toNat) 0))).bind fun e1E => (head_Read.j0 k b04.1 (l0.drop (b04.1 : Int).toNat) e1E)) else (head_Read.j0 k b04.1 (l0.drop (b04.1 : Int).toNat) false)) else (none))) else (none)) else (none)) else (some (0, 0, b04.2)))
set_option maxHeartbeats 8000000 in
set_option maxRecDepth 100000 in
theorem head_Read.calls (k : Nat) (A0 : Option Addr) (c0 : Nat) (l0 : List Int) (r1 : Int) (r2 : Int) (r3 : Int) (w : World) (hr0 : Kd.C (Kd.int .u8) w A0 l0.length l0) (hc0 : l0.length ≤ c0) (h : head_Read.f k l0 = some (r1, r2, r3)) :
  Calls Tryd.prog 81 #[.slice A0 l0.length c0] w fun e w' => e = .returned (.tuple #[.agg #[.int .i64 r1, .int .i64 r2], .int .i64 r3]) ∧ Below w.heap.size w w' := by
 have d5A := Tryd.underlying122
 have HR0 := a_ hr0
 have HC0 := a_ hc0
 clear hr0 hc0
 have HB := a_ (Below.refl w.heap.size w)
 have H := h
 clear h
 unfold head_Read.f at H
 obtain ⟨⟨a0A, t130⟩, A2, H⟩ := bd_ H
 try dsimp only at H
 by_cases c3 : t130 = 0
 ·rw [if_pos c3] at H; obtain ⟨a3O, b09⟩ := bt_ c3; clear c3; have c4 := Z7 H; replace H := O5 H; have a4d := eq_true c4; have b1R := dt_ c4; clear c4; have c5 := Z7 H; replace H := O5 H; have a5y := eq_true c5; have b0H := dt_ c5; clear c5
  by_cases c6 : ((l0.drop (a0A : Int).toNat).length : Int) = 0
  ·rw [if_pos c6] at H; have a8h := beq_iff_eq.mpr c6; have b4N := bne_eq_false_iff_eq.mpr c6; have f4h : (((l0.length - (a0A : Int).toNat : Nat) : Int) == 0) = true := by rw [← List.length_drop]; exact beq_iff_eq.mpr c6
   have g40 : (((l0.length - (a0A : Int).toNat : Nat) : Int) != 0) = false := by rw [← List.length_drop]; exact bne_eq_false_iff_eq.mpr c6
   clear c6; obtain ⟨rfl, rfl, rfl⟩ := s3_ H
   go_enter Tryd.func81, Tryd.ntmps81
   go_wp2_with (first | (refine be_ 2 #[.int .i64 0, .int .i64 0] 122 ?_; intro b3q hg w7 hbox hb; have a5n := a_ hbox; have b48 := lb_ HB hg; replace HB := U9 HB hb; clear hb hbox hg) | (go_at_call 97; (with_reducible refine (a3m.calls _ _ l0 a0A t130 _ (Kd.C9 HR0.out HB.out) HC0.out A2.out).mono ?_); rintro e w' ⟨rfl, ⟨nd, rfl⟩⟩; obtain ⟨i08, c5k, _, c5l, _⟩ := info_parts info5; obtain ⟨A8, e3V, hA8, hC8⟩ := a0N (P := Tryd.prog) (Value.int .u8) 0 22 5 .i64 Tryd.underlying22 c5k c5l A0 c0 l0 a0A (V9) (V9) HC0.out; have a96 := ci_ (Kd.Y8 (h1 := fun _ => rfl) (hA8 _ (Kd.Y2 HR0.out))); have f4i := a_ hC8; clear hA8 hC8 c5k c5l; obtain ⟨c6G, c6H, c6I, c6J⟩ := a1p a5n.out))
   refine bodyPost_ret (U8 rfl _ _ b3q 122 #[.int .i64 0, .int .i64 0] (0, 0) _ rfl (by refine l9 (cs := #[.int .i64 0, .int .i64 0]) ?_ 1 _ rfl; refine l9 (cs := #[.int .i64 0, .int .i64 0]) ?_ 0 _ rfl; (with_reducible repeat (refine Y6 ?_ _)); exact a5n.out) Tryd.underlying122 rfl (by kernel_rfl)) rfl ?_; exact ⟨by (rfl), by repeat (with_reducible first | exact HB.out | apply o9 | refine o7 ?_ b48.out)⟩
  ·rw [if_neg c6] at H; have a8h := bq_ c6; have b4N := bn_ c6; have f4h : ¬ ((l0.drop (a0A : Int).toNat) = []) := fun h_ => c6 (by rw [h_]; rfl)
   have g40 : (((l0.length - (a0A : Int).toNat : Nat) : Int) == 0) = false := by rw [← List.length_drop]; exact bq_ c6
   have h1I : (((l0.length - (a0A : Int).toNat : Nat) : Int) != 0) = true := by rw [← List.length_drop]; exact bn_ c6
   have e7W := a_ H; clear H
   go_enter Tryd.func81, Tryd.ntmps81
   go_upto_region 7 with (first | (refine be_ 2 #[.int .i64 0, .int .i64 0] 122 ?_; intro b3q hg w11 hbox hb; have a5n := a_ hbox; have b48 := lb_ HB hg; replace HB := U9 HB hb; clear hb hbox hg) | (go_at_call 97; (with_reducible refine (a3m.calls _ _ l0 a0A t130 _ (Kd.C9 HR0.out HB.out) HC0.out A2.out).mono ?_); rintro e w' ⟨rfl, ⟨nd, rfl⟩⟩; obtain ⟨g2Z, c5g, _, c5h, _⟩ := info_parts info5; obtain ⟨A12, e7z, d5U, d5V⟩ := a0N (P := Tryd.prog) (Value.int .u8) 0 22 5 .i64 Tryd.underlying22 c5g c5h A0 c0 l0 a0A (V9) (V9) HC0.out; have a96 := ci_ (Kd.Y8 (h1 := fun _ => rfl) (d5U _ (Kd.Y2 HR0.out))); have f4i := a_ d5V; clear d5U d5V c5g c5h))
   go_cut [25] (fun v25 wc => ∃ (kq : Nat) (d0A : Bool), v25 = .bool d0A ∧ Aside0 (head_Read.j0 kq a0A (l0.drop (a0A : Int).toNat) d0A = some (r1, r2, r3)) ∧ Aside0 (kq ≤ k) ∧ Aside0 (wc.heap[b3q]? = some (.cells #[.int .i64 0, .int .i64 0] 122 (0, 0))) ∧ Aside0 (Below w.heap.size w wc))
   case first =>
    have H := e7W.out; clear e7W; have c13 := Z7 H; replace H := O5 H; have b73 := dt_ c13; have d39 : decide (0 < (l0.drop (a0A : Int).toNat).length) = true := dt_ (by omega); have e91 : decide (0 < ((l0.length - (a0A : Int).toNat : Nat) : Int)) = true := by rw [← List.length_drop]; exact dt_ c13
    have g7N : (0 < ((l0.length - (a0A : Int).toNat : Nat) : Int)) = True := by rw [← List.length_drop]; exact eq_true (by (exact of_decide_eq_true (dt_ c13)))
    have g7O : decide (0 < (l0.length - (a0A : Int).toNat)) = true := by rw [← List.length_drop]; exact dt_ (by omega)
    have g7P : (0 < (l0.length - (a0A : Int).toNat)) = True := by rw [← List.length_drop]; exact eq_true (by (exact of_decide_eq_true (dt_ (by omega))))
    clear c13
    by_cases c14 : (Go.bits .and .u8 (rd (l0.drop (a0A : Int).toNat) 0) 1) = 1
    ·rw [if_pos c14] at H; obtain ⟨b8i, f4j⟩ := bt_ c14; clear c14; obtain ⟨e1E, A15, H⟩ := bd_ H
     (try dsimp only at H); have H' := a_ H; clear H; have c7t : 0 ≤ (0 : Int) := (by omega); have c7u : 0 < ((l0.drop (a0A : Int).toNat).length : Int) := V9; obtain ⟨e4k, e7X, a8k⟩ := Kd.Q8 a96.out 0 c7t c7u
     cases e7X
     have f4k : (0 < (l0.drop (a0A : Int).toNat).length) = True := eq_true (by omega)
     (try rw [show (0 : Int).toNat = 0 from rfl] at a8k)
     (try rw [Addr.add_zero'] at a8k)
     replace a8k := cb_ HB a8k; replace c7t := eq_true c7t; replace c7u := eq_true c7u; have e7Y : 0 ≤ (0 : Int) := (by omega); have e7Z : 0 < ((l0.drop (a0A : Int).toNat).length : Int) := V9; obtain ⟨f4l, g41, b7g⟩ := Kd.Q8 a96.out 0 e7Y e7Z; obtain rfl : e4k = f4l := (by injection g41); have g7Q : (0 < (l0.drop (a0A : Int).toNat).length) = True := eq_true (by omega)
     (try rw [show (0 : Int).toNat = 0 from rfl] at b7g)
     (try rw [Addr.add_zero'] at b7g)
     replace b7g := cb_ HB b7g; replace e7Y := eq_true e7Y; replace e7Z := eq_true e7Z
     go_wp2_with (first | (go_at_call 33; (with_reducible refine (a0x.calls (wrap64 (rd (l0.drop (a0A : Int).toNat) 0)) e1E _ A15.out).mono ?_); rintro e w' ⟨rfl, ⟨nd, rfl⟩⟩))
     go_meet
     case rel => exact ⟨_, (e1E), (by rfl), H', ⟨by (omega)⟩, ⟨by (with_reducible repeat (refine Y6 ?_ _)); exact a5n.out⟩, ⟨by repeat (with_reducible first | exact HB.out | apply o9)⟩⟩
    ·rw [if_neg c14] at H; have b8i := bq_ c14; have f4j := bn_ c14; have H' := a_ H; clear H; have c7t : 0 ≤ (0 : Int) := (by omega); have c7u : 0 < ((l0.drop (a0A : Int).toNat).length : Int) := V9; obtain ⟨e4k, e7X, a8k⟩ := Kd.Q8 a96.out 0 c7t c7u
     cases e7X
     have f4k : (0 < (l0.drop (a0A : Int).toNat).length) = True := eq_true (by omega)
     (try rw [show (0 : Int).toNat = 0 from rfl] at a8k)
     (try rw [Addr.add_zero'] at a8k)
     replace a8k := cb_ HB a8k; replace c7t := eq_true c7t; replace c7u := eq_true c7u
     go_wp2
     go_meet
     case rel => exact ⟨_, (false), (by rfl), H', ⟨by (omega)⟩, ⟨by (with_reducible repeat (refine Y6 ?_ _)); exact a5n.out⟩, ⟨by repeat (with_reducible first | exact HB.out | apply o9)⟩⟩
   case rest =>
    clear e7W
    try clear a3O
    try clear b09
    try clear a4d
    try clear b1R
    try clear a5y
    try clear b0H
    try clear c6
    try clear a8h
    try clear b4N
    try clear f4h
    obtain ⟨kq, d0A, rfl, HA, HJ9, a5n, HB⟩ := hcut
    cases kq with
    | zero => exact absurd HA.out (by simp [head_Read.j0])
    | succ kj9 =>
     have H := HA.out; clear HA
     simp only [head_Read.j0] at H
     by_cases c16 : d0A = true
     ·subst c16; rw [if_pos rfl] at H; have c17 := Z7 H; replace H := O5 H; have b4w := dt_ c17; have c8s : decide (0 < (l0.drop (a0A : Int).toNat).length) = true := dt_ (by omega); have g7R : decide (0 < ((l0.length - (a0A : Int).toNat : Nat) : Int)) = true := by rw [← List.length_drop]; exact dt_ c17
      have g7S : (0 < ((l0.length - (a0A : Int).toNat : Nat) : Int)) = True := by rw [← List.length_drop]; exact eq_true (by (exact of_decide_eq_true (dt_ c17)))
      have g7T : decide (0 < (l0.length - (a0A : Int).toNat)) = true := by rw [← List.length_drop]; exact dt_ (by omega)
      have g7U : (0 < (l0.length - (a0A : Int).toNat)) = True := by rw [← List.length_drop]; exact eq_true (by (exact of_decide_eq_true (dt_ (by omega))))
      clear c17; obtain ⟨rfl, rfl, rfl⟩ := s3_ H; have e70 : 0 ≤ (0 : Int) := (by omega); have e71 : 0 < ((l0.drop (a0A : Int).toNat).length : Int) := V9; obtain ⟨g7V, g42, b7h⟩ := Kd.Q8 a96.out 0 e70 e71
      cases g42
      have g7W : (0 < (l0.drop (a0A : Int).toNat).length) = True := eq_true (by omega)
      (try rw [show (0 : Int).toNat = 0 from rfl] at b7h)
      (try rw [Addr.add_zero'] at b7h)
      replace b7h := cb_ HB b7h; replace e70 := eq_true e70; replace e71 := eq_true e71; obtain ⟨c2G, c2H, c2I, c2J⟩ := a1p a5n.out
      go_wp2
      refine bodyPost_ret (U8 rfl _ _ b3q 122 #[.int .i64 (wrap64 (rd (l0.drop (a0A : Int).toNat) 0)), .int .i64 (wrap64 (a0A + 1))] (0, 0) _ rfl (l9 (l9 a5n.out 0 _ rfl) 1 _ rfl) Tryd.underlying122 rfl (by kernel_rfl)) rfl ?_; exact ⟨by (rfl), by repeat (with_reducible first | exact HB.out | refine o7 ?_ b48.out)⟩
     ·cases nt_ c16
      rw [if_neg a3S] at H; have c19 := Z7 H; replace H := O5 H; have e92 := dt_ c19; have e93 : decide (0 < (l0.drop (a0A : Int).toNat).length) = true := dt_ (by omega); have e94 : decide (0 < ((l0.length - (a0A : Int).toNat : Nat) : Int)) = true := by rw [← List.length_drop]; exact dt_ c19
      have g7X : (0 < ((l0.length - (a0A : Int).toNat : Nat) : Int)) = True := by rw [← List.length_drop]; exact eq_true (by (exact of_decide_eq_true (dt_ c19)))
      have g7Y : decide (0 < (l0.length - (a0A : Int).toNat)) = true := by rw [← List.length_drop]; exact dt_ (by omega)
      have g7Z : (0 < (l0.length - (a0A : Int).toNat)) = True := by rw [← List.length_drop]; exact eq_true (by (exact of_decide_eq_true (dt_ (by omega))))
      clear c19
      by_cases c20 : (Go.bits .and .u8 (rd (l0.drop (a0A : Int).toNat) 0) 1) = 1
      ·rw [if_pos c20] at H; obtain ⟨b74, e2S⟩ := bt_ c20; clear c20; obtain ⟨rfl, rfl, rfl⟩ := s3_ H; have b3T : 0 ≤ (0 : Int) := (by omega); have b3U : 0 < ((l0.drop (a0A : Int).toNat).length : Int) := V9; obtain ⟨b8T, c7v, a2S⟩ := Kd.Q8 a96.out 0 b3T b3U
       cases c7v
       have d6s : (0 < (l0.drop (a0A : Int).toNat).length) = True := eq_true (by omega)
       (try rw [show (0 : Int).toNat = 0 from rfl] at a2S)
       (try rw [Addr.add_zero'] at a2S)
       replace a2S := cb_ HB a2S; replace b3T := eq_true b3T; replace b3U := eq_true b3U; obtain ⟨e1F, e1G, e1H, e1I⟩ := a1p a5n.out
       go_wp2
       refine bodyPost_ret (U8 rfl _ _ b3q 122 #[.int .i64 0, .int .i64 0] (0, 0) _ rfl (l9 (l9 a5n.out 0 _ rfl) 1 _ rfl) Tryd.underlying122 rfl (by kernel_rfl)) rfl ?_; exact ⟨by (rfl), by repeat (with_reducible first | exact HB.out | refine o7 ?_ b48.out)⟩
      ·rw [if_neg c20] at H; have b74 := bq_ c20; have e2S := bn_ c20
       by_cases c22 : ((l0.drop (a0A : Int).toNat).length : Int) = 1
       ·rw [if_pos c22] at H; have f4m := beq_iff_eq.mpr c22; have f4n := bne_eq_false_iff_eq.mpr c22; have f4o : (((l0.length - (a0A : Int).toNat : Nat) : Int) == 1) = true := by rw [← List.length_drop]; exact beq_iff_eq.mpr c22
        have f4p : (((l0.length - (a0A : Int).toNat : Nat) : Int) != 1) = false := by rw [← List.length_drop]; exact bne_eq_false_iff_eq.mpr c22
        clear c22; obtain ⟨rfl, rfl, rfl⟩ := s3_ H; have b3T : 0 ≤ (0 : Int) := (by omega); have b3U : 0 < ((l0.drop (a0A : Int).toNat).length : Int) := V9; obtain ⟨b8T, c7v, a2S⟩ := Kd.Q8 a96.out 0 b3T b3U
        cases c7v
        have d6s : (0 < (l0.drop (a0A : Int).toNat).length) = True := eq_true (by omega)
        (try rw [show (0 : Int).toNat = 0 from rfl] at a2S)
        (try rw [Addr.add_zero'] at a2S)
        replace a2S := cb_ HB a2S; replace b3T := eq_true b3T; replace b3U := eq_true b3U; obtain ⟨b65, b66, b67, b68⟩ := a1p a5n.out
        go_wp2
        refine bodyPost_ret (U8 rfl _ _ b3q 122 #[.int .i64 0, .int .i64 0] (0, 0) _ rfl (l9 (l9 a5n.out 0 _ rfl) 1 _ rfl) Tryd.underlying122 rfl (by kernel_rfl)) rfl ?_; exact ⟨by (rfl), by repeat (with_reducible first | exact HB.out | refine o7 ?_ b48.out)⟩
       ·rw [if_neg c22] at H; have f4m := bq_ c22; have f4n := bn_ c22; have f4o : (((l0.length - (a0A : Int).toNat : Nat) : Int) == 1) = false := by rw [← List.length_drop]; exact bq_ c22
        have f4p : (((l0.length - (a0A : Int).toNat : Nat) : Int) != 1) = true := by rw [← List.length_drop]; exact bn_ c22
        have c24 := Z7 H; replace H := O5 H; have c4O := dt_ c24; have e3k : decide (1 < (l0.drop (a0A : Int).toNat).length) = true := dt_ (by omega); have g70 : decide (1 < ((l0.length - (a0A : Int).toNat : Nat) : Int)) = true := by rw [← List.length_drop]; exact dt_ c24
        have g71 : (1 < ((l0.length - (a0A : Int).toNat : Nat) : Int)) = True := by rw [← List.length_drop]; exact eq_true (by (exact of_decide_eq_true (dt_ c24)))
        have g72 : decide (1 < (l0.length - (a0A : Int).toNat)) = true := by rw [← List.length_drop]; exact dt_ (by omega)
        have g73 : (1 < (l0.length - (a0A : Int).toNat)) = True := by rw [← List.length_drop]; exact eq_true (by (exact of_decide_eq_true (dt_ (by omega))))
        clear c24; obtain ⟨t139, A25, H⟩ := bd_ H
        try dsimp only at H
        by_cases c26 : t139 = true
        ·subst c26; rw [if_pos rfl] at H; obtain ⟨rfl, rfl, rfl⟩ := s3_ H; have b3T : 0 ≤ (0 : Int) := (by omega); have b3U : 0 < ((l0.drop (a0A : Int).toNat).length : Int) := V9; obtain ⟨b8T, c7v, a2S⟩ := Kd.Q8 a96.out 0 b3T b3U
         cases c7v
         have d6s : (0 < (l0.drop (a0A : Int).toNat).length) = True := eq_true (by omega)
         (try rw [show (0 : Int).toNat = 0 from rfl] at a2S)
         (try rw [Addr.add_zero'] at a2S)
         replace a2S := cb_ HB a2S; replace b3T := eq_true b3T; replace b3U := eq_true b3U; have c7w : 0 ≤ (0 : Int) := (by omega); have c7x : 0 < ((l0.drop (a0A : Int).toNat).length : Int) := V9; obtain ⟨d6t, e137, a8l⟩ := Kd.Q8 a96.out 0 c7w c7x; obtain rfl : b8T = d6t := (by injection e137); have f4q : (0 < (l0.drop (a0A : Int).toNat).length) = True := eq_true (by omega)
         (try rw [show (0 : Int).toNat = 0 from rfl] at a8l)
         (try rw [Addr.add_zero'] at a8l)
         replace a8l := cb_ HB a8l; replace c7w := eq_true c7w; replace c7x := eq_true c7x; have c7y : 0 ≤ (1 : Int) := (by omega); have c7z : 1 < ((l0.drop (a0A : Int).toNat).length : Int) := V9; obtain ⟨d6u, e138, b0O⟩ := Kd.Q8 a96.out 1 c7y c7z; obtain rfl : b8T = d6u := (by injection e138)
         (try simp only [show (1 : Int).toNat = 1 from rfl, Nat.reduceMul, Nat.reduceEqDiff, Go.Addr.add, ↓reduceIte] at b0O)
         have f4r : (1 < (l0.drop (a0A : Int).toNat).length) = True := eq_true (by omega); replace b0O := cb_ HB b0O; replace c7y := eq_true c7y; replace c7z := eq_true c7z
         go_wp2_with (first | (go_at_call 33; (with_reducible refine (a0x.calls (Go.bits .or .i64 (wrap64 ((wrap64 (rd (l0.drop (a0A : Int).toNat) 0)) * 256)) (wrap64 (rd (l0.drop (a0A : Int).toNat) 1))) true _ A25.out).mono ?_); rintro e w' ⟨rfl, ⟨nd, rfl⟩⟩; (try first | exact ⟨rfl, _, World.drewN_drewN _ _ _⟩ | exact ⟨rfl, _, Eq.trans (World.drewN_drewN _ _ _) (congrArg (World.drewN _) (Nat.add_assoc _ _ _))⟩); obtain ⟨b4J, b4K, b4L, b4M⟩ := a1p a5n.out))
         repeat (go_quiet (first | (go_at_call 33; (with_reducible refine (a0x.calls (Go.bits .or .i64 (wrap64 ((wrap64 (rd (l0.drop (a0A : Int).toNat) 0)) * 256)) (wrap64 (rd (l0.drop (a0A : Int).toNat) 1))) true _ A25.out).mono ?_); rintro e w' ⟨rfl, ⟨nd, rfl⟩⟩; (try first | exact ⟨rfl, _, World.drewN_drewN _ _ _⟩ | exact ⟨rfl, _, Eq.trans (World.drewN_drewN _ _ _) (congrArg (World.drewN _) (Nat.add_assoc _ _ _))⟩); obtain ⟨b4J, b4K, b4L, b4M⟩ := a1p a5n.out)); try go_wp2_with (first | (go_at_call 33; (with_reducible refine (a0x.calls (Go.bits .or .i64 (wrap64 ((wrap64 (rd (l0.drop (a0A : Int).toNat) 0)) * 256)) (wrap64 (rd (l0.drop (a0A : Int).toNat) 1))) true _ A25.out).mono ?_); rintro e w' ⟨rfl, ⟨nd, rfl⟩⟩; obtain ⟨b4J, b4K, b4L, b4M⟩ := a1p a5n.out)))
         refine bodyPost_ret (U8 rfl _ _ b3q 122 #[.int .i64 (Go.bits .or .i64 (wrap64 ((wrap64 (rd (l0.drop (a0A : Int).toNat) 0)) * 256)) (wrap64 (rd (l0.drop (a0A : Int).toNat) 1))), .int .i64 (wrap64 (a0A + 2))] (0, 0) _ rfl (by refine l9 (cs := #[.int .i64 (Go.bits .or .i64 (wrap64 ((wrap64 (rd (l0.drop (a0A : Int).toNat) 0)) * 256)) (wrap64 (rd (l0.drop (a0A : Int).toNat) 1))), .int .i64 0]) ?_ 1 _ rfl; refine l9 (cs := #[.int .i64 0, .int .i64 0]) ?_ 0 _ rfl; (with_reducible repeat (refine Y6 ?_ _)); exact a5n.out) Tryd.underlying122 rfl (by kernel_rfl)) rfl ?_; exact ⟨by (rfl), by repeat (with_reducible first | exact HB.out | apply o9 | refine o7 ?_ b48.out)⟩
        ·cases nt_ c26
         rw [if_neg a3S] at H; obtain ⟨rfl, rfl, rfl⟩ := s3_ H; have b3T : 0 ≤ (0 : Int) := (by omega); have b3U : 0 < ((l0.drop (a0A : Int).toNat).length : Int) := V9; obtain ⟨b8T, c7v, a2S⟩ := Kd.Q8 a96.out 0 b3T b3U
         cases c7v
         have d6s : (0 < (l0.drop (a0A : Int).toNat).length) = True := eq_true (by omega)
         (try rw [show (0 : Int).toNat = 0 from rfl] at a2S)
         (try rw [Addr.add_zero'] at a2S)
         replace a2S := cb_ HB a2S; replace b3T := eq_true b3T; replace b3U := eq_true b3U; have c7w : 0 ≤ (0 : Int) := (by omega); have c7x : 0 < ((l0.drop (a0A : Int).toNat).length : Int) := V9; obtain ⟨d6t, e137, a8l⟩ := Kd.Q8 a96.out 0 c7w c7x; obtain rfl : b8T = d6t := (by injection e137); have f4q : (0 < (l0.drop (a0A : Int).toNat).length) = True := eq_true (by omega)
         (try rw [show (0 : Int).toNat = 0 from rfl] at a8l)
         (try rw [Addr.add_zero'] at a8l)
         replace a8l := cb_ HB a8l; replace c7w := eq_true c7w; replace c7x := eq_true c7x; have c7y : 0 ≤ (1 : Int) := (by omega); have c7z : 1 < ((l0.drop (a0A : Int).toNat).length : Int) := V9; obtain ⟨d6u, e138, b0O⟩ := Kd.Q8 a96.out 1 c7y c7z; obtain rfl : b8T = d6u := (by injection e138)
         (try simp only [show (1 : Int).toNat = 1 from rfl, Nat.reduceMul, Nat.reduceEqDiff, Go.Addr.add, ↓reduceIte] at b0O)
         have f4r : (1 < (l0.drop (a0A : Int).toNat).length) = True := eq_true (by omega); replace b0O := cb_ HB b0O; replace c7y := eq_true c7y; replace c7z := eq_true c7z
         go_wp2_with (first | (go_at_call 33; (with_reducible refine (a0x.calls (Go.bits .or .i64 (wrap64 ((wrap64 (rd (l0.drop (a0A : Int).toNat) 0)) * 256)) (wrap64 (rd (l0.drop (a0A : Int).toNat) 1))) false _ A25.out).mono ?_); rintro e w' ⟨rfl, ⟨nd, rfl⟩⟩; (try first | exact ⟨rfl, _, World.drewN_drewN _ _ _⟩ | exact ⟨rfl, _, Eq.trans (World.drewN_drewN _ _ _) (congrArg (World.drewN _) (Nat.add_assoc _ _ _))⟩); obtain ⟨b2u, b2v, b2w, b2x⟩ := a1p a5n.out))
         repeat (go_quiet (first | (go_at_call 33; (with_reducible refine (a0x.calls (Go.bits .or .i64 (wrap64 ((wrap64 (rd (l0.drop (a0A : Int).toNat) 0)) * 256)) (wrap64 (rd (l0.drop (a0A : Int).toNat) 1))) false _ A25.out).mono ?_); rintro e w' ⟨rfl, ⟨nd, rfl⟩⟩; (try first | exact ⟨rfl, _, World.drewN_drewN _ _ _⟩ | exact ⟨rfl, _, Eq.trans (World.drewN_drewN _ _ _) (congrArg (World.drewN _) (Nat.add_assoc _ _ _))⟩); obtain ⟨b2u, b2v, b2w, b2x⟩ := a1p a5n.out)); try go_wp2_with (first | (go_at_call 33; (with_reducible refine (a0x.calls (Go.bits .or .i64 (wrap64 ((wrap64 (rd (l0.drop (a0A : Int).toNat) 0)) * 256)) (wrap64 (rd (l0.drop (a0A : Int).toNat) 1))) false _ A25.out).mono ?_); rintro e w' ⟨rfl, ⟨nd, rfl⟩⟩; obtain ⟨b2u, b2v, b2w, b2x⟩ := a1p a5n.out)))
         refine bodyPost_ret (U8 rfl _ _ b3q 122 #[.int .i64 0, .int .i64 0] (0, 0) _ rfl (by refine l9 (cs := #[.int .i64 0, .int .i64 0]) ?_ 1 _ rfl; refine l9 (cs := #[.int .i64 0, .int .i64 0]) ?_ 0 _ rfl; (with_reducible repeat (refine Y6 ?_ _)); exact a5n.out) Tryd.underlying122 rfl (by kernel_rfl)) rfl ?_; exact ⟨by (rfl), by repeat (with_reducible first | exact HB.out | apply o9 | refine o7 ?_ b48.out)⟩
 ·rw [if_neg c3] at H; have a3O := bq_ c3; have b09 := bn_ c3; obtain ⟨rfl, rfl, rfl⟩ := s3_ H
  go_enter Tryd.func81, Tryd.ntmps81
  go_wp2_with (first | (refine be_ 2 #[.int .i64 0, .int .i64 0] 122 ?_; intro b3q hg w29 hbox hb; have a5n := a_ hbox; have b48 := lb_ HB hg; replace HB := U9 HB hb; clear hb hbox hg) | (go_at_call 97; (with_reducible refine (a3m.calls _ _ l0 a0A t130 _ (Kd.C9 HR0.out HB.out) HC0.out A2.out).mono ?_); rintro e w' ⟨rfl, ⟨nd, rfl⟩⟩; obtain ⟨b7b, b7c, b7d, b7e⟩ := a1p a5n.out))
  refine bodyPost_ret (U8 rfl _ _ b3q 122 #[.int .i64 0, .int .i64 0] (0, 0) _ rfl (by refine l9 (cs := #[.int .i64 0, .int .i64 0]) ?_ 1 _ rfl; refine l9 (cs := #[.int .i64 0, .int .i64 0]) ?_ 0 _ rfl; (with_reducible repeat (refine Y6 ?_ _)); exact a5n.out) Tryd.underlying122 rfl (by kernel_rfl)) rfl ?_; exact ⟨by (rfl), by repeat (with_reducible first | exact HB.out | apply o9 | refine o7 ?_ b48.out)⟩

end Go.Proofs.YtgnonglkibhnhaaDoor.Print
