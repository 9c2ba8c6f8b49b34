import Derived.Test.YtgnonglkibhnhaaDoorZ
import Derived.Test.YtgnonglkibhnhaaDoorM1
namespace Go.Proofs.YtgnonglkibhnhaaDoor.Print
open Go.RowKit Go.Proofs.YtgnonglkibhnhaaDoorW.PrintWords Go.Proofs.YtgnonglkibhnhaaDoorW.PrintLast Go.Proofs.YtgnonglkibhnhaaDoorW.PrintMore
attribute [local go_sem] a0u a0v a1m a1n Y7 Y8 a0w a0x
set_option linter.unusedVariables false
set_option linter.unusedSimpArgs false

/-! ### head_Read: function 81 -/
def head_Read.j0 : Nat → Int → List Int → Bool → Option (Int × Int × Int)
 | 0, _, _, _ => none
 | k + 1, x4, x6, x25 => if x25 = true then (if 0 < (x6.length : Int) then (some (wrap64 (rd x6 0), wrap64 (x4 + 1), 0)) else (none)) else (if 0 < (x6.length : Int) then (if (Go.bits .and .u8 (rd x6 0) 1) = 1 then (some (0, 0, 3)) else (if (x6.length : Int) = 1 then (some (0, 0, 2)) else (if 1 < (x6.length : Int) then ((a0a.f (Go.bits .or .i64 (wrap64 ((wrap64 (rd x6 0)) * 256)) (wrap64 (rd x6 1)))).bind fun t139 => (if t139 = true then (some (Go.bits .or .i64 (wrap64 ((wrap64 (rd x6 0)) * 256)) (wrap64 (rd x6 1)), wrap64 (x4 + 2), 0)) else (some (0, 0, 3)))) else (none)))) else (none))
def head_Read.f (k : Nat) (l0 : List Int) : Option (Int × Int × Int) := (a2R.f l0).bind fun b07 => (if b07.2 = 0 then (if 0 ≤ b07.1 then (if b07.1 ≤ (l0.length : Int) then (if ((l0.drop (b07.1 : Int).toNat).length : Int) = 0 then (some (0, 0, 2)) else (if 0 < ((l0.drop (b07.1 : Int).toNat).length : Int) then (if (Go.bits .and .u8 (rd (l0.drop (b07.1 : Int).toNat) 0) 1) = 1 then ((a0a.f (wrap64 (rd (l0.drop (b07.1 : Int).toNat) 0))).bind fun e1c => (head_Read.j0 k b07.1 (l0.drop (b07.1 : Int).toNat) e1c)) else (head_Read.j0 k b07.1 (l0.drop (b07.1 : Int).toNat) false)) else (none))) else (none)) else (none)) else (some (0, 0, b07.2)))
set_option maxHeartbeats 8000000 in
set_option maxRecDepth 100000 in
theorem head_Read.calls (k : Nat) (A0 : Option Addr) (c0 : Nat) (l0 : List Int) (r1 : Int) (r2 : Int) (r3 : Int) (w : World) (hr0 : Kd.C (Kd.int .u8) w A0 l0.length l0) (hc0 : l0.length ≤ c0) (h : head_Read.f k l0 = some (r1, r2, r3)) :
  Calls Tryd.prog 81 #[.slice A0 l0.length c0] w fun e w' => e = .returned (.tuple #[.agg #[.int .i64 r1, .int .i64 r2], .int .i64 r3]) ∧ Below w.heap.size w w' := by
 have f4K := Tryd.underlying122
 have HR0 := a_ hr0
 have HC0 := a_ hc0
 clear hr0 hc0
 have HB := a_ (Below.refl w.heap.size w)
 have H := h
 clear h
 unfold head_Read.f at H
 replace H := Option.bind_eq_some_iff.mp H
 obtain ⟨⟨a0c, t130⟩, A20, H⟩ := H
 try dsimp only at H
 have A2 := a_ A20
 clear A20
 by_cases c3 : t130 = 0
 ·rw [if_pos c3] at H
  obtain ⟨a5g, b1b⟩ := bt_ c3
  have c4 := a0o H
  replace H := U9 H
  have a6r := eq_true c4
  have b6A := decide_eq_true c4
  clear c4
  have c5 := a0o H
  replace H := U9 H
  have a9g := eq_true c5
  have b6C := decide_eq_true c5
  clear c5
  by_cases c6 : ((l0.drop (a0c : Int).toNat).length : Int) = 0
  ·rw [if_pos c6] at H
   have a9K := beq_iff_eq.mpr c6
   have b8v := bne_eq_false_iff_eq.mpr c6
   have f5g : (((l0.length - (a0c : Int).toNat : Nat) : Int) == 0) = true := by rw [← List.length_drop]; exact beq_iff_eq.mpr c6
   have g7m : (((l0.length - (a0c : Int).toNat : Nat) : Int) != 0) = false := by rw [← List.length_drop]; exact bne_eq_false_iff_eq.mpr c6
   clear c6
   obtain ⟨rfl, rfl, rfl⟩ := s3_ H
   go_enter Tryd.func81, Tryd.ntmps81
   go_wp2_with (first | (refine be_ 2 #[.int .i64 0, .int .i64 0] 122 ?_; intro b2V hg w7 hbox hb; have a5j := a_ hbox; have b4q := lb_ HB hg; replace HB := W9 HB hb; clear hb hbox hg) | (go_at_call 97; (with_reducible refine (a2R.calls _ _ l0 a0c t130 _ (Kd.D6 HR0.out HB.out) HC0.out A2.out).mono ?_); rintro e w' ⟨rfl, ⟨nd, rfl⟩⟩; obtain ⟨i08, c4P, _, c4Q, _⟩ := info_parts info5; obtain ⟨A8, e4y, hA8, hC8⟩ := a1D (P := Tryd.prog) (Value.int .u8) 0 22 5 .i64 Tryd.underlying22 c4P c4Q A0 c0 l0 a0c (Y9) (Y9) HC0.out; have b0e := a_ (Kd.a0K (h1 := fun _ => rfl) (hA8 _ (Kd.a0p HR0.out))); have f5h := a_ hC8; clear hA8 hC8 c4P c4Q; obtain ⟨d5n, d5o, d5p, d5q⟩ := a3n a5j.out))
   refine bodyPost_ret (Y5 rfl _ _ b2V 122 #[.int .i64 0, .int .i64 0] (0, 0) _ rfl (by refine l9 (cs := #[.int .i64 0, .int .i64 0]) ?_ 1 _ rfl; refine l9 (cs := #[.int .i64 0, .int .i64 0]) ?_ 0 _ rfl; (with_reducible repeat (refine Q9 ?_ _)); exact a5j.out) Tryd.underlying122 rfl (by kernel_rfl)) rfl ?_
   exact ⟨by (rfl), by repeat (with_reducible first | exact HB.out | apply o7 | refine o8 ?_ b4q.out)⟩
  ·rw [if_neg c6] at H
   have a9K := beq_eq_false_iff_ne.mpr c6
   have b8v := bne_iff_ne.mpr c6
   have f5g : ¬ ((l0.drop (a0c : Int).toNat) = []) := fun h_ => c6 (by rw [h_]; rfl)
   have g7m : (((l0.length - (a0c : Int).toNat : Nat) : Int) == 0) = false := by rw [← List.length_drop]; exact beq_eq_false_iff_ne.mpr c6
   have h5J : (((l0.length - (a0c : Int).toNat : Nat) : Int) != 0) = true := by rw [← List.length_drop]; exact bne_iff_ne.mpr c6
   have e8h := a_ H
   clear H
   go_enter Tryd.func81, Tryd.ntmps81
   go_upto_region 7 with (first | (refine be_ 2 #[.int .i64 0, .int .i64 0] 122 ?_; intro b2V hg w11 hbox hb; have a5j := a_ hbox; have b4q := lb_ HB hg; replace HB := W9 HB hb; clear hb hbox hg) | (go_at_call 97; (with_reducible refine (a2R.calls _ _ l0 a0c t130 _ (Kd.D6 HR0.out HB.out) HC0.out A2.out).mono ?_); rintro e w' ⟨rfl, ⟨nd, rfl⟩⟩; obtain ⟨g43, c4K, _, c4M, _⟩ := info_parts info5; obtain ⟨A12, e7c, d4o, d4p⟩ := a1D (P := Tryd.prog) (Value.int .u8) 0 22 5 .i64 Tryd.underlying22 c4K c4M A0 c0 l0 a0c (Y9) (Y9) HC0.out; have b0e := a_ (Kd.a0K (h1 := fun _ => rfl) (d4o _ (Kd.a0p HR0.out))); have f5h := a_ d4p; clear d4o d4p c4K c4M))
   go_cut [25] (fun v25 wc => ∃ (kq : Nat) (d0g : Bool), v25 = .bool d0g ∧ Aside0 (head_Read.j0 kq a0c (l0.drop (a0c : Int).toNat) d0g = some (r1, r2, r3)) ∧ Aside0 (kq ≤ k) ∧ Aside0 (wc.heap[b2V]? = some (.cells #[.int .i64 0, .int .i64 0] 122 (0, 0))) ∧ Aside0 (Below w.heap.size w wc))
   case first =>
    have H := e8h.out
    clear e8h
    have c13 := a0o H
    replace H := U9 H
    have c9w := decide_eq_true c13
    have d4L : decide (0 < (l0.drop (a0c : Int).toNat).length) = true := decide_eq_true (by omega)
    have f5i : decide (0 < ((l0.length - (a0c : Int).toNat : Nat) : Int)) = true := by rw [← List.length_drop]; exact decide_eq_true c13
    have h2u : (0 < ((l0.length - (a0c : Int).toNat : Nat) : Int)) = True := by rw [← List.length_drop]; exact eq_true (by (exact of_decide_eq_true (decide_eq_true c13)))
    have h2v : decide (0 < (l0.length - (a0c : Int).toNat)) = true := by rw [← List.length_drop]; exact decide_eq_true (by omega)
    have h2w : (0 < (l0.length - (a0c : Int).toNat)) = True := by rw [← List.length_drop]; exact eq_true (by (exact of_decide_eq_true (decide_eq_true (by omega))))
    clear c13
    by_cases c14 : (Go.bits .and .u8 (rd (l0.drop (a0c : Int).toNat) 0) 1) = 1
    ·rw [if_pos c14] at H
     obtain ⟨d5r, f5j⟩ := bt_ c14
     replace H := Option.bind_eq_some_iff.mp H
     obtain ⟨e1c, c4b, H⟩ := H
     try dsimp only at H
     have A15 := a_ c4b
     clear c4b
     have H' := a_ H
     clear H
     have c7l : 0 ≤ (0 : Int) := (by omega)
     have c7m : 0 < ((l0.drop (a0c : Int).toNat).length : Int) := Y9
     obtain ⟨e4K, e8i, a8r⟩ := Kd.a0W b0e.out 0 c7l c7m
     cases e8i
     have f5k : (0 < (l0.drop (a0c : Int).toNat).length) = True := eq_true (by omega)
     (try rw [show (0 : Int).toNat = 0 from rfl] at a8r)
     (try rw [Addr.add_zero'] at a8r)
     replace a8r := cb_ HB a8r
     replace c7l := eq_true c7l
     replace c7m := eq_true c7m
     have e8j : 0 ≤ (0 : Int) := (by omega)
     have e8k : 0 < ((l0.drop (a0c : Int).toNat).length : Int) := Y9
     obtain ⟨f5l, g7n, b7n⟩ := Kd.a0W b0e.out 0 e8j e8k
     obtain rfl : e4K = f5l := (by injection g7n)
     have h2y : (0 < (l0.drop (a0c : Int).toNat).length) = True := eq_true (by omega)
     (try rw [show (0 : Int).toNat = 0 from rfl] at b7n)
     (try rw [Addr.add_zero'] at b7n)
     replace b7n := cb_ HB b7n
     replace e8j := eq_true e8j
     replace e8k := eq_true e8k
     go_wp2_with (first | (go_at_call 33; (with_reducible refine (a0a.calls (wrap64 (rd (l0.drop (a0c : Int).toNat) 0)) e1c _ A15.out).mono ?_); rintro e w' ⟨rfl, ⟨nd, rfl⟩⟩))
     go_meet
     case rel => exact ⟨_, (e1c), (by rfl), H', ⟨by (omega)⟩, ⟨by (with_reducible repeat (refine Q9 ?_ _)); exact a5j.out⟩, ⟨by repeat (with_reducible first | exact HB.out | apply o7)⟩⟩
    ·rw [if_neg c14] at H
     have d5r := beq_eq_false_iff_ne.mpr c14
     have f5j := bne_iff_ne.mpr c14
     have H' := a_ H
     clear H
     have c7l : 0 ≤ (0 : Int) := (by omega)
     have c7m : 0 < ((l0.drop (a0c : Int).toNat).length : Int) := Y9
     obtain ⟨e4K, e8i, a8r⟩ := Kd.a0W b0e.out 0 c7l c7m
     cases e8i
     have f5k : (0 < (l0.drop (a0c : Int).toNat).length) = True := eq_true (by omega)
     (try rw [show (0 : Int).toNat = 0 from rfl] at a8r)
     (try rw [Addr.add_zero'] at a8r)
     replace a8r := cb_ HB a8r
     replace c7l := eq_true c7l
     replace c7m := eq_true c7m
     go_wp2
     go_meet
     case rel => exact ⟨_, (false), (by rfl), H', ⟨by (omega)⟩, ⟨by (with_reducible repeat (refine Q9 ?_ _)); exact a5j.out⟩, ⟨by repeat (with_reducible first | exact HB.out | apply o7)⟩⟩
   case rest =>
    clear e8h
    try clear a5g
    try clear b1b
    try clear a6r
    try clear b6A
    try clear a9g
    try clear b6C
    try clear c6
    try clear a9K
    try clear b8v
    try clear f5g
    obtain ⟨kq, d0g, rfl, HA, HJ9, a5j, HB⟩ := hcut
    cases kq with
    | zero => exact absurd HA.out (by simp [head_Read.j0])
    | succ kj9 =>
     have H := HA.out
     clear HA
     simp only [head_Read.j0] at H
     by_cases c16 : d0g = true
     ·subst c16
      rw [if_pos rfl] at H
      have c17 := a0o H
      replace H := U9 H
      have e4L := decide_eq_true c17
      have e4M : decide (0 < (l0.drop (a0c : Int).toNat).length) = true := decide_eq_true (by omega)
      have h2A : decide (0 < ((l0.length - (a0c : Int).toNat : Nat) : Int)) = true := by rw [← List.length_drop]; exact decide_eq_true c17
      have h2B : (0 < ((l0.length - (a0c : Int).toNat : Nat) : Int)) = True := by rw [← List.length_drop]; exact eq_true (by (exact of_decide_eq_true (decide_eq_true c17)))
      have h2C : decide (0 < (l0.length - (a0c : Int).toNat)) = true := by rw [← List.length_drop]; exact decide_eq_true (by omega)
      have h2D : (0 < (l0.length - (a0c : Int).toNat)) = True := by rw [← List.length_drop]; exact eq_true (by (exact of_decide_eq_true (decide_eq_true (by omega))))
      clear c17
      obtain ⟨rfl, rfl, rfl⟩ := s3_ H
      have e8l : 0 ≤ (0 : Int) := (by omega)
      have e8m : 0 < ((l0.drop (a0c : Int).toNat).length : Int) := Y9
      obtain ⟨h2E, g7o, b7o⟩ := Kd.a0W b0e.out 0 e8l e8m
      cases g7o
      have h2F : (0 < (l0.drop (a0c : Int).toNat).length) = True := eq_true (by omega)
      (try rw [show (0 : Int).toNat = 0 from rfl] at b7o)
      (try rw [Addr.add_zero'] at b7o)
      replace b7o := cb_ HB b7o
      replace e8l := eq_true e8l
      replace e8m := eq_true e8m
      obtain ⟨e1d, e1e, e1f, e1g⟩ := a3n a5j.out
      go_wp2
      refine bodyPost_ret (Y5 rfl _ _ b2V 122 #[.int .i64 (wrap64 (rd (l0.drop (a0c : Int).toNat) 0)), .int .i64 (wrap64 (a0c + 1))] (0, 0) _ rfl (by refine l9 (cs := #[.int .i64 (wrap64 (rd (l0.drop (a0c : Int).toNat) 0)), .int .i64 0]) ?_ 1 _ rfl; refine l9 (cs := #[.int .i64 0, .int .i64 0]) ?_ 0 _ rfl; exact a5j.out) Tryd.underlying122 rfl (by kernel_rfl)) rfl ?_
      exact ⟨by (rfl), by repeat (with_reducible first | exact HB.out | refine o8 ?_ b4q.out)⟩
     ·cases nt_ c16
      rw [if_neg a5a] at H
      have c19 := a0o H
      replace H := U9 H
      have f5m := decide_eq_true c19
      have f5n : decide (0 < (l0.drop (a0c : Int).toNat).length) = true := decide_eq_true (by omega)
      have f5o : decide (0 < ((l0.length - (a0c : Int).toNat : Nat) : Int)) = true := by rw [← List.length_drop]; exact decide_eq_true c19
      have h2G : (0 < ((l0.length - (a0c : Int).toNat : Nat) : Int)) = True := by rw [← List.length_drop]; exact eq_true (by (exact of_decide_eq_true (decide_eq_true c19)))
      have h2H : decide (0 < (l0.length - (a0c : Int).toNat)) = true := by rw [← List.length_drop]; exact decide_eq_true (by omega)
      have h2I : (0 < (l0.length - (a0c : Int).toNat)) = True := by rw [← List.length_drop]; exact eq_true (by (exact of_decide_eq_true (decide_eq_true (by omega))))
      clear c19
      by_cases c20 : (Go.bits .and .u8 (rd (l0.drop (a0c : Int).toNat) 0) 1) = 1
      ·rw [if_pos c20] at H
       obtain ⟨d0h, e4N⟩ := bt_ c20
       obtain ⟨rfl, rfl, rfl⟩ := s3_ H
       have b3p : 0 ≤ (0 : Int) := (by omega)
       have b3q : 0 < ((l0.drop (a0c : Int).toNat).length : Int) := Y9
       obtain ⟨b80, c7n, a2v⟩ := Kd.a0W b0e.out 0 b3p b3q
       cases c7n
       have d5s : (0 < (l0.drop (a0c : Int).toNat).length) = True := eq_true (by omega)
       (try rw [show (0 : Int).toNat = 0 from rfl] at a2v)
       (try rw [Addr.add_zero'] at a2v)
       replace a2v := cb_ HB a2v
       replace b3p := eq_true b3p
       replace b3q := eq_true b3q
       obtain ⟨g0q, g0r, g0s, g0t⟩ := a3n a5j.out
       go_wp2
       refine bodyPost_ret (Y5 rfl _ _ b2V 122 #[.int .i64 0, .int .i64 0] (0, 0) _ rfl (by refine l9 (cs := #[.int .i64 0, .int .i64 0]) ?_ 1 _ rfl; refine l9 (cs := #[.int .i64 0, .int .i64 0]) ?_ 0 _ rfl; exact a5j.out) Tryd.underlying122 rfl (by kernel_rfl)) rfl ?_
       exact ⟨by (rfl), by repeat (with_reducible first | exact HB.out | refine o8 ?_ b4q.out)⟩
      ·rw [if_neg c20] at H
       have d0h := beq_eq_false_iff_ne.mpr c20
       have e4N := bne_iff_ne.mpr c20
       by_cases c22 : ((l0.drop (a0c : Int).toNat).length : Int) = 1
       ·rw [if_pos c22] at H
        have f5p := beq_iff_eq.mpr c22
        have f5q := bne_eq_false_iff_eq.mpr c22
        have f5r : (((l0.length - (a0c : Int).toNat : Nat) : Int) == 1) = true := by rw [← List.length_drop]; exact beq_iff_eq.mpr c22
        have f5s : (((l0.length - (a0c : Int).toNat : Nat) : Int) != 1) = false := by rw [← List.length_drop]; exact bne_eq_false_iff_eq.mpr c22
        clear c22
        obtain ⟨rfl, rfl, rfl⟩ := s3_ H
        have b3p : 0 ≤ (0 : Int) := (by omega)
        have b3q : 0 < ((l0.drop (a0c : Int).toNat).length : Int) := Y9
        obtain ⟨b80, c7n, a2v⟩ := Kd.a0W b0e.out 0 b3p b3q
        cases c7n
        have d5s : (0 < (l0.drop (a0c : Int).toNat).length) = True := eq_true (by omega)
        (try rw [show (0 : Int).toNat = 0 from rfl] at a2v)
        (try rw [Addr.add_zero'] at a2v)
        replace a2v := cb_ HB a2v
        replace b3p := eq_true b3p
        replace b3q := eq_true b3q
        obtain ⟨e1h, e1i, e1j, e1k⟩ := a3n a5j.out
        go_wp2
        refine bodyPost_ret (Y5 rfl _ _ b2V 122 #[.int .i64 0, .int .i64 0] (0, 0) _ rfl (by refine l9 (cs := #[.int .i64 0, .int .i64 0]) ?_ 1 _ rfl; refine l9 (cs := #[.int .i64 0, .int .i64 0]) ?_ 0 _ rfl; exact a5j.out) Tryd.underlying122 rfl (by kernel_rfl)) rfl ?_
        exact ⟨by (rfl), by repeat (with_reducible first | exact HB.out | refine o8 ?_ b4q.out)⟩
       ·rw [if_neg c22] at H
        have f5p := beq_eq_false_iff_ne.mpr c22
        have f5q := bne_iff_ne.mpr c22
        have f5r : (((l0.length - (a0c : Int).toNat : Nat) : Int) == 1) = false := by rw [← List.length_drop]; exact beq_eq_false_iff_ne.mpr c22
        have f5s : (((l0.length - (a0c : Int).toNat : Nat) : Int) != 1) = true := by rw [← List.length_drop]; exact bne_iff_ne.mpr c22
        have c24 := a0o H
        replace H := U9 H
        have h2J := decide_eq_true c24
        have h2K : decide (1 < (l0.drop (a0c : Int).toNat).length) = true := decide_eq_true (by omega)
        have h2L : decide (1 < ((l0.length - (a0c : Int).toNat : Nat) : Int)) = true := by rw [← List.length_drop]; exact decide_eq_true c24
        have h2M : (1 < ((l0.length - (a0c : Int).toNat : Nat) : Int)) = True := by rw [← List.length_drop]; exact eq_true (by (exact of_decide_eq_true (decide_eq_true c24)))
        have h2N : decide (1 < (l0.length - (a0c : Int).toNat)) = true := by rw [← List.length_drop]; exact decide_eq_true (by omega)
        have h2O : (1 < (l0.length - (a0c : Int).toNat)) = True := by rw [← List.length_drop]; exact eq_true (by (exact of_decide_eq_true (decide_eq_true (by omega))))
        clear c24
        replace H := Option.bind_eq_some_iff.mp H
        obtain ⟨t139, f5t, H⟩ := H
        try dsimp only at H
        have A25 := a_ f5t
        clear f5t
        by_cases c26 : t139 = true
        ·subst c26
         rw [if_pos rfl] at H
         obtain ⟨rfl, rfl, rfl⟩ := s3_ H
         have b3p : 0 ≤ (0 : Int) := (by omega)
         have b3q : 0 < ((l0.drop (a0c : Int).toNat).length : Int) := Y9
         obtain ⟨b80, c7n, a2v⟩ := Kd.a0W b0e.out 0 b3p b3q
         cases c7n
         have d5s : (0 < (l0.drop (a0c : Int).toNat).length) = True := eq_true (by omega)
         (try rw [show (0 : Int).toNat = 0 from rfl] at a2v)
         (try rw [Addr.add_zero'] at a2v)
         replace a2v := cb_ HB a2v
         replace b3p := eq_true b3p
         replace b3q := eq_true b3q
         have c7o : 0 ≤ (0 : Int) := (by omega)
         have c7p : 0 < ((l0.drop (a0c : Int).toNat).length : Int) := Y9
         obtain ⟨d5u, e137, a8s⟩ := Kd.a0W b0e.out 0 c7o c7p
         obtain rfl : b80 = d5u := (by injection e137)
         have f5u : (0 < (l0.drop (a0c : Int).toNat).length) = True := eq_true (by omega)
         (try rw [show (0 : Int).toNat = 0 from rfl] at a8s)
         (try rw [Addr.add_zero'] at a8s)
         replace a8s := cb_ HB a8s
         replace c7o := eq_true c7o
         replace c7p := eq_true c7p
         have c7q : 0 ≤ (1 : Int) := (by omega)
         have c7r : 1 < ((l0.drop (a0c : Int).toNat).length : Int) := Y9
         obtain ⟨d5v, e138, b0E⟩ := Kd.a0W b0e.out 1 c7q c7r
         obtain rfl : b80 = d5v := (by injection e138)
         (try simp only [show (1 : Int).toNat = 1 from rfl, Nat.reduceMul, Nat.reduceEqDiff, Go.Addr.add, ↓reduceIte] at b0E)
         have f5v : (1 < (l0.drop (a0c : Int).toNat).length) = True := eq_true (by omega)
         replace b0E := cb_ HB b0E
         replace c7q := eq_true c7q
         replace c7r := eq_true c7r
         go_wp2_with (first | (go_at_call 33; (with_reducible refine (a0a.calls (Go.bits .or .i64 (wrap64 ((wrap64 (rd (l0.drop (a0c : Int).toNat) 0)) * 256)) (wrap64 (rd (l0.drop (a0c : Int).toNat) 1))) true _ A25.out).mono ?_); rintro e w' ⟨rfl, ⟨nd, rfl⟩⟩; (try first | exact ⟨rfl, _, World.drewN_drewN _ _ _⟩ | exact ⟨rfl, _, Eq.trans (World.drewN_drewN _ _ _) (congrArg (World.drewN _) (Nat.add_assoc _ _ _))⟩); obtain ⟨c2p, c2r, c2s, c2t⟩ := a3n a5j.out))
         repeat (go_quiet (first | (go_at_call 33; (with_reducible refine (a0a.calls (Go.bits .or .i64 (wrap64 ((wrap64 (rd (l0.drop (a0c : Int).toNat) 0)) * 256)) (wrap64 (rd (l0.drop (a0c : Int).toNat) 1))) true _ A25.out).mono ?_); rintro e w' ⟨rfl, ⟨nd, rfl⟩⟩; (try first | exact ⟨rfl, _, World.drewN_drewN _ _ _⟩ | exact ⟨rfl, _, Eq.trans (World.drewN_drewN _ _ _) (congrArg (World.drewN _) (Nat.add_assoc _ _ _))⟩); obtain ⟨c2p, c2r, c2s, c2t⟩ := a3n a5j.out)); try go_wp2_with (first | (go_at_call 33; (with_reducible refine (a0a.calls (Go.bits .or .i64 (wrap64 ((wrap64 (rd (l0.drop (a0c : Int).toNat) 0)) * 256)) (wrap64 (rd (l0.drop (a0c : Int).toNat) 1))) true _ A25.out).mono ?_); rintro e w' ⟨rfl, ⟨nd, rfl⟩⟩; obtain ⟨c2p, c2r, c2s, c2t⟩ := a3n a5j.out)))
         refine bodyPost_ret (Y5 rfl _ _ b2V 122 #[.int .i64 (Go.bits .or .i64 (wrap64 ((wrap64 (rd (l0.drop (a0c : Int).toNat) 0)) * 256)) (wrap64 (rd (l0.drop (a0c : Int).toNat) 1))), .int .i64 (wrap64 (a0c + 2))] (0, 0) _ rfl (by refine l9 (cs := #[.int .i64 (Go.bits .or .i64 (wrap64 ((wrap64 (rd (l0.drop (a0c : Int).toNat) 0)) * 256)) (wrap64 (rd (l0.drop (a0c : Int).toNat) 1))), .int .i64 0]) ?_ 1 _ rfl; refine l9 (cs := #[.int .i64 0, .int .i64 0]) ?_ 0 _ rfl; (with_reducible repeat (refine Q9 ?_ _)); exact a5j.out) Tryd.underlying122 rfl (by kernel_rfl)) rfl ?_
         exact ⟨by (rfl), by repeat (with_reducible first | exact HB.out | apply o7 | refine o8 ?_ b4q.out)⟩
        ·cases nt_ c26
         rw [if_neg a5a] at H
         obtain ⟨rfl, rfl, rfl⟩ := s3_ H
         have b3p : 0 ≤ (0 : Int) := (by omega)
         have b3q : 0 < ((l0.drop (a0c : Int).toNat).length : Int) := Y9
         obtain ⟨b80, c7n, a2v⟩ := Kd.a0W b0e.out 0 b3p b3q
         cases c7n
         have d5s : (0 < (l0.drop (a0c : Int).toNat).length) = True := eq_true (by omega)
         (try rw [show (0 : Int).toNat = 0 from rfl] at a2v)
         (try rw [Addr.add_zero'] at a2v)
         replace a2v := cb_ HB a2v
         replace b3p := eq_true b3p
         replace b3q := eq_true b3q
         have c7o : 0 ≤ (0 : Int) := (by omega)
         have c7p : 0 < ((l0.drop (a0c : Int).toNat).length : Int) := Y9
         obtain ⟨d5u, e137, a8s⟩ := Kd.a0W b0e.out 0 c7o c7p
         obtain rfl : b80 = d5u := (by injection e137)
         have f5u : (0 < (l0.drop (a0c : Int).toNat).length) = True := eq_true (by omega)
         (try rw [show (0 : Int).toNat = 0 from rfl] at a8s)
         (try rw [Addr.add_zero'] at a8s)
         replace a8s := cb_ HB a8s
         replace c7o := eq_true c7o
         replace c7p := eq_true c7p
         have c7q : 0 ≤ (1 : Int) := (by omega)
         have c7r : 1 < ((l0.drop (a0c : Int).toNat).length : Int) := Y9
         obtain ⟨d5v, e138, b0E⟩ := Kd.a0W b0e.out 1 c7q c7r
         obtain rfl : b80 = d5v := (by injection e138)
         (try simp only [show (1 : Int).toNat = 1 from rfl, Nat.reduceMul, Nat.reduceEqDiff, Go.Addr.add, ↓reduceIte] at b0E)
         have f5v : (1 < (l0.drop (a0c : Int).toNat).length) = True := eq_true (by omega)
         replace b0E := cb_ HB b0E
         replace c7q := eq_true c7q
         replace c7r := eq_true c7r
         go_wp2_with (first | (go_at_call 33; (with_reducible refine (a0a.calls (Go.bits .or .i64 (wrap64 ((wrap64 (rd (l0.drop (a0c : Int).toNat) 0)) * 256)) (wrap64 (rd (l0.drop (a0c : Int).toNat) 1))) false _ A25.out).mono ?_); rintro e w' ⟨rfl, ⟨nd, rfl⟩⟩; (try first | exact ⟨rfl, _, World.drewN_drewN _ _ _⟩ | exact ⟨rfl, _, Eq.trans (World.drewN_drewN _ _ _) (congrArg (World.drewN _) (Nat.add_assoc _ _ _))⟩); obtain ⟨b2k, b2l, b2m, b2n⟩ := a3n a5j.out))
         repeat (go_quiet (first | (go_at_call 33; (with_reducible refine (a0a.calls (Go.bits .or .i64 (wrap64 ((wrap64 (rd (l0.drop (a0c : Int).toNat) 0)) * 256)) (wrap64 (rd (l0.drop (a0c : Int).toNat) 1))) false _ A25.out).mono ?_); rintro e w' ⟨rfl, ⟨nd, rfl⟩⟩; (try first | exact ⟨rfl, _, World.drewN_drewN _ _ _⟩ | exact ⟨rfl, _, Eq.trans (World.drewN_drewN _ _ _) (congrArg (World.drewN _) (Nat.add_assoc _ _ _))⟩); obtain ⟨b2k, b2l, b2m, b2n⟩ := a3n a5j.out)); try go_wp2_with (first | (go_at_call 33; (with_reducible refine (a0a.calls (Go.bits .or .i64 (wrap64 ((wrap64 (rd (l0.drop (a0c : Int).toNat) 0)) * 256)) (wrap64 (rd (l0.drop (a0c : Int).toNat) 1))) false _ A25.out).mono ?_); rintro e w' ⟨rfl, ⟨nd, rfl⟩⟩; obtain ⟨b2k, b2l, b2m, b2n⟩ := a3n a5j.out)))
         refine bodyPost_ret (Y5 rfl _ _ b2V 122 #[.int .i64 0, .int .i64 0] (0, 0) _ rfl (by refine l9 (cs := #[.int .i64 0, .int .i64 0]) ?_ 1 _ rfl; refine l9 (cs := #[.int .i64 0, .int .i64 0]) ?_ 0 _ rfl; (with_reducible repeat (refine Q9 ?_ _)); exact a5j.out) Tryd.underlying122 rfl (by kernel_rfl)) rfl ?_
         exact ⟨by (rfl), by repeat (with_reducible first | exact HB.out | apply o7 | refine o8 ?_ b4q.out)⟩
 ·rw [if_neg c3] at H
  have a5g := beq_eq_false_iff_ne.mpr c3
  have b1b := bne_iff_ne.mpr c3
  obtain ⟨rfl, rfl, rfl⟩ := s3_ H
  go_enter Tryd.func81, Tryd.ntmps81
  go_wp2_with (first | (refine be_ 2 #[.int .i64 0, .int .i64 0] 122 ?_; intro b2V hg w29 hbox hb; have a5j := a_ hbox; have b4q := lb_ HB hg; replace HB := W9 HB hb; clear hb hbox hg) | (go_at_call 97; (with_reducible refine (a2R.calls _ _ l0 a0c t130 _ (Kd.D6 HR0.out HB.out) HC0.out A2.out).mono ?_); rintro e w' ⟨rfl, ⟨nd, rfl⟩⟩; obtain ⟨e1l, e1m, e1n, e1o⟩ := a3n a5j.out))
  refine bodyPost_ret (Y5 rfl _ _ b2V 122 #[.int .i64 0, .int .i64 0] (0, 0) _ rfl (by refine l9 (cs := #[.int .i64 0, .int .i64 0]) ?_ 1 _ rfl; refine l9 (cs := #[.int .i64 0, .int .i64 0]) ?_ 0 _ rfl; (with_reducible repeat (refine Q9 ?_ _)); exact a5j.out) Tryd.underlying122 rfl (by kernel_rfl)) rfl ?_
  exact ⟨by (rfl), by repeat (with_reducible first | exact HB.out | apply o7 | refine o8 ?_ b4q.out)⟩

end Go.Proofs.YtgnonglkibhnhaaDoor.Print
