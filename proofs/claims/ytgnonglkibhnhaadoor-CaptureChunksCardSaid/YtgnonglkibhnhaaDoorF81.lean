import Derived.Test.YtgnonglkibhnhaaDoorZ
import Derived.Test.YtgnonglkibhnhaaDoorM1
namespace Go.Proofs.YtgnonglkibhnhaaDoor.Print
open Go.RowKit Go.Proofs.YtgnonglkibhnhaaDoorW.PrintWords Go.Proofs.YtgnonglkibhnhaaDoorW.PrintLast Go.Proofs.YtgnonglkibhnhaaDoorW.PrintMore
attribute [local go_sem] max2_int min2_int max_two min_two max_three min_three max_four min_four
set_option linter.unusedVariables false
set_option linter.unusedSimpArgs false

/-! ### head_Read: function 81 -/
def head_Read.j0 : Nat → Int → List Int → Bool → Option (Int × Int × Int)
 | 0, _, _, _ => none
 | k + 1, x4, x6, x25 => if x25 = true then (if 0 < (x6.length : Int) then (some (wrap64 (rd x6 0), wrap64 (x4 + 1), 0)) else (none)) else (if 0 < (x6.length : Int) then (if (Go.bits .and .u8 (rd x6 0) 1) = 1 then (some (0, 0, 3)) else (if (x6.length : Int) = 1 then (some (0, 0, 2)) else (if 1 < (x6.length : Int) then ((head_May.f (Go.bits .or .i64 (wrap64 ((wrap64 (rd x6 0)) * 256)) (wrap64 (rd x6 1)))).bind fun t139 => (if t139 = true then (some (Go.bits .or .i64 (wrap64 ((wrap64 (rd x6 0)) * 256)) (wrap64 (rd x6 1)), wrap64 (x4 + 2), 0)) else (some (0, 0, 3)))) else (none)))) else (none))
def head_Read.f (k : Nat) (l0 : List Int) : Option (Int × Int × Int) := (head_begin.f l0).bind fun bt129 => (if bt129.2 = 0 then (if 0 ≤ bt129.1 then (if bt129.1 ≤ (l0.length : Int) then (if ((l0.drop (bt129.1 : Int).toNat).length : Int) = 0 then (some (0, 0, 2)) else (if 0 < ((l0.drop (bt129.1 : Int).toNat).length : Int) then (if (Go.bits .and .u8 (rd (l0.drop (bt129.1 : Int).toNat) 0) 1) = 1 then ((head_May.f (wrap64 (rd (l0.drop (bt129.1 : Int).toNat) 0))).bind fun t134 => (head_Read.j0 k bt129.1 (l0.drop (bt129.1 : Int).toNat) t134)) else (head_Read.j0 k bt129.1 (l0.drop (bt129.1 : Int).toNat) false)) else (none))) else (none)) else (none)) else (some (0, 0, bt129.2)))
set_option maxHeartbeats 8000000 in
set_option maxRecDepth 100000 in
theorem head_Read.calls (k : Nat) (A0 : Option Addr) (c0 : Nat) (l0 : List Int) (r1 : Int) (r2 : Int) (r3 : Int) (w : World) (hr0 : Kd.C (Kd.int .u8) w A0 l0.length l0) (hc0 : l0.length ≤ c0) (h : head_Read.f k l0 = some (r1, r2, r3)) :
  Calls Tryd.prog 81 #[.slice A0 l0.length c0] w fun e w' => e = .returned (.tuple #[.agg #[.int .i64 r1, .int .i64 r2], .int .i64 r3]) ∧ Below w.heap.size w w' := by
 have hu122 := Tryd.underlying122
 have HR0 := a_ hr0
 have HC0 := a_ hc0
 clear hr0 hc0
 have HB := a_ (Below.refl w.heap.size w)
 have H := h
 clear h
 unfold head_Read.f at H
 replace H := Option.bind_eq_some_iff.mp H
 obtain ⟨⟨t129, t130⟩, A20, H⟩ := H
 try dsimp only at H
 have A2 := a_ A20
 clear A20
 by_cases c3 : t130 = 0
 ·rw [if_pos c3] at H
  obtain ⟨c3b0, c3b1⟩ := bt_ c3
  have c4 := ifc_ H
  replace H := ift_ H
  have c4b0 := eq_true c4
  have c4b1 := decide_eq_true c4
  clear c4
  have c5 := ifc_ H
  replace H := ift_ H
  have c5b0 := eq_true c5
  have c5b1 := decide_eq_true c5
  clear c5
  by_cases c6 : ((l0.drop (t129 : Int).toNat).length : Int) = 0
  ·rw [if_pos c6] at H
   have c6b0 := beq_iff_eq.mpr c6
   have c6b1 := bne_eq_false_iff_eq.mpr c6
   have c6b2 : (((l0.length - (t129 : Int).toNat : Nat) : Int) == 0) = true := by rw [← List.length_drop]; exact beq_iff_eq.mpr c6
   have c6b3 : (((l0.length - (t129 : Int).toNat : Nat) : Int) != 0) = false := by rw [← List.length_drop]; exact bne_eq_false_iff_eq.mpr c6
   clear c6
   obtain ⟨rfl, rfl, rfl⟩ := s3_ H
   go_enter Tryd.func81, Tryd.ntmps81
   go_wp2_with (first | (refine be_ 2 #[.int .i64 0, .int .i64 0] 122 ?_; intro gb128 hg w7 hbox hb; have BK128 := a_ hbox; have GE128 := lb_ HB hg; replace HB := bs_ HB hb; clear hb hbox hg) | (go_at_call 97; (with_reducible refine (head_begin.calls _ _ l0 t129 t130 _ (Kd.C_below HR0.out HB.out) HC0.out A2.out).mono ?_); rintro e w' ⟨rfl, ⟨nd, rfl⟩⟩; obtain ⟨i08, hi08, _, hsz8, _⟩ := info_parts info5; obtain ⟨A8, hcut8, hA8, hC8⟩ := print_drop_of (P := Tryd.prog) (Value.int .u8) 0 22 5 .i64 Tryd.underlying22 hi08 hsz8 A0 c0 l0 t129 (da_) (da_) HC0.out; have HR131 := a_ (Kd.C_of_reads (h1 := fun _ => rfl) (hA8 _ (Kd.reads_of_C HR0.out))); have HC131 := a_ hC8; clear hA8 hC8 hi08 hsz8; obtain ⟨hcz9_0, hcz9_1, hfz9_0, hfz9_1⟩ := blk2 BK128.out))
   refine bodyPost_ret (results_ct rfl _ _ gb128 122 #[.int .i64 0, .int .i64 0] (0, 0) _ rfl (by refine blk_put (cs := #[.int .i64 0, .int .i64 0]) ?_ 1 _ rfl; refine blk_put (cs := #[.int .i64 0, .int .i64 0]) ?_ 0 _ rfl; (with_reducible repeat (refine blk_drewN ?_ _)); exact BK128.out) Tryd.underlying122 rfl (by kernel_rfl)) rfl ?_
   exact ⟨by (rfl), by repeat (with_reducible first | exact HB.out | apply pw_below_drewN | refine below_set ?_ GE128.out)⟩
  ·rw [if_neg c6] at H
   have c6b0 := beq_eq_false_iff_ne.mpr c6
   have c6b1 := bne_iff_ne.mpr c6
   have c6b2 : ¬ ((l0.drop (t129 : Int).toNat) = []) := fun h_ => c6 (by rw [h_]; rfl)
   have c6b3 : (((l0.length - (t129 : Int).toNat : Nat) : Int) == 0) = false := by rw [← List.length_drop]; exact beq_eq_false_iff_ne.mpr c6
   have c6b4 : (((l0.length - (t129 : Int).toNat : Nat) : Int) != 0) = true := by rw [← List.length_drop]; exact bne_iff_ne.mpr c6
   have HC10 := a_ H
   clear H
   go_enter Tryd.func81, Tryd.ntmps81
   go_upto_region 7 with (first | (refine be_ 2 #[.int .i64 0, .int .i64 0] 122 ?_; intro gb128 hg w11 hbox hb; have BK128 := a_ hbox; have GE128 := lb_ HB hg; replace HB := bs_ HB hb; clear hb hbox hg) | (go_at_call 97; (with_reducible refine (head_begin.calls _ _ l0 t129 t130 _ (Kd.C_below HR0.out HB.out) HC0.out A2.out).mono ?_); rintro e w' ⟨rfl, ⟨nd, rfl⟩⟩; obtain ⟨i012, hi012, _, hsz12, _⟩ := info_parts info5; obtain ⟨A12, hcut12, hA12, hC12⟩ := print_drop_of (P := Tryd.prog) (Value.int .u8) 0 22 5 .i64 Tryd.underlying22 hi012 hsz12 A0 c0 l0 t129 (da_) (da_) HC0.out; have HR131 := a_ (Kd.C_of_reads (h1 := fun _ => rfl) (hA12 _ (Kd.reads_of_C HR0.out))); have HC131 := a_ hC12; clear hA12 hC12 hi012 hsz12))
   go_cut [25] (fun v25 wc => ∃ (kq : Nat) (x25_9 : Bool), v25 = .bool x25_9 ∧ Aside0 (head_Read.j0 kq t129 (l0.drop (t129 : Int).toNat) x25_9 = some (r1, r2, r3)) ∧ Aside0 (kq ≤ k) ∧ Aside0 (wc.heap[gb128]? = some (.cells #[.int .i64 0, .int .i64 0] 122 (0, 0))) ∧ Aside0 (Below w.heap.size w wc))
   case first =>
    have H := HC10.out
    clear HC10
    have c13 := ifc_ H
    replace H := ift_ H
    have c13b0 := decide_eq_true c13
    have c13b1 : decide (0 < (l0.drop (t129 : Int).toNat).length) = true := decide_eq_true (by omega)
    have c13b2 : decide (0 < ((l0.length - (t129 : Int).toNat : Nat) : Int)) = true := by rw [← List.length_drop]; exact decide_eq_true c13
    have c13b3 : (0 < ((l0.length - (t129 : Int).toNat : Nat) : Int)) = True := by rw [← List.length_drop]; exact eq_true (by (exact of_decide_eq_true (decide_eq_true c13)))
    have c13b4 : decide (0 < (l0.length - (t129 : Int).toNat)) = true := by rw [← List.length_drop]; exact decide_eq_true (by omega)
    have c13b5 : (0 < (l0.length - (t129 : Int).toNat)) = True := by rw [← List.length_drop]; exact eq_true (by (exact of_decide_eq_true (decide_eq_true (by omega))))
    clear c13
    by_cases c14 : (Go.bits .and .u8 (rd (l0.drop (t129 : Int).toNat) 0) 1) = 1
    ·rw [if_pos c14] at H
     obtain ⟨c14b0, c14b1⟩ := bt_ c14
     replace H := Option.bind_eq_some_iff.mp H
     obtain ⟨t134, A150, H⟩ := H
     try dsimp only at H
     have A15 := a_ A150
     clear A150
     have H' := a_ H
     clear H
     have p132 : 0 ≤ (0 : Int) := (by omega)
     have q132 : 0 < ((l0.drop (t129 : Int).toNat).length : Int) := da_
     obtain ⟨ad132, e132, hx132_0⟩ := Kd.at_int HR131.out 0 p132 q132
     cases e132
     have qi132 : (0 < (l0.drop (t129 : Int).toNat).length) = True := eq_true (by omega)
     (try rw [show (0 : Int).toNat = 0 from rfl] at hx132_0)
     (try rw [Addr.add_zero'] at hx132_0)
     replace hx132_0 := cb_ HB hx132_0
     replace p132 := eq_true p132
     replace q132 := eq_true q132
     have p133 : 0 ≤ (0 : Int) := (by omega)
     have q133 : 0 < ((l0.drop (t129 : Int).toNat).length : Int) := da_
     obtain ⟨ad133, e133, hx133_0⟩ := Kd.at_int HR131.out 0 p133 q133
     obtain rfl : ad132 = ad133 := (by injection e133)
     have qi133 : (0 < (l0.drop (t129 : Int).toNat).length) = True := eq_true (by omega)
     (try rw [show (0 : Int).toNat = 0 from rfl] at hx133_0)
     (try rw [Addr.add_zero'] at hx133_0)
     replace hx133_0 := cb_ HB hx133_0
     replace p133 := eq_true p133
     replace q133 := eq_true q133
     go_wp2_with (first | (go_at_call 33; (with_reducible refine (head_May.calls (wrap64 (rd (l0.drop (t129 : Int).toNat) 0)) t134 _ A15.out).mono ?_); rintro e w' ⟨rfl, ⟨nd, rfl⟩⟩))
     go_meet
     case rel => exact ⟨_, (t134), (by rfl), H', ⟨by (omega)⟩, ⟨by (with_reducible repeat (refine blk_drewN ?_ _)); exact BK128.out⟩, ⟨by repeat (with_reducible first | exact HB.out | apply pw_below_drewN)⟩⟩
    ·rw [if_neg c14] at H
     have c14b0 := beq_eq_false_iff_ne.mpr c14
     have c14b1 := bne_iff_ne.mpr c14
     have H' := a_ H
     clear H
     have p132 : 0 ≤ (0 : Int) := (by omega)
     have q132 : 0 < ((l0.drop (t129 : Int).toNat).length : Int) := da_
     obtain ⟨ad132, e132, hx132_0⟩ := Kd.at_int HR131.out 0 p132 q132
     cases e132
     have qi132 : (0 < (l0.drop (t129 : Int).toNat).length) = True := eq_true (by omega)
     (try rw [show (0 : Int).toNat = 0 from rfl] at hx132_0)
     (try rw [Addr.add_zero'] at hx132_0)
     replace hx132_0 := cb_ HB hx132_0
     replace p132 := eq_true p132
     replace q132 := eq_true q132
     go_wp2
     go_meet
     case rel => exact ⟨_, (false), (by rfl), H', ⟨by (omega)⟩, ⟨by (with_reducible repeat (refine blk_drewN ?_ _)); exact BK128.out⟩, ⟨by repeat (with_reducible first | exact HB.out | apply pw_below_drewN)⟩⟩
   case rest =>
    clear HC10
    try clear c3b0
    try clear c3b1
    try clear c4b0
    try clear c4b1
    try clear c5b0
    try clear c5b1
    try clear c6
    try clear c6b0
    try clear c6b1
    try clear c6b2
    obtain ⟨kq, x25_9, rfl, HA, HJ9, BK128, HB⟩ := hcut
    cases kq with
    | zero => exact absurd HA.out (by simp [head_Read.j0])
    | succ kj9 =>
     have H := HA.out
     clear HA
     simp only [head_Read.j0] at H
     by_cases c16 : x25_9 = true
     ·subst c16
      rw [if_pos rfl] at H
      have c17 := ifc_ H
      replace H := ift_ H
      have c17b0 := decide_eq_true c17
      have c17b1 : decide (0 < (l0.drop (t129 : Int).toNat).length) = true := decide_eq_true (by omega)
      have c17b2 : decide (0 < ((l0.length - (t129 : Int).toNat : Nat) : Int)) = true := by rw [← List.length_drop]; exact decide_eq_true c17
      have c17b3 : (0 < ((l0.length - (t129 : Int).toNat : Nat) : Int)) = True := by rw [← List.length_drop]; exact eq_true (by (exact of_decide_eq_true (decide_eq_true c17)))
      have c17b4 : decide (0 < (l0.length - (t129 : Int).toNat)) = true := by rw [← List.length_drop]; exact decide_eq_true (by omega)
      have c17b5 : (0 < (l0.length - (t129 : Int).toNat)) = True := by rw [← List.length_drop]; exact eq_true (by (exact of_decide_eq_true (decide_eq_true (by omega))))
      clear c17
      obtain ⟨rfl, rfl, rfl⟩ := s3_ H
      have p135 : 0 ≤ (0 : Int) := (by omega)
      have q135 : 0 < ((l0.drop (t129 : Int).toNat).length : Int) := da_
      obtain ⟨ad135, e135, hx135_0⟩ := Kd.at_int HR131.out 0 p135 q135
      cases e135
      have qi135 : (0 < (l0.drop (t129 : Int).toNat).length) = True := eq_true (by omega)
      (try rw [show (0 : Int).toNat = 0 from rfl] at hx135_0)
      (try rw [Addr.add_zero'] at hx135_0)
      replace hx135_0 := cb_ HB hx135_0
      replace p135 := eq_true p135
      replace q135 := eq_true q135
      obtain ⟨hcz18_0, hcz18_1, hfz18_0, hfz18_1⟩ := blk2 BK128.out
      go_wp2
      refine bodyPost_ret (results_ct rfl _ _ gb128 122 #[.int .i64 (wrap64 (rd (l0.drop (t129 : Int).toNat) 0)), .int .i64 (wrap64 (t129 + 1))] (0, 0) _ rfl (by refine blk_put (cs := #[.int .i64 (wrap64 (rd (l0.drop (t129 : Int).toNat) 0)), .int .i64 0]) ?_ 1 _ rfl; refine blk_put (cs := #[.int .i64 0, .int .i64 0]) ?_ 0 _ rfl; exact BK128.out) Tryd.underlying122 rfl (by kernel_rfl)) rfl ?_
      exact ⟨by (rfl), by repeat (with_reducible first | exact HB.out | refine below_set ?_ GE128.out)⟩
     ·cases nt_ c16
      rw [if_neg nft_] at H
      have c19 := ifc_ H
      replace H := ift_ H
      have c19b0 := decide_eq_true c19
      have c19b1 : decide (0 < (l0.drop (t129 : Int).toNat).length) = true := decide_eq_true (by omega)
      have c19b2 : decide (0 < ((l0.length - (t129 : Int).toNat : Nat) : Int)) = true := by rw [← List.length_drop]; exact decide_eq_true c19
      have c19b3 : (0 < ((l0.length - (t129 : Int).toNat : Nat) : Int)) = True := by rw [← List.length_drop]; exact eq_true (by (exact of_decide_eq_true (decide_eq_true c19)))
      have c19b4 : decide (0 < (l0.length - (t129 : Int).toNat)) = true := by rw [← List.length_drop]; exact decide_eq_true (by omega)
      have c19b5 : (0 < (l0.length - (t129 : Int).toNat)) = True := by rw [← List.length_drop]; exact eq_true (by (exact of_decide_eq_true (decide_eq_true (by omega))))
      clear c19
      by_cases c20 : (Go.bits .and .u8 (rd (l0.drop (t129 : Int).toNat) 0) 1) = 1
      ·rw [if_pos c20] at H
       obtain ⟨c20b0, c20b1⟩ := bt_ c20
       obtain ⟨rfl, rfl, rfl⟩ := s3_ H
       have p136 : 0 ≤ (0 : Int) := (by omega)
       have q136 : 0 < ((l0.drop (t129 : Int).toNat).length : Int) := da_
       obtain ⟨ad136, e136, hx136_0⟩ := Kd.at_int HR131.out 0 p136 q136
       cases e136
       have qi136 : (0 < (l0.drop (t129 : Int).toNat).length) = True := eq_true (by omega)
       (try rw [show (0 : Int).toNat = 0 from rfl] at hx136_0)
       (try rw [Addr.add_zero'] at hx136_0)
       replace hx136_0 := cb_ HB hx136_0
       replace p136 := eq_true p136
       replace q136 := eq_true q136
       obtain ⟨hcz21_0, hcz21_1, hfz21_0, hfz21_1⟩ := blk2 BK128.out
       go_wp2
       refine bodyPost_ret (results_ct rfl _ _ gb128 122 #[.int .i64 0, .int .i64 0] (0, 0) _ rfl (by refine blk_put (cs := #[.int .i64 0, .int .i64 0]) ?_ 1 _ rfl; refine blk_put (cs := #[.int .i64 0, .int .i64 0]) ?_ 0 _ rfl; exact BK128.out) Tryd.underlying122 rfl (by kernel_rfl)) rfl ?_
       exact ⟨by (rfl), by repeat (with_reducible first | exact HB.out | refine below_set ?_ GE128.out)⟩
      ·rw [if_neg c20] at H
       have c20b0 := beq_eq_false_iff_ne.mpr c20
       have c20b1 := bne_iff_ne.mpr c20
       by_cases c22 : ((l0.drop (t129 : Int).toNat).length : Int) = 1
       ·rw [if_pos c22] at H
        have c22b0 := beq_iff_eq.mpr c22
        have c22b1 := bne_eq_false_iff_eq.mpr c22
        have c22b2 : (((l0.length - (t129 : Int).toNat : Nat) : Int) == 1) = true := by rw [← List.length_drop]; exact beq_iff_eq.mpr c22
        have c22b3 : (((l0.length - (t129 : Int).toNat : Nat) : Int) != 1) = false := by rw [← List.length_drop]; exact bne_eq_false_iff_eq.mpr c22
        clear c22
        obtain ⟨rfl, rfl, rfl⟩ := s3_ H
        have p136 : 0 ≤ (0 : Int) := (by omega)
        have q136 : 0 < ((l0.drop (t129 : Int).toNat).length : Int) := da_
        obtain ⟨ad136, e136, hx136_0⟩ := Kd.at_int HR131.out 0 p136 q136
        cases e136
        have qi136 : (0 < (l0.drop (t129 : Int).toNat).length) = True := eq_true (by omega)
        (try rw [show (0 : Int).toNat = 0 from rfl] at hx136_0)
        (try rw [Addr.add_zero'] at hx136_0)
        replace hx136_0 := cb_ HB hx136_0
        replace p136 := eq_true p136
        replace q136 := eq_true q136
        obtain ⟨hcz23_0, hcz23_1, hfz23_0, hfz23_1⟩ := blk2 BK128.out
        go_wp2
        refine bodyPost_ret (results_ct rfl _ _ gb128 122 #[.int .i64 0, .int .i64 0] (0, 0) _ rfl (by refine blk_put (cs := #[.int .i64 0, .int .i64 0]) ?_ 1 _ rfl; refine blk_put (cs := #[.int .i64 0, .int .i64 0]) ?_ 0 _ rfl; exact BK128.out) Tryd.underlying122 rfl (by kernel_rfl)) rfl ?_
        exact ⟨by (rfl), by repeat (with_reducible first | exact HB.out | refine below_set ?_ GE128.out)⟩
       ·rw [if_neg c22] at H
        have c22b0 := beq_eq_false_iff_ne.mpr c22
        have c22b1 := bne_iff_ne.mpr c22
        have c22b2 : (((l0.length - (t129 : Int).toNat : Nat) : Int) == 1) = false := by rw [← List.length_drop]; exact beq_eq_false_iff_ne.mpr c22
        have c22b3 : (((l0.length - (t129 : Int).toNat : Nat) : Int) != 1) = true := by rw [← List.length_drop]; exact bne_iff_ne.mpr c22
        have c24 := ifc_ H
        replace H := ift_ H
        have c24b0 := decide_eq_true c24
        have c24b1 : decide (1 < (l0.drop (t129 : Int).toNat).length) = true := decide_eq_true (by omega)
        have c24b2 : decide (1 < ((l0.length - (t129 : Int).toNat : Nat) : Int)) = true := by rw [← List.length_drop]; exact decide_eq_true c24
        have c24b3 : (1 < ((l0.length - (t129 : Int).toNat : Nat) : Int)) = True := by rw [← List.length_drop]; exact eq_true (by (exact of_decide_eq_true (decide_eq_true c24)))
        have c24b4 : decide (1 < (l0.length - (t129 : Int).toNat)) = true := by rw [← List.length_drop]; exact decide_eq_true (by omega)
        have c24b5 : (1 < (l0.length - (t129 : Int).toNat)) = True := by rw [← List.length_drop]; exact eq_true (by (exact of_decide_eq_true (decide_eq_true (by omega))))
        clear c24
        replace H := Option.bind_eq_some_iff.mp H
        obtain ⟨t139, A250, H⟩ := H
        try dsimp only at H
        have A25 := a_ A250
        clear A250
        by_cases c26 : t139 = true
        ·subst c26
         rw [if_pos rfl] at H
         obtain ⟨rfl, rfl, rfl⟩ := s3_ H
         have p136 : 0 ≤ (0 : Int) := (by omega)
         have q136 : 0 < ((l0.drop (t129 : Int).toNat).length : Int) := da_
         obtain ⟨ad136, e136, hx136_0⟩ := Kd.at_int HR131.out 0 p136 q136
         cases e136
         have qi136 : (0 < (l0.drop (t129 : Int).toNat).length) = True := eq_true (by omega)
         (try rw [show (0 : Int).toNat = 0 from rfl] at hx136_0)
         (try rw [Addr.add_zero'] at hx136_0)
         replace hx136_0 := cb_ HB hx136_0
         replace p136 := eq_true p136
         replace q136 := eq_true q136
         have p137 : 0 ≤ (0 : Int) := (by omega)
         have q137 : 0 < ((l0.drop (t129 : Int).toNat).length : Int) := da_
         obtain ⟨ad137, e137, hx137_0⟩ := Kd.at_int HR131.out 0 p137 q137
         obtain rfl : ad136 = ad137 := (by injection e137)
         have qi137 : (0 < (l0.drop (t129 : Int).toNat).length) = True := eq_true (by omega)
         (try rw [show (0 : Int).toNat = 0 from rfl] at hx137_0)
         (try rw [Addr.add_zero'] at hx137_0)
         replace hx137_0 := cb_ HB hx137_0
         replace p137 := eq_true p137
         replace q137 := eq_true q137
         have p138 : 0 ≤ (1 : Int) := (by omega)
         have q138 : 1 < ((l0.drop (t129 : Int).toNat).length : Int) := da_
         obtain ⟨ad138, e138, hx138_0⟩ := Kd.at_int HR131.out 1 p138 q138
         obtain rfl : ad136 = ad138 := (by injection e138)
         (try simp only [show (1 : Int).toNat = 1 from rfl, Nat.reduceMul, Nat.reduceEqDiff, Go.Addr.add, ↓reduceIte] at hx138_0)
         have qi138 : (1 < (l0.drop (t129 : Int).toNat).length) = True := eq_true (by omega)
         replace hx138_0 := cb_ HB hx138_0
         replace p138 := eq_true p138
         replace q138 := eq_true q138
         go_wp2_with (first | (go_at_call 33; (with_reducible refine (head_May.calls (Go.bits .or .i64 (wrap64 ((wrap64 (rd (l0.drop (t129 : Int).toNat) 0)) * 256)) (wrap64 (rd (l0.drop (t129 : Int).toNat) 1))) true _ A25.out).mono ?_); rintro e w' ⟨rfl, ⟨nd, rfl⟩⟩; (try first | exact ⟨rfl, _, World.drewN_drewN _ _ _⟩ | exact ⟨rfl, _, Eq.trans (World.drewN_drewN _ _ _) (congrArg (World.drewN _) (Nat.add_assoc _ _ _))⟩); obtain ⟨hcz27_0, hcz27_1, hfz27_0, hfz27_1⟩ := blk2 BK128.out))
         repeat (go_quiet (first | (go_at_call 33; (with_reducible refine (head_May.calls (Go.bits .or .i64 (wrap64 ((wrap64 (rd (l0.drop (t129 : Int).toNat) 0)) * 256)) (wrap64 (rd (l0.drop (t129 : Int).toNat) 1))) true _ A25.out).mono ?_); rintro e w' ⟨rfl, ⟨nd, rfl⟩⟩; (try first | exact ⟨rfl, _, World.drewN_drewN _ _ _⟩ | exact ⟨rfl, _, Eq.trans (World.drewN_drewN _ _ _) (congrArg (World.drewN _) (Nat.add_assoc _ _ _))⟩); obtain ⟨hcz27_0, hcz27_1, hfz27_0, hfz27_1⟩ := blk2 BK128.out)); try go_wp2_with (first | (go_at_call 33; (with_reducible refine (head_May.calls (Go.bits .or .i64 (wrap64 ((wrap64 (rd (l0.drop (t129 : Int).toNat) 0)) * 256)) (wrap64 (rd (l0.drop (t129 : Int).toNat) 1))) true _ A25.out).mono ?_); rintro e w' ⟨rfl, ⟨nd, rfl⟩⟩; obtain ⟨hcz27_0, hcz27_1, hfz27_0, hfz27_1⟩ := blk2 BK128.out)))
         refine bodyPost_ret (results_ct rfl _ _ gb128 122 #[.int .i64 (Go.bits .or .i64 (wrap64 ((wrap64 (rd (l0.drop (t129 : Int).toNat) 0)) * 256)) (wrap64 (rd (l0.drop (t129 : Int).toNat) 1))), .int .i64 (wrap64 (t129 + 2))] (0, 0) _ rfl (by refine blk_put (cs := #[.int .i64 (Go.bits .or .i64 (wrap64 ((wrap64 (rd (l0.drop (t129 : Int).toNat) 0)) * 256)) (wrap64 (rd (l0.drop (t129 : Int).toNat) 1))), .int .i64 0]) ?_ 1 _ rfl; refine blk_put (cs := #[.int .i64 0, .int .i64 0]) ?_ 0 _ rfl; (with_reducible repeat (refine blk_drewN ?_ _)); exact BK128.out) Tryd.underlying122 rfl (by kernel_rfl)) rfl ?_
         exact ⟨by (rfl), by repeat (with_reducible first | exact HB.out | apply pw_below_drewN | refine below_set ?_ GE128.out)⟩
        ·cases nt_ c26
         rw [if_neg nft_] at H
         obtain ⟨rfl, rfl, rfl⟩ := s3_ H
         have p136 : 0 ≤ (0 : Int) := (by omega)
         have q136 : 0 < ((l0.drop (t129 : Int).toNat).length : Int) := da_
         obtain ⟨ad136, e136, hx136_0⟩ := Kd.at_int HR131.out 0 p136 q136
         cases e136
         have qi136 : (0 < (l0.drop (t129 : Int).toNat).length) = True := eq_true (by omega)
         (try rw [show (0 : Int).toNat = 0 from rfl] at hx136_0)
         (try rw [Addr.add_zero'] at hx136_0)
         replace hx136_0 := cb_ HB hx136_0
         replace p136 := eq_true p136
         replace q136 := eq_true q136
         have p137 : 0 ≤ (0 : Int) := (by omega)
         have q137 : 0 < ((l0.drop (t129 : Int).toNat).length : Int) := da_
         obtain ⟨ad137, e137, hx137_0⟩ := Kd.at_int HR131.out 0 p137 q137
         obtain rfl : ad136 = ad137 := (by injection e137)
         have qi137 : (0 < (l0.drop (t129 : Int).toNat).length) = True := eq_true (by omega)
         (try rw [show (0 : Int).toNat = 0 from rfl] at hx137_0)
         (try rw [Addr.add_zero'] at hx137_0)
         replace hx137_0 := cb_ HB hx137_0
         replace p137 := eq_true p137
         replace q137 := eq_true q137
         have p138 : 0 ≤ (1 : Int) := (by omega)
         have q138 : 1 < ((l0.drop (t129 : Int).toNat).length : Int) := da_
         obtain ⟨ad138, e138, hx138_0⟩ := Kd.at_int HR131.out 1 p138 q138
         obtain rfl : ad136 = ad138 := (by injection e138)
         (try simp only [show (1 : Int).toNat = 1 from rfl, Nat.reduceMul, Nat.reduceEqDiff, Go.Addr.add, ↓reduceIte] at hx138_0)
         have qi138 : (1 < (l0.drop (t129 : Int).toNat).length) = True := eq_true (by omega)
         replace hx138_0 := cb_ HB hx138_0
         replace p138 := eq_true p138
         replace q138 := eq_true q138
         go_wp2_with (first | (go_at_call 33; (with_reducible refine (head_May.calls (Go.bits .or .i64 (wrap64 ((wrap64 (rd (l0.drop (t129 : Int).toNat) 0)) * 256)) (wrap64 (rd (l0.drop (t129 : Int).toNat) 1))) false _ A25.out).mono ?_); rintro e w' ⟨rfl, ⟨nd, rfl⟩⟩; (try first | exact ⟨rfl, _, World.drewN_drewN _ _ _⟩ | exact ⟨rfl, _, Eq.trans (World.drewN_drewN _ _ _) (congrArg (World.drewN _) (Nat.add_assoc _ _ _))⟩); obtain ⟨hcz28_0, hcz28_1, hfz28_0, hfz28_1⟩ := blk2 BK128.out))
         repeat (go_quiet (first | (go_at_call 33; (with_reducible refine (head_May.calls (Go.bits .or .i64 (wrap64 ((wrap64 (rd (l0.drop (t129 : Int).toNat) 0)) * 256)) (wrap64 (rd (l0.drop (t129 : Int).toNat) 1))) false _ A25.out).mono ?_); rintro e w' ⟨rfl, ⟨nd, rfl⟩⟩; (try first | exact ⟨rfl, _, World.drewN_drewN _ _ _⟩ | exact ⟨rfl, _, Eq.trans (World.drewN_drewN _ _ _) (congrArg (World.drewN _) (Nat.add_assoc _ _ _))⟩); obtain ⟨hcz28_0, hcz28_1, hfz28_0, hfz28_1⟩ := blk2 BK128.out)); try go_wp2_with (first | (go_at_call 33; (with_reducible refine (head_May.calls (Go.bits .or .i64 (wrap64 ((wrap64 (rd (l0.drop (t129 : Int).toNat) 0)) * 256)) (wrap64 (rd (l0.drop (t129 : Int).toNat) 1))) false _ A25.out).mono ?_); rintro e w' ⟨rfl, ⟨nd, rfl⟩⟩; obtain ⟨hcz28_0, hcz28_1, hfz28_0, hfz28_1⟩ := blk2 BK128.out)))
         refine bodyPost_ret (results_ct rfl _ _ gb128 122 #[.int .i64 0, .int .i64 0] (0, 0) _ rfl (by refine blk_put (cs := #[.int .i64 0, .int .i64 0]) ?_ 1 _ rfl; refine blk_put (cs := #[.int .i64 0, .int .i64 0]) ?_ 0 _ rfl; (with_reducible repeat (refine blk_drewN ?_ _)); exact BK128.out) Tryd.underlying122 rfl (by kernel_rfl)) rfl ?_
         exact ⟨by (rfl), by repeat (with_reducible first | exact HB.out | apply pw_below_drewN | refine below_set ?_ GE128.out)⟩
 ·rw [if_neg c3] at H
  have c3b0 := beq_eq_false_iff_ne.mpr c3
  have c3b1 := bne_iff_ne.mpr c3
  obtain ⟨rfl, rfl, rfl⟩ := s3_ H
  go_enter Tryd.func81, Tryd.ntmps81
  go_wp2_with (first | (refine be_ 2 #[.int .i64 0, .int .i64 0] 122 ?_; intro gb128 hg w29 hbox hb; have BK128 := a_ hbox; have GE128 := lb_ HB hg; replace HB := bs_ HB hb; clear hb hbox hg) | (go_at_call 97; (with_reducible refine (head_begin.calls _ _ l0 t129 t130 _ (Kd.C_below HR0.out HB.out) HC0.out A2.out).mono ?_); rintro e w' ⟨rfl, ⟨nd, rfl⟩⟩; obtain ⟨hcz30_0, hcz30_1, hfz30_0, hfz30_1⟩ := blk2 BK128.out))
  refine bodyPost_ret (results_ct rfl _ _ gb128 122 #[.int .i64 0, .int .i64 0] (0, 0) _ rfl (by refine blk_put (cs := #[.int .i64 0, .int .i64 0]) ?_ 1 _ rfl; refine blk_put (cs := #[.int .i64 0, .int .i64 0]) ?_ 0 _ rfl; (with_reducible repeat (refine blk_drewN ?_ _)); exact BK128.out) Tryd.underlying122 rfl (by kernel_rfl)) rfl ?_
  exact ⟨by (rfl), by repeat (with_reducible first | exact HB.out | apply pw_below_drewN | refine below_set ?_ GE128.out)⟩

end Go.Proofs.YtgnonglkibhnhaaDoor.Print
