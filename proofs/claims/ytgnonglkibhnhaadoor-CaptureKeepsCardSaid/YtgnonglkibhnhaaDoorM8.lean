-- laid together by this session's own program (wip/tools/merge.py) of texts that its program laid
import Derived.Test.YtgnonglkibhnhaaDoorM5
namespace Go.Proofs.YtgnonglkibhnhaaDoor.Print
open Go.RowKit Go.Proofs.YtgnonglkibhnhaaDoorW.PrintWords Go.Proofs.YtgnonglkibhnhaaDoorW.PrintLast Go.Proofs.YtgnonglkibhnhaaDoorW.PrintMore
attribute [local go_sem] a0o a0p a0R a0S Y5 Y6 a0q a0r
set_option linter.unusedVariables false
set_option linter.unusedSimpArgs false
set_option maxHeartbeats 16000000
set_option maxRecDepth 100000
def J8.l0 : Nat → List (S42) → List (S42) → Int → Option (Bool)
 | 0, _, _, _ => none
 | k + 1, x0, x1, x5 => if x5 < (x0.length : Int) then (if 0 ≤ x5 then (if x5 < (x1.length : Int) then (if ((J5 x0 x5).f0) = ((J5 x1 x5).f0) then (if ((J5 x0 x5).f1) = ((J5 x1 x5).f1) then (if (strOfNums ((J5 x0 x5).f2)).toList = (strOfNums ((J5 x1 x5).f2)).toList then (J8.l0 k x0 x1 (wrap64 (x5 + 1))) else (some false)) else (some false)) else (some false)) else (none)) else (none)) else (some true)
def J8.f (k : Nat) (l0 : List (S42)) (l1 : List (S42)) : Option (Bool) := if (l0.length : Int) = (l1.length : Int) then (J8.l0 k l0 l1 0) else (some false)
theorem J8.calls (k : Nat) (A0 : Option Addr) (c0 : Nat) (l0 : List (S42)) (A1 : Option Addr) (c1 : Nat) (l1 : List (S42)) (r : Bool) (w : World) (hr0 : Kd.C k42 w A0 l0.length l0) (hc0 : l0.length ≤ c0) (hr1 : Kd.C k42 w A1 l1.length l1) (hc1 : l1.length ≤ c1) (h : J8.f k l0 l1 = some r) :
  Calls Tryd.prog 12 #[.slice A0 l0.length c0, .slice A1 l1.length c1] w fun e w' => e = .returned (.bool r) ∧ G5 w w' := by
 have HR0 := a_ hr0
 have HC0 := a_ hc0
 clear hr0 hc0
 have HR1 := a_ hr1
 have HC1 := a_ hc1
 clear hr1 hc1
 have H := h
 clear h
 unfold J8.f at H
 by_cases c3 : (l0.length : Int) = (l1.length : Int)
 ·rw [if_pos c3] at H; have a3T := beq_iff_eq.mpr c3; have b1E := bne_eq_false_iff_eq.mpr c3; have f8a : (l0.length == l1.length) = true := by (simp at c3 ⊢; omega)
  clear c3; have H' := a_ H; clear H
  go_enter Tryd.func12, Tryd.ntmps12
  go_wp2
  go_loopg [5] k (fun kq v5 w' => ∃ (L9 : Int), v5 = .int .i64 L9 ∧ Aside0 (J8.l0 kq l0 l1 L9 = some r) ∧ Aside0 (kq ≤ k) ∧ G5 w w')
  case atStart => exact ⟨(0), (by rfl), H', ⟨Nat.le_refl _⟩, by exact G5.refl _⟩
  case round =>
   clear H'
   try clear a3T
   try clear b1E
   try clear f8a
   obtain ⟨L9, rfl, HA, HK1, ⟨m1, rfl⟩⟩ := hrel
   cases gk with
   | zero => exact absurd HA.out (by simp [J8.l0])
   | succ k1 =>
    have H := HA.out; clear HA
    simp only [J8.l0] at H
    by_cases c4 : L9 < (l0.length : Int)
    ·rw [if_pos c4] at H; have a4i := dt_ c4; clear c4; have a5H := a2x H; replace H := O5 H; have a8y := a2x H; replace H := O5 H
     by_cases c7 : ((J5 l0 L9).f0) = ((J5 l1 L9).f0)
     ·rw [if_pos c7] at H; obtain ⟨a6f, b0g⟩ := bt_ c7; clear c7
      by_cases c8 : ((J5 l0 L9).f1) = ((J5 l1 L9).f1)
      ·rw [if_pos c8] at H; obtain ⟨b2c, d3C⟩ := bt_ c8; clear c8
       by_cases c9 : (strOfNums ((J5 l0 L9).f2)).toList = (strOfNums ((J5 l1 L9).f2)).toList
       ·rw [if_pos c9] at H; obtain ⟨b2d, b8F⟩ := bt_ c9; clear c9; have H' := a_ H; clear H; have b4F : 0 ≤ (L9 : Int) := V5; have b4G : L9 < (l0.length : Int) := V5; obtain ⟨b6Y, b4H, b4I, c8T, c4e, c4f, a9F, a6T, a6U⟩ := a3o HR0.out L9 b4F b4G
        cases c8T
        have c4g := a_ a6U; have c4h := a_ a6T; clear a6U a6T; replace b4F := eq_true b4F; replace b4G := eq_true b4G; have b4J : 0 ≤ (L9 : Int) := V5; have b4K : L9 < (l1.length : Int) := V5; obtain ⟨b6Z, b4L, b4M, c8U, c4i, c4j, a9G, a6V, a6W⟩ := a3o HR1.out L9 b4J b4K
        cases c8U
        have c4k := a_ a6W; have c4l := a_ a6V; clear a6W a6V; replace b4J := eq_true b4J; replace b4K := eq_true b4K; have b9M : 0 ≤ (L9 : Int) := V5; have b9N : L9 < (l0.length : Int) := V5; obtain ⟨c6C, d8R, d8S, e203, d2n, d2o, b5R, a9H, a9I⟩ := a3o HR0.out L9 b9M b9N; obtain rfl : b6Y = c6C := (by injection e203); have d2p := a_ a9I; have d2q := a_ a9H; clear a9I a9H; replace b9M := eq_true b9M; replace b9N := eq_true b9N; have ea_ := oj_ (a9F.symm.trans b5R); injection ea_ with ea_ en_ ec_
        subst ea_; subst ec_; clear en_; have b9O : 0 ≤ (L9 : Int) := V5; have b9P : L9 < (l1.length : Int) := V5; obtain ⟨c6D, d8T, d8U, e204, d2r, d2s, b5S, a9J, a9K⟩ := a3o HR1.out L9 b9O b9P; obtain rfl : b6Z = c6D := (by injection e204); have d2t := a_ a9K; have d2u := a_ a9J; clear a9K a9J; replace b9O := eq_true b9O; replace b9P := eq_true b9P; have ea_ := oj_ (a9G.symm.trans b5S); injection ea_ with ea_ en_ ec_
        subst ea_; subst ec_; clear en_; have c8V : 0 ≤ (L9 : Int) := V5; have c8W : L9 < (l0.length : Int) := V5; obtain ⟨d8V, f0F, f0G, f0H, e3M, e3N, c4o, b5T, b5U⟩ := a3o HR0.out L9 c8V c8W; obtain rfl : b6Y = d8V := (by injection f0H); have b5V := a_ b5U; have e3O := a_ b5T; clear b5U b5T; replace c8V := eq_true c8V; replace c8W := eq_true c8W; have ea_ := oj_ (a9F.symm.trans c4o); injection ea_ with ea_ en_ ec_
        subst ea_; subst ec_; clear en_; have h0R := fun m_ : Nat => Kd.a2r (P := Tryd.prog) (A := b4H) (c := b4I) Tryd.underlying22 Tryd.underlying5 Tryd.underlying9 (Kd.a7A b5V.out m_)
        have h0S := Kd.a2r (P := Tryd.prog) (A := b4H) (c := b4I) Tryd.underlying22 Tryd.underlying5 Tryd.underlying9 b5V.out; have c8X : 0 ≤ (L9 : Int) := V5; have c8Y : L9 < (l1.length : Int) := V5; obtain ⟨d8W, f0I, f0J, e206, e3P, e3Q, c4p, b5W, b5X⟩ := a3o HR1.out L9 c8X c8Y; obtain rfl : b6Z = d8W := (by injection e206); have b5Y := a_ b5X; have e3R := a_ b5W; clear b5X b5W; replace c8X := eq_true c8X; replace c8Y := eq_true c8Y; have ea_ := oj_ (a9G.symm.trans c4p); injection ea_ with ea_ en_ ec_
        subst ea_; subst ec_; clear en_; have h0T := fun m_ : Nat => Kd.a2r (P := Tryd.prog) (A := b4L) (c := b4M) Tryd.underlying22 Tryd.underlying5 Tryd.underlying9 (Kd.a7A b5Y.out m_)
        have h0U := Kd.a2r (P := Tryd.prog) (A := b4L) (c := b4M) Tryd.underlying22 Tryd.underlying5 Tryd.underlying9 b5Y.out
        go_wp2
        repeat (go_quiet (fail); try go_wp2)
        go_roundg k1
        case measure => have := HK1.out; omega
        case rel => exact ⟨(wrap64 (L9 + 1)), (by rfl), H', ⟨by have := HK1.out; omega⟩, by repeat (first | exact G5.refl _ | apply G5.step)⟩
       ·rw [if_neg c9] at H; have b2d := bq_ c9; have b8F := bn_ c9; obtain rfl := oj_ H; have b4F : 0 ≤ (L9 : Int) := V5; have b4G : L9 < (l0.length : Int) := V5; obtain ⟨b6Y, b4H, b4I, c8T, c4e, c4f, a9F, a6T, a6U⟩ := a3o HR0.out L9 b4F b4G
        cases c8T
        have c4g := a_ a6U; have c4h := a_ a6T; clear a6U a6T; replace b4F := eq_true b4F; replace b4G := eq_true b4G; have b4J : 0 ≤ (L9 : Int) := V5; have b4K : L9 < (l1.length : Int) := V5; obtain ⟨b6Z, b4L, b4M, c8U, c4i, c4j, a9G, a6V, a6W⟩ := a3o HR1.out L9 b4J b4K
        cases c8U
        have c4k := a_ a6W; have c4l := a_ a6V; clear a6W a6V; replace b4J := eq_true b4J; replace b4K := eq_true b4K; have b9M : 0 ≤ (L9 : Int) := V5; have b9N : L9 < (l0.length : Int) := V5; obtain ⟨c6C, d8R, d8S, e203, d2n, d2o, b5R, a9H, a9I⟩ := a3o HR0.out L9 b9M b9N; obtain rfl : b6Y = c6C := (by injection e203); have d2p := a_ a9I; have d2q := a_ a9H; clear a9I a9H; replace b9M := eq_true b9M; replace b9N := eq_true b9N; have ea_ := oj_ (a9F.symm.trans b5R); injection ea_ with ea_ en_ ec_
        subst ea_; subst ec_; clear en_; have b9O : 0 ≤ (L9 : Int) := V5; have b9P : L9 < (l1.length : Int) := V5; obtain ⟨c6D, d8T, d8U, e204, d2r, d2s, b5S, a9J, a9K⟩ := a3o HR1.out L9 b9O b9P; obtain rfl : b6Z = c6D := (by injection e204); have d2t := a_ a9K; have d2u := a_ a9J; clear a9K a9J; replace b9O := eq_true b9O; replace b9P := eq_true b9P; have ea_ := oj_ (a9G.symm.trans b5S); injection ea_ with ea_ en_ ec_
        subst ea_; subst ec_; clear en_; have c8V : 0 ≤ (L9 : Int) := V5; have c8W : L9 < (l0.length : Int) := V5; obtain ⟨d8V, f0F, f0G, f0H, e3M, e3N, c4o, b5T, b5U⟩ := a3o HR0.out L9 c8V c8W; obtain rfl : b6Y = d8V := (by injection f0H); have b5V := a_ b5U; have e3O := a_ b5T; clear b5U b5T; replace c8V := eq_true c8V; replace c8W := eq_true c8W; have ea_ := oj_ (a9F.symm.trans c4o); injection ea_ with ea_ en_ ec_
        subst ea_; subst ec_; clear en_; have e5E := fun m_ : Nat => Kd.a2r (P := Tryd.prog) (A := b4H) (c := b4I) Tryd.underlying22 Tryd.underlying5 Tryd.underlying9 (Kd.a7A b5V.out m_)
        have h0V := Kd.a2r (P := Tryd.prog) (A := b4H) (c := b4I) Tryd.underlying22 Tryd.underlying5 Tryd.underlying9 b5V.out; have c8X : 0 ≤ (L9 : Int) := V5; have c8Y : L9 < (l1.length : Int) := V5; obtain ⟨d8W, f0I, f0J, e206, e3P, e3Q, c4p, b5W, b5X⟩ := a3o HR1.out L9 c8X c8Y; obtain rfl : b6Z = d8W := (by injection e206); have b5Y := a_ b5X; have e3R := a_ b5W; clear b5X b5W; replace c8X := eq_true c8X; replace c8Y := eq_true c8Y; have ea_ := oj_ (a9G.symm.trans c4p); injection ea_ with ea_ en_ ec_
        subst ea_; subst ec_; clear en_; have h0W := fun m_ : Nat => Kd.a2r (P := Tryd.prog) (A := b4L) (c := b4M) Tryd.underlying22 Tryd.underlying5 Tryd.underlying9 (Kd.a7A b5Y.out m_)
        have h0X := Kd.a2r (P := Tryd.prog) (A := b4L) (c := b4M) Tryd.underlying22 Tryd.underlying5 Tryd.underlying9 b5Y.out
        go_wp2
        repeat (go_quiet (fail); try go_wp2)
        go_ret
        exact ⟨by (rfl), by repeat (first | exact G5.refl _ | apply G5.step)⟩
      ·rw [if_neg c8] at H; have b2c := bq_ c8; have d3C := bn_ c8; obtain rfl := oj_ H; have b4F : 0 ≤ (L9 : Int) := V5; have b4G : L9 < (l0.length : Int) := V5; obtain ⟨b6Y, b4H, b4I, c8T, c4e, c4f, a9F, a6T, a6U⟩ := a3o HR0.out L9 b4F b4G
       cases c8T
       have c4g := a_ a6U; have c4h := a_ a6T; clear a6U a6T; replace b4F := eq_true b4F; replace b4G := eq_true b4G; have b4J : 0 ≤ (L9 : Int) := V5; have b4K : L9 < (l1.length : Int) := V5; obtain ⟨b6Z, b4L, b4M, c8U, c4i, c4j, a9G, a6V, a6W⟩ := a3o HR1.out L9 b4J b4K
       cases c8U
       have c4k := a_ a6W; have c4l := a_ a6V; clear a6W a6V; replace b4J := eq_true b4J; replace b4K := eq_true b4K; have b9M : 0 ≤ (L9 : Int) := V5; have b9N : L9 < (l0.length : Int) := V5; obtain ⟨c6C, d8R, d8S, e203, d2n, d2o, b5R, a9H, a9I⟩ := a3o HR0.out L9 b9M b9N; obtain rfl : b6Y = c6C := (by injection e203); have d2p := a_ a9I; have d2q := a_ a9H; clear a9I a9H; replace b9M := eq_true b9M; replace b9N := eq_true b9N; have ea_ := oj_ (a9F.symm.trans b5R); injection ea_ with ea_ en_ ec_
       subst ea_; subst ec_; clear en_; have b9O : 0 ≤ (L9 : Int) := V5; have b9P : L9 < (l1.length : Int) := V5; obtain ⟨c6D, d8T, d8U, e204, d2r, d2s, b5S, a9J, a9K⟩ := a3o HR1.out L9 b9O b9P; obtain rfl : b6Z = c6D := (by injection e204); have d2t := a_ a9K; have d2u := a_ a9J; clear a9K a9J; replace b9O := eq_true b9O; replace b9P := eq_true b9P; have ea_ := oj_ (a9G.symm.trans b5S); injection ea_ with ea_ en_ ec_
       subst ea_; subst ec_; clear en_
       go_wp2
       repeat (go_quiet (fail); try go_wp2)
       go_ret
       exact ⟨by (rfl), by repeat (first | exact G5.refl _ | apply G5.step)⟩
     ·rw [if_neg c7] at H; have a6f := bq_ c7; have b0g := bn_ c7; obtain rfl := oj_ H; have b4F : 0 ≤ (L9 : Int) := V5; have b4G : L9 < (l0.length : Int) := V5; obtain ⟨b6Y, b4H, b4I, c8T, c4e, c4f, a9F, a6T, a6U⟩ := a3o HR0.out L9 b4F b4G
      cases c8T
      have c4g := a_ a6U; have c4h := a_ a6T; clear a6U a6T; replace b4F := eq_true b4F; replace b4G := eq_true b4G; have b4J : 0 ≤ (L9 : Int) := V5; have b4K : L9 < (l1.length : Int) := V5; obtain ⟨b6Z, b4L, b4M, c8U, c4i, c4j, a9G, a6V, a6W⟩ := a3o HR1.out L9 b4J b4K
      cases c8U
      have c4k := a_ a6W; have c4l := a_ a6V; clear a6W a6V; replace b4J := eq_true b4J; replace b4K := eq_true b4K
      go_wp2
      repeat (go_quiet (fail); try go_wp2)
      go_ret
      exact ⟨by (rfl), by repeat (first | exact G5.refl _ | apply G5.step)⟩
    ·rw [if_neg c4] at H; have a4i := df_ c4; clear c4; obtain rfl := oj_ H
     go_wp2
     go_ret
     exact ⟨by (rfl), by repeat (first | exact G5.refl _ | apply G5.step)⟩
 ·rw [if_neg c3] at H; have a3T := bq_ c3; have b1E := bn_ c3; have f8a : (l0.length == l1.length) = false := by (simp at c3 ⊢; omega)
  obtain rfl := oj_ H
  go_enter Tryd.func12, Tryd.ntmps12
  go_wp2
  go_ret
  exact ⟨by (rfl), by exact G5.refl _⟩
def y7.f (l0 : List (List Int)) : Option (List Int) := if l0.flatten.length < 140737488355328 then some l0.flatten else none
def y7.tot (l : List (List Int)) (j : Nat) : Nat := (l.take j).flatten.length
def y7.pre (l : List (List Int)) (j : Nat) : List Int := (l.take j).flatten
theorem y7.c1p (l : List (List Int)) (j : Nat) (h : j < l.length) : y7.pre l (j + 1) = y7.pre l j ++ a18 l (j : Int) := by
 unfold y7.pre a18
 rw [List.take_succ_eq_append_getElem h, List.flatten_append]
 simp [h]
theorem y7.c6E (l : List (List Int)) (j : Nat) (h : j < l.length) : y7.tot l (j + 1) = y7.tot l j + (a18 l (j : Int)).length := by
 have := congrArg List.length (y7.c1p l j h)
 rw [List.length_append] at this
 exact this
theorem y7.e3S (l : List (List Int)) (j : Nat) (h : j = l.length) : y7.tot l j = l.flatten.length := by
 unfold y7.tot
 rw [List.take_of_length_le (by omega)]
theorem y7.c4q (l : List (List Int)) (j : Nat) : y7.tot l j ≤ l.flatten.length := by
 unfold y7.tot
 conv => rhs; rw [← List.take_append_drop j l, List.flatten_append, List.length_append]
 omega
theorem y7.calls (A0 : Option Addr) (c0 : Nat) (l0 : List (List Int)) (r : List Int) (w : World) (hr0 : Kd.C (Kd.slice 5 (Kd.int .u8)) w A0 l0.length l0) (hc0 : l0.length ≤ c0) (h : y7.f l0 = some r) :
  Calls Tryd.prog 73 #[.slice A0 l0.length c0] w fun e w' => ∃ v0_ : Value, e = .returned (v0_) ∧ Kd.R (Kd.int .u8) 5 w' w.heap.size (fun _ => True) v0_ r ∧ Below w.heap.size w w' := by
 obtain ⟨hl, rfl⟩ : l0.flatten.length < 140737488355328 ∧ l0.flatten = r := by
  unfold y7.f at h
  split at h
  ·exact ⟨by assumption, oj_ h⟩
  ·cases h
 have HR0 := a_ hr0
 have HC0 := a_ hc0
 have HB := a_ (Below.refl w.heap.size w)
 have HL := a_ hl
 have HN := a_ hr0.2.1
 clear h hl hr0 hc0
 go_enter Tryd.func73, Tryd.ntmps73
 go_wp2
 go_loop [3, 11] (fun v3 v11 => ∃ j : Nat, j ≤ l0.length ∧ v11 = .int .i64 (j : Int) ∧ v3 = .int .i64 (y7.tot l0 j : Int)) (fun _ v11 => l0.length - (intOf v11).toNat)
 case atStart => exact ⟨0, Nat.zero_le _, rfl, rfl⟩
 case round =>
  obtain ⟨j, hj, rfl, rfl⟩ := hrel; have ht := Nat.lt_of_le_of_lt (y7.c4q l0 j) HL.out; have hn := HN.out
  by_cases hlt : j < l0.length
  ·have f0K : 0 ≤ (j : Int) := by omega
   have f0L : (j : Int) < (l0.length : Int) := by omega
   obtain ⟨f8b, f0M, f0N, e304, b5Z, d2v, c4r⟩ := b3D HR0.out (j : Int) f0K f0L
   cases e304
   simp only [Int.toNat_natCast] at b5Z
   have hs := y7.c6E l0 j hlt; have ht2 := Nat.lt_of_le_of_lt (y7.c4q l0 (j + 1)) HL.out; have hW : wrap64 ((y7.tot l0 j : Int) + ((a18 l0 (j : Int)).length : Int)) = (y7.tot l0 j : Int) + ((a18 l0 (j : Int)).length : Int) := by
    unfold wrap64
    omega
   have hneg : decide (wrap64 ((y7.tot l0 j : Int) + ((a18 l0 (j : Int)).length : Int)) < 0) = false := by
    rw [hW]; exact df_ (by omega)
   have HS := a_ hs; have HW := a_ hW; clear hs ht ht2 hW
   go_wp2
   go_round
   case rel => exact ⟨j + 1, by omega, by go_num, by rw [HS.out, HW.out]; go_num⟩
   case measure => simp [intOf]; omega
  ·have ht' := y7.e3S l0 j (by omega); have HT := a_ ht'; clear ht' ht; have hg := Nat.lt_of_le_of_lt (y7.c4q l0 j) HL.out; obtain rfl : j = l0.length := by omega
   clear hlt hj hn
   go_wp2_with fail
   refine (b1F.d3R (y7.tot l0 l0.length) _ hg).mono ?_; rintro e w1 ⟨v6_, rfl, hR6, hB6⟩; clear hg; have a0Y := a_ hR6; have HB1 := a_ hB6; clear hR6 hB6 HB
   go_wp2
   go_loopg [6, 27] l0.length (fun kq v6 v27 w' => ∃ j : Nat, Aside0 (kq + j = l0.length) ∧ v27 = .int .i64 (j : Int) ∧ Aside0 (Kd.R (Kd.int .u8) 5 w' w.heap.size (fun _ => True) v6 (y7.pre l0 j)) ∧ Aside0 (Below w.heap.size w w'))
   case atStart => exact ⟨0, ⟨rfl⟩, rfl, a0Y, HB1⟩
   case round =>
    obtain ⟨j, HJ, rfl, c3V, HB⟩ := hrel; have hj := HJ.out; have hn := HN.out; have hjl : j ≤ l0.length := by omega
    by_cases hlt : j < l0.length
    ·obtain ⟨k1, rfl⟩ : ∃ k1, gk = k1 + 1 := ⟨gk - 1, by omega⟩; have f0K : 0 ≤ (j : Int) := by omega
     have f0L : (j : Int) < (l0.length : Int) := by omega
     obtain ⟨f8b, f0M, f0N, e304, b5Z, d2v, c4r⟩ := b3D HR0.out (j : Int) f0K f0L
     cases e304
     simp only [Int.toNat_natCast] at b5Z
     replace b5Z := cb_ HB b5Z; have e3T := a_ c4r; have HS := a_ (y7.c1p l0 j hlt); have LM : Aside0 ((y7.pre l0 j).length + (a18 l0 (j : Int)).length < 140737488355328) := ⟨by
      have h1 := y7.c6E l0 j hlt; have h2 := Nat.lt_of_le_of_lt (y7.c4q l0 (j + 1)) HL.out; unfold y7.tot at h1 h2; unfold y7.pre
      omega⟩
     clear c4r d2v hj
     go_wp2_with (((with_reducible refine E8 (b := .append) (xs := #[.tmp 31, .tmp 32]) rfl ?_); at_builtin; refine Kd.P7 (Kd.int .u8) (w0 := w) w.heap.size rfl (.tmp 31) (.tmp 32) 22 5 (.int .u8 0) 1 rfl Tryd.underlying22 info5 rfl (by decide) (by omega) u6 (y7.pre l0 j) (a18 l0 (j : Int)) _ _ _ (fun _ => True) (fun _ => False) rfl rfl ?aO ?aR (fun _ _ h => h) (fun _ h => h.elim) ?aF ?aB ?aS ?aL ?_; (case aR => exact (Kd.y9 e3T.out HB.out)); (case aB => exact HB.out); (case aF => exact (fun _ _ => trivial)); (case aO => exact c3V.out); (case aS => exact y5 HB.out); (case aL => have := LM.out; omega); intro h5l w5 ho hb hg hat; rw [← HS.out] at ho; have f8c := a_ ho; replace HB := a_ hb; clear c3V ho hb hg hat))
     go_roundg k1
     case measure => omega
     case rel => exact ⟨j + 1, ⟨by have := HJ.out; omega⟩, by go_num, f8c, HB⟩
    ·have hp : y7.pre l0 j = l0.flatten := by
      unfold y7.pre; rw [List.take_of_length_le (by omega)]
     have HP := a_ hp; clear hp hj
     go_wp2
     go_ret
     exact ⟨_, rfl, by rw [← HP.out]; exact c3V.out, HB.out⟩
def a3U.f (a0 : Int) (a1 : Int) : Option (Bool) := if a1 = 125 then (some true) else (if a1 = 126 then (some true) else ((a4E.f a0 a1).bind fun t210 => (some t210)))
theorem a3U.calls (a0 : Int) (a1 : Int) (r : Bool) (w : World) (h : a3U.f a0 a1 = some r) :
  Calls Tryd.prog 108 #[.int .u32 a0, .int .u8 a1] w fun e w' => e = .returned (.bool r) ∧ G5 w w' := by
 have H := h
 clear h
 unfold a3U.f at H
 by_cases c3 : a1 = 125
 ·rw [if_pos c3] at H; obtain ⟨a3T, b1E⟩ := bt_ c3; clear c3; obtain rfl := oj_ H
  go_enter Tryd.func108, Tryd.ntmps108
  go_wp2
  go_ret
  exact ⟨by (rfl), by exact G5.refl _⟩
 ·rw [if_neg c3] at H; have a3T := bq_ c3; have b1E := bn_ c3
  by_cases c4 : a1 = 126
  ·rw [if_pos c4] at H; obtain ⟨a4i, b2z⟩ := bt_ c4; clear c4; obtain rfl := oj_ H
   go_enter Tryd.func108, Tryd.ntmps108
   go_wp2
   go_ret
   exact ⟨by (rfl), by exact G5.refl _⟩
  ·rw [if_neg c4] at H; have a4i := bq_ c4; have b2z := bn_ c4; obtain ⟨t210, A5, H⟩ := bd_ H
   (try dsimp only at H); obtain rfl := oj_ H
   go_enter Tryd.func108, Tryd.ntmps108
   go_wp2_with (first | (go_at_call 111; (with_reducible refine (a4E.calls a0 a1 t210 _ A5.out).mono ?_); rintro e w' ⟨rfl, ⟨nd, rfl⟩⟩))
   go_ret
   exact ⟨by (rfl), by repeat (first | exact G5.refl _ | apply G5.step)⟩
def F6.piece (m c : Int) : List Int := if (a3U.f m c).getD false = true then [125, Go.bits .xor .u8 c 32] else [c]
def F6.pre (m : Int) (l : List Int) (j : Nat) : List Int := ((l.take j).map (F6.piece m)).flatten
def F6.f (l0 : List Int) (a1 : Int) : Option (List Int) := if (l0.all fun c => (a3U.f a1 c).isSome) = true ∧ (l0.map (F6.piece a1)).flatten.length < 140737488355328 then some (l0.map (F6.piece a1)).flatten else none
theorem F6.d8X (m : Int) (l : List Int) (j : Nat) (h : j < l.length) : F6.pre m l (j + 1) = F6.pre m l j ++ F6.piece m (rd l (j : Int)) := by
 unfold F6.pre rd
 rw [List.take_succ_eq_append_getElem h, List.map_append, List.flatten_append]
 simp [h]
theorem F6.f0O (m : Int) (l : List Int) (j : Nat) : (F6.pre m l j).length ≤ (l.map (F6.piece m)).flatten.length := by
 unfold F6.pre
 conv => rhs; rw [← List.take_append_drop j l, List.map_append, List.flatten_append, List.length_append]
 omega
theorem F6.e3U (m : Int) (l : List Int) (j : Nat) (h : l.length ≤ j) : F6.pre m l j = (l.map (F6.piece m)).flatten := by
 unfold F6.pre
 rw [List.take_of_length_le h]
structure F6.Inv (w0 W : World) (B : Nat) (acc : List Int) : Prop where mk :: (out : ∃ v : Value, W.heap[B]? = some (.cells #[v] 22 (0, 0)) ∧ Kd.R (Kd.int .u8) 5 W w0.heap.size (fun _ => True) v acc ∧ Below w0.heap.size w0 W ∧ w0.heap.size ≤ B)
theorem F6.Inv.drewN {w0 W : World} {B : Nat} {acc : List Int} (h : F6.Inv w0 W B acc) (n : Nat) : F6.Inv w0 (W.drewN n) B acc := by
 obtain ⟨v, h1, h2, h3, h4⟩ := h.out
 exact ⟨⟨v, h1, Kd.a06 h2 n, o9 h3 n, h4⟩⟩
theorem F6.put (w0 W : World) (B : Nat) (acc : List Int) (c : Int) (hI : F6.Inv w0 W B acc) (hl : acc.length + 1 < 140737488355328) :
  Calls Tryd.prog 103 #[.int .u8 c, .pointer (some ⟨B, 0, none⟩)] W fun e w' => e = .returned (.tuple #[]) ∧ F6.Inv w0 w' B (acc ++ [c]) := by
 obtain ⟨v, hblk, hR, hB, hBg⟩ := hI.out
 have hcell : W.cell? ⟨B, 0, none⟩ = some v := D6 hblk 0
 have HBK := a_ hblk
 have HO := a_ hR
 have HB := a_ hB
 have HG := a_ hBg
 have HL := a_ hl
 clear hI hblk hR hB hBg hl
 go_enter Tryd.func103, Tryd.ntmps103
 go_wp2_with (((with_reducible refine E8 (b := .append) (xs := #[.tmp 3, .tmp 5]) rfl ?_); at_builtin; refine Kd.a2Q (Kd.int .u8) (w0 := w0) w0.heap.size rfl (.tmp 3) (.tmp 5) 22 5 (.int .u8 0) 1 rfl Tryd.underlying22 info5 rfl (by decide) (by omega) v acc c [.int .u8 c] (fun _ => True) (fun _ => False) rfl rfl ?aP (fun _ hk => hk.elim) ?aF ?aO ?aB ?aS ?aL ?_; (case aP => exact rfl); (case aB => exact HB.out); (case aF => exact (fun _ _ => trivial)); (case aO => exact HO.out); (case aS => exact HB.out.size); (case aL => have := HL.out; omega); intro v1 w1 ho hb hg hat; obtain ⟨Ao1, co1, eo1⟩ := Kd.G7 ho; subst eo1; have hne := Kd.a6B HO.out HBK.out (by decide); have hblk1 := J7 HBK.out hg hne; have hcell1 : w1.cell? ⟨B, 0, none⟩ = some v := D6 hblk1 0; have h5p : w1.frozen? ⟨B, 0, none⟩ = false := l7 hblk1 0; have HO1 := a_ ho; have HB1 := a_ hb; have f8d := a_ hblk1; clear ho hb hg hat hne hblk1))
 go_end0
 refine ⟨rfl, ⟨⟨_, a3Z f8d.out 0 _, ?_, o7 HB1.out HG.out, HG.out⟩⟩⟩
 have h := Kd.c0q HO1.out f8d.out (by decide) 0 (.slice Ao1 (acc ++ [c]).length co1)
 simp only [List.length_append, List.length_singleton] at h ⊢
 exact h
theorem F6.each (w0 W : World) (B : Nat) (A0 : Option Addr) (c0 : Nat) (l0 : List Int) (a1 : Int) (hr0 : Kd.C (Kd.int .u8) w0 A0 l0.length l0) (hc0 : l0.length ≤ c0) (hs : (l0.all fun c => (a3U.f a1 c).isSome) = true) (hl : (l0.map (F6.piece a1)).flatten.length < 140737488355328) (hI : F6.Inv w0 W B []) :
  Calls Tryd.prog 102 #[.slice A0 l0.length c0, .int .u32 a1, .func (.func 103) #[] #[.pointer (some ⟨B, 0, none⟩)]] W fun e w' => e = .returned (.tuple #[]) ∧ F6.Inv w0 w' B (l0.map (F6.piece a1)).flatten := by
 have HR0 := a_ hr0
 have HN := a_ hr0.2.1
 have HI := a_ hI
 have HL := a_ hl
 have HS := a_ hs
 clear hr0 hc0 hI hl hs
 go_enter Tryd.func102, Tryd.ntmps102
 go_wp2
 go_loopg [10] l0.length (fun kq v10 w' => ∃ j : Nat, Aside0 (kq + j = l0.length) ∧ v10 = .int .i64 (j : Int) ∧ Aside0 (F6.Inv w0 w' B (F6.pre a1 l0 j)))
 case atStart => exact ⟨0, ⟨rfl⟩, rfl, HI⟩
 case round =>
  obtain ⟨j, HJ, rfl, HI⟩ := hrel; have hj := HJ.out; have hn := HN.out; have hjl : j ≤ l0.length := by omega
  by_cases hlt : j < l0.length
  ·obtain ⟨k1, rfl⟩ : ∃ k1, gk = k1 + 1 := ⟨gk - 1, by omega⟩; have hB := HI.out.out.choose_spec.2.2.1; have p1 : 0 ≤ (j : Int) := by omega
   have q1 : (j : Int) < (l0.length : Int) := by omega
   obtain ⟨ad, e1, hx⟩ := Kd.Q7 HR0.out (j : Int) p1 q1
   cases e1
   simp only [Int.toNat_natCast] at hx
   replace hx := (hB.cell (World.block_lt_of_cell? w0 _ hx)).trans hx; obtain ⟨t, ht⟩ : ∃ t, a3U.f a1 (rd l0 (j : Int)) = some t := by
    have h1 := List.all_eq_true.1 HS.out (rd l0 (j : Int)) (by unfold rd; rw [Int.toNat_natCast, List.getD_eq_getElem?_getD, List.getElem?_eq_getElem hlt]; exact List.getElem_mem hlt); exact Option.isSome_iff_exists.1 h1
   have HT := a_ ht; have HP := a_ (F6.d8X a1 l0 j hlt); have LM := a_ (F6.f0O a1 l0 (j + 1)); have HPC : Aside0 (F6.piece a1 (rd l0 (j : Int)) = if t = true then [125, Go.bits .xor .u8 (rd l0 (j : Int)) 32] else [rd l0 (j : Int)]) := ⟨by unfold F6.piece; rw [HT.out]; rfl⟩; clear hB ht hj; have LB : Aside0 ((F6.pre a1 l0 j ++ F6.piece a1 (rd l0 (j : Int))).length < 140737488355328) := ⟨by rw [← HP.out]; exact Nat.lt_of_le_of_lt LM.out HL.out⟩
   cases t with
   | true =>
    have d3Z : Aside0 (F6.piece a1 (rd l0 (j : Int)) = [125, Go.bits .xor .u8 (rd l0 (j : Int)) 32]) := ⟨HPC.out⟩
    go_wp2_with fail
    refine (a3U.calls a1 (rd l0 (j : Int)) true _ HT.out).mono ?_; rintro e w1 ⟨rfl, ⟨nd, rfl⟩⟩
    go_wp2_with fail
    refine (F6.put w0 _ B (F6.pre a1 l0 j) 125 (HI.out.drewN nd) ?_).mono ?_
    ·have := LB.out; rw [d3Z.out, List.length_append] at this
     simp only [List.length_cons, List.length_nil] at this
     omega
    rintro e w2 ⟨rfl, hI2⟩; have HI2 := a_ hI2; clear hI2
    go_wp2_with fail
    refine (F6.put w0 _ B (F6.pre a1 l0 j ++ [125]) _ HI2.out ?_).mono ?_
    ·have := LB.out; rw [d3Z.out, List.length_append] at this
     simp only [List.length_cons, List.length_nil] at this
     simp only [List.length_append, List.length_cons, List.length_nil]
     omega
    rintro e w3 ⟨rfl, hI3⟩; have HI3 := a_ hI3; clear hI3
    go_wp2
    go_roundg k1
    case measure => omega
    case rel => exact ⟨j + 1, ⟨by have := HJ.out; omega⟩, by go_num, ⟨by rw [HP.out, d3Z.out]; have := HI3.out; rw [List.append_assoc] at this; exact this⟩⟩
   | false =>
    have d3Z : Aside0 (F6.piece a1 (rd l0 (j : Int)) = [rd l0 (j : Int)]) := ⟨HPC.out⟩
    go_wp2_with fail
    refine (a3U.calls a1 (rd l0 (j : Int)) false _ HT.out).mono ?_; rintro e w1 ⟨rfl, ⟨nd, rfl⟩⟩
    go_wp2_with fail
    refine (F6.put w0 _ B (F6.pre a1 l0 j) _ (HI.out.drewN nd) ?_).mono ?_
    ·have := LB.out; rw [d3Z.out, List.length_append] at this
     simp only [List.length_cons, List.length_nil] at this
     omega
    rintro e w2 ⟨rfl, hI2⟩; have HI2 := a_ hI2; clear hI2
    go_wp2
    go_roundg k1
    case measure => omega
    case rel => exact ⟨j + 1, ⟨by have := HJ.out; omega⟩, by go_num, ⟨by rw [HP.out, d3Z.out]; exact HI2.out⟩⟩
  ·go_wp2
   go_end0
   exact ⟨rfl, by rw [← F6.e3U a1 l0 j (by omega)]; exact HI.out⟩
theorem F6.calls (A0 : Option Addr) (c0 : Nat) (l0 : List Int) (a1 : Int) (r : List Int) (w : World) (hr0 : Kd.C (Kd.int .u8) w A0 l0.length l0) (hc0 : l0.length ≤ c0) (h : F6.f l0 a1 = some r) :
  Calls Tryd.prog 87 #[.slice A0 l0.length c0, .int .u32 a1] w fun e w' => ∃ v0_ : Value, e = .returned (v0_) ∧ Kd.R (Kd.int .u8) 5 w' w.heap.size (fun _ => True) v0_ r ∧ Below w.heap.size w w' := by
 obtain ⟨⟨hs, hl⟩, rfl⟩ : ((l0.all fun c => (a3U.f a1 c).isSome) = true ∧ (l0.map (F6.piece a1)).flatten.length < 140737488355328) ∧ (l0.map (F6.piece a1)).flatten = r := by
  unfold F6.f at h
  split at h
  ·exact ⟨by assumption, oj_ h⟩
  ·cases h
 have HC := a_ hr0
 have HC0 := a_ hc0
 have HS := a_ hs
 have HL := a_ hl
 clear h hs hl hr0 hc0
 go_enter Tryd.func87, Tryd.ntmps87
 go_wp2_with fail
 refine (F6.each w _ w.heap.size A0 c0 l0 a1 HC.out HC0.out HS.out HL.out ⟨⟨.slice none 0 0, heap_alloc_new w _, Kd.Y2 _ _ _ _ _, a0A (Below.refl _ _) _, Nat.le_refl _⟩⟩).mono ?_
 rintro e w1 ⟨rfl, hI⟩
 obtain ⟨v, hblk, hR, hB, _⟩ := hI.out
 have hcell : w1.cell? ⟨w.heap.size, 0, none⟩ = some v := D6 hblk 0
 have HR := a_ hR
 have HB := a_ hB
 clear hI hblk hR hB
 go_wp2
 go_ret
 exact ⟨_, rfl, HR.out, HB.out⟩
def b9Q.f (l0 : List Int) (a1 : Bool) : Option (Int) := (a4d.f a1).bind fun d8Y => ((a0j.f d8Y l0 a1).bind fun t212 => ((a4d.f a1).bind fun t213 => (some (Go.bits .xor .u32 t212 t213))))
theorem b9Q.calls (A0 : Option Addr) (c0 : Nat) (l0 : List Int) (a1 : Bool) (r : Int) (w : World) (hr0 : Kd.C (Kd.int .u8) w A0 l0.length l0) (hc0 : l0.length ≤ c0) (h : b9Q.f l0 a1 = some r) :
  Calls Tryd.prog 104 #[.slice A0 l0.length c0, .bool a1] w fun e w' => e = .returned (.int .u32 r) ∧ Below w.heap.size w w' := by
 have HR0 := a_ hr0
 have HC0 := a_ hc0
 clear hr0 hc0
 have HB := a_ (Below.refl w.heap.size w)
 have H := h
 clear h
 unfold b9Q.f at H
 obtain ⟨d8Y, A3, H⟩ := bd_ H
 try dsimp only at H
 obtain ⟨t212, A4, H⟩ := bd_ H
 try dsimp only at H
 obtain ⟨t213, A5, H⟩ := bd_ H
 try dsimp only at H
 obtain rfl := oj_ H
 go_enter Tryd.func104, Tryd.ntmps104
 go_wp2_with (first | (refine gl_ (some 6) Tryd.func110 #[.bool a1] ?_; (with_reducible refine (a4d.calls a1 d8Y _ A3.out).mono ?_); rintro e w' ⟨rfl, ⟨nd, rfl⟩⟩; refine ⟨_, rfl, ?_⟩) | (refine gl_ (some 9) Tryd.func109 #[.int .u32 d8Y, .slice A0 l0.length c0, .bool a1] ?_; (with_reducible refine (a0j.calls d8Y _ _ l0 a1 t212 _ ?P9 ?P6 A4.out).mono ?_); (case P9 => exact HR0.out); (case P6 => exact HC0.out); rintro e w6 ⟨rfl, hb⟩; refine ⟨_, rfl, ?_⟩; replace HB := a_ (J6 (by repeat (with_reducible first | exact HB.out | apply o9)) hb); (try clear hb)) | (refine gl_ (some 11) Tryd.func110 #[.bool a1] ?_; (with_reducible refine (a4d.calls a1 t213 _ A5.out).mono ?_); rintro e w' ⟨rfl, ⟨nd, rfl⟩⟩; refine ⟨_, rfl, ?_⟩))
 go_ret
 exact ⟨by (rfl), by repeat (with_reducible first | exact HB.out | apply o9)⟩
def a5x.l0 : Nat → List Int → Int → Int → Int → Option (List Int)
 | 0, _, _, _, _ => none
 | k + 1, x5, x6, x13, x14 => if x14 < x13 then (if x5.length < 140737488355328 then (a5x.l0 k (x5 ++ [(x6) % 256]) (x6 / 256) x13 (wrap64 (x14 + 1))) else (none)) else (some x5)
def a5x.f (k : Nat) (l0 : List Int) (a1 : Bool) : Option (List Int) := (P5.f l0).bind fun e3V => ((b9Q.f l0 a1).bind fun e3W => ((a2R.f a1).bind fun t218 => (a5x.l0 k e3V e3W t218 0)))
theorem a5x.calls (k : Nat) (A0 : Option Addr) (c0 : Nat) (l0 : List Int) (a1 : Bool) (r : List Int) (w : World) (hr0 : Kd.C (Kd.int .u8) w A0 l0.length l0) (hc0 : l0.length ≤ c0) (h : a5x.f k l0 a1 = some r) :
  Calls Tryd.prog 88 #[.slice A0 l0.length c0, .bool a1] w fun e w' => ∃ v0_ : Value, e = .returned (v0_) ∧ Kd.R (Kd.int .u8) 5 w' w.heap.size (fun _ => True) v0_ r ∧ Below w.heap.size w w' := by
 have HR0 := a_ hr0
 have HC0 := a_ hc0
 clear hr0 hc0
 have HB := a_ (Below.refl w.heap.size w)
 have H := h
 clear h
 unfold a5x.f at H
 obtain ⟨e3V, A3, H⟩ := bd_ H
 try dsimp only at H
 obtain ⟨e3W, A4, H⟩ := bd_ H
 try dsimp only at H
 obtain ⟨t218, A5, H⟩ := bd_ H
 try dsimp only at H
 have H' := a_ H
 clear H
 go_enter Tryd.func88, Tryd.ntmps88
 go_wp2_with (first | (refine gl_ (some 8) Tryd.func96 #[.slice A0 l0.length c0] ?_; (with_reducible refine (P5.calls _ _ l0 e3V _ HR0.out HC0.out A3.out).mono ?_); rintro e w6 ⟨h5q, rfl, ho0, hb⟩; refine ⟨_, rfl, ?_⟩; have d8Z := rl_ ho0 HB; replace HB := V3 HB hb; (try clear hb); (try clear ho0)) | (refine gl_ (some 11) Tryd.func104 #[.slice A0 l0.length c0, .bool a1] ?_; (with_reducible refine (b9Q.calls _ _ l0 a1 e3W _ (Kd.y9 HR0.out HB.out) HC0.out A4.out).mono ?_); rintro e w7 ⟨rfl, hb⟩; refine ⟨_, rfl, ?_⟩; replace d8Z := rb_ d8Z hb; replace HB := V3 HB hb; (try clear hb)) | (refine gl_ (some 13) Tryd.func105 #[.bool a1] ?_; (with_reducible refine (a2R.calls a1 t218 _ A5.out).mono ?_); rintro e w' ⟨rfl, ⟨nd, rfl⟩⟩; refine ⟨_, rfl, ?_⟩))
 go_loopg [5, 6, 14] k (fun kq v5 v6 v14 w' => ∃ (L9 : List Int) (a1d : Int) (a1Q : Int), v6 = .int .u32 a1d ∧ v14 = .int .i64 a1Q ∧ Aside0 (a5x.l0 kq L9 a1d t218 a1Q = some r) ∧ Aside0 (kq ≤ k) ∧ Aside0 (Kd.R (Kd.int .u8) 5 w' w.heap.size (fun _ => True) v5 L9) ∧ Aside0 (Below w.heap.size w w'))
 case atStart => exact ⟨(e3V), (e3W), (0), (by rfl), (by rfl), H', ⟨Nat.le_refl _⟩, ⟨by (with_reducible repeat (apply Kd.a06)); exact d8Z.out⟩, ⟨by repeat (with_reducible first | exact HB.out | apply o9)⟩⟩
 case round =>
  clear H'; obtain ⟨L9, a1d, a1Q, rfl, rfl, HA, HK1, b7d, HB⟩ := hrel
  cases gk with
  | zero => exact absurd HA.out (by simp [a5x.l0])
  | succ k1 =>
   have H := HA.out; clear HA
   simp only [a5x.l0] at H
   by_cases c8 : a1Q < t218
   ·rw [if_pos c8] at H; have b2c := dt_ c8; clear c8; have c9 := Z4 H; replace H := O5 H; have c8e := a_ c9; clear c9; obtain ⟨g7N, d80⟩ := is_ ((L9 ++ [(a1d) % 256]) : List Int); rw [← d80] at H; have f8e := a_ d80; clear d80; have H' := a_ H; clear H
    go_wp2_with (first | ((with_reducible refine E8 (b := .append) (xs := #[.tmp 16, .tmp 19]) rfl ?_); at_builtin; refine Kd.a2Q (Kd.int .u8) (w0 := w) w.heap.size rfl (.tmp 16) (.tmp 19) 22 5 (.int .u8 0) 1 rfl Tryd.underlying22 info5 rfl (by decide) (by omega) u5 L9 ((a1d) % 256) [.int .u8 ((a1d) % 256)] (fun _ => True) (fun _ => False) rfl rfl ?aP (fun _ hk => hk.elim) ?aF ?aO ?aB ?aS ?aL ?_; (case aP => exact rfl); (case aB => exact HB.out); (case aF => exact (fun _ _ => trivial)); (case aO => exact b7d.out); (case aS => exact (y5 HB.out)); (case aL => have := c8e.out; omega); intro h5r w10 ho hb hg hat; rw [← f8e.out] at ho; have f8f := a_ ho; replace HB := a_ hb; clear b7d ho hb hg hat))
    go_roundg k1
    case measure => have := HK1.out; omega
    case rel => exact ⟨(g7N), (a1d / 256), (wrap64 (a1Q + 1)), (by rfl), (by rfl), H', ⟨by have := HK1.out; omega⟩, ⟨by exact f8f.out⟩, ⟨by exact HB.out⟩⟩
   ·rw [if_neg c8] at H; have b2c := df_ c8; clear c8; obtain rfl := oj_ H
    go_wp2
    go_ret
    exact ⟨_, by (rfl), by exact b7d.out, by exact HB.out⟩
def a4o.l0 : Nat → Int → Bool → List Int → List (List Int) → Int → Int → Option (List Int × Int)
 | 0, _, _, _, _, _, _ => none
 | k + 1, x1, x2, x8, x12, x13, x14 => if x14 < x13 then (if 0 ≤ x14 then (if x14 < (x12.length : Int) then (if ((a18 x12 x14).length : Int) < 2 then (some (([] : List Int), 1)) else (if ((a18 x12 x14).length : Int) > 65535 then (some (([] : List Int), 4)) else ((a5x.f k (a18 x12 x14) x2).bind fun t226 => ((F6.f t226 x1).bind fun t229 => ((y7.f ([x8, t229, ([126] : List Int)] : List (List Int))).bind fun e3X => (a4o.l0 k x1 x2 e3X x12 x13 (wrap64 (x14 + 1)))))))) else (none)) else (none)) else (some (x8, 0))
def a4o.f (k : Nat) (l0 : List (List Int)) (a1 : Int) (a2 : Bool) : Option (List Int × Int) := a4o.l0 k a1 a2 ([126] : List Int) l0 (l0.length : Int) 0
theorem a4o.calls (k : Nat) (A0 : Option Addr) (c0 : Nat) (l0 : List (List Int)) (a1 : Int) (a2 : Bool) (r1 : List Int) (r2 : Int) (w : World) (hr0 : Kd.C (Kd.slice 5 (Kd.int .u8)) w A0 l0.length l0) (hc0 : l0.length ≤ c0) (h : a4o.f k l0 a1 a2 = some (r1, r2)) :
  Calls Tryd.prog 68 #[.slice A0 l0.length c0, .int .u32 a1, .bool a2] w fun e w' => ∃ v0_ : Value, e = .returned (.tuple #[v0_, .int .i64 r2]) ∧ Kd.R (Kd.int .u8) 5 w' w.heap.size (fun _ => True) v0_ r1 ∧ Below w.heap.size w w' := by
 have HR0 := a_ hr0
 have HC0 := a_ hc0
 clear hr0 hc0
 have HB := a_ (Below.refl w.heap.size w)
 have H := h
 clear h
 unfold a4o.f at H
 obtain ⟨g7O, d81⟩ := is_ ([126] : List Int)
 rw [← d81] at H
 have f8g := a_ d81
 clear d81
 have H' := a_ H
 clear H
 go_enter Tryd.func68, Tryd.ntmps68
 go_wp2_with (first | (refine c5y .u8 5 11 ([126] : List Int) ?_; intro h5s w4 ho5 hb; (rw [← f8g.out] at ho5); have f8h := rl_ ho5 HB; replace HB := V3 HB hb; clear hb ho5))
 go_loopg [8, 14] k (fun kq v8 v14 w' => ∃ (S9 : List Int) (a1Q : Int), v14 = .int .i64 a1Q ∧ Aside0 (a4o.l0 kq a1 a2 S9 l0 (l0.length : Int) a1Q = some (r1, r2)) ∧ Aside0 (kq ≤ k) ∧ Aside0 (Kd.R (Kd.int .u8) 5 w' w.heap.size (fun _ => True) v8 S9) ∧ Aside0 (Below w.heap.size w w'))
 case atStart => exact ⟨(g7O), (0), (by rfl), H', ⟨Nat.le_refl _⟩, ⟨by exact f8h.out⟩, ⟨by exact HB.out⟩⟩
 case round =>
  clear H'; obtain ⟨S9, a1Q, rfl, HA, HK1, a0V, HB⟩ := hrel
  cases gk with
  | zero => exact absurd HA.out (by simp [a4o.l0])
  | succ k1 =>
   have H := HA.out; clear HA
   simp only [a4o.l0] at H
   by_cases c6 : a1Q < (l0.length : Int)
   ·rw [if_pos c6] at H; have a8y := dt_ c6; clear c6; have a6f := a2x H; replace H := O5 H; have b2c := a2x H; replace H := O5 H
    by_cases c9 : ((a18 l0 a1Q).length : Int) < 2
    ·rw [if_pos c9] at H; have b2d := dt_ c9; have b8F : decide ((a18 l0 a1Q).length < 2) = true := dt_ (by omega); clear c9; obtain ⟨rfl, rfl⟩ := s2_ H; have b9R : 0 ≤ (a1Q : Int) := V5; have b9S : a1Q < (l0.length : Int) := V5; obtain ⟨e6M, c8Z, c81, d82, a9L, a9M, a9N⟩ := b3D HR0.out a1Q b9R b9S
     cases d82
     replace a9L := cb_ HB a9L; have c4s := a_ a9N; have c4t := a_ a9M; clear a9N a9M; replace b9R := eq_true b9R; replace b9S := eq_true b9S
     go_wp2
     go_ret2
     exact ⟨_, by (rfl), by (exact Kd.Y2 _ _ _ _ _), by exact HB.out⟩
    ·rw [if_neg c9] at H; have b2d := df_ c9; have b8F : decide ((a18 l0 a1Q).length < 2) = false := df_ (by omega); clear c9
     by_cases c10 : ((a18 l0 a1Q).length : Int) > 65535
     ·rw [if_pos c10] at H; have a9w : decide (65535 < ((a18 l0 a1Q).length : Int)) = true := dt_ c10; have b8G : decide (65535 < (a18 l0 a1Q).length) = true := dt_ (by omega); clear c10; obtain ⟨rfl, rfl⟩ := s2_ H; have b9R : 0 ≤ (a1Q : Int) := V5; have b9S : a1Q < (l0.length : Int) := V5; obtain ⟨e6M, c8Z, c81, d82, a9L, a9M, a9N⟩ := b3D HR0.out a1Q b9R b9S
      cases d82
      replace a9L := cb_ HB a9L; have c4s := a_ a9N; have c4t := a_ a9M; clear a9N a9M; replace b9R := eq_true b9R; replace b9S := eq_true b9S
      go_wp2
      go_ret2
      exact ⟨_, by (rfl), by (exact Kd.Y2 _ _ _ _ _), by exact HB.out⟩
     ·rw [if_neg c10] at H; have a9w : decide (65535 < ((a18 l0 a1Q).length : Int)) = false := df_ c10; have b8G : decide (65535 < (a18 l0 a1Q).length) = false := df_ (by omega); clear c10; obtain ⟨t226, A11, H⟩ := bd_ H
      (try dsimp only at H); obtain ⟨t229, A12, H⟩ := bd_ H
      (try dsimp only at H); obtain ⟨d83, d84⟩ := is_ ([126] : List Int); rw [← d84] at H; have f8i := a_ d84; clear d84; obtain ⟨f8j, d85⟩ := is_ ([S9, t229, d83] : List (List Int)); rw [← d85] at H; have f8k := a_ d85; clear d85; obtain ⟨e3X, A13, H⟩ := bd_ H
      (try dsimp only at H); have H' := a_ H; clear H; have b9R : 0 ≤ (a1Q : Int) := V5; have b9S : a1Q < (l0.length : Int) := V5; obtain ⟨e6M, c8Z, c81, d82, a9L, a9M, a9N⟩ := b3D HR0.out a1Q b9R b9S
      cases d82
      replace a9L := cb_ HB a9L; have c4s := a_ a9N; have c4t := a_ a9M; clear a9N a9M; replace b9R := eq_true b9R; replace b9S := eq_true b9S
      go_wp2_with (first | (refine gl_ (some 27) Tryd.func88 #[.slice c8Z (a18 l0 a1Q).length c81, .bool a2] ?_; (with_reducible refine (a5x.calls k1 _ _ (a18 l0 a1Q) a2 t226 _ (Kd.y9 c4s.out HB.out) c4t.out A11.out).mono ?_); rintro e w14 ⟨v227, rfl, ho0, hb⟩; refine ⟨_, rfl, ?_⟩; have a9p := rn_ ho0 a0V HB; replace a0V := rR_ a0V ho0 hb; replace HB := V3 HB hb; (try clear hb); (try clear ho0); obtain ⟨b4m, a7M, c7V⟩ := Kd.G7 a9p.out; subst c7V) | (refine gl_ (some 29) Tryd.func87 #[.slice b4m t226.length a7M, .int .u32 a1] ?_; (with_reducible refine (F6.calls _ _ t226 a1 t229 _ ((Kd.D9 a9p.out).2.2) ((Kd.D9 a9p.out).2.1) A12.out).mono ?_); rintro e w16 ⟨h5t, rfl, ho0, hb⟩; refine ⟨_, rfl, ?_⟩; have b9T := a_ (Kd.Z9 (Kd.a1D (Kd.a1D ho0 (Kd.a0i a0V.out)) (Kd.a0i a9p.out)) (y5 HB.out)); replace a0V := rR_ a0V ho0 hb; replace a9p := rR_ a9p ho0 hb; replace HB := V3 HB hb; (try clear hb); (try clear ho0)) | (refine c5y .u8 5 30 ([126] : List Int) ?_; intro v233 w17 c0k hb; (rw [← f8i.out] at c0k); have d2w := a_ (Kd.Z9 (Kd.a1D (Kd.a1D (Kd.a1D c0k (Kd.a0i a0V.out)) (Kd.a0i a9p.out)) (Kd.a0i b9T.out)) (y5 HB.out)); replace a0V := rR_ a0V c0k hb; replace a9p := rR_ a9p c0k hb; replace b9T := rR_ b9T c0k hb; replace HB := V3 HB hb; clear hb c0k; obtain ⟨b1g, b1h, c78⟩ := Kd.G7 a0V.out; subst c78; obtain ⟨a5I, a4V, b84⟩ := Kd.G7 b9T.out; subst b84; obtain ⟨b81, b82, c3j⟩ := Kd.G7 d2w.out; subst c3j) | ((with_reducible refine X0 (N := 31) rfl ?_); refine Kd.c9u (Kd.slice 5 (Kd.int .u8)) _ 22 ?hg (N' := 31) ?hd (xs := ([S9, t229, d83] : List (List Int))) (inner := [.slice b1g S9.length b1h, .slice a5I t229.length a4V, .slice b81 d83.length b82]) (ok := (fun k_ => some k_ ≠ (.slice b4m t226.length a7M : Value).ownBlock)) (okp := (fun k_ => some k_ ≠ (.slice b4m t226.length a7M : Value).ownBlock)) ?hr ?hp (fun _ hk => hk) ((show ∀ k_, w17.heap.size ≤ k_ → (fun k_ => some k_ ≠ (.slice b4m t226.length a7M : Value).ownBlock) k_ from fun k_ hk => Kd.fresh' (Kd.a0i a9p.out) k_ hk) _ (Nat.le_refl _)) (Below.refl _ _) (Nat.le_refl _) (by simp) ?_; (case hd => rfl); (case hg => rfl); (case hr => (go_simp; done)); (case hp => exact (N8.one (show Kd.FK (Kd.slice 5 (Kd.int .u8)) _ _ S9 [.slice b1g S9.length b1h] from (Kd.a3I (Kd.D9 (Kd.D7 (ok' := (fun k_ => some k_ ≠ (.slice b4m t226.length a7M : Value).ownBlock)) (a0V.out) (fun k_ hk => hk.1.1.2))).2.1 (Kd.R_F (Kd.D7 (ok' := (fun k_ => some k_ ≠ (.slice b4m t226.length a7M : Value).ownBlock)) (a0V.out) (fun k_ hk => hk.1.1.2))))) (N8.one (show Kd.FK (Kd.slice 5 (Kd.int .u8)) _ _ t229 [.slice a5I t229.length a4V] from (Kd.a3I (Kd.D9 (Kd.D7 (ok' := (fun k_ => some k_ ≠ (.slice b4m t226.length a7M : Value).ownBlock)) (b9T.out) (fun k_ hk => hk.1.2))).2.1 (Kd.R_F (Kd.D7 (ok' := (fun k_ => some k_ ≠ (.slice b4m t226.length a7M : Value).ownBlock)) (b9T.out) (fun k_ hk => hk.1.2))))) (N8.one (show Kd.FK (Kd.slice 5 (Kd.int .u8)) _ _ d83 [.slice b81 d83.length b82] from (Kd.a3I (Kd.D9 (Kd.D7 (ok' := (fun k_ => some k_ ≠ (.slice b4m t226.length a7M : Value).ownBlock)) (d2w.out) (fun k_ hk => hk.1.2))).2.1 (Kd.R_F (Kd.D7 (ok' := (fun k_ => some k_ ≠ (.slice b4m t226.length a7M : Value).ownBlock)) (d2w.out) (fun k_ hk => hk.1.2))))) (N8.none _ _))))); intro v236 w22 c7F hb hg_ a1P; clear hg_ a1P; (rw [← f8k.out] at c7F); have c6F := a_ (Kd.a7D c7F (y5 HB.out)); replace a9p := rb_ a9p hb; replace HB := V3 HB hb; clear b9T d2w a0V hb c7F; obtain ⟨c2o, c2p, c7G⟩ := Kd.a4c c6F.out; subst c7G) | (refine gl_ (some 32) Tryd.func73 #[.slice c2o f8j.length c2p] ?_; (with_reducible refine (y7.calls _ _ f8j e3X _ ((Kd.a0s c6F.out).2.2) ((Kd.a0s c6F.out).2.1) A13.out).mono ?_); rintro e w25 ⟨h5u, rfl, ho0, hb⟩; refine ⟨_, rfl, ?_⟩; have f8l := rn_ ho0 a9p HB; replace a9p := rR_ a9p ho0 hb; replace c6F := rN_ c6F ho0 hb; replace HB := V3 HB hb; (try clear hb); (try clear ho0)))
      go_roundg k1
      case measure => have := HK1.out; omega
      case rel => exact ⟨(e3X), (wrap64 (a1Q + 1)), (by rfl), H', ⟨by have := HK1.out; omega⟩, ⟨by exact Kd.D7 f8l.out (fun _ hk => trivial)⟩, ⟨by exact HB.out⟩⟩
   ·rw [if_neg c6] at H; have a8y := df_ c6; clear c6; obtain ⟨rfl, rfl⟩ := s2_ H
    go_wp2
    go_ret2
    exact ⟨_, by (rfl), by exact a0V.out, by exact HB.out⟩
def b0e.f (k : Nat) (l0 : List Int) (a1 : Int) (a2 : Bool) : Option (List Int × Int) := (a4o.f k ([l0] : List (List Int)) a1 a2).bind fun e6N => (some (e6N.1, e6N.2))
theorem b0e.calls (k : Nat) (P0_ : Nat → Prop) (A0 : Option Addr) (c0 : Nat) (l0 : List Int) (a1 : Int) (a2 : Bool) (r1 : List Int) (r2 : Int) (w : World) (hs0 : Kd.V (Kd.int .u8) 5 w w.heap.size (fun k_ => P0_ k_) (.slice A0 l0.length c0) l0) (h : b0e.f k l0 a1 a2 = some (r1, r2)) :
  Calls Tryd.prog 50 #[.slice A0 l0.length c0, .int .u32 a1, .bool a2] w fun e w' => ∃ v0_ : Value, e = .returned (.tuple #[v0_, .int .i64 r2]) ∧ Kd.R (Kd.int .u8) 5 w' w.heap.size (fun k_ => (w.heap.size ≤ k_)) v0_ r1 ∧ Below w.heap.size w w' := by
 have HO0 := a_ (show Kd.V (Kd.int .u8) 5 w w.heap.size (fun k_ => (P0_ k_ ∨ w.heap.size ≤ k_)) (.slice A0 l0.length c0) l0 from Kd.a3R hs0 (fun k_ hk => .inl hk))
 have HB := a_ (Below.refl w.heap.size w)
 have H := h
 clear h
 unfold b0e.f at H
 obtain ⟨f8m, d86⟩ := is_ ([l0] : List (List Int))
 rw [← d86] at H
 have f8n := a_ d86
 clear d86
 obtain ⟨⟨g7Q, g7R⟩, A4, H⟩ := bd_ H
 try dsimp only at H
 obtain ⟨rfl, rfl⟩ := s2_ H
 go_enter Tryd.func50, Tryd.ntmps50
 go_wp2_with (first | ((with_reducible refine X0 (N := 9) rfl ?_); refine Kd.c9u (Kd.slice 5 (Kd.int .u8)) _ 22 ?hg (N' := 9) ?hd (xs := ([l0] : List (List Int))) (inner := [.slice A0 l0.length c0]) (ok := (fun k_ => (P0_ k_ ∨ w.heap.size ≤ k_))) (okp := (fun k_ => (P0_ k_ ∨ w.heap.size ≤ k_))) ?hr ?hp (fun _ hk => hk) ((show ∀ k_, w.heap.size ≤ k_ → (fun k_ => (P0_ k_ ∨ w.heap.size ≤ k_)) k_ from fun k_ hk => (.inr (Nat.le_trans (y5 HB.out) hk))) _ (Nat.le_refl _)) (Below.refl _ _) (Nat.le_refl _) (by simp) ?_; (case hd => rfl); (case hg => rfl); (case hr => (go_simp; done)); (case hp => exact (N8.one (show Kd.FK (Kd.slice 5 (Kd.int .u8)) _ _ l0 [.slice A0 l0.length c0] from (Kd.a3I (Kd.a8W (Kd.a3R (ok' := (fun k_ => (P0_ k_ ∨ w.heap.size ≤ k_))) (HO0.out) (fun k_ hk => hk))).2.1 (Kd.V_F (Kd.a3R (ok' := (fun k_ => (P0_ k_ ∨ w.heap.size ≤ k_))) (HO0.out) (fun k_ hk => hk))))) (N8.none _ _))); intro h5v w5 ho6 hb hg_ a1P; clear hg_ a1P; (rw [← f8n.out] at ho6); have c6G := a_ (Kd.a7D ho6 (y5 HB.out)); replace HO0 := a_ (Kd.a3H HO0.out (Kd.a4t ho6) hb); replace HB := V3 HB hb; clear hb ho6; obtain ⟨Ao7, co7, eo7⟩ := Kd.a4c c6G.out; subst eo7) | (refine gl_ (some 12) Tryd.func68 #[.slice Ao7 f8m.length co7, .int .u32 a1, .bool a2] ?_; (with_reducible refine (a4o.calls k _ _ f8m a1 a2 g7Q g7R _ ((Kd.a0s c6G.out).2.2) ((Kd.a0s c6G.out).2.1) A4.out).mono ?_); rintro e w8 ⟨h5x, rfl, ho0, hb⟩; refine ⟨_, rfl, ?_⟩; have f8o := a_ (Kd.Z9 (Kd.c65 (M := fun k_ => (w.heap.size ≤ k_)) ho0 (y5 HB.out) (fun k_ h_ => h_)) (y5 HB.out)); replace HO0 := a_ (Kd.a3H HO0.out (Kd.a0C ho0) hb); replace c6G := rN_ c6G ho0 hb; replace HB := V3 HB hb; (try clear hb); (try clear ho0)))
 go_ret2
 exact ⟨_, by (rfl), by exact Kd.D7 f8o.out (fun _ hk => hk.1), by exact HB.out⟩
def a2N.f (a0 : Int) (a1 : Int) : Option (Bool) := if a1 ≥ 1 then (if a1 ≤ 8 then (if a1 = 8 then (some true) else (if 0 ≤ (wrap64 (8 * a1)) then (some ((shr .u64 a0 (wrap64 (8 * a1))) == 0)) else (none))) else (some false)) else (some false)
theorem a2N.calls (a0 : Int) (a1 : Int) (r : Bool) (w : World) (h : a2N.f a0 a1 = some r) :
  Calls Tryd.prog 89 #[.int .u64 a0, .int .i64 a1] w fun e w' => e = .returned (.bool r) ∧ G5 w w' := by
 have H := h
 clear h
 unfold a2N.f at H
 by_cases c3 : a1 ≥ 1
 ·rw [if_pos c3] at H; have a3T : decide (1 ≤ a1) = true := dt_ c3; clear c3
  by_cases c4 : a1 ≤ 8
  ·rw [if_pos c4] at H; have a4i := dt_ c4; clear c4
   by_cases c5 : a1 = 8
   ·rw [if_pos c5] at H; obtain ⟨a5H, b1f⟩ := bt_ c5; clear c5; obtain rfl := oj_ H
    go_enter Tryd.func89, Tryd.ntmps89
    go_wp2
    go_ret
    exact ⟨by (rfl), by exact G5.refl _⟩
   ·rw [if_neg c5] at H; have a5H := bq_ c5; have b1f := bn_ c5; obtain ⟨ji6, c6j⟩ := si_ ((wrap64 (8 * a1))); rw [c6j] at H; have e6a : (IntKind.i64.wrap (8 * a1)) = ji6 := (a0J _).trans c6j; have c7 := Z4 H; replace H := O5 H; have a6f := eq_true c7; have b0g := dt_ c7; clear c7; obtain ⟨ji8, f0P⟩ := si_ ((shr .u64 a0 (ji6))); rw [f0P] at H; have h1h : (a0 / 2 ^ min (ji6).toNat 64) = ji8 := f0P; have h1j : (ji6) ≤ 64 → (a0 / 2 ^ (ji6).toNat) = ji8 := b6g f0P; obtain rfl := oj_ H
    go_enter Tryd.func89, Tryd.ntmps89
    go_wp2
    go_ret
    exact ⟨by (rfl), by exact G5.refl _⟩
  ·rw [if_neg c4] at H; have a4i := df_ c4; clear c4; obtain rfl := oj_ H
   go_enter Tryd.func89, Tryd.ntmps89
   go_wp2
   go_ret
   exact ⟨by (rfl), by exact G5.refl _⟩
 ·rw [if_neg c3] at H; have a3T : decide (1 ≤ a1) = false := df_ c3; clear c3; obtain rfl := oj_ H
  go_enter Tryd.func89, Tryd.ntmps89
  go_wp2
  go_ret
  exact ⟨by (rfl), by exact G5.refl _⟩
end Go.Proofs.YtgnonglkibhnhaaDoor.Print
