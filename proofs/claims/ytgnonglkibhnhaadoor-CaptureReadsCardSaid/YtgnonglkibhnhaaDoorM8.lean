-- laid together by this session's own program (wip/tools/merge.py) of texts that its program laid
import Derived.Test.YtgnonglkibhnhaaDoorM5
namespace Go.Proofs.YtgnonglkibhnhaaDoor.Print
open Go.RowKit Go.Proofs.YtgnonglkibhnhaaDoorW.PrintWords Go.Proofs.YtgnonglkibhnhaaDoorW.PrintLast Go.Proofs.YtgnonglkibhnhaaDoorW.PrintMore
attribute [local go_sem] a0n a0o a0P a0Q Y4 Y5 a0p a0q
set_option linter.unusedVariables false
set_option linter.unusedSimpArgs false
set_option maxHeartbeats 16000000
set_option maxRecDepth 100000
def L6.l0 : Nat → List (S42) → List (S42) → Int → Option (Bool)
 | 0, _, _, _ => none
 | k + 1, x0, x1, x5 => if x5 < (x0.length : Int) then (if 0 ≤ x5 then (if x5 < (x1.length : Int) then (if ((J5 x0 x5).f0) = ((J5 x1 x5).f0) then (if ((J5 x0 x5).f1) = ((J5 x1 x5).f1) then (if (strOfNums ((J5 x0 x5).f2)).toList = (strOfNums ((J5 x1 x5).f2)).toList then (L6.l0 k x0 x1 (wrap64 (x5 + 1))) else (some false)) else (some false)) else (some false)) else (none)) else (none)) else (some true)
def L6.f (k : Nat) (l0 : List (S42)) (l1 : List (S42)) : Option (Bool) := if (l0.length : Int) = (l1.length : Int) then (L6.l0 k l0 l1 0) else (some false)
theorem L6.calls (k : Nat) (A0 : Option Addr) (c0 : Nat) (l0 : List (S42)) (A1 : Option Addr) (c1 : Nat) (l1 : List (S42)) (r : Bool) (w : World) (hr0 : Kd.C k42 w A0 l0.length l0) (hc0 : l0.length ≤ c0) (hr1 : Kd.C k42 w A1 l1.length l1) (hc1 : l1.length ≤ c1) (h : L6.f k l0 l1 = some r) :
  Calls Tryd.prog 12 #[.slice A0 l0.length c0, .slice A1 l1.length c1] w fun e w' => e = .returned (.bool r) ∧ F8 w w' := by
 have HR0 := a_ hr0
 have HC0 := a_ hc0
 clear hr0 hc0
 have HR1 := a_ hr1
 have HC1 := a_ hc1
 clear hr1 hc1
 have H := h
 clear h
 unfold L6.f at H
 by_cases c3 : (l0.length : Int) = (l1.length : Int)
 ·rw [if_pos c3] at H; have a3O := beq_iff_eq.mpr c3; have b09 := bne_eq_false_iff_eq.mpr c3; have f5J : (l0.length == l1.length) = true := by (simp at c3 ⊢; omega)
  clear c3; have H' := a_ H; clear H
  go_enter Tryd.func12, Tryd.ntmps12
  go_wp2
  go_loopg [5] k (fun kq v5 w' => ∃ (J9 : Int), v5 = .int .i64 J9 ∧ Aside0 (L6.l0 kq l0 l1 J9 = some r) ∧ Aside0 (kq ≤ k) ∧ F8 w w')
  case atStart => exact ⟨(0), (by rfl), H', ⟨Nat.le_refl _⟩, by exact F8.refl _⟩
  case round =>
   clear H'
   try clear a3O
   try clear b09
   try clear f5J
   obtain ⟨J9, rfl, HA, HK1, ⟨m1, rfl⟩⟩ := hrel
   cases gk with
   | zero => exact absurd HA.out (by simp [L6.l0])
   | succ k1 =>
    have H := HA.out; clear HA
    simp only [L6.l0] at H
    by_cases c4 : J9 < (l0.length : Int)
    ·rw [if_pos c4] at H; have a4d := dt_ c4; clear c4; have a5y := a2z H; replace H := O5 H; have a8h := a2z H; replace H := O5 H
     by_cases c7 : ((J5 l0 J9).f0) = ((J5 l1 J9).f0)
     ·rw [if_pos c7] at H; obtain ⟨a5U, a9R⟩ := bt_ c7; clear c7
      by_cases c8 : ((J5 l0 J9).f1) = ((J5 l1 J9).f1)
      ·rw [if_pos c8] at H; obtain ⟨b1u, d2f⟩ := bt_ c8; clear c8
       by_cases c9 : (strOfNums ((J5 l0 J9).f2)).toList = (strOfNums ((J5 l1 J9).f2)).toList
       ·rw [if_pos c9] at H; obtain ⟨b1v, b71⟩ := bt_ c9; clear c9; have H' := a_ H; clear H; have b33 : 0 ≤ (J9 : Int) := V9; have b34 : J9 < (l0.length : Int) := V9; obtain ⟨b6q, b35, b36, c7J, c2Y, c2Z, a9n, a6H, a6I⟩ := a3k HR0.out J9 b33 b34
        cases c7J
        have c3a := a_ a6I; have c3c := a_ a6H; clear a6I a6H; replace b33 := eq_true b33; replace b34 := eq_true b34; have b37 : 0 ≤ (J9 : Int) := V9; have b38 : J9 < (l1.length : Int) := V9; obtain ⟨b6r, b39, b4a, c7K, c3d, c3e, a9o, a6J, a6K⟩ := a3k HR1.out J9 b37 b38
        cases c7K
        have c3f := a_ a6K; have c3g := a_ a6J; clear a6K a6J; replace b37 := eq_true b37; replace b38 := eq_true b38; have b87 : 0 ≤ (J9 : Int) := V9; have b88 : J9 < (l0.length : Int) := V9; obtain ⟨c5y, d7k, d7l, e203, d0R, d0S, b5f, a9p, a9q⟩ := a3k HR0.out J9 b87 b88; obtain rfl : b6q = c5y := (by injection e203); have d0T := a_ a9q; have d0U := a_ a9p; clear a9q a9p; replace b87 := eq_true b87; replace b88 := eq_true b88; have ea_ := oj_ (a9n.symm.trans b5f); injection ea_ with ea_ en_ ec_
        subst ea_; subst ec_; clear en_; have b89 : 0 ≤ (J9 : Int) := V9; have b9a : J9 < (l1.length : Int) := V9; obtain ⟨c5z, d7m, d7n, e204, d0V, d0W, b5g, a9r, a9s⟩ := a3k HR1.out J9 b89 b9a; obtain rfl : b6r = c5z := (by injection e204); have d0X := a_ a9s; have d0Y := a_ a9r; clear a9s a9r; replace b89 := eq_true b89; replace b9a := eq_true b9a; have ea_ := oj_ (a9o.symm.trans b5g); injection ea_ with ea_ en_ ec_
        subst ea_; subst ec_; clear en_; have c7L : 0 ≤ (J9 : Int) := V9; have c7M : J9 < (l0.length : Int) := V9; obtain ⟨d7o, e8K, e8L, e8M, e2a, e2c, c3j, b5h, b5i⟩ := a3k HR0.out J9 c7L c7M; obtain rfl : b6q = d7o := (by injection e8M); have b5j := a_ b5i; have e2d := a_ b5h; clear b5i b5h; replace c7L := eq_true c7L; replace c7M := eq_true c7M; have ea_ := oj_ (a9n.symm.trans c3j); injection ea_ with ea_ en_ ec_
        subst ea_; subst ec_; clear en_; have g8m := fun m_ : Nat => Kd.a3l (P := Tryd.prog) (A := b35) (c := b36) Tryd.underlying22 Tryd.underlying5 Tryd.underlying9 (Kd.a9b b5j.out m_)
        have g8n := Kd.a3l (P := Tryd.prog) (A := b35) (c := b36) Tryd.underlying22 Tryd.underlying5 Tryd.underlying9 b5j.out; have c7N : 0 ≤ (J9 : Int) := V9; have c7O : J9 < (l1.length : Int) := V9; obtain ⟨d7p, e8N, e8O, e206, e2e, e2f, c3k, b5k, b5l⟩ := a3k HR1.out J9 c7N c7O; obtain rfl : b6r = d7p := (by injection e206); have b5m := a_ b5l; have e2g := a_ b5k; clear b5l b5k; replace c7N := eq_true c7N; replace c7O := eq_true c7O; have ea_ := oj_ (a9o.symm.trans c3k); injection ea_ with ea_ en_ ec_
        subst ea_; subst ec_; clear en_; have g8o := fun m_ : Nat => Kd.a3l (P := Tryd.prog) (A := b39) (c := b4a) Tryd.underlying22 Tryd.underlying5 Tryd.underlying9 (Kd.a9b b5m.out m_)
        have g8p := Kd.a3l (P := Tryd.prog) (A := b39) (c := b4a) Tryd.underlying22 Tryd.underlying5 Tryd.underlying9 b5m.out
        go_wp2
        repeat (go_quiet (fail); try go_wp2)
        go_roundg k1
        case measure => have := HK1.out; omega
        case rel => exact ⟨(wrap64 (J9 + 1)), (by rfl), H', ⟨by have := HK1.out; omega⟩, by repeat (first | exact F8.refl _ | apply F8.step)⟩
       ·rw [if_neg c9] at H; have b1v := bq_ c9; have b71 := bn_ c9; obtain rfl := oj_ H; have b33 : 0 ≤ (J9 : Int) := V9; have b34 : J9 < (l0.length : Int) := V9; obtain ⟨b6q, b35, b36, c7J, c2Y, c2Z, a9n, a6H, a6I⟩ := a3k HR0.out J9 b33 b34
        cases c7J
        have c3a := a_ a6I; have c3c := a_ a6H; clear a6I a6H; replace b33 := eq_true b33; replace b34 := eq_true b34; have b37 : 0 ≤ (J9 : Int) := V9; have b38 : J9 < (l1.length : Int) := V9; obtain ⟨b6r, b39, b4a, c7K, c3d, c3e, a9o, a6J, a6K⟩ := a3k HR1.out J9 b37 b38
        cases c7K
        have c3f := a_ a6K; have c3g := a_ a6J; clear a6K a6J; replace b37 := eq_true b37; replace b38 := eq_true b38; have b87 : 0 ≤ (J9 : Int) := V9; have b88 : J9 < (l0.length : Int) := V9; obtain ⟨c5y, d7k, d7l, e203, d0R, d0S, b5f, a9p, a9q⟩ := a3k HR0.out J9 b87 b88; obtain rfl : b6q = c5y := (by injection e203); have d0T := a_ a9q; have d0U := a_ a9p; clear a9q a9p; replace b87 := eq_true b87; replace b88 := eq_true b88; have ea_ := oj_ (a9n.symm.trans b5f); injection ea_ with ea_ en_ ec_
        subst ea_; subst ec_; clear en_; have b89 : 0 ≤ (J9 : Int) := V9; have b9a : J9 < (l1.length : Int) := V9; obtain ⟨c5z, d7m, d7n, e204, d0V, d0W, b5g, a9r, a9s⟩ := a3k HR1.out J9 b89 b9a; obtain rfl : b6r = c5z := (by injection e204); have d0X := a_ a9s; have d0Y := a_ a9r; clear a9s a9r; replace b89 := eq_true b89; replace b9a := eq_true b9a; have ea_ := oj_ (a9o.symm.trans b5g); injection ea_ with ea_ en_ ec_
        subst ea_; subst ec_; clear en_; have c7L : 0 ≤ (J9 : Int) := V9; have c7M : J9 < (l0.length : Int) := V9; obtain ⟨d7o, e8K, e8L, e8M, e2a, e2c, c3j, b5h, b5i⟩ := a3k HR0.out J9 c7L c7M; obtain rfl : b6q = d7o := (by injection e8M); have b5j := a_ b5i; have e2d := a_ b5h; clear b5i b5h; replace c7L := eq_true c7L; replace c7M := eq_true c7M; have ea_ := oj_ (a9n.symm.trans c3j); injection ea_ with ea_ en_ ec_
        subst ea_; subst ec_; clear en_; have e3s := fun m_ : Nat => Kd.a3l (P := Tryd.prog) (A := b35) (c := b36) Tryd.underlying22 Tryd.underlying5 Tryd.underlying9 (Kd.a9b b5j.out m_)
        have g8q := Kd.a3l (P := Tryd.prog) (A := b35) (c := b36) Tryd.underlying22 Tryd.underlying5 Tryd.underlying9 b5j.out; have c7N : 0 ≤ (J9 : Int) := V9; have c7O : J9 < (l1.length : Int) := V9; obtain ⟨d7p, e8N, e8O, e206, e2e, e2f, c3k, b5k, b5l⟩ := a3k HR1.out J9 c7N c7O; obtain rfl : b6r = d7p := (by injection e206); have b5m := a_ b5l; have e2g := a_ b5k; clear b5l b5k; replace c7N := eq_true c7N; replace c7O := eq_true c7O; have ea_ := oj_ (a9o.symm.trans c3k); injection ea_ with ea_ en_ ec_
        subst ea_; subst ec_; clear en_; have g8r := fun m_ : Nat => Kd.a3l (P := Tryd.prog) (A := b39) (c := b4a) Tryd.underlying22 Tryd.underlying5 Tryd.underlying9 (Kd.a9b b5m.out m_)
        have g8s := Kd.a3l (P := Tryd.prog) (A := b39) (c := b4a) Tryd.underlying22 Tryd.underlying5 Tryd.underlying9 b5m.out
        go_wp2
        repeat (go_quiet (fail); try go_wp2)
        go_ret
        exact ⟨by (rfl), by repeat (first | exact F8.refl _ | apply F8.step)⟩
      ·rw [if_neg c8] at H; have b1u := bq_ c8; have d2f := bn_ c8; obtain rfl := oj_ H; have b33 : 0 ≤ (J9 : Int) := V9; have b34 : J9 < (l0.length : Int) := V9; obtain ⟨b6q, b35, b36, c7J, c2Y, c2Z, a9n, a6H, a6I⟩ := a3k HR0.out J9 b33 b34
       cases c7J
       have c3a := a_ a6I; have c3c := a_ a6H; clear a6I a6H; replace b33 := eq_true b33; replace b34 := eq_true b34; have b37 : 0 ≤ (J9 : Int) := V9; have b38 : J9 < (l1.length : Int) := V9; obtain ⟨b6r, b39, b4a, c7K, c3d, c3e, a9o, a6J, a6K⟩ := a3k HR1.out J9 b37 b38
       cases c7K
       have c3f := a_ a6K; have c3g := a_ a6J; clear a6K a6J; replace b37 := eq_true b37; replace b38 := eq_true b38; have b87 : 0 ≤ (J9 : Int) := V9; have b88 : J9 < (l0.length : Int) := V9; obtain ⟨c5y, d7k, d7l, e203, d0R, d0S, b5f, a9p, a9q⟩ := a3k HR0.out J9 b87 b88; obtain rfl : b6q = c5y := (by injection e203); have d0T := a_ a9q; have d0U := a_ a9p; clear a9q a9p; replace b87 := eq_true b87; replace b88 := eq_true b88; have ea_ := oj_ (a9n.symm.trans b5f); injection ea_ with ea_ en_ ec_
       subst ea_; subst ec_; clear en_; have b89 : 0 ≤ (J9 : Int) := V9; have b9a : J9 < (l1.length : Int) := V9; obtain ⟨c5z, d7m, d7n, e204, d0V, d0W, b5g, a9r, a9s⟩ := a3k HR1.out J9 b89 b9a; obtain rfl : b6r = c5z := (by injection e204); have d0X := a_ a9s; have d0Y := a_ a9r; clear a9s a9r; replace b89 := eq_true b89; replace b9a := eq_true b9a; have ea_ := oj_ (a9o.symm.trans b5g); injection ea_ with ea_ en_ ec_
       subst ea_; subst ec_; clear en_
       go_wp2
       repeat (go_quiet (fail); try go_wp2)
       go_ret
       exact ⟨by (rfl), by repeat (first | exact F8.refl _ | apply F8.step)⟩
     ·rw [if_neg c7] at H; have a5U := bq_ c7; have a9R := bn_ c7; obtain rfl := oj_ H; have b33 : 0 ≤ (J9 : Int) := V9; have b34 : J9 < (l0.length : Int) := V9; obtain ⟨b6q, b35, b36, c7J, c2Y, c2Z, a9n, a6H, a6I⟩ := a3k HR0.out J9 b33 b34
      cases c7J
      have c3a := a_ a6I; have c3c := a_ a6H; clear a6I a6H; replace b33 := eq_true b33; replace b34 := eq_true b34; have b37 : 0 ≤ (J9 : Int) := V9; have b38 : J9 < (l1.length : Int) := V9; obtain ⟨b6r, b39, b4a, c7K, c3d, c3e, a9o, a6J, a6K⟩ := a3k HR1.out J9 b37 b38
      cases c7K
      have c3f := a_ a6K; have c3g := a_ a6J; clear a6K a6J; replace b37 := eq_true b37; replace b38 := eq_true b38
      go_wp2
      repeat (go_quiet (fail); try go_wp2)
      go_ret
      exact ⟨by (rfl), by repeat (first | exact F8.refl _ | apply F8.step)⟩
    ·rw [if_neg c4] at H; have a4d := df_ c4; clear c4; obtain rfl := oj_ H
     go_wp2
     go_ret
     exact ⟨by (rfl), by repeat (first | exact F8.refl _ | apply F8.step)⟩
 ·rw [if_neg c3] at H; have a3O := bq_ c3; have b09 := bn_ c3; have f5J : (l0.length == l1.length) = false := by (simp at c3 ⊢; omega)
  obtain rfl := oj_ H
  go_enter Tryd.func12, Tryd.ntmps12
  go_wp2
  go_ret
  exact ⟨by (rfl), by exact F8.refl _⟩
def y7.f (l0 : List (List Int)) : Option (List Int) := if l0.flatten.length < 140737488355328 then some l0.flatten else none
def y7.tot (l : List (List Int)) (j : Nat) : Nat := (l.take j).flatten.length
def y7.pre (l : List (List Int)) (j : Nat) : List Int := (l.take j).flatten
theorem y7.c0z (l : List (List Int)) (j : Nat) (h : j < l.length) : y7.pre l (j + 1) = y7.pre l j ++ a1T l (j : Int) := by
 unfold y7.pre a1T
 rw [List.take_succ_eq_append_getElem h, List.flatten_append]
 simp [h]
theorem y7.c5A (l : List (List Int)) (j : Nat) (h : j < l.length) : y7.tot l (j + 1) = y7.tot l j + (a1T l (j : Int)).length := by
 have := congrArg List.length (y7.c0z l j h)
 rw [List.length_append] at this
 exact this
theorem y7.e2h (l : List (List Int)) (j : Nat) (h : j = l.length) : y7.tot l j = l.flatten.length := by
 unfold y7.tot
 rw [List.take_of_length_le (by omega)]
theorem y7.c3l (l : List (List Int)) (j : Nat) : y7.tot l j ≤ l.flatten.length := by
 unfold y7.tot
 conv => rhs; rw [← List.take_append_drop j l, List.flatten_append, List.length_append]
 omega
theorem y7.calls (A0 : Option Addr) (c0 : Nat) (l0 : List (List Int)) (r : List Int) (w : World) (hr0 : Kd.C (Kd.slice 5 (Kd.int .u8)) w A0 l0.length l0) (hc0 : l0.length ≤ c0) (h : y7.f l0 = some r) :
  Calls Tryd.prog 73 #[.slice A0 l0.length c0] w fun e w' => ∃ v0_ : Value, e = .returned (v0_) ∧ Kd.R (Kd.int .u8) 5 w' w.heap.size (fun _ => True) v0_ r ∧ Below w.heap.size w w' := by
 obtain ⟨hl, rfl⟩ : l0.flatten.length < 140737488355328 ∧ l0.flatten = r := by
  unfold y7.f at h
  split at h
  ·exact ⟨by assumption, oj_ h⟩
  ·cases h
 have HR0 := a_ hr0
 have HC0 := a_ hc0
 have HB := a_ (Below.refl w.heap.size w)
 have HL := a_ hl
 have HN := a_ hr0.2.1
 clear h hl hr0 hc0
 go_enter Tryd.func73, Tryd.ntmps73
 go_wp2
 go_loop [3, 11] (fun v3 v11 => ∃ j : Nat, j ≤ l0.length ∧ v11 = .int .i64 (j : Int) ∧ v3 = .int .i64 (y7.tot l0 j : Int)) (fun _ v11 => l0.length - (intOf v11).toNat)
 case atStart => exact ⟨0, Nat.zero_le _, rfl, rfl⟩
 case round =>
  obtain ⟨j, hj, rfl, rfl⟩ := hrel; have ht := Nat.lt_of_le_of_lt (y7.c3l l0 j) HL.out; have hn := HN.out
  by_cases hlt : j < l0.length
  ·have e8P : 0 ≤ (j : Int) := by omega
   have e8Q : (j : Int) < (l0.length : Int) := by omega
   obtain ⟨f5K, e8R, e8S, e304, b5n, d0Z, c3n⟩ := b2Y HR0.out (j : Int) e8P e8Q
   cases e304
   simp only [Int.toNat_natCast] at b5n
   have hs := y7.c5A l0 j hlt; have ht2 := Nat.lt_of_le_of_lt (y7.c3l l0 (j + 1)) HL.out; have hW : wrap64 ((y7.tot l0 j : Int) + ((a1T l0 (j : Int)).length : Int)) = (y7.tot l0 j : Int) + ((a1T l0 (j : Int)).length : Int) := by
    unfold wrap64
    omega
   have hneg : decide (wrap64 ((y7.tot l0 j : Int) + ((a1T l0 (j : Int)).length : Int)) < 0) = false := by
    rw [hW]; exact df_ (by omega)
   have HS := a_ hs; have HW := a_ hW; clear hs ht ht2 hW
   go_wp2
   go_round
   case rel => exact ⟨j + 1, by omega, by go_num, by rw [HS.out, HW.out]; go_num⟩
   case measure => simp [intOf]; omega
  ·have ht' := y7.e2h l0 j (by omega); have HT := a_ ht'; clear ht' ht; have hg := Nat.lt_of_le_of_lt (y7.c3l l0 j) HL.out; obtain rfl : j = l0.length := by omega
   clear hlt hj hn
   go_wp2_with fail
   refine (b1a.d2t (y7.tot l0 l0.length) _ hg).mono ?_; rintro e w1 ⟨v6_, rfl, hR6, hB6⟩; clear hg; have a0U := a_ hR6; have HB1 := a_ hB6; clear hR6 hB6 HB
   go_wp2
   go_loopg [6, 27] l0.length (fun kq v6 v27 w' => ∃ j : Nat, Aside0 (kq + j = l0.length) ∧ v27 = .int .i64 (j : Int) ∧ Aside0 (Kd.R (Kd.int .u8) 5 w' w.heap.size (fun _ => True) v6 (y7.pre l0 j)) ∧ Aside0 (Below w.heap.size w w'))
   case atStart => exact ⟨0, ⟨rfl⟩, rfl, a0U, HB1⟩
   case round =>
    obtain ⟨j, HJ, rfl, c2N, HB⟩ := hrel; have hj := HJ.out; have hn := HN.out; have hjl : j ≤ l0.length := by omega
    by_cases hlt : j < l0.length
    ·obtain ⟨k1, rfl⟩ : ∃ k1, gk = k1 + 1 := ⟨gk - 1, by omega⟩; have e8P : 0 ≤ (j : Int) := by omega
     have e8Q : (j : Int) < (l0.length : Int) := by omega
     obtain ⟨f5K, e8R, e8S, e304, b5n, d0Z, c3n⟩ := b2Y HR0.out (j : Int) e8P e8Q
     cases e304
     simp only [Int.toNat_natCast] at b5n
     replace b5n := cb_ HB b5n; have e2i := a_ c3n; have HS := a_ (y7.c0z l0 j hlt); have LM : Aside0 ((y7.pre l0 j).length + (a1T l0 (j : Int)).length < 140737488355328) := ⟨by
      have h1 := y7.c5A l0 j hlt; have h2 := Nat.lt_of_le_of_lt (y7.c3l l0 (j + 1)) HL.out; unfold y7.tot at h1 h2; unfold y7.pre
      omega⟩
     clear c3n d0Z hj
     go_wp2_with (((with_reducible refine E5 (b := .append) (xs := #[.tmp 31, .tmp 32]) rfl ?_); at_builtin; refine Kd.P8 (Kd.int .u8) (w0 := w) w.heap.size rfl (.tmp 31) (.tmp 32) 22 5 (.int .u8 0) 1 rfl Tryd.underlying22 info5 rfl (by decide) (by omega) u6 (y7.pre l0 j) (a1T l0 (j : Int)) _ _ _ (fun _ => True) (fun _ => False) rfl rfl ?aO ?aR (fun _ _ h => h) (fun _ h => h.elim) ?aF ?aB ?aS ?aL ?_; (case aR => exact (Kd.C9 e2i.out HB.out)); (case aB => exact HB.out); (case aF => exact (fun _ _ => trivial)); (case aO => exact c2N.out); (case aS => exact y5 HB.out); (case aL => have := LM.out; omega); intro h2v w5 ho hb hg hat; rw [← HS.out] at ho; have f5L := a_ ho; replace HB := a_ hb; clear c2N ho hb hg hat))
     go_roundg k1
     case measure => omega
     case rel => exact ⟨j + 1, ⟨by have := HJ.out; omega⟩, by go_num, f5L, HB⟩
    ·have hp : y7.pre l0 j = l0.flatten := by
      unfold y7.pre; rw [List.take_of_length_le (by omega)]
     have HP := a_ hp; clear hp hj
     go_wp2
     go_ret
     exact ⟨_, rfl, by rw [← HP.out]; exact c2N.out, HB.out⟩
def a3Q.f (a0 : Int) (a1 : Int) : Option (Bool) := if a1 = 125 then (some true) else (if a1 = 126 then (some true) else ((a4z.f a0 a1).bind fun t210 => (some t210)))
theorem a3Q.calls (a0 : Int) (a1 : Int) (r : Bool) (w : World) (h : a3Q.f a0 a1 = some r) :
  Calls Tryd.prog 108 #[.int .u32 a0, .int .u8 a1] w fun e w' => e = .returned (.bool r) ∧ F8 w w' := by
 have H := h
 clear h
 unfold a3Q.f at H
 by_cases c3 : a1 = 125
 ·rw [if_pos c3] at H; obtain ⟨a3O, b09⟩ := bt_ c3; clear c3; obtain rfl := oj_ H
  go_enter Tryd.func108, Tryd.ntmps108
  go_wp2
  go_ret
  exact ⟨by (rfl), by exact F8.refl _⟩
 ·rw [if_neg c3] at H; have a3O := bq_ c3; have b09 := bn_ c3
  by_cases c4 : a1 = 126
  ·rw [if_pos c4] at H; obtain ⟨a4d, b1R⟩ := bt_ c4; clear c4; obtain rfl := oj_ H
   go_enter Tryd.func108, Tryd.ntmps108
   go_wp2
   go_ret
   exact ⟨by (rfl), by exact F8.refl _⟩
  ·rw [if_neg c4] at H; have a4d := bq_ c4; have b1R := bn_ c4; obtain ⟨t210, A5, H⟩ := bd_ H
   (try dsimp only at H); obtain rfl := oj_ H
   go_enter Tryd.func108, Tryd.ntmps108
   go_wp2_with (first | (go_at_call 111; (with_reducible refine (a4z.calls a0 a1 t210 _ A5.out).mono ?_); rintro e w' ⟨rfl, ⟨nd, rfl⟩⟩))
   go_ret
   exact ⟨by (rfl), by repeat (first | exact F8.refl _ | apply F8.step)⟩
def F5.piece (m c : Int) : List Int := if (a3Q.f m c).getD false = true then [125, Go.bits .xor .u8 c 32] else [c]
def F5.pre (m : Int) (l : List Int) (j : Nat) : List Int := ((l.take j).map (F5.piece m)).flatten
def F5.f (l0 : List Int) (a1 : Int) : Option (List Int) := if (l0.all fun c => (a3Q.f a1 c).isSome) = true ∧ (l0.map (F5.piece a1)).flatten.length < 140737488355328 then some (l0.map (F5.piece a1)).flatten else none
theorem F5.d7q (m : Int) (l : List Int) (j : Nat) (h : j < l.length) : F5.pre m l (j + 1) = F5.pre m l j ++ F5.piece m (rd l (j : Int)) := by
 unfold F5.pre rd
 rw [List.take_succ_eq_append_getElem h, List.map_append, List.flatten_append]
 simp [h]
theorem F5.e8T (m : Int) (l : List Int) (j : Nat) : (F5.pre m l j).length ≤ (l.map (F5.piece m)).flatten.length := by
 unfold F5.pre
 conv => rhs; rw [← List.take_append_drop j l, List.map_append, List.flatten_append, List.length_append]
 omega
theorem F5.e2j (m : Int) (l : List Int) (j : Nat) (h : l.length ≤ j) : F5.pre m l j = (l.map (F5.piece m)).flatten := by
 unfold F5.pre
 rw [List.take_of_length_le h]
structure F5.Inv (w0 W : World) (B : Nat) (acc : List Int) : Prop where mk :: (out : ∃ v : Value, W.heap[B]? = some (.cells #[v] 22 (0, 0)) ∧ Kd.R (Kd.int .u8) 5 W w0.heap.size (fun _ => True) v acc ∧ Below w0.heap.size w0 W ∧ w0.heap.size ≤ B)
theorem F5.Inv.drewN {w0 W : World} {B : Nat} {acc : List Int} (h : F5.Inv w0 W B acc) (n : Nat) : F5.Inv w0 (W.drewN n) B acc := by
 obtain ⟨v, h1, h2, h3, h4⟩ := h.out
 exact ⟨⟨v, h1, Kd.a1g h2 n, o9 h3 n, h4⟩⟩
theorem F5.put (w0 W : World) (B : Nat) (acc : List Int) (c : Int) (hI : F5.Inv w0 W B acc) (hl : acc.length + 1 < 140737488355328) :
  Calls Tryd.prog 103 #[.int .u8 c, .pointer (some ⟨B, 0, none⟩)] W fun e w' => e = .returned (.tuple #[]) ∧ F5.Inv w0 w' B (acc ++ [c]) := by
 obtain ⟨v, hblk, hR, hB, hBg⟩ := hI.out
 have hcell : W.cell? ⟨B, 0, none⟩ = some v := D6 hblk 0
 have HBK := a_ hblk
 have HO := a_ hR
 have HB := a_ hB
 have HG := a_ hBg
 have HL := a_ hl
 clear hI hblk hR hB hBg hl
 go_enter Tryd.func103, Tryd.ntmps103
 go_wp2_with (((with_reducible refine E5 (b := .append) (xs := #[.tmp 3, .tmp 5]) rfl ?_); at_builtin; refine Kd.a2K (Kd.int .u8) (w0 := w0) w0.heap.size rfl (.tmp 3) (.tmp 5) 22 5 (.int .u8 0) 1 rfl Tryd.underlying22 info5 rfl (by decide) (by omega) v acc c [.int .u8 c] (fun _ => True) (fun _ => False) rfl rfl ?aP (fun _ hk => hk.elim) ?aF ?aO ?aB ?aS ?aL ?_; (case aP => exact rfl); (case aB => exact HB.out); (case aF => exact (fun _ _ => trivial)); (case aO => exact HO.out); (case aS => exact HB.out.size); (case aL => have := HL.out; omega); intro v1 w1 ho hb hg hat; obtain ⟨Ao1, co1, eo1⟩ := Kd.G7 ho; subst eo1; have hne := Kd.a8b HO.out HBK.out (by decide); have hblk1 := N7 HBK.out hg hne; have hcell1 : w1.cell? ⟨B, 0, none⟩ = some v := D6 hblk1 0; have h2B : w1.frozen? ⟨B, 0, none⟩ = false := l7 hblk1 0; have HO1 := a_ ho; have HB1 := a_ hb; have f5M := a_ hblk1; clear ho hb hg hat hne hblk1))
 go_end0
 refine ⟨rfl, ⟨⟨_, a3U f5M.out 0 _, ?_, o7 HB1.out HG.out, HG.out⟩⟩⟩
 have h := Kd.b9G HO1.out f5M.out (by decide) 0 (.slice Ao1 (acc ++ [c]).length co1)
 simp only [List.length_append, List.length_singleton] at h ⊢
 exact h
theorem F5.each (w0 W : World) (B : Nat) (A0 : Option Addr) (c0 : Nat) (l0 : List Int) (a1 : Int) (hr0 : Kd.C (Kd.int .u8) w0 A0 l0.length l0) (hc0 : l0.length ≤ c0) (hs : (l0.all fun c => (a3Q.f a1 c).isSome) = true) (hl : (l0.map (F5.piece a1)).flatten.length < 140737488355328) (hI : F5.Inv w0 W B []) :
  Calls Tryd.prog 102 #[.slice A0 l0.length c0, .int .u32 a1, .func (.func 103) #[] #[.pointer (some ⟨B, 0, none⟩)]] W fun e w' => e = .returned (.tuple #[]) ∧ F5.Inv w0 w' B (l0.map (F5.piece a1)).flatten := by
 have HR0 := a_ hr0
 have HN := a_ hr0.2.1
 have HI := a_ hI
 have HL := a_ hl
 have HS := a_ hs
 clear hr0 hc0 hI hl hs
 go_enter Tryd.func102, Tryd.ntmps102
 go_wp2
 go_loopg [10] l0.length (fun kq v10 w' => ∃ j : Nat, Aside0 (kq + j = l0.length) ∧ v10 = .int .i64 (j : Int) ∧ Aside0 (F5.Inv w0 w' B (F5.pre a1 l0 j)))
 case atStart => exact ⟨0, ⟨rfl⟩, rfl, HI⟩
 case round =>
  obtain ⟨j, HJ, rfl, HI⟩ := hrel; have hj := HJ.out; have hn := HN.out; have hjl : j ≤ l0.length := by omega
  by_cases hlt : j < l0.length
  ·obtain ⟨k1, rfl⟩ : ∃ k1, gk = k1 + 1 := ⟨gk - 1, by omega⟩; have hB := HI.out.out.choose_spec.2.2.1; have p1 : 0 ≤ (j : Int) := by omega
   have q1 : (j : Int) < (l0.length : Int) := by omega
   obtain ⟨ad, e1, hx⟩ := Kd.Q8 HR0.out (j : Int) p1 q1
   cases e1
   simp only [Int.toNat_natCast] at hx
   replace hx := (hB.cell (World.block_lt_of_cell? w0 _ hx)).trans hx; obtain ⟨t, ht⟩ : ∃ t, a3Q.f a1 (rd l0 (j : Int)) = some t := by
    have h1 := List.all_eq_true.1 HS.out (rd l0 (j : Int)) (by unfold rd; rw [Int.toNat_natCast, List.getD_eq_getElem?_getD, List.getElem?_eq_getElem hlt]; exact List.getElem_mem hlt); exact Option.isSome_iff_exists.1 h1
   have HT := a_ ht; have HP := a_ (F5.d7q a1 l0 j hlt); have LM := a_ (F5.e8T a1 l0 (j + 1)); have HPC : Aside0 (F5.piece a1 (rd l0 (j : Int)) = if t = true then [125, Go.bits .xor .u8 (rd l0 (j : Int)) 32] else [rd l0 (j : Int)]) := ⟨by unfold F5.piece; rw [HT.out]; rfl⟩; clear hB ht hj; have LB : Aside0 ((F5.pre a1 l0 j ++ F5.piece a1 (rd l0 (j : Int))).length < 140737488355328) := ⟨by rw [← HP.out]; exact Nat.lt_of_le_of_lt LM.out HL.out⟩
   cases t with
   | true =>
    have d2B : Aside0 (F5.piece a1 (rd l0 (j : Int)) = [125, Go.bits .xor .u8 (rd l0 (j : Int)) 32]) := ⟨HPC.out⟩
    go_wp2_with fail
    refine (a3Q.calls a1 (rd l0 (j : Int)) true _ HT.out).mono ?_; rintro e w1 ⟨rfl, ⟨nd, rfl⟩⟩
    go_wp2_with fail
    refine (F5.put w0 _ B (F5.pre a1 l0 j) 125 (HI.out.drewN nd) ?_).mono ?_
    ·have := LB.out; rw [d2B.out, List.length_append] at this
     simp only [List.length_cons, List.length_nil] at this
     omega
    rintro e w2 ⟨rfl, hI2⟩; have HI2 := a_ hI2; clear hI2
    go_wp2_with fail
    refine (F5.put w0 _ B (F5.pre a1 l0 j ++ [125]) _ HI2.out ?_).mono ?_
    ·have := LB.out; rw [d2B.out, List.length_append] at this
     simp only [List.length_cons, List.length_nil] at this
     simp only [List.length_append, List.length_cons, List.length_nil]
     omega
    rintro e w3 ⟨rfl, hI3⟩; have HI3 := a_ hI3; clear hI3
    go_wp2
    go_roundg k1
    case measure => omega
    case rel => exact ⟨j + 1, ⟨by have := HJ.out; omega⟩, by go_num, ⟨by rw [HP.out, d2B.out]; have := HI3.out; rw [List.append_assoc] at this; exact this⟩⟩
   | false =>
    have d2B : Aside0 (F5.piece a1 (rd l0 (j : Int)) = [rd l0 (j : Int)]) := ⟨HPC.out⟩
    go_wp2_with fail
    refine (a3Q.calls a1 (rd l0 (j : Int)) false _ HT.out).mono ?_; rintro e w1 ⟨rfl, ⟨nd, rfl⟩⟩
    go_wp2_with fail
    refine (F5.put w0 _ B (F5.pre a1 l0 j) _ (HI.out.drewN nd) ?_).mono ?_
    ·have := LB.out; rw [d2B.out, List.length_append] at this
     simp only [List.length_cons, List.length_nil] at this
     omega
    rintro e w2 ⟨rfl, hI2⟩; have HI2 := a_ hI2; clear hI2
    go_wp2
    go_roundg k1
    case measure => omega
    case rel => exact ⟨j + 1, ⟨by have := HJ.out; omega⟩, by go_num, ⟨by rw [HP.out, d2B.out]; exact HI2.out⟩⟩
  ·go_wp2
   go_end0
   exact ⟨rfl, by rw [← F5.e2j a1 l0 j (by omega)]; exact HI.out⟩
theorem F5.calls (A0 : Option Addr) (c0 : Nat) (l0 : List Int) (a1 : Int) (r : List Int) (w : World) (hr0 : Kd.C (Kd.int .u8) w A0 l0.length l0) (hc0 : l0.length ≤ c0) (h : F5.f l0 a1 = some r) :
  Calls Tryd.prog 87 #[.slice A0 l0.length c0, .int .u32 a1] w fun e w' => ∃ v0_ : Value, e = .returned (v0_) ∧ Kd.R (Kd.int .u8) 5 w' w.heap.size (fun _ => True) v0_ r ∧ Below w.heap.size w w' := by
 obtain ⟨⟨hs, hl⟩, rfl⟩ : ((l0.all fun c => (a3Q.f a1 c).isSome) = true ∧ (l0.map (F5.piece a1)).flatten.length < 140737488355328) ∧ (l0.map (F5.piece a1)).flatten = r := by
  unfold F5.f at h
  split at h
  ·exact ⟨by assumption, oj_ h⟩
  ·cases h
 have HC := a_ hr0
 have HC0 := a_ hc0
 have HS := a_ hs
 have HL := a_ hl
 clear h hs hl hr0 hc0
 go_enter Tryd.func87, Tryd.ntmps87
 go_wp2_with fail
 refine (F5.each w _ w.heap.size A0 c0 l0 a1 HC.out HC0.out HS.out HL.out ⟨⟨.slice none 0 0, heap_alloc_new w _, Kd.Y1 _ _ _ _ _, a0z (Below.refl _ _) _, Nat.le_refl _⟩⟩).mono ?_
 rintro e w1 ⟨rfl, hI⟩
 obtain ⟨v, hblk, hR, hB, _⟩ := hI.out
 have hcell : w1.cell? ⟨w.heap.size, 0, none⟩ = some v := D6 hblk 0
 have HR := a_ hR
 have HB := a_ hB
 clear hI hblk hR hB
 go_wp2
 go_ret
 exact ⟨_, rfl, HR.out, HB.out⟩
def b9b.f (l0 : List Int) (a1 : Bool) : Option (Int) := (a3Y.f a1).bind fun d7r => ((a0i.f d7r l0 a1).bind fun t212 => ((a3Y.f a1).bind fun t213 => (some (Go.bits .xor .u32 t212 t213))))
theorem b9b.calls (A0 : Option Addr) (c0 : Nat) (l0 : List Int) (a1 : Bool) (r : Int) (w : World) (hr0 : Kd.C (Kd.int .u8) w A0 l0.length l0) (hc0 : l0.length ≤ c0) (h : b9b.f l0 a1 = some r) :
  Calls Tryd.prog 104 #[.slice A0 l0.length c0, .bool a1] w fun e w' => e = .returned (.int .u32 r) ∧ Below w.heap.size w w' := by
 have HR0 := a_ hr0
 have HC0 := a_ hc0
 clear hr0 hc0
 have HB := a_ (Below.refl w.heap.size w)
 have H := h
 clear h
 unfold b9b.f at H
 obtain ⟨d7r, A3, H⟩ := bd_ H
 try dsimp only at H
 obtain ⟨t212, A4, H⟩ := bd_ H
 try dsimp only at H
 obtain ⟨t213, A5, H⟩ := bd_ H
 try dsimp only at H
 obtain rfl := oj_ H
 go_enter Tryd.func104, Tryd.ntmps104
 go_wp2_with (first | (refine gl_ (some 6) Tryd.func110 #[.bool a1] ?_; (with_reducible refine (a3Y.calls a1 d7r _ A3.out).mono ?_); rintro e w' ⟨rfl, ⟨nd, rfl⟩⟩; refine ⟨_, rfl, ?_⟩) | (refine gl_ (some 9) Tryd.func109 #[.int .u32 d7r, .slice A0 l0.length c0, .bool a1] ?_; (with_reducible refine (a0i.calls d7r _ _ l0 a1 t212 _ ?P5 ?P6 A4.out).mono ?_); (case P5 => exact HR0.out); (case P6 => exact HC0.out); rintro e w6 ⟨rfl, hb⟩; refine ⟨_, rfl, ?_⟩; replace HB := a_ (J4 (by repeat (with_reducible first | exact HB.out | apply o9)) hb); (try clear hb)) | (refine gl_ (some 11) Tryd.func110 #[.bool a1] ?_; (with_reducible refine (a3Y.calls a1 t213 _ A5.out).mono ?_); rintro e w' ⟨rfl, ⟨nd, rfl⟩⟩; refine ⟨_, rfl, ?_⟩))
 go_ret
 exact ⟨by (rfl), by repeat (with_reducible first | exact HB.out | apply o9)⟩
def a5p.l0 : Nat → List Int → Int → Int → Int → Option (List Int)
 | 0, _, _, _, _ => none
 | k + 1, x5, x6, x13, x14 => if x14 < x13 then (if x5.length < 140737488355328 then (a5p.l0 k (x5 ++ [(x6) % 256]) (x6 / 256) x13 (wrap64 (x14 + 1))) else (none)) else (some x5)
def a5p.f (k : Nat) (l0 : List Int) (a1 : Bool) : Option (List Int) := (O9.f l0).bind fun e2k => ((b9b.f l0 a1).bind fun e2l => ((a2M.f a1).bind fun t218 => (a5p.l0 k e2k e2l t218 0)))
theorem a5p.calls (k : Nat) (A0 : Option Addr) (c0 : Nat) (l0 : List Int) (a1 : Bool) (r : List Int) (w : World) (hr0 : Kd.C (Kd.int .u8) w A0 l0.length l0) (hc0 : l0.length ≤ c0) (h : a5p.f k l0 a1 = some r) :
  Calls Tryd.prog 88 #[.slice A0 l0.length c0, .bool a1] w fun e w' => ∃ v0_ : Value, e = .returned (v0_) ∧ Kd.R (Kd.int .u8) 5 w' w.heap.size (fun _ => True) v0_ r ∧ Below w.heap.size w w' := by
 have HR0 := a_ hr0
 have HC0 := a_ hc0
 clear hr0 hc0
 have HB := a_ (Below.refl w.heap.size w)
 have H := h
 clear h
 unfold a5p.f at H
 obtain ⟨e2k, A3, H⟩ := bd_ H
 try dsimp only at H
 obtain ⟨e2l, A4, H⟩ := bd_ H
 try dsimp only at H
 obtain ⟨t218, A5, H⟩ := bd_ H
 try dsimp only at H
 have H' := a_ H
 clear H
 go_enter Tryd.func88, Tryd.ntmps88
 go_wp2_with (first | (refine gl_ (some 8) Tryd.func96 #[.slice A0 l0.length c0] ?_; (with_reducible refine (O9.calls _ _ l0 e2k _ HR0.out HC0.out A3.out).mono ?_); rintro e w6 ⟨h2C, rfl, ho0, hb⟩; refine ⟨_, rfl, ?_⟩; have d7s := rl_ ho0 HB; replace HB := U9 HB hb; (try clear hb); (try clear ho0)) | (refine gl_ (some 11) Tryd.func104 #[.slice A0 l0.length c0, .bool a1] ?_; (with_reducible refine (b9b.calls _ _ l0 a1 e2l _ (Kd.C9 HR0.out HB.out) HC0.out A4.out).mono ?_); rintro e w7 ⟨rfl, hb⟩; refine ⟨_, rfl, ?_⟩; replace d7s := rb_ d7s hb; replace HB := U9 HB hb; (try clear hb)) | (refine gl_ (some 13) Tryd.func105 #[.bool a1] ?_; (with_reducible refine (a2M.calls a1 t218 _ A5.out).mono ?_); rintro e w' ⟨rfl, ⟨nd, rfl⟩⟩; refine ⟨_, rfl, ?_⟩))
 go_loopg [5, 6, 14] k (fun kq v5 v6 v14 w' => ∃ (J9 : List Int) (a07 : Int) (a1D : Int), v6 = .int .u32 a07 ∧ v14 = .int .i64 a1D ∧ Aside0 (a5p.l0 kq J9 a07 t218 a1D = some r) ∧ Aside0 (kq ≤ k) ∧ Aside0 (Kd.R (Kd.int .u8) 5 w' w.heap.size (fun _ => True) v5 J9) ∧ Aside0 (Below w.heap.size w w'))
 case atStart => exact ⟨(e2k), (e2l), (0), (by rfl), (by rfl), H', ⟨Nat.le_refl _⟩, ⟨by (with_reducible repeat (apply Kd.a1g)); exact d7s.out⟩, ⟨by repeat (with_reducible first | exact HB.out | apply o9)⟩⟩
 case round =>
  clear H'; obtain ⟨J9, a07, a1D, rfl, rfl, HA, HK1, b6C, HB⟩ := hrel
  cases gk with
  | zero => exact absurd HA.out (by simp [a5p.l0])
  | succ k1 =>
   have H := HA.out; clear HA
   simp only [a5p.l0] at H
   by_cases c8 : a1D < t218
   ·rw [if_pos c8] at H; have b1u := dt_ c8; clear c8; have c9 := Z7 H; replace H := O5 H; have c65 := a_ c9; clear c9; obtain ⟨g5K, d7t⟩ := is_ ((J9 ++ [(a07) % 256]) : List Int); rw [← d7t] at H; have f5N := a_ d7t; clear d7t; have H' := a_ H; clear H
    go_wp2_with (first | ((with_reducible refine E5 (b := .append) (xs := #[.tmp 16, .tmp 19]) rfl ?_); at_builtin; refine Kd.a2K (Kd.int .u8) (w0 := w) w.heap.size rfl (.tmp 16) (.tmp 19) 22 5 (.int .u8 0) 1 rfl Tryd.underlying22 info5 rfl (by decide) (by omega) u5 J9 ((a07) % 256) [.int .u8 ((a07) % 256)] (fun _ => True) (fun _ => False) rfl rfl ?aP (fun _ hk => hk.elim) ?aF ?aO ?aB ?aS ?aL ?_; (case aP => exact rfl); (case aB => exact HB.out); (case aF => exact (fun _ _ => trivial)); (case aO => exact b6C.out); (case aS => exact (y5 HB.out)); (case aL => have := c65.out; omega); intro h2D w10 ho hb hg hat; rw [← f5N.out] at ho; have f5O := a_ ho; replace HB := a_ hb; clear b6C ho hb hg hat))
    go_roundg k1
    case measure => have := HK1.out; omega
    case rel => exact ⟨(g5K), (a07 / 256), (wrap64 (a1D + 1)), (by rfl), (by rfl), H', ⟨by have := HK1.out; omega⟩, ⟨by exact f5O.out⟩, ⟨by exact HB.out⟩⟩
   ·rw [if_neg c8] at H; have b1u := df_ c8; clear c8; obtain rfl := oj_ H
    go_wp2
    go_ret
    exact ⟨_, by (rfl), by exact b6C.out, by exact HB.out⟩
def a4j.l0 : Nat → Int → Bool → List Int → List (List Int) → Int → Int → Option (List Int × Int)
 | 0, _, _, _, _, _, _ => none
 | k + 1, x1, x2, x8, x12, x13, x14 => if x14 < x13 then (if 0 ≤ x14 then (if x14 < (x12.length : Int) then (if ((a1T x12 x14).length : Int) < 2 then (some (([] : List Int), 1)) else (if ((a1T x12 x14).length : Int) > 65535 then (some (([] : List Int), 4)) else ((a5p.f k (a1T x12 x14) x2).bind fun t226 => ((F5.f t226 x1).bind fun t229 => ((y7.f ([x8, t229, ([126] : List Int)] : List (List Int))).bind fun e2m => (a4j.l0 k x1 x2 e2m x12 x13 (wrap64 (x14 + 1)))))))) else (none)) else (none)) else (some (x8, 0))
def a4j.f (k : Nat) (l0 : List (List Int)) (a1 : Int) (a2 : Bool) : Option (List Int × Int) := a4j.l0 k a1 a2 ([126] : List Int) l0 (l0.length : Int) 0
theorem a4j.calls (k : Nat) (A0 : Option Addr) (c0 : Nat) (l0 : List (List Int)) (a1 : Int) (a2 : Bool) (r1 : List Int) (r2 : Int) (w : World) (hr0 : Kd.C (Kd.slice 5 (Kd.int .u8)) w A0 l0.length l0) (hc0 : l0.length ≤ c0) (h : a4j.f k l0 a1 a2 = some (r1, r2)) :
  Calls Tryd.prog 68 #[.slice A0 l0.length c0, .int .u32 a1, .bool a2] w fun e w' => ∃ v0_ : Value, e = .returned (.tuple #[v0_, .int .i64 r2]) ∧ Kd.R (Kd.int .u8) 5 w' w.heap.size (fun _ => True) v0_ r1 ∧ Below w.heap.size w w' := by
 have HR0 := a_ hr0
 have HC0 := a_ hc0
 clear hr0 hc0
 have HB := a_ (Below.refl w.heap.size w)
 have H := h
 clear h
 unfold a4j.f at H
 obtain ⟨g5L, d7u⟩ := is_ ([126] : List Int)
 rw [← d7u] at H
 have f5P := a_ d7u
 clear d7u
 have H' := a_ H
 clear H
 go_enter Tryd.func68, Tryd.ntmps68
 go_wp2_with (first | (refine c6z .u8 5 11 ([126] : List Int) ?_; intro h2E w4 ho5 hb; (rw [← f5P.out] at ho5); have f5Q := rl_ ho5 HB; replace HB := U9 HB hb; clear hb ho5))
 go_loopg [8, 14] k (fun kq v8 v14 w' => ∃ (Q7 : List Int) (a1D : Int), v14 = .int .i64 a1D ∧ Aside0 (a4j.l0 kq a1 a2 Q7 l0 (l0.length : Int) a1D = some (r1, r2)) ∧ Aside0 (kq ≤ k) ∧ Aside0 (Kd.R (Kd.int .u8) 5 w' w.heap.size (fun _ => True) v8 Q7) ∧ Aside0 (Below w.heap.size w w'))
 case atStart => exact ⟨(g5L), (0), (by rfl), H', ⟨Nat.le_refl _⟩, ⟨by exact f5Q.out⟩, ⟨by exact HB.out⟩⟩
 case round =>
  clear H'; obtain ⟨Q7, a1D, rfl, HA, HK1, a2I, HB⟩ := hrel
  cases gk with
  | zero => exact absurd HA.out (by simp [a4j.l0])
  | succ k1 =>
   have H := HA.out; clear HA
   simp only [a4j.l0] at H
   by_cases c6 : a1D < (l0.length : Int)
   ·rw [if_pos c6] at H; have a8h := dt_ c6; clear c6; have a5U := a2z H; replace H := O5 H; have b1u := a2z H; replace H := O5 H
    by_cases c9 : ((a1T l0 a1D).length : Int) < 2
    ·rw [if_pos c9] at H; have b1v := dt_ c9; have b71 : decide ((a1T l0 a1D).length < 2) = true := dt_ (by omega); clear c9; obtain ⟨rfl, rfl⟩ := s2_ H; have b9c : 0 ≤ (a1D : Int) := V9; have b9d : a1D < (l0.length : Int) := V9; obtain ⟨e4z, c7P, c7Q, d7v, a9t, a9u, a9v⟩ := b2Y HR0.out a1D b9c b9d
     cases d7v
     replace a9t := cb_ HB a9t; have c3o := a_ a9v; have c3p := a_ a9u; clear a9v a9u; replace b9c := eq_true b9c; replace b9d := eq_true b9d
     go_wp2
     go_ret2
     exact ⟨_, by (rfl), by (exact Kd.Y1 _ _ _ _ _), by exact HB.out⟩
    ·rw [if_neg c9] at H; have b1v := df_ c9; have b71 : decide ((a1T l0 a1D).length < 2) = false := df_ (by omega); clear c9
     by_cases c10 : ((a1T l0 a1D).length : Int) > 65535
     ·rw [if_pos c10] at H; have a9e : decide (65535 < ((a1T l0 a1D).length : Int)) = true := dt_ c10; have b72 : decide (65535 < (a1T l0 a1D).length) = true := dt_ (by omega); clear c10; obtain ⟨rfl, rfl⟩ := s2_ H; have b9c : 0 ≤ (a1D : Int) := V9; have b9d : a1D < (l0.length : Int) := V9; obtain ⟨e4z, c7P, c7Q, d7v, a9t, a9u, a9v⟩ := b2Y HR0.out a1D b9c b9d
      cases d7v
      replace a9t := cb_ HB a9t; have c3o := a_ a9v; have c3p := a_ a9u; clear a9v a9u; replace b9c := eq_true b9c; replace b9d := eq_true b9d
      go_wp2
      go_ret2
      exact ⟨_, by (rfl), by (exact Kd.Y1 _ _ _ _ _), by exact HB.out⟩
     ·rw [if_neg c10] at H; have a9e : decide (65535 < ((a1T l0 a1D).length : Int)) = false := df_ c10; have b72 : decide (65535 < (a1T l0 a1D).length) = false := df_ (by omega); clear c10; obtain ⟨t226, A11, H⟩ := bd_ H
      (try dsimp only at H); obtain ⟨t229, A12, H⟩ := bd_ H
      (try dsimp only at H); obtain ⟨d7w, d7x⟩ := is_ ([126] : List Int); rw [← d7x] at H; have f5R := a_ d7x; clear d7x; obtain ⟨f5S, d7y⟩ := is_ ([Q7, t229, d7w] : List (List Int)); rw [← d7y] at H; have f5T := a_ d7y; clear d7y; obtain ⟨e2m, A13, H⟩ := bd_ H
      (try dsimp only at H); have H' := a_ H; clear H; have b9c : 0 ≤ (a1D : Int) := V9; have b9d : a1D < (l0.length : Int) := V9; obtain ⟨e4z, c7P, c7Q, d7v, a9t, a9u, a9v⟩ := b2Y HR0.out a1D b9c b9d
      cases d7v
      replace a9t := cb_ HB a9t; have c3o := a_ a9v; have c3p := a_ a9u; clear a9v a9u; replace b9c := eq_true b9c; replace b9d := eq_true b9d
      go_wp2_with (first | (refine gl_ (some 27) Tryd.func88 #[.slice c7P (a1T l0 a1D).length c7Q, .bool a2] ?_; (with_reducible refine (a5p.calls k1 _ _ (a1T l0 a1D) a2 t226 _ (Kd.C9 c3o.out HB.out) c3p.out A11.out).mono ?_); rintro e w14 ⟨v227, rfl, ho0, hb⟩; refine ⟨_, rfl, ?_⟩; have a81 := rn_ ho0 a2I HB; replace a2I := rR_ a2I ho0 hb; replace HB := U9 HB hb; (try clear hb); (try clear ho0); obtain ⟨b3J, a7C, c6P⟩ := Kd.G7 a81.out; subst c6P) | (refine gl_ (some 29) Tryd.func87 #[.slice b3J t226.length a7C, .int .u32 a1] ?_; (with_reducible refine (F5.calls _ _ t226 a1 t229 _ ((Kd.E8 a81.out).2.2) ((Kd.E8 a81.out).2.1) A12.out).mono ?_); rintro e w16 ⟨h2F, rfl, ho0, hb⟩; refine ⟨_, rfl, ?_⟩; have b9e := a_ (Kd.a0e (Kd.a1H (Kd.a1H ho0 (Kd.a0m a2I.out)) (Kd.a0m a81.out)) (y5 HB.out)); replace a2I := rR_ a2I ho0 hb; replace a81 := rR_ a81 ho0 hb; replace HB := U9 HB hb; (try clear hb); (try clear ho0)) | (refine c6z .u8 5 30 ([126] : List Int) ?_; intro v233 w17 b9B hb; (rw [← f5R.out] at b9B); have d00 := a_ (Kd.a0e (Kd.a1H (Kd.a1H (Kd.a1H b9B (Kd.a0m a2I.out)) (Kd.a0m a81.out)) (Kd.a0m b9e.out)) (y5 HB.out)); replace a2I := rR_ a2I b9B hb; replace a81 := rR_ a81 b9B hb; replace b9e := rR_ b9e b9B hb; replace HB := U9 HB hb; clear hb b9B; obtain ⟨b0I, b0J, c6Y⟩ := Kd.G7 a2I.out; subst c6Y; obtain ⟨a6U, a6V, c2l⟩ := Kd.G7 b9e.out; subst c2l; obtain ⟨b8m, b8n, c2h⟩ := Kd.G7 d00.out; subst c2h) | ((with_reducible refine X0 (N := 31) rfl ?_); refine Kd.c8b (Kd.slice 5 (Kd.int .u8)) _ 22 ?hg (N' := 31) ?hd (xs := ([Q7, t229, d7w] : List (List Int))) (inner := [.slice b0I Q7.length b0J, .slice a6U t229.length a6V, .slice b8m d7w.length b8n]) (ok := (fun k_ => some k_ ≠ (.slice b3J t226.length a7C : Value).ownBlock)) (okp := (fun k_ => some k_ ≠ (.slice b3J t226.length a7C : Value).ownBlock)) ?hr ?hp (fun _ hk => hk) ((show ∀ k_, w17.heap.size ≤ k_ → (fun k_ => some k_ ≠ (.slice b3J t226.length a7C : Value).ownBlock) k_ from fun k_ hk => Kd.fresh' (Kd.a0m a81.out) k_ hk) _ (Nat.le_refl _)) (Below.refl _ _) (Nat.le_refl _) (by simp) ?_; (case hd => rfl); (case hg => rfl); (case hr => (go_simp; done)); (case hp => exact (L8.one (show Kd.FK (Kd.slice 5 (Kd.int .u8)) _ _ Q7 [.slice b0I Q7.length b0J] from (Kd.a3E (Kd.E8 (Kd.D7 (ok' := (fun k_ => some k_ ≠ (.slice b3J t226.length a7C : Value).ownBlock)) (a2I.out) (fun k_ hk => hk.1.1.2))).2.1 (Kd.R_F (Kd.D7 (ok' := (fun k_ => some k_ ≠ (.slice b3J t226.length a7C : Value).ownBlock)) (a2I.out) (fun k_ hk => hk.1.1.2))))) (L8.one (show Kd.FK (Kd.slice 5 (Kd.int .u8)) _ _ t229 [.slice a6U t229.length a6V] from (Kd.a3E (Kd.E8 (Kd.D7 (ok' := (fun k_ => some k_ ≠ (.slice b3J t226.length a7C : Value).ownBlock)) (b9e.out) (fun k_ hk => hk.1.2))).2.1 (Kd.R_F (Kd.D7 (ok' := (fun k_ => some k_ ≠ (.slice b3J t226.length a7C : Value).ownBlock)) (b9e.out) (fun k_ hk => hk.1.2))))) (L8.one (show Kd.FK (Kd.slice 5 (Kd.int .u8)) _ _ d7w [.slice b8m d7w.length b8n] from (Kd.a3E (Kd.E8 (Kd.D7 (ok' := (fun k_ => some k_ ≠ (.slice b3J t226.length a7C : Value).ownBlock)) (d00.out) (fun k_ hk => hk.1.2))).2.1 (Kd.R_F (Kd.D7 (ok' := (fun k_ => some k_ ≠ (.slice b3J t226.length a7C : Value).ownBlock)) (d00.out) (fun k_ hk => hk.1.2))))) (L8.none _ _))))); intro v236 w22 c6A hb hg_ a1B; clear hg_ a1B; (rw [← f5T.out] at c6A); have c5B := a_ (Kd.a7s c6A (y5 HB.out)); replace a81 := rb_ a81 hb; replace HB := U9 HB hb; clear b9e d00 a2I hb c6A; obtain ⟨c1k, c1l, c6B⟩ := Kd.a3X c5B.out; subst c6B) | (refine gl_ (some 32) Tryd.func73 #[.slice c1k f5S.length c1l] ?_; (with_reducible refine (y7.calls _ _ f5S e2m _ ((Kd.a0r c5B.out).2.2) ((Kd.a0r c5B.out).2.1) A13.out).mono ?_); rintro e w25 ⟨h2G, rfl, ho0, hb⟩; refine ⟨_, rfl, ?_⟩; have f5U := rn_ ho0 a81 HB; replace a81 := rR_ a81 ho0 hb; replace c5B := rN_ c5B ho0 hb; replace HB := U9 HB hb; (try clear hb); (try clear ho0)))
      go_roundg k1
      case measure => have := HK1.out; omega
      case rel => exact ⟨(e2m), (wrap64 (a1D + 1)), (by rfl), H', ⟨by have := HK1.out; omega⟩, ⟨by exact Kd.D7 f5U.out (fun _ hk => trivial)⟩, ⟨by exact HB.out⟩⟩
   ·rw [if_neg c6] at H; have a8h := df_ c6; clear c6; obtain ⟨rfl, rfl⟩ := s2_ H
    go_wp2
    go_ret2
    exact ⟨_, by (rfl), by exact a2I.out, by exact HB.out⟩
def a9P.f (k : Nat) (l0 : List Int) (a1 : Int) (a2 : Bool) : Option (List Int × Int) := (a4j.f k ([l0] : List (List Int)) a1 a2).bind fun e4A => (some (e4A.1, e4A.2))
theorem a9P.calls (k : Nat) (P0_ : Nat → Prop) (A0 : Option Addr) (c0 : Nat) (l0 : List Int) (a1 : Int) (a2 : Bool) (r1 : List Int) (r2 : Int) (w : World) (hs0 : Kd.V (Kd.int .u8) 5 w w.heap.size (fun k_ => P0_ k_) (.slice A0 l0.length c0) l0) (h : a9P.f k l0 a1 a2 = some (r1, r2)) :
  Calls Tryd.prog 50 #[.slice A0 l0.length c0, .int .u32 a1, .bool a2] w fun e w' => ∃ v0_ : Value, e = .returned (.tuple #[v0_, .int .i64 r2]) ∧ Kd.R (Kd.int .u8) 5 w' w.heap.size (fun k_ => (w.heap.size ≤ k_)) v0_ r1 ∧ Below w.heap.size w w' := by
 have HO0 := a_ (show Kd.V (Kd.int .u8) 5 w w.heap.size (fun k_ => (P0_ k_ ∨ w.heap.size ≤ k_)) (.slice A0 l0.length c0) l0 from Kd.a3N hs0 (fun k_ hk => .inl hk))
 have HB := a_ (Below.refl w.heap.size w)
 have H := h
 clear h
 unfold a9P.f at H
 obtain ⟨f5V, d7z⟩ := is_ ([l0] : List (List Int))
 rw [← d7z] at H
 have f5W := a_ d7z
 clear d7z
 obtain ⟨⟨g5N, g5O⟩, A4, H⟩ := bd_ H
 try dsimp only at H
 obtain ⟨rfl, rfl⟩ := s2_ H
 go_enter Tryd.func50, Tryd.ntmps50
 go_wp2_with (first | ((with_reducible refine X0 (N := 9) rfl ?_); refine Kd.c8b (Kd.slice 5 (Kd.int .u8)) _ 22 ?hg (N' := 9) ?hd (xs := ([l0] : List (List Int))) (inner := [.slice A0 l0.length c0]) (ok := (fun k_ => (P0_ k_ ∨ w.heap.size ≤ k_))) (okp := (fun k_ => (P0_ k_ ∨ w.heap.size ≤ k_))) ?hr ?hp (fun _ hk => hk) ((show ∀ k_, w.heap.size ≤ k_ → (fun k_ => (P0_ k_ ∨ w.heap.size ≤ k_)) k_ from fun k_ hk => (.inr (Nat.le_trans (y5 HB.out) hk))) _ (Nat.le_refl _)) (Below.refl _ _) (Nat.le_refl _) (by simp) ?_; (case hd => rfl); (case hg => rfl); (case hr => (go_simp; done)); (case hp => exact (L8.one (show Kd.FK (Kd.slice 5 (Kd.int .u8)) _ _ l0 [.slice A0 l0.length c0] from (Kd.a3E (Kd.a8G (Kd.a3N (ok' := (fun k_ => (P0_ k_ ∨ w.heap.size ≤ k_))) (HO0.out) (fun k_ hk => hk))).2.1 (Kd.V_F (Kd.a3N (ok' := (fun k_ => (P0_ k_ ∨ w.heap.size ≤ k_))) (HO0.out) (fun k_ hk => hk))))) (L8.none _ _))); intro h2H w5 ho6 hb hg_ a1B; clear hg_ a1B; (rw [← f5W.out] at ho6); have c5C := a_ (Kd.a7s ho6 (y5 HB.out)); replace HO0 := a_ (Kd.a3D HO0.out (Kd.a4p ho6) hb); replace HB := U9 HB hb; clear hb ho6; obtain ⟨Ao7, co7, eo7⟩ := Kd.a3X c5C.out; subst eo7) | (refine gl_ (some 12) Tryd.func68 #[.slice Ao7 f5V.length co7, .int .u32 a1, .bool a2] ?_; (with_reducible refine (a4j.calls k _ _ f5V a1 a2 g5N g5O _ ((Kd.a0r c5C.out).2.2) ((Kd.a0r c5C.out).2.1) A4.out).mono ?_); rintro e w8 ⟨h2I, rfl, ho0, hb⟩; refine ⟨_, rfl, ?_⟩; have f5X := a_ (Kd.a0e (Kd.c52 (M := fun k_ => (w.heap.size ≤ k_)) ho0 (y5 HB.out) (fun k_ h_ => h_)) (y5 HB.out)); replace HO0 := a_ (Kd.a3D HO0.out (Kd.a0H ho0) hb); replace c5C := rN_ c5C ho0 hb; replace HB := U9 HB hb; (try clear hb); (try clear ho0)))
 go_ret2
 exact ⟨_, by (rfl), by exact Kd.D7 f5X.out (fun _ hk => hk.1), by exact HB.out⟩
def a3P.f (a0 : Int) (a1 : Int) : Option (Bool) := if a1 ≥ 1 then (if a1 ≤ 8 then (if a1 = 8 then (some true) else (if 0 ≤ (wrap64 (8 * a1)) then (some ((shr .u64 a0 (wrap64 (8 * a1))) == 0)) else (none))) else (some false)) else (some false)
theorem a3P.calls (a0 : Int) (a1 : Int) (r : Bool) (w : World) (h : a3P.f a0 a1 = some r) :
  Calls Tryd.prog 89 #[.int .u64 a0, .int .i64 a1] w fun e w' => e = .returned (.bool r) ∧ F8 w w' := by
 have H := h
 clear h
 unfold a3P.f at H
 by_cases c3 : a1 ≥ 1
 ·rw [if_pos c3] at H; have a3O : decide (1 ≤ a1) = true := dt_ c3; clear c3
  by_cases c4 : a1 ≤ 8
  ·rw [if_pos c4] at H; have a4d := dt_ c4; clear c4
   by_cases c5 : a1 = 8
   ·rw [if_pos c5] at H; obtain ⟨a5y, b0H⟩ := bt_ c5; clear c5; obtain rfl := oj_ H
    go_enter Tryd.func89, Tryd.ntmps89
    go_wp2
    go_ret
    exact ⟨by (rfl), by exact F8.refl _⟩
   ·rw [if_neg c5] at H; have a5y := bq_ c5; have b0H := bn_ c5; obtain ⟨ji6, c5d⟩ := si_ ((wrap64 (8 * a1))); rw [c5d] at H; have e3O : (IntKind.i64.wrap (8 * a1)) = ji6 := (a0I _).trans c5d; have c7 := Z7 H; replace H := O5 H; have a5U := eq_true c7; have a9R := dt_ c7; clear c7; obtain ⟨ji8, e8U⟩ := si_ ((shr .u64 a0 (ji6))); rw [e8U] at H; have g8y : (a0 / 2 ^ min (ji6).toNat 64) = ji8 := e8U; have g8z : (ji6) ≤ 64 → (a0 / 2 ^ (ji6).toNat) = ji8 := b5F e8U; obtain rfl := oj_ H
    go_enter Tryd.func89, Tryd.ntmps89
    go_wp2
    go_ret
    exact ⟨by (rfl), by exact F8.refl _⟩
  ·rw [if_neg c4] at H; have a4d := df_ c4; clear c4; obtain rfl := oj_ H
   go_enter Tryd.func89, Tryd.ntmps89
   go_wp2
   go_ret
   exact ⟨by (rfl), by exact F8.refl _⟩
 ·rw [if_neg c3] at H; have a3O : decide (1 ≤ a1) = false := df_ c3; clear c3; obtain rfl := oj_ H
  go_enter Tryd.func89, Tryd.ntmps89
  go_wp2
  go_ret
  exact ⟨by (rfl), by exact F8.refl _⟩
end Go.Proofs.YtgnonglkibhnhaaDoor.Print
