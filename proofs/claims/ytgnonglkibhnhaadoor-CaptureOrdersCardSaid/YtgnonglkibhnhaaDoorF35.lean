import Derived.Test.YtgnonglkibhnhaaDoorZ
import Derived.Test.YtgnonglkibhnhaaDoorF37
import Derived.Test.YtgnonglkibhnhaaDoorM4
namespace Go.Proofs.YtgnonglkibhnhaaDoor.Print
open Go.RowKit Go.Proofs.YtgnonglkibhnhaaDoorW.PrintWords Go.Proofs.YtgnonglkibhnhaaDoorW.PrintLast Go.Proofs.YtgnonglkibhnhaaDoorW.PrintMore
attribute [local go_sem] a0u a0v a1m a1n Y7 Y8 a0w a0x
set_option linter.unusedVariables false
set_option linter.unusedSimpArgs false

/-! ### umpireref09_Head: function 35 -/
def umpireref09_Head.tail (k : Nat) (l0 : List Int) (b n : Bool) : Option (Bool × Bool × Int × Int × Int) :=
 if (l0.length : Int) < 24 then some (false, false, 0, 0, 2) else (O6.f k ((l0.take 6).drop 4) b).bind fun t => if t = 2 then (O9.f k l0 16 b).bind fun t1 => (O9.f k l0 20 b).bind fun t2 => some (b, n, t1, t2, 0) else some (false, false, 0, 0, 3)
def umpireref09_Head.c5R (k : Nat) (l0 : List Int) : Nat → Nat → Option (Bool × Bool × Int × Int × Int)
 | 0, _ => some (false, false, 0, 0, 3)
 | d + 1, j => (umpireref09_Header.f k ((j : Int) % 2 == 1) ((j : Int) / 2 == 1) 0 0).bind fun t => if (4 : Int) ≤ t.length then (if (strOfNums (t.take 4)).toList = (strOfNums (l0.take 4)).toList then umpireref09_Head.tail k l0 ((j : Int) % 2 == 1) ((j : Int) / 2 == 1) else umpireref09_Head.c5R k l0 d (j + 1)) else none
def umpireref09_Head.f (k : Nat) (l0 : List Int) : Option (Bool × Bool × Int × Int × Int) := if (l0.length : Int) < 4 then some (false, false, 0, 0, 2) else umpireref09_Head.c5R k l0 4 0
theorem umpireref09_Head.f8u (A : Option Addr) (l : List Int) (c : Nat) (h4 : (4 : Int) ≤ l.length) (hc : l.length ≤ c) :
  (∀ W : World, (Instr.slice 22 (.slice A l.length c) none (some (.int .i64 4)) none).run Tryd.prog W = .ok (.slice A 4 c) W) ∧ ∀ w : World, Kd.C (Kd.int .u8) w A l.length l → (convert 22 9 (.slice A 4 c)).run Tryd.prog w = .ok (.string (strOfNums (l.take (4 : Int).toNat))) w := by
 obtain ⟨i0, hi0, _, hsz, _⟩ := info_parts info5
 obtain ⟨hcB, hrB, hlB⟩ := b2F (P := Tryd.prog) (Value.int .u8) 0 22 5 .i64 Tryd.underlying22 hi0 hsz A c l 4 (by omega) h4 hc
 have lB4 : (l.take (4 : Int).toNat).length = 4 := (by rw [List.length_take]; omega)
 rw [lB4] at hcB
 refine ⟨hcB, fun w h => ?_⟩
 have e9q := Kd.a6C (P := Tryd.prog) (dst := 9) (c := c) Tryd.underlying22 Tryd.underlying5 Tryd.underlying9 (Kd.a0K (enc := Value.int .u8) (d := (0 : Int)) (h1 := fun _ => rfl) (hrB w (Kd.a0p (enc := Value.int .u8) (d := (0 : Int)) (h1 := fun _ => rfl) h)))
 rw [lB4] at e9q
 exact e9q
theorem umpireref09_Head.neq (a b : List UInt8) : (!(a == b)) = decide (¬ a = b) := by rw [Bool.eq_iff_iff]; simp
theorem umpireref09_Head.f8v (A : Option Addr) (l : List Int) (c : Nat) (h4 : (24 : Int) ≤ l.length) (hc : l.length ≤ c) :
  ∃ A', (∀ W : World, (Instr.slice 22 (.slice A l.length c) (some (.int .i64 4)) (some (.int .i64 6)) none).run Tryd.prog W = .ok (.slice A' 2 (c - 4)) W) ∧ (∀ w : World, Kd.C (Kd.int .u8) w A l.length l → Kd.C (Kd.int .u8) w A' 2 ((l.take 6).drop 4)) ∧ ((l.take 6).drop 4).length = 2 ∧ 2 ≤ c - 4 := by
 obtain ⟨i0, hi0, _, hsz, _⟩ := info_parts info5
 obtain ⟨A', hcB, hrB, hlB⟩ := a6A (P := Tryd.prog) (Value.int .u8) 0 22 5 .i64 .i64 Tryd.underlying22 hi0 hsz A c l 4 6 (by omega) (by omega) (by omega) hc
 have lB4 : ((l.take (6 : Int).toNat).drop (4 : Int).toNat).length = 2 := (by rw [List.length_drop, List.length_take]; omega)
 rw [lB4] at hcB
 refine ⟨A', hcB, fun w h => ?_, lB4, by omega⟩
 have h2 := Kd.a0K (enc := Value.int .u8) (d := (0 : Int)) (h1 := fun _ => rfl) (hrB w (Kd.a0p (enc := Value.int .u8) (d := (0 : Int)) (h1 := fun _ => rfl) h))
 rw [lB4] at h2
 exact h2
structure umpireref09_Head.Round (w W : World) (g2 k : Nat) (l0 : List Int) (j : Nat) (r : Bool × Bool × Int × Int × Int) : Prop where
 h2 : W.heap[g2]? = some (.cells #[.bool false, .bool false, .int .u32 0, .int .u32 0] 46 (0, 0))
 hb : Below w.heap.size w W
 hl : umpireref09_Head.c5R k l0 (4 - j) j = some r
set_option maxHeartbeats 8000000 in
set_option maxRecDepth 100000 in
theorem umpireref09_Head.calls (k : Nat) (A0 : Option Addr) (c0 : Nat) (l0 : List Int) (r1 r2 : Bool) (r3 r4 : Int) (r5 : Int) (w : World) (hr0 : Kd.C (Kd.int .u8) w A0 l0.length l0) (hc0 : l0.length ≤ c0) (h : umpireref09_Head.f k l0 = some (r1, r2, r3, r4, r5)) :
  Calls Tryd.prog 35 #[.slice A0 l0.length c0] w fun e w' => e = .returned (.tuple #[.agg #[.bool r1, .bool r2, .int .u32 r3, .int .u32 r4], .int .i64 r5]) ∧ Below w.heap.size w w' := by
 have huM := Tryd.underlying46
 unfold umpireref09_Head.f at h
 have HR0 := a_ hr0
 have HC0 := a_ hc0
 have HW := a_ (Below.refl w.heap.size w)
 by_cases c1 : (l0.length : Int) < 4
 ·rw [if_pos c1] at h
  simp only [Option.some.injEq, Prod.mk.injEq] at h
  obtain ⟨rfl, rfl, rfl, rfl, rfl⟩ := h
  have c1b := decide_eq_true c1
  clear c1 hr0 hc0
  go_enter Tryd.func35, Tryd.ntmps35
  go_wp2_with (((with_reducible refine P9 (N := 2) rfl ?_); refine a8y ?hg (N := 2) ?hd (cs := #[.bool false, .bool false, .int .u32 0, .int .u32 0]) (t := 46) ?hr ?_; (case hd => rfl); (case hg => rfl); (case hr => first | (go_simp; done) | (go_simp; rfl)); intro g2 hg w1 hbox hb; have BK2 := a_ hbox; have HB1 := W9 HW hb; have GE2 : Aside0 (w.heap.size ≤ g2) := ⟨by rw [hg]; exact Nat.le_refl _⟩; clear hg hbox hb; have b3V := bc0 BK2; have b3W := l7 BK2.out 0; have b3X := bc1 BK2; have b3Y := l7 BK2.out 1; have b3Z := bc2 BK2; have b30 := l7 BK2.out 2; have b31 := bc3 BK2; have b33 := l7 BK2.out 3))
  refine bodyPost_ret (Y5 rfl _ _ g2 46 #[.bool false, .bool false, .int .u32 0, .int .u32 0] (0, 0) _ rfl (by refine l9 (cs := #[.bool false, .bool false, .int .u32 0, .int .u32 0]) ?_ 3 _ rfl; refine l9 (cs := #[.bool false, .bool false, .int .u32 0, .int .u32 0]) ?_ 2 _ rfl; refine l9 (cs := #[.bool false, .bool false, .int .u32 0, .int .u32 0]) ?_ 1 _ rfl; refine l9 (cs := #[.bool false, .bool false, .int .u32 0, .int .u32 0]) ?_ 0 _ rfl; exact BK2.out) Tryd.underlying46 rfl (by kernel_rfl)) rfl ?_
  exact ⟨rfl, by repeat (first | with_reducible exact HB1.out | with_reducible refine o8 ?_ GE2.out)⟩
 ·rw [if_neg c1] at h
  have c1b := decide_eq_false c1
  have h4 : 4 ≤ (l0.length : Int) := by omega
  have H4 := a_ h4
  have HF : Aside0 (umpireref09_Head.c5R k l0 (4 - 0) 0 = some (r1, r2, r3, r4, r5)) := ⟨h⟩
  obtain ⟨i0, hi0, _, hsz, _⟩ := info_parts info5
  clear c1 hr0 hc0 h4 h
  go_enter Tryd.func35, Tryd.ntmps35
  go_wp2_with (((with_reducible refine P9 (N := 2) rfl ?_); refine a8y ?hg (N := 2) ?hd (cs := #[.bool false, .bool false, .int .u32 0, .int .u32 0]) (t := 46) ?hr ?_; (case hd => rfl); (case hg => rfl); (case hr => first | (go_simp; done) | (go_simp; rfl)); intro g2 hg w1 hbox hb; have BK2 := a_ hbox; have HB1 := W9 HW hb; have GE2 : Aside0 (w.heap.size ≤ g2) := ⟨by rw [hg]; exact Nat.le_refl _⟩; clear hg hbox hb; have b3V := bc0 BK2; have b3W := l7 BK2.out 0; have b3X := bc1 BK2; have b3Y := l7 BK2.out 1; have b3Z := bc2 BK2; have b30 := l7 BK2.out 2; have b31 := bc3 BK2; have b33 := l7 BK2.out 3))
  go_loopg [4] 4 (fun kq v4 w' => ∃ j : Nat, kq + j = 4 ∧ v4 = .int .i64 (j : Int) ∧ Aside0 (umpireref09_Head.Round w w' g2 k l0 j (r1, r2, r3, r4, r5)))
  case atStart => exact ⟨0, rfl, rfl, ⟨⟨BK2.out, HB1.out, HF.out⟩⟩⟩
  case round =>
   obtain ⟨j, hj, rfl, HI⟩ := hrel
   clear BK2 HB1 HF b3V b3X b3Z b31 b3W b3Y b30 b33
   have BK := a_ HI.out.h2
   have HB := a_ HI.out.hb
   have HL := a_ HI.out.hl
   clear HI
   have b3V := bc0 BK
   have b3W := l7 BK.out 0
   have b3X := bc1 BK
   have b3Y := l7 BK.out 1
   have b3Z := bc2 BK
   have b30 := l7 BK.out 2
   have b31 := bc3 BK
   have b33 := l7 BK.out 3
   by_cases hlt : j < 4
   ·have c2b : decide ((j : Int) < 4) = true := decide_eq_true (by omega)
    obtain ⟨d, hd⟩ : ∃ d, 4 - j = d + 1 := ⟨3 - j, by omega⟩
    have h := HL.out
    rw [hd, umpireref09_Head.c5R] at h
    obtain ⟨t, ht, h⟩ := Option.bind_eq_some_iff.1 h
    have ht4 : (4 : Int) ≤ t.length := by
     by_cases q : (4 : Int) ≤ t.length
     ·exact q
     ·rw [if_neg q] at h; cases h
    rw [if_pos ht4] at h
    obtain ⟨hcA, hvA⟩ := umpireref09_Head.f8u A0 l0 c0 H4.out HC0.out
    have HVA := a_ hvA
    have HT := a_ ht
    have HT4 := a_ ht4
    have H := a_ h
    have HD := a_ hd
    have HJ := a_ hj
    clear h ht ht4 hvA hd hj HL
    go_upto_region 7 with (((with_reducible refine P9 (N := 5) rfl ?_); refine a8y ?hg (N := 5) ?hd (cs := #[.bool false, .bool false, .int .u32 0, .int .u32 0]) (t := 46) ?hr ?_; (case hd => rfl); (case hg => rfl); (case hr => first | (go_simp; done) | (go_simp; rfl)); intro g5 hg w5 hbox hb; have BK5 := a_ hbox; have GE5 : Aside0 (w.heap.size ≤ g5) := ⟨by rw [hg]; exact y5 HB.out⟩; have NB : Aside0 (g2 ≠ g5) := ⟨by rw [hg]; exact Nat.ne_of_lt (a0L BK.out)⟩; have a9n := U5 BK hb; have HB5 := W9 HB hb; clear hg hbox hb BK HB; have c4R := bc0 BK5; have f8w := l7 BK5.out 0; have c4S := bc1 BK5; have f8x := l7 BK5.out 1; have c4T := bc2 BK5; have f8y := l7 BK5.out 2; have c4V := bc3 BK5; have f8z := l7 BK5.out 3))
    generalize ((j : Int) % 2 == 1) = b0 at HT H ⊢
    generalize ((j : Int) / 2 == 1) = o0 at HT H ⊢
    generalize hW : World.setCell (World.setCell (World.setCell (World.setCell w5 ⟨g5, 0, none⟩ (.bool b0)) ⟨g5, 1, none⟩ (.bool o0)) ⟨g5, 2, none⟩ (.int .u32 0)) ⟨g5, 3, none⟩ (.int .u32 0) = w6
    have c7Q : Aside0 (w6.heap[g5]? = some (.cells #[.bool b0, .bool o0, .int .u32 0, .int .u32 0] 46 (0, 0))) := ⟨by rw [← hW]; exact (by refine l9 (cs := #[.bool b0, .bool o0, .int .u32 0, .int .u32 0]) ?_ 3 _ rfl; refine l9 (cs := #[.bool b0, .bool o0, .int .u32 0, .int .u32 0]) ?_ 2 _ rfl; refine l9 (cs := #[.bool b0, .bool false, .int .u32 0, .int .u32 0]) ?_ 1 _ rfl; refine l9 (cs := #[.bool false, .bool false, .int .u32 0, .int .u32 0]) ?_ 0 _ rfl; exact BK5.out)⟩
    have d2c : Aside0 (w6.heap[g2]? = some (.cells #[.bool false, .bool false, .int .u32 0, .int .u32 0] 46 (0, 0))) := ⟨by rw [← hW]; repeat (first | with_reducible exact a9n.out | refine o9 ?_ NB.out _)⟩
    have HB6 : Aside0 (Below w.heap.size w w6) := ⟨by rw [← hW]; repeat (first | with_reducible exact HB5.out | with_reducible refine o8 ?_ GE5.out)⟩
    clear hW BK5 a9n HB5 c4R f8w b3V b3W c4S f8x b3X b3Y c4T f8y b3Z b30 c4V f8z b31 b33
    have hs6 : w6.cell? ⟨g5, 0, none⟩ = some (.bool b0) ∧ w6.cell? ⟨g5, 1, none⟩ = some (.bool o0) ∧ w6.cell? ⟨g5, 2, none⟩ = some (.int .u32 0) ∧ w6.cell? ⟨g5, 3, none⟩ = some (.int .u32 0) := ⟨bc0 c7Q, bc1 c7Q, bc2 c7Q, bc3 c7Q⟩
    have g88 := HVA.out w6 (Kd.D6 HR0.out HB6.out)
    have g89 := HVA.out w6.drew (Kd.D6 HR0.out (V9 HB6.out))
    have g9a := HVA.out w6.drew.drew (Kd.D6 HR0.out (V9 (V9 HB6.out)))
    go_cut [28] from 21 to 27 (fun v28 wx => v28 = .bool (decide (¬ (strOfNums (t.take 4)).toList = (strOfNums (l0.take 4)).toList)) ∧ Aside0 (wx.heap[g5]? = some (.cells #[.bool b0, .bool o0, .int .u32 0, .int .u32 0] 46 (0, 0))) ∧ Aside0 (wx.heap[g2]? = some (.cells #[.bool false, .bool false, .int .u32 0, .int .u32 0] 46 (0, 0))) ∧ Aside0 (Below w.heap.size w wx))
    case first =>
     go_region_held (fun w' => w'.cell? ⟨g5, 0, none⟩ = some (.bool b0) ∧ w'.cell? ⟨g5, 1, none⟩ = some (.bool o0) ∧ w'.cell? ⟨g5, 2, none⟩ = some (.int .u32 0) ∧ w'.cell? ⟨g5, 3, none⟩ = some (.int .u32 0)) ((first | exact hs7 | exact hs6)) (first | (go_at_call 37; with_reducible refine (umpireref09_Header.calls k b0 o0 0 0 t _ HT.out).mono ?_; rintro e w7 ⟨v, rfl, hv, hb⟩; obtain ⟨A7, c7, rfl⟩ := Kd.J4 hv; have HB7 := a_ (G9 (by first | exact V9 HB6.out | exact V9 (V9 HB6.out) | exact HB6.out) hb); have c5S : Aside0 (w7.heap[g5]? = some (.cells #[.bool b0, .bool o0, .int .u32 0, .int .u32 0] 46 (0, 0))) := ⟨J3 (L9 c7Q.out) hb⟩; have b06 : Aside0 (w7.heap[g2]? = some (.cells #[.bool false, .bool false, .int .u32 0, .int .u32 0] 46 (0, 0))) := ⟨J3 (L9 d2c.out) hb⟩; have hC7 := (Kd.G5 hv).2.2; obtain ⟨hcB, hvB⟩ := umpireref09_Head.f8u A7 t c7 HT4.out (Kd.G5 hv).2.1; have e9q := hvB w7 (by first | exact hC7 | exact Kd.a4l hC7 | exact Kd.a4l (Kd.a4l hC7)); have h4j := HVA.out w7 (Kd.D6 HR0.out HB7.out); have h7u := hvB w7.drew (by first | exact hC7 | exact Kd.a4l hC7 | exact Kd.a4l (Kd.a4l hC7)); have h4k := HVA.out w7.drew (Kd.D6 HR0.out (V9 HB7.out)); have h7v := hvB w7.drew.drew (by first | exact hC7 | exact Kd.a4l hC7 | exact Kd.a4l (Kd.a4l hC7)); have h4l := HVA.out w7.drew.drew (Kd.D6 HR0.out (V9 (V9 HB7.out))); have hs7 : w7.cell? ⟨g5, 0, none⟩ = some (.bool b0) ∧ w7.cell? ⟨g5, 1, none⟩ = some (.bool o0) ∧ w7.cell? ⟨g5, 2, none⟩ = some (.int .u32 0) ∧ w7.cell? ⟨g5, 3, none⟩ = some (.int .u32 0) := ⟨bc0 c5S, bc1 c5S, bc2 c5S, bc3 c5S⟩; clear hv hb hC7 hvB c7Q d2c HB6))
     all_goals (go_wp2_with (fail); go_meet)
     all_goals (case rel => exact ⟨congrArg Value.bool (umpireref09_Head.neq _ _), ⟨c5S.out⟩, ⟨b06.out⟩, ⟨by first | exact HB7.out | exact V9 HB7.out | exact V9 (V9 HB7.out)⟩⟩)
    case rest =>
     obtain ⟨rfl, BK5, BK2, HB⟩ := hcut
     clear hs6 g88 g89 g9a hcA HB6 c7Q d2c
     have h := H.out
     clear H
     by_cases he : (strOfNums (t.take 4)).toList = (strOfNums (l0.take 4)).toList
     ·rw [if_pos he] at h
      have heb : decide (¬ (strOfNums (t.take 4)).toList = (strOfNums (l0.take 4)).toList) = false := decide_eq_false (by simpa using he)
      rw [heb]
      clear he heb
      unfold umpireref09_Head.tail at h
      by_cases c3 : (l0.length : Int) < 24
      ·rw [if_pos c3] at h
       simp only [Option.some.injEq, Prod.mk.injEq] at h
       obtain ⟨rfl, rfl, rfl, rfl, rfl⟩ := h
       have c3b := decide_eq_true c3
       clear c3
       have g9b := bc0 BK2
       have g9c := l7 BK2.out 0
       have g9d := bc1 BK2
       have g9e := l7 BK2.out 1
       have g9f := bc2 BK2
       have g9g := l7 BK2.out 2
       have g9h := bc3 BK2
       have g9i := l7 BK2.out 3
       go_wp2_with (fail)
       refine bodyPost_ret (Y5 rfl _ _ g2 46 #[.bool false, .bool false, .int .u32 0, .int .u32 0] (0, 0) _ rfl (by refine l9 (cs := #[.bool false, .bool false, .int .u32 0, .int .u32 0]) ?_ 3 _ rfl; refine l9 (cs := #[.bool false, .bool false, .int .u32 0, .int .u32 0]) ?_ 2 _ rfl; refine l9 (cs := #[.bool false, .bool false, .int .u32 0, .int .u32 0]) ?_ 1 _ rfl; refine l9 (cs := #[.bool false, .bool false, .int .u32 0, .int .u32 0]) ?_ 0 _ rfl; exact BK2.out) Tryd.underlying46 rfl (by kernel_rfl)) rfl ?_
       exact ⟨rfl, by repeat (first | with_reducible exact HB.out | with_reducible refine o8 ?_ GE2.out)⟩
      ·rw [if_neg c3] at h
       have c3b := decide_eq_false c3
       have H24 : Aside0 ((24 : Int) ≤ l0.length) := ⟨by omega⟩
       clear c3
       obtain ⟨t1, q1, h⟩ := Option.bind_eq_some_iff.1 h
       obtain ⟨A6, hcM, hrM, hlM, hlc⟩ := umpireref09_Head.f8v A0 l0 c0 H24.out HC0.out
       have d9A : Aside0 (∀ a : Nat, Calls Tryd.prog 58 #[.slice A6 2 (c0 - 4), .bool b0] (wc.drewN a) fun e w' => e = .returned (.int .u64 t1) ∧ ∃ m, w' = wc.drewN m) := ⟨fun a => by
        have hq := (O6.calls k A6 (c0 - 4) ((l0.take 6).drop 4) b0 t1 (wc.drewN a) (Kd.a2V (by rw [hlM]; exact hrM _ (Kd.D6 HR0.out HB.out)) a) (by rw [hlM]; exact hlc) q1)
        rw [hlM] at hq
        exact Calls.quiet_of (hq.mono fun _ _ h => ⟨h.1, h.2.out⟩)⟩
       have H := a_ h
       clear h q1 hrM hlM hlc
       have e9r := bc0 BK5
       have e9s := l7 BK5.out 0
       have e9t := bc1 BK5
       have e9u := l7 BK5.out 1
       have e9v := bc2 BK5
       have e9w := l7 BK5.out 2
       have e9x := bc3 BK5
       have e9y := l7 BK5.out 3
       go_wp2_with (fail)
       go_quiet ((go_at_call 58; exact d9A.out _))
       have h := H.out
       have b94 := a_ (Q9 BK5.out nq)
       have b9g := a_ (Q9 BK2.out nq)
       have HBq := a_ (o7 HB.out nq)
       generalize wc.drewN nq = wq at *
       clear H d9A BK5 BK2 HB e9r e9s e9t e9u e9v e9w e9x e9y
       by_cases ct : t1 = 2
       ·rw [if_pos ct] at h
        have ctb : (t1 == 2) = true := by simpa using ct
        have ctc : (t1 != 2) = false := by simpa using ct
        clear ct
        obtain ⟨s1, q2, h⟩ := Option.bind_eq_some_iff.1 h
        obtain ⟨s2, q3, h⟩ := Option.bind_eq_some_iff.1 h
        simp only [Option.some.injEq, Prod.mk.injEq] at h
        obtain ⟨rfl, rfl, rfl, rfl, rfl⟩ := h
        have Q2 := a_ q2
        have Q3 := a_ q3
        clear q2 q3
        have e9z := bc0 b94
        have e9A := l7 b94.out 0
        have e9B := bc1 b94
        have e9C := l7 b94.out 1
        have e9D := bc2 b94
        have e9E := l7 b94.out 2
        have e9F := bc3 b94
        have e9G := l7 b94.out 3
        go_wp2_with (fail)
        refine (O9.calls k A0 c0 l0 16 b0 s1 _ (Kd.D6 HR0.out HBq.out) HC0.out Q2.out).mono ?_
        rintro e w9 ⟨rfl, hd⟩
        have b21 := a_ (J3 b94.out hd.below)
        have a99 := a_ (J3 b9g.out hd.below)
        have HB9 := a_ (G9 HBq.out hd.below)
        clear hd b94 b9g HBq e9z e9A e9B e9C e9D e9E e9F e9G
        have e9H := bc0 b21
        have e9I := l7 b21.out 0
        have e9J := bc1 b21
        have e9K := l7 b21.out 1
        have e9L := bc2 b21
        have e9M := l7 b21.out 2
        have e9N := bc3 b21
        have e9O := l7 b21.out 3
        go_wp2_with (fail)
        refine (O9.calls k A0 c0 l0 20 b0 s2 _ (Kd.D6 HR0.out (o8 HB9.out GE5.out)) HC0.out Q3.out).mono ?_
        rintro e w10 ⟨rfl, hd⟩
        have b1J := a_ (J3 (o := .cells #[.bool b0, .bool o0, .int .u32 s1, .int .u32 0] 46 (0, 0)) (g := g5) (by refine l9 (cs := #[.bool b0, .bool o0, .int .u32 0, .int .u32 0]) ?_ 2 _ rfl; exact b21.out) hd.below)
        have a4s := a_ (J3 (g := g2) (o9 a99.out NB.out _) hd.below)
        have a9L := a_ (G9 (o8 HB9.out GE5.out) hd.below)
        clear hd b21 a99 HB9 e9H e9I e9J e9K e9L e9M e9N e9O
        have g9j := bc0 b1J
        have g9k := l7 b1J.out 0
        have g9l := bc1 b1J
        have g9m := l7 b1J.out 1
        have g9n := bc2 b1J
        have g9o := l7 b1J.out 2
        have g9p := bc3 b1J
        have g9q := l7 b1J.out 3
        have e7K := bc0 a4s
        have e7L := l7 a4s.out 0
        have e7M := bc1 a4s
        have e7N := l7 a4s.out 1
        have e7O := bc2 a4s
        have e7P := l7 a4s.out 2
        have e7Q := bc3 a4s
        have e7R := l7 a4s.out 3
        have n25 : g2 ≠ g5 := NB.out
        have n52 : g5 ≠ g2 := NB.out.symm
        go_wp2_with (fail)
        have E2 := a_ (o9 (p := ⟨g5, 3, none⟩) a4s.out NB.out (.int .u32 s2))
        refine bodyPost_ret (Y5 rfl _ _ g2 46 #[.bool b0, .bool o0, .int .u32 s1, .int .u32 s2] (0, 0) _ rfl (by refine l9 (cs := #[.bool b0, .bool o0, .int .u32 s1, .int .u32 0]) ?_ 3 _ rfl; refine l9 (cs := #[.bool b0, .bool o0, .int .u32 0, .int .u32 0]) ?_ 2 _ rfl; refine l9 (cs := #[.bool b0, .bool false, .int .u32 0, .int .u32 0]) ?_ 1 _ rfl; refine l9 (cs := #[.bool false, .bool false, .int .u32 0, .int .u32 0]) ?_ 0 _ rfl; exact E2.out) Tryd.underlying46 rfl (by kernel_rfl)) rfl ?_
        exact ⟨rfl, by repeat (first | with_reducible exact a9L.out | with_reducible refine o8 ?_ GE2.out | with_reducible refine o8 ?_ GE5.out)⟩
       ·rw [if_neg ct] at h
        have ctb : (t1 == 2) = false := by simpa using ct
        have ctc : (t1 != 2) = true := by simpa using ct
        clear ct
        simp only [Option.some.injEq, Prod.mk.injEq] at h
        obtain ⟨rfl, rfl, rfl, rfl, rfl⟩ := h
        have g9r := bc0 b9g
        have g9s := l7 b9g.out 0
        have g9t := bc1 b9g
        have g9u := l7 b9g.out 1
        have g9v := bc2 b9g
        have g9w := l7 b9g.out 2
        have g9x := bc3 b9g
        have g9y := l7 b9g.out 3
        go_wp2_with (fail)
        refine bodyPost_ret (Y5 rfl _ _ g2 46 #[.bool false, .bool false, .int .u32 0, .int .u32 0] (0, 0) _ rfl (by refine l9 (cs := #[.bool false, .bool false, .int .u32 0, .int .u32 0]) ?_ 3 _ rfl; refine l9 (cs := #[.bool false, .bool false, .int .u32 0, .int .u32 0]) ?_ 2 _ rfl; refine l9 (cs := #[.bool false, .bool false, .int .u32 0, .int .u32 0]) ?_ 1 _ rfl; refine l9 (cs := #[.bool false, .bool false, .int .u32 0, .int .u32 0]) ?_ 0 _ rfl; exact b9g.out) Tryd.underlying46 rfl (by kernel_rfl)) rfl ?_
        exact ⟨rfl, by repeat (first | with_reducible exact HBq.out | with_reducible refine o8 ?_ GE2.out)⟩
     ·rw [if_neg he] at h
      have heb : decide (¬ (strOfNums (t.take 4)).toList = (strOfNums (l0.take 4)).toList) = true := decide_eq_true (by simpa using he)
      rw [heb]
      clear he heb
      have HN := a_ h
      clear h
      obtain ⟨gk2, rfl⟩ : ∃ q, gk = q + 1 := ⟨gk - 1, by have := HJ.out; omega⟩
      have hjw : IntKind.i64.wrap ((j : Int) + 1) = ((j + 1 : Nat) : Int) := by rw [IntWalk.i64_in _ (by omega)]; omega
      go_wp2_with (fail)
      go_roundg gk2
      case measure => omega
      case rel => exact ⟨j + 1, by have := HJ.out; omega, rfl, ⟨⟨BK2.out, HB.out, by rw [show 4 - (j + 1) = d from by have := HD.out; omega]; exact HN.out⟩⟩⟩
   ·obtain rfl : j = 4 := by omega
    have h := HL.out
    simp only [Nat.sub_self, umpireref09_Head.c5R, Option.some.injEq, Prod.mk.injEq] at h
    obtain ⟨rfl, rfl, rfl, rfl, rfl⟩ := h
    have hv : (((4 : Nat) : Int)) = 4 := rfl
    simp only [hv]
    clear HL
    go_wp2_with (fail)
    refine bodyPost_ret (Y5 rfl _ _ g2 46 #[.bool false, .bool false, .int .u32 0, .int .u32 0] (0, 0) _ rfl (by refine l9 (cs := #[.bool false, .bool false, .int .u32 0, .int .u32 0]) ?_ 3 _ rfl; refine l9 (cs := #[.bool false, .bool false, .int .u32 0, .int .u32 0]) ?_ 2 _ rfl; refine l9 (cs := #[.bool false, .bool false, .int .u32 0, .int .u32 0]) ?_ 1 _ rfl; refine l9 (cs := #[.bool false, .bool false, .int .u32 0, .int .u32 0]) ?_ 0 _ rfl; exact BK.out) Tryd.underlying46 rfl (by kernel_rfl)) rfl ?_
    exact ⟨rfl, by repeat (first | with_reducible exact HB.out | with_reducible refine o8 ?_ GE2.out)⟩

end Go.Proofs.YtgnonglkibhnhaaDoor.Print
