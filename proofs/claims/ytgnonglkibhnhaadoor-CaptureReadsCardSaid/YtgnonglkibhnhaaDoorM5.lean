-- laid together by this session's own program (wip/tools/merge.py) of texts that its program laid
import Derived.Test.YtgnonglkibhnhaaDoorF37
import Derived.Test.YtgnonglkibhnhaaDoorM4
namespace Go.Proofs.YtgnonglkibhnhaaDoor.Print
open Go.RowKit Go.Proofs.YtgnonglkibhnhaaDoorW.PrintWords Go.Proofs.YtgnonglkibhnhaaDoorW.PrintLast Go.Proofs.YtgnonglkibhnhaaDoorW.PrintMore
attribute [local go_sem] a0n a0o a0P a0Q Y4 Y5 a0p a0q
set_option linter.unusedVariables false
set_option linter.unusedSimpArgs false
set_option maxHeartbeats 16000000
set_option maxRecDepth 100000
def G5.tail (k : Nat) (l0 : List Int) (b n : Bool) : Option (Bool × Bool × Int × Int × Int) :=
 if (l0.length : Int) < 24 then some (false, false, 0, 0, 2) else (P9.f k ((l0.take 6).drop 4) b).bind fun t => if t = 2 then (U3.f k l0 16 b).bind fun t1 => (U3.f k l0 20 b).bind fun t2 => some (b, n, t1, t2, 0) else some (false, false, 0, 0, 3)
def G5.c4d (k : Nat) (l0 : List Int) : Nat → Nat → Option (Bool × Bool × Int × Int × Int)
 | 0, _ => some (false, false, 0, 0, 3)
 | d + 1, j => (umpireref09_Header.f k ((j : Int) % 2 == 1) ((j : Int) / 2 == 1) 0 0).bind fun t => if (4 : Int) ≤ t.length then (if (strOfNums (t.take 4)).toList = (strOfNums (l0.take 4)).toList then G5.tail k l0 ((j : Int) % 2 == 1) ((j : Int) / 2 == 1) else G5.c4d k l0 d (j + 1)) else none
def G5.f (k : Nat) (l0 : List Int) : Option (Bool × Bool × Int × Int × Int) := if (l0.length : Int) < 4 then some (false, false, 0, 0, 2) else G5.c4d k l0 4 0
theorem G5.f2z (A : Option Addr) (l : List Int) (c : Nat) (h4 : (4 : Int) ≤ l.length) (hc : l.length ≤ c) :
  (∀ W : World, (Instr.slice 22 (.slice A l.length c) none (some (.int .i64 4)) none).run Tryd.prog W = .ok (.slice A 4 c) W) ∧ ∀ w : World, Kd.C (Kd.int .u8) w A l.length l → (convert 22 9 (.slice A 4 c)).run Tryd.prog w = .ok (.string (strOfNums (l.take (4 : Int).toNat))) w := by
 obtain ⟨i0, hi0, _, hsz, _⟩ := info_parts info5
 obtain ⟨hcB, hrB, hlB⟩ := a5Q (P := Tryd.prog) (Value.int .u8) 0 22 5 .i64 Tryd.underlying22 hi0 hsz A c l 4 (by omega) h4 hc
 have lB4 : (l.take (4 : Int).toNat).length = 4 := (by rw [List.length_take]; omega)
 rw [lB4] at hcB
 refine ⟨hcB, fun w h => ?_⟩
 have e6F := Kd.a3l (P := Tryd.prog) (dst := 9) (c := c) Tryd.underlying22 Tryd.underlying5 Tryd.underlying9 (Kd.Y8 (enc := Value.int .u8) (d := (0 : Int)) (h1 := fun _ => rfl) (hrB w (Kd.Y2 (enc := Value.int .u8) (d := (0 : Int)) (h1 := fun _ => rfl) h)))
 rw [lB4] at e6F
 exact e6F
theorem G5.neq (a b : List UInt8) : (!(a == b)) = decide (¬ a = b) := by rw [Bool.eq_iff_iff]; simp
theorem G5.f2A (A : Option Addr) (l : List Int) (c : Nat) (h4 : (24 : Int) ≤ l.length) (hc : l.length ≤ c) :
  ∃ A', (∀ W : World, (Instr.slice 22 (.slice A l.length c) (some (.int .i64 4)) (some (.int .i64 6)) none).run Tryd.prog W = .ok (.slice A' 2 (c - 4)) W) ∧ (∀ w : World, Kd.C (Kd.int .u8) w A l.length l → Kd.C (Kd.int .u8) w A' 2 ((l.take 6).drop 4)) ∧ ((l.take 6).drop 4).length = 2 ∧ 2 ≤ c - 4 := by
 obtain ⟨i0, hi0, _, hsz, _⟩ := info_parts info5
 obtain ⟨A', hcB, hrB, hlB⟩ := a5t (P := Tryd.prog) (Value.int .u8) 0 22 5 .i64 .i64 Tryd.underlying22 hi0 hsz A c l 4 6 (by omega) (by omega) (by omega) hc
 have lB4 : ((l.take (6 : Int).toNat).drop (4 : Int).toNat).length = 2 := (by rw [List.length_drop, List.length_take]; omega)
 rw [lB4] at hcB
 refine ⟨A', hcB, fun w h => ?_, lB4, by omega⟩
 have h2 := Kd.Y8 (enc := Value.int .u8) (d := (0 : Int)) (h1 := fun _ => rfl) (hrB w (Kd.Y2 (enc := Value.int .u8) (d := (0 : Int)) (h1 := fun _ => rfl) h))
 rw [lB4] at h2
 exact h2
structure G5.Round (w W : World) (g2 k : Nat) (l0 : List Int) (j : Nat) (r : Bool × Bool × Int × Int × Int) : Prop where
 h2 : W.heap[g2]? = some (.cells #[.bool false, .bool false, .int .u32 0, .int .u32 0] 46 (0, 0))
 hb : Below w.heap.size w W
 hl : G5.c4d k l0 (4 - j) j = some r
theorem G5.calls (k : Nat) (A0 : Option Addr) (c0 : Nat) (l0 : List Int) (r1 r2 : Bool) (r3 r4 : Int) (r5 : Int) (w : World) (hr0 : Kd.C (Kd.int .u8) w A0 l0.length l0) (hc0 : l0.length ≤ c0) (h : G5.f k l0 = some (r1, r2, r3, r4, r5)) :
  Calls Tryd.prog 35 #[.slice A0 l0.length c0] w fun e w' => e = .returned (.tuple #[.agg #[.bool r1, .bool r2, .int .u32 r3, .int .u32 r4], .int .i64 r5]) ∧ Below w.heap.size w w' := by
 have huM := Tryd.underlying46
 unfold G5.f at h
 have HR0 := a_ hr0
 have HC0 := a_ hc0
 have HW := a_ (Below.refl w.heap.size w)
 by_cases c1 : (l0.length : Int) < 4
 ·rw [if_pos c1] at h
  simp only [Option.some.injEq, Prod.mk.injEq] at h
  obtain ⟨rfl, rfl, rfl, rfl, rfl⟩ := h; have c1b := dt_ c1; clear c1 hr0 hc0
  go_enter Tryd.func35, Tryd.ntmps35
  go_wp2_with (((with_reducible refine X0 (N := 2) rfl ?_); refine b2e ?hg (N := 2) ?hd (cs := #[.bool false, .bool false, .int .u32 0, .int .u32 0]) (t := 46) ?hr ?_; (case hd => rfl); (case hg => rfl); (case hr => first | (go_simp; done) | (go_simp; rfl)); intro g2 hg w1 hbox hb; have BK2 := a_ hbox; have HB1 := U9 HW hb; have GE2 : Aside0 (w.heap.size ≤ g2) := ⟨by rw [hg]; exact Nat.le_refl _⟩; clear hg hbox hb; have b4S := bc0 BK2; have b4T := l7 BK2.out 0; have b4U := bc1 BK2; have b4V := l7 BK2.out 1; have b4W := bc2 BK2; have b4X := l7 BK2.out 2; have b4Y := bc3 BK2; have b4Z := l7 BK2.out 3))
  refine bodyPost_ret (U8 rfl _ _ g2 46 #[.bool false, .bool false, .int .u32 0, .int .u32 0] (0, 0) _ rfl (l9 (l9 (l9 (l9 BK2.out 0 _ rfl) 1 _ rfl) 2 _ rfl) 3 _ rfl) Tryd.underlying46 rfl (by kernel_rfl)) rfl ?_; exact ⟨rfl, by repeat (first | with_reducible exact HB1.out | with_reducible refine o7 ?_ GE2.out)⟩
 ·rw [if_neg c1] at h; have c1b := df_ c1; have h4 : 4 ≤ (l0.length : Int) := by omega
  have H4 := a_ h4; have HF : Aside0 (G5.c4d k l0 (4 - 0) 0 = some (r1, r2, r3, r4, r5)) := ⟨h⟩; obtain ⟨i0, hi0, _, hsz, _⟩ := info_parts info5; clear c1 hr0 hc0 h4 h
  go_enter Tryd.func35, Tryd.ntmps35
  go_wp2_with (((with_reducible refine X0 (N := 2) rfl ?_); refine b2e ?hg (N := 2) ?hd (cs := #[.bool false, .bool false, .int .u32 0, .int .u32 0]) (t := 46) ?hr ?_; (case hd => rfl); (case hg => rfl); (case hr => first | (go_simp; done) | (go_simp; rfl)); intro g2 hg w1 hbox hb; have BK2 := a_ hbox; have HB1 := U9 HW hb; have GE2 : Aside0 (w.heap.size ≤ g2) := ⟨by rw [hg]; exact Nat.le_refl _⟩; clear hg hbox hb; have b4S := bc0 BK2; have b4T := l7 BK2.out 0; have b4U := bc1 BK2; have b4V := l7 BK2.out 1; have b4W := bc2 BK2; have b4X := l7 BK2.out 2; have b4Y := bc3 BK2; have b4Z := l7 BK2.out 3))
  go_loopg [4] 4 (fun kq v4 w' => ∃ j : Nat, kq + j = 4 ∧ v4 = .int .i64 (j : Int) ∧ Aside0 (G5.Round w w' g2 k l0 j (r1, r2, r3, r4, r5)))
  case atStart => exact ⟨0, rfl, rfl, ⟨⟨BK2.out, HB1.out, HF.out⟩⟩⟩
  case round =>
   obtain ⟨j, hj, rfl, HI⟩ := hrel; clear BK2 HB1 HF b4S b4U b4W b4Y b4T b4V b4X b4Z; have BK := a_ HI.out.h2; have HB := a_ HI.out.hb; have HL := a_ HI.out.hl; clear HI; have b4S := bc0 BK; have b4T := l7 BK.out 0; have b4U := bc1 BK; have b4V := l7 BK.out 1; have b4W := bc2 BK; have b4X := l7 BK.out 2; have b4Y := bc3 BK; have b4Z := l7 BK.out 3
   by_cases hlt : j < 4
   ·have c2b : decide ((j : Int) < 4) = true := dt_ (by omega); obtain ⟨d, hd⟩ : ∃ d, 4 - j = d + 1 := ⟨3 - j, by omega⟩; have h := HL.out; rw [hd, G5.c4d] at h; obtain ⟨t, ht, h⟩ := Option.bind_eq_some_iff.1 h; have ht4 : (4 : Int) ≤ t.length := by
     by_cases q : (4 : Int) ≤ t.length
     ·exact q
     ·rw [if_neg q] at h; cases h
    rw [if_pos ht4] at h; obtain ⟨hcA, hvA⟩ := G5.f2z A0 l0 c0 H4.out HC0.out; have HVA := a_ hvA; have HT := a_ ht; have HT4 := a_ ht4; have H := a_ h; have HD := a_ hd; have HJ := a_ hj; clear h ht ht4 hvA hd hj HL
    go_upto_region 7 with (((with_reducible refine X0 (N := 5) rfl ?_); refine b2e ?hg (N := 5) ?hd (cs := #[.bool false, .bool false, .int .u32 0, .int .u32 0]) (t := 46) ?hr ?_; (case hd => rfl); (case hg => rfl); (case hr => first | (go_simp; done) | (go_simp; rfl)); intro g5 hg w5 hbox hb; have BK5 := a_ hbox; have GE5 : Aside0 (w.heap.size ≤ g5) := ⟨by rw [hg]; exact y5 HB.out⟩; have NB : Aside0 (g2 ≠ g5) := ⟨by rw [hg]; exact Nat.ne_of_lt (a0t BK.out)⟩; have a9i := X4 BK hb; have HB5 := U9 HB hb; clear hg hbox hb BK HB; have c4u := bc0 BK5; have f2B := l7 BK5.out 0; have c4v := bc1 BK5; have f2C := l7 BK5.out 1; have c4w := bc2 BK5; have f2D := l7 BK5.out 2; have c4x := bc3 BK5; have f2E := l7 BK5.out 3))
    generalize ((j : Int) % 2 == 1) = b0 at HT H ⊢; generalize ((j : Int) / 2 == 1) = o0 at HT H ⊢; generalize hW : World.setCell (World.setCell (World.setCell (World.setCell w5 ⟨g5, 0, none⟩ (.bool b0)) ⟨g5, 1, none⟩ (.bool o0)) ⟨g5, 2, none⟩ (.int .u32 0)) ⟨g5, 3, none⟩ (.int .u32 0) = w6; have c60 : Aside0 (w6.heap[g5]? = some (.cells #[.bool b0, .bool o0, .int .u32 0, .int .u32 0] 46 (0, 0))) := ⟨by rw [← hW]; exact (l9 (l9 (l9 (l9 BK5.out 0 _ rfl) 1 _ rfl) 2 _ rfl) 3 _ rfl)⟩; have d2r : Aside0 (w6.heap[g2]? = some (.cells #[.bool false, .bool false, .int .u32 0, .int .u32 0] 46 (0, 0))) := ⟨by rw [← hW]; repeat (first | with_reducible exact a9i.out | refine o8 ?_ NB.out _)⟩; have HB6 : Aside0 (Below w.heap.size w w6) := ⟨by rw [← hW]; repeat (first | with_reducible exact HB5.out | with_reducible refine o7 ?_ GE5.out)⟩; clear hW BK5 a9i HB5 c4u f2B b4S b4T c4v f2C b4U b4V c4w f2D b4W b4X c4x f2E b4Y b4Z; have hs6 : w6.cell? ⟨g5, 0, none⟩ = some (.bool b0) ∧ w6.cell? ⟨g5, 1, none⟩ = some (.bool o0) ∧ w6.cell? ⟨g5, 2, none⟩ = some (.int .u32 0) ∧ w6.cell? ⟨g5, 3, none⟩ = some (.int .u32 0) := ⟨bc0 c60, bc1 c60, bc2 c60, bc3 c60⟩; have g1X := HVA.out w6 (Kd.C9 HR0.out HB6.out); have g1Y := HVA.out w6.drew (Kd.C9 HR0.out (Y9 HB6.out)); have g1Z := HVA.out w6.drew.drew (Kd.C9 HR0.out (Y9 (Y9 HB6.out)))
    go_cut [28] from 21 to 27 (fun v28 wx => v28 = .bool (decide (¬ (strOfNums (t.take 4)).toList = (strOfNums (l0.take 4)).toList)) ∧ Aside0 (wx.heap[g5]? = some (.cells #[.bool b0, .bool o0, .int .u32 0, .int .u32 0] 46 (0, 0))) ∧ Aside0 (wx.heap[g2]? = some (.cells #[.bool false, .bool false, .int .u32 0, .int .u32 0] 46 (0, 0))) ∧ Aside0 (Below w.heap.size w wx))
    case first =>
     go_region_held (fun w' => w'.cell? ⟨g5, 0, none⟩ = some (.bool b0) ∧ w'.cell? ⟨g5, 1, none⟩ = some (.bool o0) ∧ w'.cell? ⟨g5, 2, none⟩ = some (.int .u32 0) ∧ w'.cell? ⟨g5, 3, none⟩ = some (.int .u32 0)) ((first | exact hs7 | exact hs6)) (first | (go_at_call 37; with_reducible refine (umpireref09_Header.calls k b0 o0 0 0 t _ HT.out).mono ?_; rintro e w7 ⟨v, rfl, hv, hb⟩; obtain ⟨A7, c7, rfl⟩ := Kd.G7 hv; have HB7 := a_ (J4 (by first | exact Y9 HB6.out | exact Y9 (Y9 HB6.out) | exact HB6.out) hb); have c4Y : Aside0 (w7.heap[g5]? = some (.cells #[.bool b0, .bool o0, .int .u32 0, .int .u32 0] 46 (0, 0))) := ⟨J7 (G8 c60.out) hb⟩; have b0Z : Aside0 (w7.heap[g2]? = some (.cells #[.bool false, .bool false, .int .u32 0, .int .u32 0] 46 (0, 0))) := ⟨J7 (G8 d2r.out) hb⟩; have hC7 := (Kd.E8 hv).2.2; obtain ⟨hcB, hvB⟩ := G5.f2z A7 t c7 HT4.out (Kd.E8 hv).2.1; have e6F := hvB w7 (by first | exact hC7 | exact Kd.b0o hC7 | exact Kd.b0o (Kd.b0o hC7)); have g7d := HVA.out w7 (Kd.C9 HR0.out HB7.out); have h0v := hvB w7.drew (by first | exact hC7 | exact Kd.b0o hC7 | exact Kd.b0o (Kd.b0o hC7)); have g7e := HVA.out w7.drew (Kd.C9 HR0.out (Y9 HB7.out)); have h0w := hvB w7.drew.drew (by first | exact hC7 | exact Kd.b0o hC7 | exact Kd.b0o (Kd.b0o hC7)); have g7f := HVA.out w7.drew.drew (Kd.C9 HR0.out (Y9 (Y9 HB7.out))); have hs7 : w7.cell? ⟨g5, 0, none⟩ = some (.bool b0) ∧ w7.cell? ⟨g5, 1, none⟩ = some (.bool o0) ∧ w7.cell? ⟨g5, 2, none⟩ = some (.int .u32 0) ∧ w7.cell? ⟨g5, 3, none⟩ = some (.int .u32 0) := ⟨bc0 c4Y, bc1 c4Y, bc2 c4Y, bc3 c4Y⟩; clear hv hb hC7 hvB c60 d2r HB6))
     all_goals (go_wp2_with (fail); go_meet)
     all_goals (case rel => exact ⟨congrArg Value.bool (G5.neq _ _), ⟨c4Y.out⟩, ⟨b0Z.out⟩, ⟨by first | exact HB7.out | exact Y9 HB7.out | exact Y9 (Y9 HB7.out)⟩⟩)
    case rest =>
     obtain ⟨rfl, BK5, BK2, HB⟩ := hcut; clear hs6 g1X g1Y g1Z hcA HB6 c60 d2r; have h := H.out; clear H
     by_cases he : (strOfNums (t.take 4)).toList = (strOfNums (l0.take 4)).toList
     ·rw [if_pos he] at h; have heb : decide (¬ (strOfNums (t.take 4)).toList = (strOfNums (l0.take 4)).toList) = false := df_ (by simpa using he); rw [heb]; clear he heb; unfold G5.tail at h
      by_cases c3 : (l0.length : Int) < 24
      ·rw [if_pos c3] at h
       simp only [Option.some.injEq, Prod.mk.injEq] at h
       obtain ⟨rfl, rfl, rfl, rfl, rfl⟩ := h; have c3b := dt_ c3; clear c3; have g2a := bc0 BK2; have g2b := l7 BK2.out 0; have g2c := bc1 BK2; have g2d := l7 BK2.out 1; have g2e := bc2 BK2; have g2f := l7 BK2.out 2; have g2g := bc3 BK2; have g2h := l7 BK2.out 3
       go_wp2_with (fail)
       refine bodyPost_ret (U8 rfl _ _ g2 46 #[.bool false, .bool false, .int .u32 0, .int .u32 0] (0, 0) _ rfl (l9 (l9 (l9 (l9 BK2.out 0 _ rfl) 1 _ rfl) 2 _ rfl) 3 _ rfl) Tryd.underlying46 rfl (by kernel_rfl)) rfl ?_; exact ⟨rfl, by repeat (first | with_reducible exact HB.out | with_reducible refine o7 ?_ GE2.out)⟩
      ·rw [if_neg c3] at h; have c3b := df_ c3; have H24 : Aside0 ((24 : Int) ≤ l0.length) := ⟨by omega⟩; clear c3; obtain ⟨t1, q1, h⟩ := Option.bind_eq_some_iff.1 h; obtain ⟨A6, hcM, hrM, hlM, hlc⟩ := G5.f2A A0 l0 c0 H24.out HC0.out; have e1f : Aside0 (∀ a : Nat, Calls Tryd.prog 58 #[.slice A6 2 (c0 - 4), .bool b0] (wc.drewN a) fun e w' => e = .returned (.int .u64 t1) ∧ ∃ m, w' = wc.drewN m) := ⟨fun a => by
        have hq := (P9.calls k A6 (c0 - 4) ((l0.take 6).drop 4) b0 t1 (wc.drewN a) (Kd.a9b (by rw [hlM]; exact hrM _ (Kd.C9 HR0.out HB.out)) a) (by rw [hlM]; exact hlc) q1); rw [hlM] at hq; exact Calls.quiet_of (hq.mono fun _ _ h => ⟨h.1, h.2.out⟩)⟩
       have H := a_ h; clear h q1 hrM hlM hlc; have e6G := bc0 BK5; have e6H := l7 BK5.out 0; have e6I := bc1 BK5; have e6J := l7 BK5.out 1; have e6K := bc2 BK5; have e6L := l7 BK5.out 2; have e6M := bc3 BK5; have e6N := l7 BK5.out 3
       go_wp2_with (fail)
       go_quiet ((go_at_call 58; exact e1f.out _))
       have h := H.out; have b9y := a_ (Y6 BK5.out nq); have b8A := a_ (Y6 BK2.out nq); have HBq := a_ (o9 HB.out nq); generalize wc.drewN nq = wq at *; clear H e1f BK5 BK2 HB e6G e6H e6I e6J e6K e6L e6M e6N
       by_cases ct : t1 = 2
       ·rw [if_pos ct] at h; have ctb : (t1 == 2) = true := by simpa using ct
        have ctc : (t1 != 2) = false := by simpa using ct
        clear ct; obtain ⟨s1, q2, h⟩ := Option.bind_eq_some_iff.1 h; obtain ⟨s2, q3, h⟩ := Option.bind_eq_some_iff.1 h
        simp only [Option.some.injEq, Prod.mk.injEq] at h
        obtain ⟨rfl, rfl, rfl, rfl, rfl⟩ := h; have Q2 := a_ q2; have Q3 := a_ q3; clear q2 q3; have e6O := bc0 b9y; have e6P := l7 b9y.out 0; have e6Q := bc1 b9y; have e6R := l7 b9y.out 1; have e6S := bc2 b9y; have e6T := l7 b9y.out 2; have e6U := bc3 b9y; have e6V := l7 b9y.out 3
        go_wp2_with (fail)
        refine (U3.calls k A0 c0 l0 16 b0 s1 _ (Kd.C9 HR0.out HBq.out) HC0.out Q2.out).mono ?_; rintro e w9 ⟨rfl, hd⟩; have b3e := a_ (J7 b9y.out hd.below); have a9Y := a_ (J7 b8A.out hd.below); have HB9 := a_ (J4 HBq.out hd.below); clear hd b9y b8A HBq e6O e6P e6Q e6R e6S e6T e6U e6V; have e6W := bc0 b3e; have e6X := l7 b3e.out 0; have e6Y := bc1 b3e; have e6Z := l7 b3e.out 1; have e66 := bc2 b3e; have e67 := l7 b3e.out 2; have e68 := bc3 b3e; have e69 := l7 b3e.out 3
        go_wp2_with (fail)
        refine (U3.calls k A0 c0 l0 20 b0 s2 _ (Kd.C9 HR0.out (o7 HB9.out GE5.out)) HC0.out Q3.out).mono ?_; rintro e w10 ⟨rfl, hd⟩; have b1N := a_ (J7 (o := .cells #[.bool b0, .bool o0, .int .u32 s1, .int .u32 0] 46 (0, 0)) (g := g5) (l9 b3e.out 2 _ rfl) hd.below); have a4w := a_ (J7 (g := g2) (o8 a9Y.out NB.out _) hd.below); have a6Q := a_ (J4 (o7 HB9.out GE5.out) hd.below); clear hd b3e a9Y HB9 e6W e6X e6Y e6Z e66 e67 e68 e69; have g2i := bc0 b1N; have g2j := l7 b1N.out 0; have g2k := bc1 b1N; have g2l := l7 b1N.out 1; have g2m := bc2 b1N; have g2n := l7 b1N.out 2; have g2o := bc3 b1N; have g2p := l7 b1N.out 3; have e7a := bc0 a4w; have e7b := l7 a4w.out 0; have e7c := bc1 a4w; have e7d := l7 a4w.out 1; have e7e := bc2 a4w; have e7f := l7 a4w.out 2; have e7g := bc3 a4w; have e7h := l7 a4w.out 3; have n25 : g2 ≠ g5 := NB.out; have n52 : g5 ≠ g2 := NB.out.symm
        go_wp2_with (fail)
        have E2 := a_ (o8 (p := ⟨g5, 3, none⟩) a4w.out NB.out (.int .u32 s2)); refine bodyPost_ret (U8 rfl _ _ g2 46 #[.bool b0, .bool o0, .int .u32 s1, .int .u32 s2] (0, 0) _ rfl (l9 (l9 (l9 (l9 E2.out 0 _ rfl) 1 _ rfl) 2 _ rfl) 3 _ rfl) Tryd.underlying46 rfl (by kernel_rfl)) rfl ?_; exact ⟨rfl, by repeat (first | with_reducible exact a6Q.out | with_reducible refine o7 ?_ GE2.out | with_reducible refine o7 ?_ GE5.out)⟩
       ·rw [if_neg ct] at h; have ctb : (t1 == 2) = false := by simpa using ct
        have ctc : (t1 != 2) = true := by simpa using ct
        clear ct
        simp only [Option.some.injEq, Prod.mk.injEq] at h
        obtain ⟨rfl, rfl, rfl, rfl, rfl⟩ := h; have g2q := bc0 b8A; have g2r := l7 b8A.out 0; have g2s := bc1 b8A; have g2t := l7 b8A.out 1; have g2u := bc2 b8A; have g2v := l7 b8A.out 2; have g2w := bc3 b8A; have g2x := l7 b8A.out 3
        go_wp2_with (fail)
        refine bodyPost_ret (U8 rfl _ _ g2 46 #[.bool false, .bool false, .int .u32 0, .int .u32 0] (0, 0) _ rfl (l9 (l9 (l9 (l9 b8A.out 0 _ rfl) 1 _ rfl) 2 _ rfl) 3 _ rfl) Tryd.underlying46 rfl (by kernel_rfl)) rfl ?_; exact ⟨rfl, by repeat (first | with_reducible exact HBq.out | with_reducible refine o7 ?_ GE2.out)⟩
     ·rw [if_neg he] at h; have heb : decide (¬ (strOfNums (t.take 4)).toList = (strOfNums (l0.take 4)).toList) = true := dt_ (by simpa using he); rw [heb]; clear he heb; have HN := a_ h; clear h; obtain ⟨gk2, rfl⟩ : ∃ q, gk = q + 1 := ⟨gk - 1, by have := HJ.out; omega⟩; have hjw : IntKind.i64.wrap ((j : Int) + 1) = ((j + 1 : Nat) : Int) := by rw [IntWalk.i64_in _ (by omega)]; omega
      go_wp2_with (fail)
      go_roundg gk2
      case measure => omega
      case rel => exact ⟨j + 1, by have := HJ.out; omega, rfl, ⟨⟨BK2.out, HB.out, by rw [show 4 - (j + 1) = d from by have := HD.out; omega]; exact HN.out⟩⟩⟩
   ·obtain rfl : j = 4 := by omega
    have h := HL.out
    simp only [Nat.sub_self, G5.c4d, Option.some.injEq, Prod.mk.injEq] at h
    obtain ⟨rfl, rfl, rfl, rfl, rfl⟩ := h; have hv : (((4 : Nat) : Int)) = 4 := rfl
    simp only [hv]
    clear HL
    go_wp2_with (fail)
    refine bodyPost_ret (U8 rfl _ _ g2 46 #[.bool false, .bool false, .int .u32 0, .int .u32 0] (0, 0) _ rfl (l9 (l9 (l9 (l9 BK.out 0 _ rfl) 1 _ rfl) 2 _ rfl) 3 _ rfl) Tryd.underlying46 rfl (by kernel_rfl)) rfl ?_; exact ⟨rfl, by repeat (first | with_reducible exact HB.out | with_reducible refine o7 ?_ GE2.out)⟩
mutual
def G6.j0 : Nat → List Int → Int → Bool → Int → Int → Option (Int × Int × Int)
 | 0, _, _, _, _, _ => none
 | k + 1, x0, x5, x17, a7t, a7u => if x17 = true then (if (x0.length : Int) < 2 then (some (a7t, a7u, 2)) else (if 1 < (x0.length : Int) then (if (rd x0 1) = 3 then (G6.j1 k x0 2 a7t a7u) else (some (a7t, a7u, 3))) else (none))) else (G6.j1 k x0 x5 a7t a7u)
def G6.j1 : Nat → List Int → Int → Int → Int → Option (Int × Int × Int)
 | 0, _, _, _, _ => none
 | k + 1, x0, x5, a7t, a7u => if x5 ≥ (x0.length : Int) then (some (a7t, a7u, 2)) else (if 0 ≤ x5 then (if x5 < (x0.length : Int) then (if (Int.tmod (wrap64 (rd x0 x5)) 2) = 1 then (if (wrap64 (rd x0 x5)) = 255 then (some (a7t, a7u, 3)) else (some (wrap64 (rd x0 x5), wrap64 (x5 + 1), 0))) else (if (wrap64 (x5 + 1)) ≥ (x0.length : Int) then (some (a7t, a7u, 2)) else (if 0 ≤ (wrap64 (x5 + 1)) then (if (wrap64 (x5 + 1)) < (x0.length : Int) then (if (Int.tmod (wrap64 (rd x0 (wrap64 (x5 + 1)))) 2) = 0 then (some (a7t, a7u, 3)) else (if (wrap64 (rd x0 x5)) = 0 then (if (wrap64 (rd x0 (wrap64 (x5 + 1)))) = 255 then (some (a7t, a7u, 3)) else (some (wrap64 ((wrap64 (256 * (wrap64 (rd x0 x5)))) + (wrap64 (rd x0 (wrap64 (x5 + 1))))), wrap64 (x5 + 2), 0))) else (some (wrap64 ((wrap64 (256 * (wrap64 (rd x0 x5)))) + (wrap64 (rd x0 (wrap64 (x5 + 1))))), wrap64 (x5 + 2), 0)))) else (none)) else (none)))) else (none)) else (none))
end
def G6.f (k : Nat) (l0 : List Int) : Option (Int × Int × Int) := if (l0.length : Int) > 0 then (if 0 < (l0.length : Int) then (G6.j0 k l0 0 ((rd l0 0) == 255) 0 0) else (none)) else (G6.j0 k l0 0 false 0 0)
theorem G6.calls (k : Nat) (A0 : Option Addr) (c0 : Nat) (l0 : List Int) (r1 : Int) (r2 : Int) (r3 : Int) (w : World) (hr0 : Kd.C (Kd.int .u8) w A0 l0.length l0) (hc0 : l0.length ≤ c0) (h : G6.f k l0 = some (r1, r2, r3)) :
  Calls Tryd.prog 66 #[.slice A0 l0.length c0] w fun e w' => e = .returned (.tuple #[.agg #[.int .i64 r1, .int .i64 r2], .int .i64 r3]) ∧ Below w.heap.size w w' := by
 have d5A := Tryd.underlying122
 have HR0 := a_ hr0
 have HC0 := a_ hc0
 clear hr0 hc0
 have HB := a_ (Below.refl w.heap.size w)
 have H := h
 clear h
 unfold G6.f at H
 have HC2 := a_ H
 clear H
 go_enter Tryd.func66, Tryd.ntmps66
 go_upto_region 3 with (first | (refine be_ 2 #[.int .i64 0, .int .i64 0] 122 ?_; intro b03 hg w3 hbox hb; have a3I := a_ hbox; have g7h := lb_ HB hg; have b3f := lb_ HB hg; replace HB := U9 HB hb; clear hb hbox hg) | (refine be_ 4 #[.int .i64 0, .int .i64 0] 122 ?_; intro c0f hg w4 hbox hb; have a9j := a_ hbox; have e3G := lb_ HB hg; have e3H := lb_ HB hg; obtain ⟨a2t, a4f⟩ := nn_ a3I hg; replace a3I := X4 a3I hb; replace HB := U9 HB hb; clear hb hbox hg; have h0E := a4f.out; have h0F := a2t.out; obtain ⟨c6L, c6M, c6N, c6O⟩ := a1p a9j.out))
 go_cut [17] (fun v17 wc => ∃ (kq : Nat) (a6X : Bool), v17 = .bool a6X ∧ Aside0 (G6.j0 kq l0 0 a6X 0 0 = some (r1, r2, r3)) ∧ Aside0 (kq ≤ k) ∧ Aside0 (wc.heap[b03]? = some (.cells #[.int .i64 0, .int .i64 0] 122 (0, 0))) ∧ Aside0 (wc.heap[c0f]? = some (.cells #[.int .i64 0, .int .i64 0] 122 (0, 0))) ∧ Aside0 (Below w.heap.size w wc))
 case first =>
  have H := HC2.out; clear HC2
  by_cases c7 : (l0.length : Int) > 0
  ·rw [if_pos c7] at H; have a5U : decide (0 < (l0.length : Int)) = true := dt_ c7; have a9R : decide (0 < l0.length) = true := dt_ (by omega); clear c7; have c8 := Z7 H; replace H := O5 H; have b1u := dt_ c8; have d2f : decide (0 < l0.length) = true := dt_ (by omega); clear c8; have H' := a_ H; clear H; have e7i : 0 ≤ (0 : Int) := (by omega); have e7j : 0 < (l0.length : Int) := V9; obtain ⟨e3I, g2y, a7v⟩ := Kd.Q8 HR0.out 0 e7i e7j
   cases g2y
   have g7i : (0 < l0.length) = True := eq_true (by omega)
   (try rw [show (0 : Int).toNat = 0 from rfl] at a7v)
   (try rw [Addr.add_zero'] at a7v)
   have d0h : e3I.block ≠ c0f := Nat.ne_of_lt (Nat.lt_of_lt_of_le (by have := World.block_lt_of_cell? _ _ a7v; (exact this)) e3G.out); have d0i : e3I.block ≠ c0f := Nat.ne_of_lt (Nat.lt_of_lt_of_le (by have := World.block_lt_of_cell? _ _ a7v; (exact this)) e3G.out); replace a7v := cb_ HB a7v; replace a7v := (cell_far (p := ⟨c0f, 0, none⟩) d0h (.int .i64 0)).trans a7v; replace a7v := (cell_far (p := ⟨c0f, 1, none⟩) d0i (.int .i64 0)).trans a7v; clear d0h d0i; replace e7i := eq_true e7i; replace e7j := eq_true e7j
   go_wp2
   go_meet
   case rel => exact ⟨_, ((rd l0 0) == 255), (by rfl), H', ⟨by (omega)⟩, ⟨o8 (o8 a3I.out a2t.out _) a2t.out _⟩, ⟨l9 (l9 a9j.out 0 _ rfl) 1 _ rfl⟩, ⟨by repeat (with_reducible first | exact HB.out | refine o7 ?_ e3H.out)⟩⟩
  ·rw [if_neg c7] at H; have a5U : decide (0 < (l0.length : Int)) = false := df_ c7; have a9R : decide (0 < l0.length) = false := df_ (by omega); clear c7; have H' := a_ H; clear H
   go_wp2
   go_meet
   case rel => exact ⟨_, (false), (by rfl), H', ⟨by (omega)⟩, ⟨o8 (o8 a3I.out a2t.out _) a2t.out _⟩, ⟨l9 (l9 a9j.out 0 _ rfl) 1 _ rfl⟩, ⟨by repeat (with_reducible first | exact HB.out | refine o7 ?_ e3H.out)⟩⟩
 case rest =>
  clear HC2
  try clear c6L
  try clear c6M
  try clear c6N
  try clear c6O
  obtain ⟨kq, a6X, rfl, HA, HJ1, a3I, a9j, HB⟩ := hcut
  cases kq with
  | zero => exact absurd HA.out (by simp [G6.j0])
  | succ kj1 =>
   have H := HA.out; clear HA
   simp only [G6.j0] at H
   have HC9 := a_ H; clear H
   go_upto_if 17 with (fail)
   go_cut [5] (fun v5 wc => ∃ (kq : Nat) (a4g : Int) (c0g : Int) (c0h : Int), v5 = .int .i64 a4g ∧ Aside0 (G6.j1 kq l0 a4g 0 0 = some (r1, r2, r3)) ∧ Aside0 (kq ≤ kj1) ∧ Aside0 (wc.heap[b03]? = some (.cells #[.int .i64 c0g, .int .i64 c0h] 122 (0, 0))) ∧ Aside0 (wc.heap[c0f]? = some (.cells #[.int .i64 0, .int .i64 0] 122 (0, 0))) ∧ Aside0 (Below w.heap.size w wc))
   case first =>
    have H := HC9.out; clear HC9
    by_cases c10 : a6X = true
    ·subst c10; rw [if_pos rfl] at H
     by_cases c11 : (l0.length : Int) < 2
     ·rw [if_pos c11] at H; have a7B := dt_ c11; have d0j : decide (l0.length < 2) = true := dt_ (by omega); clear c11; obtain ⟨rfl, rfl, rfl⟩ := s3_ H; have d5B := a4f.out; have d5C := a2t.out; obtain ⟨b2y, b2z, b2A, b2B⟩ := a1p a9j.out; obtain ⟨e1g, e1h, e1i, e1j⟩ := a1p a3I.out
      go_wp2
      refine bodyPost_ret (U8 rfl _ _ b03 122 #[.int .i64 0, .int .i64 0] (0, 0) _ rfl (l9 (l9 a3I.out 0 _ rfl) 1 _ rfl) Tryd.underlying122 rfl (by kernel_rfl)) rfl ?_; exact ⟨by (rfl), by repeat (with_reducible first | exact HB.out | refine o7 ?_ b3f.out)⟩
     ·rw [if_neg c11] at H; have a7B := df_ c11; have d0j : decide (l0.length < 2) = false := df_ (by omega); clear c11; have c15 := Z7 H; replace H := O5 H; have c4M := dt_ c15; have c94 : decide (1 < l0.length) = true := dt_ (by omega); clear c15
      by_cases c16 : (rd l0 1) = 3
      ·rw [if_pos c16] at H; obtain ⟨c8r, d4a⟩ := bt_ c16; clear c16; have H' := a_ H; clear H; have c61 : 0 ≤ (1 : Int) := (by omega); have c62 : 1 < (l0.length : Int) := V9; obtain ⟨f2F, e7k, b0K⟩ := Kd.Q8 HR0.out 1 c61 c62
       cases e7k
       (try simp only [show (1 : Int).toNat = 1 from rfl, Nat.reduceMul, Nat.reduceEqDiff, Go.Addr.add, ↓reduceIte] at b0K)
       have f2G : (1 < l0.length) = True := eq_true (by omega); replace b0K := cb_ HB b0K; replace c61 := eq_true c61; replace c62 := eq_true c62
       go_wp2
       go_meet
       case rel => exact ⟨_, (2), (0), (0), (by rfl), H', ⟨by have := HJ1.out; (omega)⟩, ⟨by exact a3I.out⟩, ⟨by exact a9j.out⟩, ⟨by exact HB.out⟩⟩
      ·rw [if_neg c16] at H; have c8r := bq_ c16; have d4a := bn_ c16; obtain ⟨rfl, rfl, rfl⟩ := s3_ H; have c61 : 0 ≤ (1 : Int) := (by omega); have c62 : 1 < (l0.length : Int) := V9; obtain ⟨f2F, e7k, b0K⟩ := Kd.Q8 HR0.out 1 c61 c62
       cases e7k
       (try simp only [show (1 : Int).toNat = 1 from rfl, Nat.reduceMul, Nat.reduceEqDiff, Go.Addr.add, ↓reduceIte] at b0K)
       have f2G : (1 < l0.length) = True := eq_true (by omega); replace b0K := cb_ HB b0K; replace c61 := eq_true c61; replace c62 := eq_true c62; have f2H := a4f.out; have f2I := a2t.out; obtain ⟨c2G, c2H, c2I, c2J⟩ := a1p a9j.out; obtain ⟨e1k, e1l, e1m, e1n⟩ := a1p a3I.out
       go_wp2
       refine bodyPost_ret (U8 rfl _ _ b03 122 #[.int .i64 0, .int .i64 0] (0, 0) _ rfl (l9 (l9 a3I.out 0 _ rfl) 1 _ rfl) Tryd.underlying122 rfl (by kernel_rfl)) rfl ?_; exact ⟨by (rfl), by repeat (with_reducible first | exact HB.out | refine o7 ?_ b3f.out)⟩
    ·cases nt_ c10
     rw [if_neg a3S] at H; have H' := a_ H; clear H
     go_wp2
     go_meet
     case rel => exact ⟨_, (0), (0), (0), (by rfl), H', ⟨by have := HJ1.out; (omega)⟩, ⟨by exact a3I.out⟩, ⟨by exact a9j.out⟩, ⟨by exact HB.out⟩⟩
   case rest =>
    clear HC9; obtain ⟨kq, a4g, c0g, c0h, rfl, HA, HJ8, a3I, a9j, HB⟩ := hcut
    cases kq with
    | zero => exact absurd HA.out (by simp [G6.j1])
    | succ kj8 =>
     have H := HA.out; clear HA
     simp only [G6.j1] at H
     by_cases c20 : a4g ≥ (l0.length : Int)
     ·rw [if_pos c20] at H; have b74 : decide ((l0.length : Int) ≤ a4g) = true := dt_ c20; clear c20; obtain ⟨rfl, rfl, rfl⟩ := s3_ H; have c9G := a4f.out; have c9H := a2t.out; obtain ⟨b2q, b2r, b2s, b2t⟩ := a1p a9j.out; obtain ⟨b65, b66, b67, b68⟩ := a1p a3I.out
      go_wp2
      refine bodyPost_ret (U8 rfl _ _ b03 122 #[.int .i64 0, .int .i64 0] (0, 0) _ rfl (l9 (l9 a3I.out 0 _ rfl) 1 _ rfl) Tryd.underlying122 rfl (by kernel_rfl)) rfl ?_; exact ⟨by (rfl), by repeat (with_reducible first | exact HB.out | refine o7 ?_ b3f.out)⟩
     ·rw [if_neg c20] at H; have b74 : decide ((l0.length : Int) ≤ a4g) = false := df_ c20; clear c20; have c4O := a2z H; replace H := O5 H; have e3J := a2z H; replace H := O5 H
      by_cases c26 : (Int.tmod (wrap64 (rd l0 a4g)) 2) = 1
      ·rw [if_pos c26] at H; obtain ⟨f2J, f2K⟩ := bt_ c26; clear c26
       by_cases c27 : (wrap64 (rd l0 a4g)) = 255
       ·rw [if_pos c27] at H; obtain ⟨e3K, f2L⟩ := bt_ c27; clear c27; obtain ⟨rfl, rfl, rfl⟩ := s3_ H; have a7j : 0 ≤ (a4g : Int) := V9; have a7k : a4g < (l0.length : Int) := V9; obtain ⟨b3g, b5Y, a2G⟩ := Kd.Q8 HR0.out a4g a7j a7k
        cases b5Y
        replace a2G := cb_ HB a2G; replace a7j := eq_true a7j; replace a7k := eq_true a7k; have e3x := a4f.out; have e3y := a2t.out; obtain ⟨c9c, c9d, c9e, c9f⟩ := a1p a9j.out; obtain ⟨b7b, b7c, b7d, b7e⟩ := a1p a3I.out
        go_wp2
        refine bodyPost_ret (U8 rfl _ _ b03 122 #[.int .i64 0, .int .i64 0] (0, 0) _ rfl (l9 (l9 a3I.out 0 _ rfl) 1 _ rfl) Tryd.underlying122 rfl (by kernel_rfl)) rfl ?_; exact ⟨by (rfl), by repeat (with_reducible first | exact HB.out | refine o7 ?_ b3f.out)⟩
       ·rw [if_neg c27] at H; have e3K := bq_ c27; have f2L := bn_ c27; obtain ⟨rfl, rfl, rfl⟩ := s3_ H; have a7j : 0 ≤ (a4g : Int) := V9; have a7k : a4g < (l0.length : Int) := V9; obtain ⟨b3g, b5Y, a2G⟩ := Kd.Q8 HR0.out a4g a7j a7k
        cases b5Y
        replace a2G := cb_ HB a2G; replace a7j := eq_true a7j; replace a7k := eq_true a7k; have g7j := a2t.out; have g7k := a4f.out; obtain ⟨e1p, e1q, e1r, e1s⟩ := a1p a3I.out
        go_wp2
        refine bodyPost_ret (U8 rfl _ _ b03 122 #[.int .i64 (wrap64 (rd l0 a4g)), .int .i64 (wrap64 (a4g + 1))] (0, 0) _ rfl (l9 (l9 a3I.out 0 _ rfl) 1 _ rfl) Tryd.underlying122 rfl (by kernel_rfl)) rfl ?_; exact ⟨by (rfl), by repeat (with_reducible first | exact HB.out | refine o7 ?_ b3f.out)⟩
      ·rw [if_neg c26] at H; have f2J := bq_ c26; have f2K := bn_ c26
       by_cases c33 : (wrap64 (a4g + 1)) ≥ (l0.length : Int)
       ·rw [if_pos c33] at H; have c4Z : decide ((l0.length : Int) ≤ (wrap64 (a4g + 1))) = true := dt_ c33; clear c33; obtain ⟨rfl, rfl, rfl⟩ := s3_ H; have a7j : 0 ≤ (a4g : Int) := V9; have a7k : a4g < (l0.length : Int) := V9; obtain ⟨b3g, b5Y, a2G⟩ := Kd.Q8 HR0.out a4g a7j a7k
        cases b5Y
        replace a2G := cb_ HB a2G; replace a7j := eq_true a7j; replace a7k := eq_true a7k; have f2M := a4f.out; have f2N := a2t.out; obtain ⟨c9g, c9h, c9i, c9j⟩ := a1p a9j.out; obtain ⟨c8u, c8v, c8w, c8x⟩ := a1p a3I.out
        go_wp2
        refine bodyPost_ret (U8 rfl _ _ b03 122 #[.int .i64 0, .int .i64 0] (0, 0) _ rfl (l9 (l9 a3I.out 0 _ rfl) 1 _ rfl) Tryd.underlying122 rfl (by kernel_rfl)) rfl ?_; exact ⟨by (rfl), by repeat (with_reducible first | exact HB.out | refine o7 ?_ b3f.out)⟩
       ·rw [if_neg c33] at H; have c4Z : decide ((l0.length : Int) ≤ (wrap64 (a4g + 1))) = false := df_ c33; clear c33; obtain ⟨b1O, d5D⟩ := si_ ((wrap64 (a4g + 1))); rw [d5D] at H
        (try rw [d5D] at c4Z)
        have g2A : (IntKind.i64.wrap (a4g + 1)) = b1O := (a0I _).trans d5D; have g7l := a2z H; replace H := O5 H; have g7m := a2z H; replace H := O5 H
        by_cases c40 : (Int.tmod (wrap64 (rd l0 (b1O))) 2) = 0
        ·rw [if_pos c40] at H; obtain ⟨f2O, f2P⟩ := bt_ c40; clear c40; obtain ⟨rfl, rfl, rfl⟩ := s3_ H; have a7j : 0 ≤ (a4g : Int) := V9; have a7k : a4g < (l0.length : Int) := V9; obtain ⟨b3g, b5Y, a2G⟩ := Kd.Q8 HR0.out a4g a7j a7k
         cases b5Y
         replace a2G := cb_ HB a2G; replace a7j := eq_true a7j; replace a7k := eq_true a7k; have b3M : 0 ≤ ((b1O) : Int) := V9; have b3N : (b1O) < (l0.length : Int) := V9; obtain ⟨b8B, c63, a6E⟩ := Kd.Q8 HR0.out (b1O) b3M b3N; obtain rfl : b3g = b8B := (by injection c63); replace a6E := cb_ HB a6E; replace b3M := eq_true b3M; replace b3N := eq_true b3N; have g7n := a4f.out; have g7o := a2t.out; obtain ⟨d9q, d9r, d9s, d9t⟩ := a1p a9j.out; obtain ⟨f8C, f8D, f8E, f8F⟩ := a1p a3I.out
         go_wp2
         refine bodyPost_ret (U8 rfl _ _ b03 122 #[.int .i64 0, .int .i64 0] (0, 0) _ rfl (l9 (l9 a3I.out 0 _ rfl) 1 _ rfl) Tryd.underlying122 rfl (by kernel_rfl)) rfl ?_; exact ⟨by (rfl), by repeat (with_reducible first | exact HB.out | refine o7 ?_ b3f.out)⟩
        ·rw [if_neg c40] at H; have f2O := bq_ c40; have f2P := bn_ c40
         by_cases c44 : (wrap64 (rd l0 a4g)) = 0
         ·rw [if_pos c44] at H; obtain ⟨f2Q, f2R⟩ := bt_ c44; clear c44
          by_cases c45 : (wrap64 (rd l0 (b1O))) = 255
          ·rw [if_pos c45] at H; obtain ⟨f2S, f2T⟩ := bt_ c45; clear c45; obtain ⟨rfl, rfl, rfl⟩ := s3_ H; have a7j : 0 ≤ (a4g : Int) := V9; have a7k : a4g < (l0.length : Int) := V9; obtain ⟨b3g, b5Y, a2G⟩ := Kd.Q8 HR0.out a4g a7j a7k
           cases b5Y
           replace a2G := cb_ HB a2G; replace a7j := eq_true a7j; replace a7k := eq_true a7k; have b3M : 0 ≤ ((b1O) : Int) := V9; have b3N : (b1O) < (l0.length : Int) := V9; obtain ⟨b8B, c63, a6E⟩ := Kd.Q8 HR0.out (b1O) b3M b3N; obtain rfl : b3g = b8B := (by injection c63); replace a6E := cb_ HB a6E; replace b3M := eq_true b3M; replace b3N := eq_true b3N; have f0S := a4f.out; have f0T := a2t.out; obtain ⟨d9K, d9L, d9M, d9N⟩ := a1p a9j.out; obtain ⟨d9O, d9P, d9Q, d9R⟩ := a1p a3I.out
           go_wp2
           refine bodyPost_ret (U8 rfl _ _ b03 122 #[.int .i64 0, .int .i64 0] (0, 0) _ rfl (l9 (l9 a3I.out 0 _ rfl) 1 _ rfl) Tryd.underlying122 rfl (by kernel_rfl)) rfl ?_; exact ⟨by (rfl), by repeat (with_reducible first | exact HB.out | refine o7 ?_ b3f.out)⟩
          ·rw [if_neg c45] at H; have f2S := bq_ c45; have f2T := bn_ c45; obtain ⟨rfl, rfl, rfl⟩ := s3_ H; have a7j : 0 ≤ (a4g : Int) := V9; have a7k : a4g < (l0.length : Int) := V9; obtain ⟨b3g, b5Y, a2G⟩ := Kd.Q8 HR0.out a4g a7j a7k
           cases b5Y
           replace a2G := cb_ HB a2G; replace a7j := eq_true a7j; replace a7k := eq_true a7k; have b3M : 0 ≤ ((b1O) : Int) := V9; have b3N : (b1O) < (l0.length : Int) := V9; obtain ⟨b8B, c63, a6E⟩ := Kd.Q8 HR0.out (b1O) b3M b3N; obtain rfl : b3g = b8B := (by injection c63); replace a6E := cb_ HB a6E; replace b3M := eq_true b3M; replace b3N := eq_true b3N; have e2V := a2t.out; have e2W := a4f.out; obtain ⟨f8G, f8H, f8I, f8J⟩ := a1p a3I.out
           go_wp2
           refine bodyPost_ret (U8 rfl _ _ b03 122 #[.int .i64 (wrap64 ((wrap64 (256 * (wrap64 (rd l0 a4g)))) + (wrap64 (rd l0 (b1O))))), .int .i64 (wrap64 (a4g + 2))] (0, 0) _ rfl (l9 (l9 a3I.out 0 _ rfl) 1 _ rfl) Tryd.underlying122 rfl (by kernel_rfl)) rfl ?_; exact ⟨by (rfl), by repeat (with_reducible first | exact HB.out | refine o7 ?_ b3f.out)⟩
         ·rw [if_neg c44] at H; have f2Q := bq_ c44; have f2R := bn_ c44; obtain ⟨rfl, rfl, rfl⟩ := s3_ H; have a7j : 0 ≤ (a4g : Int) := V9; have a7k : a4g < (l0.length : Int) := V9; obtain ⟨b3g, b5Y, a2G⟩ := Kd.Q8 HR0.out a4g a7j a7k
          cases b5Y
          replace a2G := cb_ HB a2G; replace a7j := eq_true a7j; replace a7k := eq_true a7k; have b3M : 0 ≤ ((b1O) : Int) := V9; have b3N : (b1O) < (l0.length : Int) := V9; obtain ⟨b8B, c63, a6E⟩ := Kd.Q8 HR0.out (b1O) b3M b3N; obtain rfl : b3g = b8B := (by injection c63); replace a6E := cb_ HB a6E; replace b3M := eq_true b3M; replace b3N := eq_true b3N; have f0U := a2t.out; have f0V := a4f.out; obtain ⟨c9q, c9r, c9s, c9t⟩ := a1p a3I.out
          go_wp2
          refine bodyPost_ret (U8 rfl _ _ b03 122 #[.int .i64 (wrap64 ((wrap64 (256 * (wrap64 (rd l0 a4g)))) + (wrap64 (rd l0 (b1O))))), .int .i64 (wrap64 (a4g + 2))] (0, 0) _ rfl (l9 (l9 a3I.out 0 _ rfl) 1 _ rfl) Tryd.underlying122 rfl (by kernel_rfl)) rfl ?_; exact ⟨by (rfl), by repeat (with_reducible first | exact HB.out | refine o7 ?_ b3f.out)⟩
def J6.f (k : Nat) (l0 : List (S42)) (a1 : Int) (l2 : List Int) : Option (List (S42)) := (G6.f k l2).bind fun c0i => (if c0i.2.2 = 0 then (if 0 ≤ c0i.2.1 then (if c0i.2.1 ≤ (l2.length : Int) then (if ([] : List Int).length + (l2.drop (c0i.2.1 : Int).toNat).length < 140737488355328 then (if l0.length < 3518437208883 then (some (l0 ++ [(⟨a1, c0i.1, (([] : List Int) ++ (l2.drop (c0i.2.1 : Int).toNat))⟩ : S42)])) else (none)) else (none)) else (none)) else (none)) else (some l0))
def J6.T5 : Bool × List (List Nat × List Nat) := (true, [([], []), ([0], [0]), ([], []), ([], []), ([3], [3]), ([2, 4], [2, 4]), ([1, 5], [1, 5]), ([0, 1, 2, 3, 4, 5, 6], []), ([7, 6, 6, 0, 1, 2, 3, 4, 5, 6], [6, 7])])
def J6.B5 : List Nat := [0, 1, 0, 0, 8, 28, 63, 127, 255]
theorem J6.e7l : a3b .any (opsOf Tryd.f47 5) = J6.T5 := by kernel_rfl
theorem J6.d5E : a2C J6.T5.2 J6.B5 = true := by kernel_rfl
theorem J6.calls (k : Nat) (base : Nat) (ok : Nat → Prop) (v : Value) (l0 : List (S42)) (a1 : Int) (A2 : Option Addr) (c2 : Nat) (l2 : List Int) (r : List (S42)) (w : World) (hS : Kd.S k42 42 w base ok v l0) (hf : ∀ k, w.heap.size ≤ k → ok k) (hb : base ≤ w.heap.size) (hr2 : Kd.C (Kd.int .u8) w A2 l2.length l2) (hc2 : l2.length ≤ c2) (h : J6.f k l0 a1 l2 = some r) :
  Calls Tryd.prog 47 #[v, .int .i64 a1, .slice A2 l2.length c2] w fun e w' => ∃ v', e = .returned v' ∧ Aside0 (Longer w w' base ok v v' r) ∧ Aside0 (Below base w w') := by
 have d5A := Tryd.underlying122
 have d2d := Tryd.underlying42
 have HS := a_ hS
 have HF := a_ hf
 have HBA := a_ hb
 have HLT := a_ (Kd.b9m hS)
 obtain ⟨A0, c0, rfl⟩ := Kd.a6c hS
 clear hS hf hb
 have HR2 := a_ hr2
 have HC2 := a_ hc2
 clear hr2 hc2
 have HB := a_ (Below.refl w.heap.size w)
 have H := h
 clear h
 unfold J6.f at H
 obtain ⟨⟨b0L, b3O, e7m⟩, A4, H⟩ := bd_ H
 try dsimp only at H
 by_cases c5 : e7m = 0
 ·rw [if_pos c5] at H; obtain ⟨a5y, b0H⟩ := bt_ c5; clear c5; have c6 := Z7 H; replace H := O5 H; have a8h := eq_true c6; have b4N := dt_ c6; clear c6; have c7 := Z7 H; replace H := O5 H; have a5U := eq_true c7; have a9R := dt_ c7; clear c7; have c8 := Z7 H; replace H := O5 H; have b5T := a_ c8; clear c8; obtain ⟨b40, d5F⟩ := is_ ((([] : List Int) ++ (l2.drop (b3O : Int).toNat)) : List Int); rw [← d5F] at H; have f2U := a_ d5F; clear d5F; have c9 := Z7 H; replace H := O5 H; have c65 := a_ c9; clear c9; obtain ⟨h0G, d5G⟩ := is_ ((l0 ++ [(⟨a1, b0L, b40⟩ : S42)]) : List (S42)); rw [← d5G] at H; have f2V := a_ d5G; clear d5G; obtain rfl := oj_ H
  go_enter Tryd.func47, Tryd.ntmps47
  try go_wp2_with (first | (refine gl_ (some 12) Tryd.func66 #[.slice A2 l2.length c2] ?_; (with_reducible refine (G6.calls k _ _ l2 b0L b3O e7m _ HR2.out HC2.out A4.out).mono ?_); rintro e w10 ⟨rfl, hb⟩; refine ⟨_, rfl, ?_⟩; replace HB := U9 HB hb; (try clear hb)) | (refine be_ 7 #[.int .i64 0, .int .i64 0] 122 ?_; intro b3h hg w11 hbox hb; have a5H := a_ hbox; have b8C := lb_ HB hg; replace HB := U9 HB hb; clear hb hbox hg; obtain ⟨d0k, d0l, d0m, d0n⟩ := a1p a5H.out) | (refine be_ 9 #[.int .i64 0, .int .i64 0, .slice none 0 0] 42 ?_; intro a4h hg w13 hbox hb; have a5I := a_ hbox; have g7p := a_ ((by rw [hg]; exact (y5 (by repeat (with_reducible first | exact HB.out | refine o7 ?_ b8C.out))) : w.heap.size ≤ a4h)); have e3L := a_ ((by rw [hg]; exact (y5 (by repeat (with_reducible first | exact HB.out | refine o7 ?_ b8C.out))) : w.heap.size ≤ a4h)); have a8w := a_ ((by rw [hg]; exact Nat.ne_of_lt (a0t (g := b3h) (o := .cells #[.int .i64 b0L, .int .i64 b3O] 122 (0, 0)) (l9 (l9 a5H.out 0 _ rfl) 1 _ rfl)) : b3h ≠ a4h)); have c0j := a_ ((by rw [hg]; exact Nat.ne_of_gt (a0t (g := b3h) (o := .cells #[.int .i64 b0L, .int .i64 b3O] 122 (0, 0)) (l9 (l9 a5H.out 0 _ rfl) 1 _ rfl)) : a4h ≠ b3h)); replace a5H := a_ (J7 (g := b3h) (o := .cells #[.int .i64 b0L, .int .i64 b3O] 122 (0, 0)) (l9 (l9 a5H.out 0 _ rfl) 1 _ rfl) hb); replace HB := a_ (J4 (by repeat (with_reducible first | exact HB.out | refine o7 ?_ b8C.out)) hb); clear hb hbox hg; have f2W := c0j.out; have f2X := a8w.out; obtain ⟨c9U, c9V, c9W, c9X, c9Y, c9Z⟩ := a1R a5I.out))
  have n0_ : Aside0 ((((w13.setCell ⟨a4h, 0, none⟩ (.int .i64 a1)).setCell ⟨a4h, 1, none⟩ (.int .i64 b0L)).setCell ⟨a4h, 2, none⟩ (.slice none 0 0)).heap[b3h]? = some (.cells #[.int .i64 b0L, .int .i64 b3O] 122 (0, 0))) := ⟨o8 (o8 (o8 a5H.out a8w.out _) a8w.out _) a8w.out _⟩; have n1_ : Aside0 ((((w13.setCell ⟨a4h, 0, none⟩ (.int .i64 a1)).setCell ⟨a4h, 1, none⟩ (.int .i64 b0L)).setCell ⟨a4h, 2, none⟩ (.slice none 0 0)).heap[a4h]? = some (.cells #[.int .i64 a1, .int .i64 b0L, .slice none 0 0] 42 (0, 0))) := ⟨l9 (l9 (l9 a5I.out 0 _ rfl) 1 _ rfl) 2 _ rfl⟩; have n2_ : Aside0 (Below w.heap.size w (((w13.setCell ⟨a4h, 0, none⟩ (.int .i64 a1)).setCell ⟨a4h, 1, none⟩ (.int .i64 b0L)).setCell ⟨a4h, 2, none⟩ (.slice none 0 0))) := ⟨by repeat (with_reducible first | exact HB.out | refine o7 ?_ e3L.out)⟩
  (try clear a5H)
  (try clear a5I)
  (try clear HB)
  generalize (((w13.setCell ⟨a4h, 0, none⟩ (.int .i64 a1)).setCell ⟨a4h, 1, none⟩ (.int .i64 b0L)).setCell ⟨a4h, 2, none⟩ (.slice none 0 0)) = w16 at n0_ n1_ n2_ ⊢; have a5H := n0_; have a5I := n1_; have HB := n2_; clear n0_ n1_ n2_; replace a5H := a_ (G8 a5H.out); replace a5I := a_ (G8 a5I.out); replace HB := a_ (Y3 HB.out); obtain ⟨d5p, a7D, _, a7E, _⟩ := info_parts info5; obtain ⟨A18, b8q, b1H, b1I⟩ := a0N (P := Tryd.prog) (Value.int .u8) 0 22 5 .i64 Tryd.underlying22 a7D a7E A2 c2 l2 b3O (V9) (V9) HC2.out; have e3M := ci_ (Kd.Y8 (h1 := fun _ => rfl) (b1H _ (Kd.Y2 HR2.out))); have g7q := a_ b1I; clear b1H b1I a7D a7E; refine a2x (n := 9) (S := fun w' => w'.cell? ⟨a4h, 0, none⟩ = some (.int .i64 a1) ∧ w'.cell? ⟨a4h, 1, none⟩ = some (.int .i64 b0L) ∧ w'.cell? ⟨a4h, 2, none⟩ = some (.slice none 0 0) ∧ w'.cell? ⟨b3h, 0, none⟩ = some (.int .i64 b0L) ∧ w'.cell? ⟨b3h, 1, none⟩ = some (.int .i64 b3O)) (ds := [8]) (bo_ 9 0) (by kernel_rfl) rfl rfl ⟨bc0 a5I, bc1 a5I, bc2 a5I, bc0 a5H, bc1 a5H⟩ (fun hHeld => ?_); refine a2D J6.e7l J6.d5E (fun Z8 HW_ => ?_); generalize w16.drew = w17 at a5H a5I HB e3M hHeld ⊢; refine pu_ 0 (some 22) Z8 ?_; refine pu_ 2 (some 24) Z8 ?_; refine pu_ 3 (some 25) Z8 ?_; refine a1w (i := 1) (N := some 23) (v := ?_) (a' := ?_) (bo_ 9 15) rfl rfl (a1x Z8.out HW_.out (by kernel_rfl)) (fun _ _ _ h => h) (Or.inl ⟨by rfl, ?_⟩) hHeld ?_ ?_
  rotate_left
  ·rintro w' ⟨s0, s1, s2, s3, s4⟩
   go_simp
   with_reducible rfl
  rotate_left
  ·simp only [Act.put, List.setIfInBounds_toArray, List.set_cons_zero, List.set_cons_succ, a0I, a1W]
   rfl
  refine a1w (i := 4) (N := some 26) (v := ?_) (a' := ?_) (bo_ 9 31) rfl rfl (a1x Z8.out HW_.out (by kernel_rfl)) (fun _ _ _ h => h) (Or.inl ⟨by rfl, ?_⟩) hHeld ?_ ?_
  rotate_left
  ·rintro w' ⟨s0, s1, s2, s3, s4⟩
   go_simp
   with_reducible rfl
  rotate_left
  ·simp only [Act.put, List.setIfInBounds_toArray, List.set_cons_zero, List.set_cons_succ, a0I, a1W]
   rfl
  refine pu_ 5 (some 27) Z8 ?_; refine a6e (i := 6) (N := some 28) (bo_ 9 127) rfl rfl (a1I Z8.out (by kernel_rfl)) (by decide) (fun K hK => ?_); refine Kd.a4m (Kd.int .u8) (w0 := w) w.heap.size (by rfl) (.tmp 23) (.tmp 27) 22 5 (.int .u8 0) 1 rfl Tryd.underlying22 info5 rfl (by decide) (by omega) (.slice none 0 0) ([] : List Int) (l2.drop (b3O : Int).toNat) _ _ _ (fun _ => True) (fun _ => False) rfl rfl ?aO ?aR (fun _ _ h => h) (fun _ h => h.elim) ?aF ?aB ?aS ?aL ?_
  (case aR => (have c_ := (Kd.C9 e3M.out HB.out); rw [show (l2.drop (b3O : Int).toNat).length = (l2.length - b3O.toNat) from List.length_drop] at c_; exact c_))
  (case aB => exact HB.out)
  (case aF => exact (fun _ _ => trivial))
  (case aO => exact (Kd.Y1 _ _ _ _ (fun _ => True)))
  (case aS => exact (y5 HB.out))
  (case aL => have := b5T.out; have e6y := (show (l2.drop (b3O : Int).toNat).length = (l2.length - b3O.toNat) from List.length_drop); omega)
  intro h0H w19 ho hb hg hat; rw [← f2U.out] at ho; have b6n := a_ ho; replace a5H := a_ (N7 a5H.out hg (by simp [Value.ownBlock])); replace a5I := a_ (N7 a5I.out hg (by simp [Value.ownBlock])); replace HB := a_ hb; clear ho hb hg hat; obtain ⟨a6U, a6V, c2l⟩ := Kd.G7 b6n.out; subst c2l; refine hK.out _ _ ⟨bc0 a5I, bc1 a5I, bc2 a5I, bc0 a5H, bc1 a5H⟩ (fun hHeld => ?_); clear hK K; refine nm_ (some 28) ?_; refine pu_ 7 (some 29) Z8 ?_; refine b1k (i := 8) (N := none) (bo_ 9 511) rfl rfl (a1I Z8.out (by kernel_rfl)) (by decide) (fun K hK => ?_); have h0I := bc2 a5I; have g7r := l7 a5I.out 2; have f8L := a8w.out; have f8M := c0j.out; refine a7x (w1 := ?_) (by rfl) rfl ?_ ?_
  rotate_left
  ·go_simp
   rfl
  refine hK.out _ _ ?_; clear hK K; refine a4y (a5v Z8.out (by kernel_rfl)) ?_; have n0_ : Aside0 (Kd.R (Kd.int .u8) 5 (w19.setCell ⟨a4h, 2, none⟩ (.slice a6U b40.length a6V)) w.heap.size (fun _ => True) (.slice a6U b40.length a6V) b40) := ⟨by exact Kd.D7 (Kd.V3 (p := ⟨a4h, 2, none⟩) (Kd.U2 b6n.out a5I.out (by decide)) (fun _ hk => hk.2) (.slice a6U b40.length a6V)) (fun _ hk => trivial)⟩; have n1_ : Aside0 ((w19.setCell ⟨a4h, 2, none⟩ (.slice a6U b40.length a6V)).heap[b3h]? = some (.cells #[.int .i64 b0L, .int .i64 b3O] 122 (0, 0))) := ⟨o8 a5H.out a8w.out _⟩; have n2_ : Aside0 ((w19.setCell ⟨a4h, 2, none⟩ (.slice a6U b40.length a6V)).heap[a4h]? = some (.cells #[.int .i64 a1, .int .i64 b0L, .slice a6U b40.length a6V] 42 (0, 0))) := ⟨l9 a5I.out 2 _ rfl⟩; have n3_ : Aside0 (Below w.heap.size w (w19.setCell ⟨a4h, 2, none⟩ (.slice a6U b40.length a6V))) := ⟨by repeat (with_reducible first | exact HB.out | refine o7 ?_ e3L.out)⟩
  (try clear b6n)
  (try clear a5H)
  (try clear a5I)
  (try clear HB)
  generalize (w19.setCell ⟨a4h, 2, none⟩ (.slice a6U b40.length a6V)) = w22 at n0_ n1_ n2_ n3_ ⊢; have b6n := n0_; have a5H := n1_; have a5I := n2_; have HB := n3_; clear n0_ n1_ n2_ n3_; obtain ⟨b65, b66, f8N, b67, b68, f8O⟩ := a1R a5I.out
  try go_wp2_with (first | ((with_reducible refine E5 (b := .append) (xs := #[.tmp 30, .tmp 32]) rfl ?_); at_builtin; refine Kd.a7y k42 (w0 := w22) base rfl (.tmp 30) (.tmp 32) 27 42 (.agg #[(.int .i64 0), (.int .i64 0), (.slice none 0 0)]) 40 rfl Tryd.underlying27 info42 rfl (by decide) (by omega) (.slice A0 l0.length c0) l0 (⟨a1, b0L, b40⟩ : S42) [.int .i64 a1, .int .i64 b0L, .slice a6U b40.length a6V] ok (fun k_ => some k_ = (.slice a6U b40.length a6V : Value).ownBlock) rfl rfl ?aP ?aK ?aF ?aO ?aB ?aS ?aL ?_; (case aP => exact c7Z _ _ _ (⟨a1, b0L, b40⟩ : S42) (Kd.a3r rfl (Kd.a0e b6n.out HBA.out))); (case aK => exact fun k_ hk => ⟨HF.out k_ (Kd.a0H b6n.out k_ hk.symm), fun e_ => by have h1 := Kd.a0H b6n.out k_ hk.symm; have h2 := HLT.out k_ e_.symm; omega⟩); (case aF => exact fun k_ hk => HF.out k_ (Nat.le_trans (y5 HB.out) hk)); (case aO => exact Kd.N8 (Kd.d3e HS.out HB.out) (fun k_ hk => ⟨hk.1, fun e_ => by have h1 := Kd.a0H b6n.out k_ e_.symm; have h2 := hk.2; omega⟩)); (case aB => exact Below.refl _ _); (case aS => exact Nat.le_trans HBA.out (y5 HB.out)); (case aL => have := c65.out; omega); intro h0J w24 ho hb hg hat; rw [← f2V.out] at ho; have HO := a_ ho; have HB5 := a_ hb; have HG := a_ hg; have HAT := a_ hat; clear ho hb hg hat))
  go_ret
  exact ⟨_, rfl, ⟨⟨HO.out, (a4a HB.out _).trans HG.out, HAT.out.elim Or.inl (fun ⟨b, h, hle⟩ => Or.inr ⟨b, h, Nat.le_trans (y5 HB.out) hle⟩)⟩⟩, ⟨(HB.out.mono HBA.out).trans HB5.out⟩⟩
 ·rw [if_neg c5] at H; have a5y := bq_ c5; have b0H := bn_ c5; obtain rfl := oj_ H
  go_enter Tryd.func47, Tryd.ntmps47
  go_wp2_with (first | (refine gl_ (some 12) Tryd.func66 #[.slice A2 l2.length c2] ?_; (with_reducible refine (G6.calls k _ _ l2 b0L b3O e7m _ HR2.out HC2.out A4.out).mono ?_); rintro e w25 ⟨rfl, hb⟩; refine ⟨_, rfl, ?_⟩; replace HB := U9 HB hb; (try clear hb)) | (refine be_ 7 #[.int .i64 0, .int .i64 0] 122 ?_; intro b3h hg w26 hbox hb; have a5H := a_ hbox; have b8C := lb_ HB hg; replace HB := U9 HB hb; clear hb hbox hg; obtain ⟨b4J, b4K, b4L, b4M⟩ := a1p a5H.out))
  go_ret
  exact ⟨_, rfl, ⟨⟨Kd.a4o HS.out (by repeat (with_reducible first | exact HB.out | refine o7 ?_ b8C.out)), a4a (by repeat (with_reducible first | exact HB.out | refine o7 ?_ b8C.out)) _, .inl rfl⟩⟩, ⟨Below.mono (B := w.heap.size) (by repeat (with_reducible first | exact HB.out | refine o7 ?_ b8C.out)) HBA.out⟩⟩
theorem b1a.d2t (n : Nat) (w : World) (hn : n < 140737488355328) :
  Calls Tryd.prog 91 #[.slice none 0 0, .int .i64 (n : Int)] w fun e w' => ∃ v0_ : Value, e = .returned (v0_) ∧ Kd.R (Kd.int .u8) 5 w' w.heap.size (fun _ => True) v0_ [] ∧ Below w.heap.size w w' := by
 have HB := a_ (Below.refl w.heap.size w)
 have h0 : decide ((n : Int) < 0) = false := df_ (by omega)
 have HN := a_ hn
 have hb1 : (n : Int) ≤ 140737488355328 := by omega
 clear hn
 by_cases hz : 0 < (n : Int)
 ·have hz1 : decide (0 < (n : Int)) = true := dt_ hz
  go_enter Tryd.func91, Tryd.ntmps91
  go_wp2_with ((with_reducible refine E5 (b := .append) (xs := #[.tmp 20, .tmp 21]) rfl ?_); at_builtin; refine Kd.b7D (Kd.int .u8) (w0 := w) w.heap.size rfl (.tmp 20) (.tmp 21) 22 3 5 (.int .u8 0) 1 rfl Tryd.underlying22 Tryd.underlying3 info5 rfl (by decide) (by omega) (.slice none 0 0) ([] : List Int) 0 (kx := .i64) (n : Int) (fun _ => True) rfl rfl ?aZ (fun _ _ => trivial) (Kd.Y1 _ _ _ _ _) (by omega) ?aB ?aS ?aL ?_; (case aZ => rfl); (case aB => exact HB.out); (case aS => exact Nat.le_refl _); (case aL => have := HN.out; simp only [List.length_nil]; omega); intro v1 w1 ho hb hg hat; have n0_ := a_ hb; have n1_ := a_ ho; clear ho hb hg hat HB; have HB := n0_; have HO := n1_; clear n0_ n1_; obtain ⟨A1, c1, eo⟩ := Kd.G7 HO.out; subst eo)
  go_ret
  exact ⟨_, rfl, Kd.d26 (m := 0) HO.out (Nat.zero_le _), HB.out⟩
 ·have hz1 : decide (0 < (n : Int)) = false := df_ hz
  go_enter Tryd.func91, Tryd.ntmps91
  go_wp2
  go_ret
  exact ⟨_, rfl, Kd.Y1 _ _ _ _ _, HB.out⟩
end Go.Proofs.YtgnonglkibhnhaaDoor.Print
