-- laid together by this session's own program (wip/tools/merge.py) of texts that its program laid
import Derived.Test.YtgnonglkibhnhaaDoorF37
import Derived.Test.YtgnonglkibhnhaaDoorM4
namespace Go.Proofs.YtgnonglkibhnhaaDoor.Print
open Go.RowKit Go.Proofs.YtgnonglkibhnhaaDoorW.PrintWords Go.Proofs.YtgnonglkibhnhaaDoorW.PrintLast Go.Proofs.YtgnonglkibhnhaaDoorW.PrintMore
attribute [local go_sem] a0o a0p a0R a0S Y5 Y6 a0q a0r
set_option linter.unusedVariables false
set_option linter.unusedSimpArgs false
set_option maxHeartbeats 16000000
set_option maxRecDepth 100000
def G6.tail (k : Nat) (l0 : List Int) (b n : Bool) : Option (Bool × Bool × Int × Int × Int) :=
 if (l0.length : Int) < 24 then some (false, false, 0, 0, 2) else (Q8.f k ((l0.take 6).drop 4) b).bind fun t => if t = 2 then (U5.f k l0 16 b).bind fun t1 => (U5.f k l0 20 b).bind fun t2 => some (b, n, t1, t2, 0) else some (false, false, 0, 0, 3)
def G6.c5n (k : Nat) (l0 : List Int) : Nat → Nat → Option (Bool × Bool × Int × Int × Int)
 | 0, _ => some (false, false, 0, 0, 3)
 | d + 1, j => (umpireref09_Header.f k ((j : Int) % 2 == 1) ((j : Int) / 2 == 1) 0 0).bind fun t => if (4 : Int) ≤ t.length then (if (strOfNums (t.take 4)).toList = (strOfNums (l0.take 4)).toList then G6.tail k l0 ((j : Int) % 2 == 1) ((j : Int) / 2 == 1) else G6.c5n k l0 d (j + 1)) else none
def G6.f (k : Nat) (l0 : List Int) : Option (Bool × Bool × Int × Int × Int) := if (l0.length : Int) < 4 then some (false, false, 0, 0, 2) else G6.c5n k l0 4 0
theorem G6.f4T (A : Option Addr) (l : List Int) (c : Nat) (h4 : (4 : Int) ≤ l.length) (hc : l.length ≤ c) :
  (∀ W : World, (Instr.slice 22 (.slice A l.length c) none (some (.int .i64 4)) none).run Tryd.prog W = .ok (.slice A 4 c) W) ∧ ∀ w : World, Kd.C (Kd.int .u8) w A l.length l → (convert 22 9 (.slice A 4 c)).run Tryd.prog w = .ok (.string (strOfNums (l.take (4 : Int).toNat))) w := by
 obtain ⟨i0, hi0, _, hsz, _⟩ := info_parts info5
 obtain ⟨hcB, hrB, hlB⟩ := a6c (P := Tryd.prog) (Value.int .u8) 0 22 5 .i64 Tryd.underlying22 hi0 hsz A c l 4 (by omega) h4 hc
 have lB4 : (l.take (4 : Int).toNat).length = 4 := (by rw [List.length_take]; omega)
 rw [lB4] at hcB
 refine ⟨hcB, fun w h => ?_⟩
 have e8F := Kd.a2r (P := Tryd.prog) (dst := 9) (c := c) Tryd.underlying22 Tryd.underlying5 Tryd.underlying9 (Kd.Y8 (enc := Value.int .u8) (d := (0 : Int)) (h1 := fun _ => rfl) (hrB w (Kd.Y3 (enc := Value.int .u8) (d := (0 : Int)) (h1 := fun _ => rfl) h)))
 rw [lB4] at e8F
 exact e8F
theorem G6.neq (a b : List UInt8) : (!(a == b)) = decide (¬ a = b) := by rw [Bool.eq_iff_iff]; simp
theorem G6.f4U (A : Option Addr) (l : List Int) (c : Nat) (h4 : (24 : Int) ≤ l.length) (hc : l.length ≤ c) :
  ∃ A', (∀ W : World, (Instr.slice 22 (.slice A l.length c) (some (.int .i64 4)) (some (.int .i64 6)) none).run Tryd.prog W = .ok (.slice A' 2 (c - 4)) W) ∧ (∀ w : World, Kd.C (Kd.int .u8) w A l.length l → Kd.C (Kd.int .u8) w A' 2 ((l.take 6).drop 4)) ∧ ((l.take 6).drop 4).length = 2 ∧ 2 ≤ c - 4 := by
 obtain ⟨i0, hi0, _, hsz, _⟩ := info_parts info5
 obtain ⟨A', hcB, hrB, hlB⟩ := a5B (P := Tryd.prog) (Value.int .u8) 0 22 5 .i64 .i64 Tryd.underlying22 hi0 hsz A c l 4 6 (by omega) (by omega) (by omega) hc
 have lB4 : ((l.take (6 : Int).toNat).drop (4 : Int).toNat).length = 2 := (by rw [List.length_drop, List.length_take]; omega)
 rw [lB4] at hcB
 refine ⟨A', hcB, fun w h => ?_, lB4, by omega⟩
 have h2 := Kd.Y8 (enc := Value.int .u8) (d := (0 : Int)) (h1 := fun _ => rfl) (hrB w (Kd.Y3 (enc := Value.int .u8) (d := (0 : Int)) (h1 := fun _ => rfl) h))
 rw [lB4] at h2
 exact h2
structure G6.Round (w W : World) (g2 k : Nat) (l0 : List Int) (j : Nat) (r : Bool × Bool × Int × Int × Int) : Prop where
 h2 : W.heap[g2]? = some (.cells #[.bool false, .bool false, .int .u32 0, .int .u32 0] 46 (0, 0))
 hb : Below w.heap.size w W
 hl : G6.c5n k l0 (4 - j) j = some r
theorem G6.calls (k : Nat) (A0 : Option Addr) (c0 : Nat) (l0 : List Int) (r1 r2 : Bool) (r3 r4 : Int) (r5 : Int) (w : World) (hr0 : Kd.C (Kd.int .u8) w A0 l0.length l0) (hc0 : l0.length ≤ c0) (h : G6.f k l0 = some (r1, r2, r3, r4, r5)) :
  Calls Tryd.prog 35 #[.slice A0 l0.length c0] w fun e w' => e = .returned (.tuple #[.agg #[.bool r1, .bool r2, .int .u32 r3, .int .u32 r4], .int .i64 r5]) ∧ Below w.heap.size w w' := by
 have huM := Tryd.underlying46
 unfold G6.f at h
 have HR0 := a_ hr0
 have HC0 := a_ hc0
 have HW := a_ (Below.refl w.heap.size w)
 by_cases c1 : (l0.length : Int) < 4
 ·rw [if_pos c1] at h
  simp only [Option.some.injEq, Prod.mk.injEq] at h
  obtain ⟨rfl, rfl, rfl, rfl, rfl⟩ := h; have c1b := dt_ c1; clear c1 hr0 hc0
  go_enter Tryd.func35, Tryd.ntmps35
  go_wp2_with (((with_reducible refine X0 (N := 2) rfl ?_); refine b2S ?hg (N := 2) ?hd (cs := #[.bool false, .bool false, .int .u32 0, .int .u32 0]) (t := 46) ?hr ?_; (case hd => rfl); (case hg => rfl); (case hr => first | (go_simp; done) | (go_simp; rfl)); intro g2 hg w1 hbox hb; have BK2 := a_ hbox; have HB1 := V3 HW hb; have GE2 : Aside0 (w.heap.size ≤ g2) := ⟨by rw [hg]; exact Nat.le_refl _⟩; clear hg hbox hb; have b5u := bc0 BK2; have b5v := l7 BK2.out 0; have b5w := bc1 BK2; have b5x := l7 BK2.out 1; have b5y := bc2 BK2; have b5z := l7 BK2.out 2; have b5A := bc3 BK2; have b5B := l7 BK2.out 3))
  refine bodyPost_ret (U9 rfl _ _ g2 46 #[.bool false, .bool false, .int .u32 0, .int .u32 0] (0, 0) _ rfl (l9 (l9 (l9 (l9 BK2.out 0 _ rfl) 1 _ rfl) 2 _ rfl) 3 _ rfl) Tryd.underlying46 rfl (by kernel_rfl)) rfl ?_; exact ⟨rfl, by repeat (first | with_reducible exact HB1.out | with_reducible refine o7 ?_ GE2.out)⟩
 ·rw [if_neg c1] at h; have c1b := df_ c1; have h4 : 4 ≤ (l0.length : Int) := by omega
  have H4 := a_ h4; have HF : Aside0 (G6.c5n k l0 (4 - 0) 0 = some (r1, r2, r3, r4, r5)) := ⟨h⟩; obtain ⟨i0, hi0, _, hsz, _⟩ := info_parts info5; clear c1 hr0 hc0 h4 h
  go_enter Tryd.func35, Tryd.ntmps35
  go_wp2_with (((with_reducible refine X0 (N := 2) rfl ?_); refine b2S ?hg (N := 2) ?hd (cs := #[.bool false, .bool false, .int .u32 0, .int .u32 0]) (t := 46) ?hr ?_; (case hd => rfl); (case hg => rfl); (case hr => first | (go_simp; done) | (go_simp; rfl)); intro g2 hg w1 hbox hb; have BK2 := a_ hbox; have HB1 := V3 HW hb; have GE2 : Aside0 (w.heap.size ≤ g2) := ⟨by rw [hg]; exact Nat.le_refl _⟩; clear hg hbox hb; have b5u := bc0 BK2; have b5v := l7 BK2.out 0; have b5w := bc1 BK2; have b5x := l7 BK2.out 1; have b5y := bc2 BK2; have b5z := l7 BK2.out 2; have b5A := bc3 BK2; have b5B := l7 BK2.out 3))
  go_loopg [4] 4 (fun kq v4 w' => ∃ j : Nat, kq + j = 4 ∧ v4 = .int .i64 (j : Int) ∧ Aside0 (G6.Round w w' g2 k l0 j (r1, r2, r3, r4, r5)))
  case atStart => exact ⟨0, rfl, rfl, ⟨⟨BK2.out, HB1.out, HF.out⟩⟩⟩
  case round =>
   obtain ⟨j, hj, rfl, HI⟩ := hrel; clear BK2 HB1 HF b5u b5w b5y b5A b5v b5x b5z b5B; have BK := a_ HI.out.h2; have HB := a_ HI.out.hb; have HL := a_ HI.out.hl; clear HI; have b5u := bc0 BK; have b5v := l7 BK.out 0; have b5w := bc1 BK; have b5x := l7 BK.out 1; have b5y := bc2 BK; have b5z := l7 BK.out 2; have b5A := bc3 BK; have b5B := l7 BK.out 3
   by_cases hlt : j < 4
   ·have c2b : decide ((j : Int) < 4) = true := dt_ (by omega); obtain ⟨d, hd⟩ : ∃ d, 4 - j = d + 1 := ⟨3 - j, by omega⟩; have h := HL.out; rw [hd, G6.c5n] at h; obtain ⟨t, ht, h⟩ := Option.bind_eq_some_iff.1 h; have ht4 : (4 : Int) ≤ t.length := by
     by_cases q : (4 : Int) ≤ t.length
     ·exact q
     ·rw [if_neg q] at h; cases h
    rw [if_pos ht4] at h; obtain ⟨hcA, hvA⟩ := G6.f4T A0 l0 c0 H4.out HC0.out; have HVA := a_ hvA; have HT := a_ ht; have HT4 := a_ ht4; have H := a_ h; have HD := a_ hd; have HJ := a_ hj; clear h ht ht4 hvA hd hj HL
    go_upto_region 7 with (((with_reducible refine X0 (N := 5) rfl ?_); refine b2S ?hg (N := 5) ?hd (cs := #[.bool false, .bool false, .int .u32 0, .int .u32 0]) (t := 46) ?hr ?_; (case hd => rfl); (case hg => rfl); (case hr => first | (go_simp; done) | (go_simp; rfl)); intro g5 hg w5 hbox hb; have BK5 := a_ hbox; have GE5 : Aside0 (w.heap.size ≤ g5) := ⟨by rw [hg]; exact y5 HB.out⟩; have NB : Aside0 (g2 ≠ g5) := ⟨by rw [hg]; exact Nat.ne_of_lt (a0u BK.out)⟩; have a9A := X3 BK hb; have HB5 := V3 HB hb; clear hg hbox hb BK HB; have c5G := bc0 BK5; have f4V := l7 BK5.out 0; have c5H := bc1 BK5; have f4W := l7 BK5.out 1; have c5I := bc2 BK5; have f4X := l7 BK5.out 2; have c5J := bc3 BK5; have f4Y := l7 BK5.out 3))
    generalize ((j : Int) % 2 == 1) = b0 at HT H ⊢; generalize ((j : Int) / 2 == 1) = o0 at HT H ⊢; generalize hW : World.setCell (World.setCell (World.setCell (World.setCell w5 ⟨g5, 0, none⟩ (.bool b0)) ⟨g5, 1, none⟩ (.bool o0)) ⟨g5, 2, none⟩ (.int .u32 0)) ⟨g5, 3, none⟩ (.int .u32 0) = w6; have c8a : Aside0 (w6.heap[g5]? = some (.cells #[.bool b0, .bool o0, .int .u32 0, .int .u32 0] 46 (0, 0))) := ⟨by rw [← hW]; exact (l9 (l9 (l9 (l9 BK5.out 0 _ rfl) 1 _ rfl) 2 _ rfl) 3 _ rfl)⟩; have d3P : Aside0 (w6.heap[g2]? = some (.cells #[.bool false, .bool false, .int .u32 0, .int .u32 0] 46 (0, 0))) := ⟨by rw [← hW]; repeat (first | with_reducible exact a9A.out | refine o8 ?_ NB.out _)⟩; have HB6 : Aside0 (Below w.heap.size w w6) := ⟨by rw [← hW]; repeat (first | with_reducible exact HB5.out | with_reducible refine o7 ?_ GE5.out)⟩; clear hW BK5 a9A HB5 c5G f4V b5u b5v c5H f4W b5w b5x c5I f4X b5y b5z c5J f4Y b5A b5B; have hs6 : w6.cell? ⟨g5, 0, none⟩ = some (.bool b0) ∧ w6.cell? ⟨g5, 1, none⟩ = some (.bool o0) ∧ w6.cell? ⟨g5, 2, none⟩ = some (.int .u32 0) ∧ w6.cell? ⟨g5, 3, none⟩ = some (.int .u32 0) := ⟨bc0 c8a, bc1 c8a, bc2 c8a, bc3 c8a⟩; have g4f := HVA.out w6 (Kd.y9 HR0.out HB6.out); have g4g := HVA.out w6.drew (Kd.y9 HR0.out (Y9 HB6.out)); have g4h := HVA.out w6.drew.drew (Kd.y9 HR0.out (Y9 (Y9 HB6.out)))
    go_cut [28] from 21 to 27 (fun v28 wx => v28 = .bool (decide (¬ (strOfNums (t.take 4)).toList = (strOfNums (l0.take 4)).toList)) ∧ Aside0 (wx.heap[g5]? = some (.cells #[.bool b0, .bool o0, .int .u32 0, .int .u32 0] 46 (0, 0))) ∧ Aside0 (wx.heap[g2]? = some (.cells #[.bool false, .bool false, .int .u32 0, .int .u32 0] 46 (0, 0))) ∧ Aside0 (Below w.heap.size w wx))
    case first =>
     go_region_held (fun w' => w'.cell? ⟨g5, 0, none⟩ = some (.bool b0) ∧ w'.cell? ⟨g5, 1, none⟩ = some (.bool o0) ∧ w'.cell? ⟨g5, 2, none⟩ = some (.int .u32 0) ∧ w'.cell? ⟨g5, 3, none⟩ = some (.int .u32 0)) ((first | exact hs7 | exact hs6)) (first | (go_at_call 37; with_reducible refine (umpireref09_Header.calls k b0 o0 0 0 t _ HT.out).mono ?_; rintro e w7 ⟨v, rfl, hv, hb⟩; obtain ⟨A7, c7, rfl⟩ := Kd.G7 hv; have HB7 := a_ (J6 (by first | exact Y9 HB6.out | exact Y9 (Y9 HB6.out) | exact HB6.out) hb); have c6c : Aside0 (w7.heap[g5]? = some (.cells #[.bool b0, .bool o0, .int .u32 0, .int .u32 0] 46 (0, 0))) := ⟨L6 (G9 c8a.out) hb⟩; have b1w : Aside0 (w7.heap[g2]? = some (.cells #[.bool false, .bool false, .int .u32 0, .int .u32 0] 46 (0, 0))) := ⟨L6 (G9 d3P.out) hb⟩; have hC7 := (Kd.D9 hv).2.2; obtain ⟨hcB, hvB⟩ := G6.f4T A7 t c7 HT4.out (Kd.D9 hv).2.1; have e8F := hvB w7 (by first | exact hC7 | exact Kd.b0T hC7 | exact Kd.b0T (Kd.b0T hC7)); have g9A := HVA.out w7 (Kd.y9 HR0.out HB7.out); have h3J := hvB w7.drew (by first | exact hC7 | exact Kd.b0T hC7 | exact Kd.b0T (Kd.b0T hC7)); have g9B := HVA.out w7.drew (Kd.y9 HR0.out (Y9 HB7.out)); have h3K := hvB w7.drew.drew (by first | exact hC7 | exact Kd.b0T hC7 | exact Kd.b0T (Kd.b0T hC7)); have g9C := HVA.out w7.drew.drew (Kd.y9 HR0.out (Y9 (Y9 HB7.out))); have hs7 : w7.cell? ⟨g5, 0, none⟩ = some (.bool b0) ∧ w7.cell? ⟨g5, 1, none⟩ = some (.bool o0) ∧ w7.cell? ⟨g5, 2, none⟩ = some (.int .u32 0) ∧ w7.cell? ⟨g5, 3, none⟩ = some (.int .u32 0) := ⟨bc0 c6c, bc1 c6c, bc2 c6c, bc3 c6c⟩; clear hv hb hC7 hvB c8a d3P HB6))
     all_goals (go_wp2_with (fail); go_meet)
     all_goals (case rel => exact ⟨congrArg Value.bool (G6.neq _ _), ⟨c6c.out⟩, ⟨b1w.out⟩, ⟨by first | exact HB7.out | exact Y9 HB7.out | exact Y9 (Y9 HB7.out)⟩⟩)
    case rest =>
     obtain ⟨rfl, BK5, BK2, HB⟩ := hcut; clear hs6 g4f g4g g4h hcA HB6 c8a d3P; have h := H.out; clear H
     by_cases he : (strOfNums (t.take 4)).toList = (strOfNums (l0.take 4)).toList
     ·rw [if_pos he] at h; have heb : decide (¬ (strOfNums (t.take 4)).toList = (strOfNums (l0.take 4)).toList) = false := df_ (by simpa using he); rw [heb]; clear he heb; unfold G6.tail at h
      by_cases c3 : (l0.length : Int) < 24
      ·rw [if_pos c3] at h
       simp only [Option.some.injEq, Prod.mk.injEq] at h
       obtain ⟨rfl, rfl, rfl, rfl, rfl⟩ := h; have c3b := dt_ c3; clear c3; have g4i := bc0 BK2; have g4j := l7 BK2.out 0; have g4k := bc1 BK2; have g4l := l7 BK2.out 1; have g4m := bc2 BK2; have g4n := l7 BK2.out 2; have g4o := bc3 BK2; have g4p := l7 BK2.out 3
       go_wp2_with (fail)
       refine bodyPost_ret (U9 rfl _ _ g2 46 #[.bool false, .bool false, .int .u32 0, .int .u32 0] (0, 0) _ rfl (l9 (l9 (l9 (l9 BK2.out 0 _ rfl) 1 _ rfl) 2 _ rfl) 3 _ rfl) Tryd.underlying46 rfl (by kernel_rfl)) rfl ?_; exact ⟨rfl, by repeat (first | with_reducible exact HB.out | with_reducible refine o7 ?_ GE2.out)⟩
      ·rw [if_neg c3] at h; have c3b := df_ c3; have H24 : Aside0 ((24 : Int) ≤ l0.length) := ⟨by omega⟩; clear c3; obtain ⟨t1, q1, h⟩ := Option.bind_eq_some_iff.1 h; obtain ⟨A6, hcM, hrM, hlM, hlc⟩ := G6.f4U A0 l0 c0 H24.out HC0.out; have e2Y : Aside0 (∀ a : Nat, Calls Tryd.prog 58 #[.slice A6 2 (c0 - 4), .bool b0] (wc.drewN a) fun e w' => e = .returned (.int .u64 t1) ∧ ∃ m, w' = wc.drewN m) := ⟨fun a => by
        have hq := (Q8.calls k A6 (c0 - 4) ((l0.take 6).drop 4) b0 t1 (wc.drewN a) (Kd.a7A (by rw [hlM]; exact hrM _ (Kd.y9 HR0.out HB.out)) a) (by rw [hlM]; exact hlc) q1); rw [hlM] at hq; exact Calls.quiet_of (hq.mono fun _ _ h => ⟨h.1, h.2.out⟩)⟩
       have H := a_ h; clear h q1 hrM hlM hlc; have e8G := bc0 BK5; have e8H := l7 BK5.out 0; have e8I := bc1 BK5; have e8J := l7 BK5.out 1; have e8K := bc2 BK5; have e8L := l7 BK5.out 2; have e8M := bc3 BK5; have e8N := l7 BK5.out 3
       go_wp2_with (fail)
       go_quiet ((go_at_call 58; exact e2Y.out _))
       have h := H.out; have c0h := a_ (Y7 BK5.out nq); have b9g := a_ (Y7 BK2.out nq); have HBq := a_ (o9 HB.out nq); generalize wc.drewN nq = wq at *; clear H e2Y BK5 BK2 HB e8G e8H e8I e8J e8K e8L e8M e8N
       by_cases ct : t1 = 2
       ·rw [if_pos ct] at h; have ctb : (t1 == 2) = true := by simpa using ct
        have ctc : (t1 != 2) = false := by simpa using ct
        clear ct; obtain ⟨s1, q2, h⟩ := Option.bind_eq_some_iff.1 h; obtain ⟨s2, q3, h⟩ := Option.bind_eq_some_iff.1 h
        simp only [Option.some.injEq, Prod.mk.injEq] at h
        obtain ⟨rfl, rfl, rfl, rfl, rfl⟩ := h; have Q2 := a_ q2; have Q3 := a_ q3; clear q2 q3; have e8O := bc0 c0h; have e8P := l7 c0h.out 0; have e8Q := bc1 c0h; have e8R := l7 c0h.out 1; have e8S := bc2 c0h; have e8T := l7 c0h.out 2; have e8U := bc3 c0h; have e8V := l7 c0h.out 3
        go_wp2_with (fail)
        refine (U5.calls k A0 c0 l0 16 b0 s1 _ (Kd.y9 HR0.out HBq.out) HC0.out Q2.out).mono ?_; rintro e w9 ⟨rfl, hd⟩; have b3O := a_ (L6 c0h.out hd.below); have b0n := a_ (L6 b9g.out hd.below); have HB9 := a_ (J6 HBq.out hd.below); clear hd c0h b9g HBq e8O e8P e8Q e8R e8S e8T e8U e8V; have e8W := bc0 b3O; have e8X := l7 b3O.out 0; have e8Y := bc1 b3O; have e8Z := l7 b3O.out 1; have e80 := bc2 b3O; have e81 := l7 b3O.out 2; have e82 := bc3 b3O; have e83 := l7 b3O.out 3
        go_wp2_with (fail)
        refine (U5.calls k A0 c0 l0 20 b0 s2 _ (Kd.y9 HR0.out (o7 HB9.out GE5.out)) HC0.out Q3.out).mono ?_; rintro e w10 ⟨rfl, hd⟩; have b2v := a_ (L6 (o := .cells #[.bool b0, .bool o0, .int .u32 s1, .int .u32 0] 46 (0, 0)) (g := g5) (l9 b3O.out 2 _ rfl) hd.below); have a4A := a_ (L6 (g := g2) (o8 b0n.out NB.out _) hd.below); have a7c := a_ (J6 (o7 HB9.out GE5.out) hd.below); clear hd b3O b0n HB9 e8W e8X e8Y e8Z e80 e81 e82 e83; have g4q := bc0 b2v; have g4r := l7 b2v.out 0; have g4s := bc1 b2v; have g4t := l7 b2v.out 1; have g4u := bc2 b2v; have g4v := l7 b2v.out 2; have g4w := bc3 b2v; have g4x := l7 b2v.out 3; have e84 := bc0 a4A; have e85 := l7 a4A.out 0; have e86 := bc1 a4A; have e87 := l7 a4A.out 1; have e88 := bc2 a4A; have e89 := l7 a4A.out 2; have e9a := bc3 a4A; have e9b := l7 a4A.out 3; have n25 : g2 ≠ g5 := NB.out; have n52 : g5 ≠ g2 := NB.out.symm
        go_wp2_with (fail)
        have E2 := a_ (o8 (p := ⟨g5, 3, none⟩) a4A.out NB.out (.int .u32 s2)); refine bodyPost_ret (U9 rfl _ _ g2 46 #[.bool b0, .bool o0, .int .u32 s1, .int .u32 s2] (0, 0) _ rfl (l9 (l9 (l9 (l9 E2.out 0 _ rfl) 1 _ rfl) 2 _ rfl) 3 _ rfl) Tryd.underlying46 rfl (by kernel_rfl)) rfl ?_; exact ⟨rfl, by repeat (first | with_reducible exact a7c.out | with_reducible refine o7 ?_ GE2.out | with_reducible refine o7 ?_ GE5.out)⟩
       ·rw [if_neg ct] at h; have ctb : (t1 == 2) = false := by simpa using ct
        have ctc : (t1 != 2) = true := by simpa using ct
        clear ct
        simp only [Option.some.injEq, Prod.mk.injEq] at h
        obtain ⟨rfl, rfl, rfl, rfl, rfl⟩ := h; have g4y := bc0 b9g; have g4z := l7 b9g.out 0; have g4A := bc1 b9g; have g4B := l7 b9g.out 1; have g4C := bc2 b9g; have g4D := l7 b9g.out 2; have g4E := bc3 b9g; have g4F := l7 b9g.out 3
        go_wp2_with (fail)
        refine bodyPost_ret (U9 rfl _ _ g2 46 #[.bool false, .bool false, .int .u32 0, .int .u32 0] (0, 0) _ rfl (l9 (l9 (l9 (l9 b9g.out 0 _ rfl) 1 _ rfl) 2 _ rfl) 3 _ rfl) Tryd.underlying46 rfl (by kernel_rfl)) rfl ?_; exact ⟨rfl, by repeat (first | with_reducible exact HBq.out | with_reducible refine o7 ?_ GE2.out)⟩
     ·rw [if_neg he] at h; have heb : decide (¬ (strOfNums (t.take 4)).toList = (strOfNums (l0.take 4)).toList) = true := dt_ (by simpa using he); rw [heb]; clear he heb; have HN := a_ h; clear h; obtain ⟨gk2, rfl⟩ : ∃ q, gk = q + 1 := ⟨gk - 1, by have := HJ.out; omega⟩; have hjw : IntKind.i64.wrap ((j : Int) + 1) = ((j + 1 : Nat) : Int) := by rw [IntWalk.i64_in _ (by omega)]; omega
      go_wp2_with (fail)
      go_roundg gk2
      case measure => omega
      case rel => exact ⟨j + 1, by have := HJ.out; omega, rfl, ⟨⟨BK2.out, HB.out, by rw [show 4 - (j + 1) = d from by have := HD.out; omega]; exact HN.out⟩⟩⟩
   ·obtain rfl : j = 4 := by omega
    have h := HL.out
    simp only [Nat.sub_self, G6.c5n, Option.some.injEq, Prod.mk.injEq] at h
    obtain ⟨rfl, rfl, rfl, rfl, rfl⟩ := h; have hv : (((4 : Nat) : Int)) = 4 := rfl
    simp only [hv]
    clear HL
    go_wp2_with (fail)
    refine bodyPost_ret (U9 rfl _ _ g2 46 #[.bool false, .bool false, .int .u32 0, .int .u32 0] (0, 0) _ rfl (l9 (l9 (l9 (l9 BK.out 0 _ rfl) 1 _ rfl) 2 _ rfl) 3 _ rfl) Tryd.underlying46 rfl (by kernel_rfl)) rfl ?_; exact ⟨rfl, by repeat (first | with_reducible exact HB.out | with_reducible refine o7 ?_ GE2.out)⟩
mutual
def G8.j0 : Nat → List Int → Int → Bool → Int → Int → Option (Int × Int × Int)
 | 0, _, _, _, _, _ => none
 | k + 1, x0, x5, x17, a7E, a7F => if x17 = true then (if (x0.length : Int) < 2 then (some (a7E, a7F, 2)) else (if 1 < (x0.length : Int) then (if (rd x0 1) = 3 then (G8.j1 k x0 2 a7E a7F) else (some (a7E, a7F, 3))) else (none))) else (G8.j1 k x0 x5 a7E a7F)
def G8.j1 : Nat → List Int → Int → Int → Int → Option (Int × Int × Int)
 | 0, _, _, _, _ => none
 | k + 1, x0, x5, a7E, a7F => if x5 ≥ (x0.length : Int) then (some (a7E, a7F, 2)) else (if 0 ≤ x5 then (if x5 < (x0.length : Int) then (if (Int.tmod (wrap64 (rd x0 x5)) 2) = 1 then (if (wrap64 (rd x0 x5)) = 255 then (some (a7E, a7F, 3)) else (some (wrap64 (rd x0 x5), wrap64 (x5 + 1), 0))) else (if (wrap64 (x5 + 1)) ≥ (x0.length : Int) then (some (a7E, a7F, 2)) else (if 0 ≤ (wrap64 (x5 + 1)) then (if (wrap64 (x5 + 1)) < (x0.length : Int) then (if (Int.tmod (wrap64 (rd x0 (wrap64 (x5 + 1)))) 2) = 0 then (some (a7E, a7F, 3)) else (if (wrap64 (rd x0 x5)) = 0 then (if (wrap64 (rd x0 (wrap64 (x5 + 1)))) = 255 then (some (a7E, a7F, 3)) else (some (wrap64 ((wrap64 (256 * (wrap64 (rd x0 x5)))) + (wrap64 (rd x0 (wrap64 (x5 + 1))))), wrap64 (x5 + 2), 0))) else (some (wrap64 ((wrap64 (256 * (wrap64 (rd x0 x5)))) + (wrap64 (rd x0 (wrap64 (x5 + 1))))), wrap64 (x5 + 2), 0)))) else (none)) else (none)))) else (none)) else (none))
end
def G8.f (k : Nat) (l0 : List Int) : Option (Int × Int × Int) := if (l0.length : Int) > 0 then (if 0 < (l0.length : Int) then (G8.j0 k l0 0 ((rd l0 0) == 255) 0 0) else (none)) else (G8.j0 k l0 0 false 0 0)
theorem G8.calls (k : Nat) (A0 : Option Addr) (c0 : Nat) (l0 : List Int) (r1 : Int) (r2 : Int) (r3 : Int) (w : World) (hr0 : Kd.C (Kd.int .u8) w A0 l0.length l0) (hc0 : l0.length ≤ c0) (h : G8.f k l0 = some (r1, r2, r3)) :
  Calls Tryd.prog 66 #[.slice A0 l0.length c0] w fun e w' => e = .returned (.tuple #[.agg #[.int .i64 r1, .int .i64 r2], .int .i64 r3]) ∧ Below w.heap.size w w' := by
 have d64 := Tryd.underlying122
 have HR0 := a_ hr0
 have HC0 := a_ hc0
 clear hr0 hc0
 have HB := a_ (Below.refl w.heap.size w)
 have H := h
 clear h
 unfold G8.f at H
 have HC2 := a_ H
 clear H
 go_enter Tryd.func66, Tryd.ntmps66
 go_upto_region 3 with (first | (refine be_ 2 #[.int .i64 0, .int .i64 0] 122 ?_; intro b1x hg w3 hbox hb; have a3M := a_ hbox; have g9E := lb_ HB hg; have b3P := lb_ HB hg; replace HB := V3 HB hb; clear hb hbox hg) | (refine be_ 4 #[.int .i64 0, .int .i64 0] 122 ?_; intro c02 hg w4 hbox hb; have a9B := a_ hbox; have e5S := lb_ HB hg; have e5T := lb_ HB hg; obtain ⟨a2z, a4k⟩ := nn_ a3M hg; replace a3M := X3 a3M hb; replace HB := V3 HB hb; clear hb hbox hg; have h3Q := a4k.out; have h3R := a2z.out; obtain ⟨c7R, c7S, c7T, c7U⟩ := a1B a9B.out))
 go_cut [17] (fun v17 wc => ∃ (kq : Nat) (a7h : Bool), v17 = .bool a7h ∧ Aside0 (G8.j0 kq l0 0 a7h 0 0 = some (r1, r2, r3)) ∧ Aside0 (kq ≤ k) ∧ Aside0 (wc.heap[b1x]? = some (.cells #[.int .i64 0, .int .i64 0] 122 (0, 0))) ∧ Aside0 (wc.heap[c02]? = some (.cells #[.int .i64 0, .int .i64 0] 122 (0, 0))) ∧ Aside0 (Below w.heap.size w wc))
 case first =>
  have H := HC2.out; clear HC2
  by_cases c7 : (l0.length : Int) > 0
  ·rw [if_pos c7] at H; have a6f : decide (0 < (l0.length : Int)) = true := dt_ c7; have b0g : decide (0 < l0.length) = true := dt_ (by omega); clear c7; have c8 := Z4 H; replace H := O5 H; have b2c := dt_ c8; have d3C : decide (0 < l0.length) = true := dt_ (by omega); clear c8; have H' := a_ H; clear H; have e9c : 0 ≤ (0 : Int) := (by omega); have e9d : 0 < (l0.length : Int) := V5; obtain ⟨e5U, g4G, a7G⟩ := Kd.Q7 HR0.out 0 e9c e9d
   cases g4G
   have g9F : (0 < l0.length) = True := eq_true (by omega)
   (try rw [show (0 : Int).toNat = 0 from rfl] at a7G)
   (try rw [Addr.add_zero'] at a7G)
   have d1E : e5U.block ≠ c02 := Nat.ne_of_lt (Nat.lt_of_lt_of_le (by have := World.block_lt_of_cell? _ _ a7G; (exact this)) e5S.out); have d1F : e5U.block ≠ c02 := Nat.ne_of_lt (Nat.lt_of_lt_of_le (by have := World.block_lt_of_cell? _ _ a7G; (exact this)) e5S.out); replace a7G := cb_ HB a7G; replace a7G := (cell_far (p := ⟨c02, 0, none⟩) d1E (.int .i64 0)).trans a7G; replace a7G := (cell_far (p := ⟨c02, 1, none⟩) d1F (.int .i64 0)).trans a7G; clear d1E d1F; replace e9c := eq_true e9c; replace e9d := eq_true e9d
   go_wp2
   go_meet
   case rel => exact ⟨_, ((rd l0 0) == 255), (by rfl), H', ⟨by (omega)⟩, ⟨o8 (o8 a3M.out a2z.out _) a2z.out _⟩, ⟨l9 (l9 a9B.out 0 _ rfl) 1 _ rfl⟩, ⟨by repeat (with_reducible first | exact HB.out | refine o7 ?_ e5T.out)⟩⟩
  ·rw [if_neg c7] at H; have a6f : decide (0 < (l0.length : Int)) = false := df_ c7; have b0g : decide (0 < l0.length) = false := df_ (by omega); clear c7; have H' := a_ H; clear H
   go_wp2
   go_meet
   case rel => exact ⟨_, (false), (by rfl), H', ⟨by (omega)⟩, ⟨o8 (o8 a3M.out a2z.out _) a2z.out _⟩, ⟨l9 (l9 a9B.out 0 _ rfl) 1 _ rfl⟩, ⟨by repeat (with_reducible first | exact HB.out | refine o7 ?_ e5T.out)⟩⟩
 case rest =>
  clear HC2
  try clear c7R
  try clear c7S
  try clear c7T
  try clear c7U
  obtain ⟨kq, a7h, rfl, HA, HJ1, a3M, a9B, HB⟩ := hcut
  cases kq with
  | zero => exact absurd HA.out (by simp [G8.j0])
  | succ kj1 =>
   have H := HA.out; clear HA
   simp only [G8.j0] at H
   have HC9 := a_ H; clear H
   go_upto_if 17 with (fail)
   go_cut [5] (fun v5 wc => ∃ (kq : Nat) (a4l : Int) (c04 : Int) (c05 : Int), v5 = .int .i64 a4l ∧ Aside0 (G8.j1 kq l0 a4l 0 0 = some (r1, r2, r3)) ∧ Aside0 (kq ≤ kj1) ∧ Aside0 (wc.heap[b1x]? = some (.cells #[.int .i64 c04, .int .i64 c05] 122 (0, 0))) ∧ Aside0 (wc.heap[c02]? = some (.cells #[.int .i64 0, .int .i64 0] 122 (0, 0))) ∧ Aside0 (Below w.heap.size w wc))
   case first =>
    have H := HC9.out; clear HC9
    by_cases c10 : a7h = true
    ·subst c10; rw [if_pos rfl] at H
     by_cases c11 : (l0.length : Int) < 2
     ·rw [if_pos c11] at H; have a7L := dt_ c11; have d1G : decide (l0.length < 2) = true := dt_ (by omega); clear c11; obtain ⟨rfl, rfl, rfl⟩ := s3_ H; have d65 := a4k.out; have d66 := a2z.out; obtain ⟨b3e, b3f, b3g, b3h⟩ := a1B a9B.out; obtain ⟨e2Z, e3a, e3c, e3d⟩ := a1B a3M.out
      go_wp2
      refine bodyPost_ret (U9 rfl _ _ b1x 122 #[.int .i64 0, .int .i64 0] (0, 0) _ rfl (l9 (l9 a3M.out 0 _ rfl) 1 _ rfl) Tryd.underlying122 rfl (by kernel_rfl)) rfl ?_; exact ⟨by (rfl), by repeat (with_reducible first | exact HB.out | refine o7 ?_ b3P.out)⟩
     ·rw [if_neg c11] at H; have a7L := df_ c11; have d1G : decide (l0.length < 2) = false := df_ (by omega); clear c11; have c15 := Z4 H; replace H := O5 H; have b80 := dt_ c15; have c0Z : decide (1 < l0.length) = true := dt_ (by omega); clear c15
      by_cases c16 : (rd l0 1) = 3
      ·rw [if_pos c16] at H; obtain ⟨c9K, d5C⟩ := bt_ c16; clear c16; have H' := a_ H; clear H; have c8b : 0 ≤ (1 : Int) := (by omega); have c8c : 1 < (l0.length : Int) := V5; obtain ⟨f4Z, e9e, b1i⟩ := Kd.Q7 HR0.out 1 c8b c8c
       cases e9e
       (try simp only [show (1 : Int).toNat = 1 from rfl, Nat.reduceMul, Nat.reduceEqDiff, Go.Addr.add, ↓reduceIte] at b1i)
       have f5a : (1 < l0.length) = True := eq_true (by omega); replace b1i := cb_ HB b1i; replace c8b := eq_true c8b; replace c8c := eq_true c8c
       go_wp2
       go_meet
       case rel => exact ⟨_, (2), (0), (0), (by rfl), H', ⟨by have := HJ1.out; (omega)⟩, ⟨by exact a3M.out⟩, ⟨by exact a9B.out⟩, ⟨by exact HB.out⟩⟩
      ·rw [if_neg c16] at H; have c9K := bq_ c16; have d5C := bn_ c16; obtain ⟨rfl, rfl, rfl⟩ := s3_ H; have c8b : 0 ≤ (1 : Int) := (by omega); have c8c : 1 < (l0.length : Int) := V5; obtain ⟨f4Z, e9e, b1i⟩ := Kd.Q7 HR0.out 1 c8b c8c
       cases e9e
       (try simp only [show (1 : Int).toNat = 1 from rfl, Nat.reduceMul, Nat.reduceEqDiff, Go.Addr.add, ↓reduceIte] at b1i)
       have f5a : (1 < l0.length) = True := eq_true (by omega); replace b1i := cb_ HB b1i; replace c8b := eq_true c8b; replace c8c := eq_true c8c; have f5b := a4k.out; have f5c := a2z.out; obtain ⟨c3J, c3K, c3M, c3N⟩ := a1B a9B.out; obtain ⟨c3O, c3P, c3Q, c3R⟩ := a1B a3M.out
       go_wp2
       refine bodyPost_ret (U9 rfl _ _ b1x 122 #[.int .i64 0, .int .i64 0] (0, 0) _ rfl (l9 (l9 a3M.out 0 _ rfl) 1 _ rfl) Tryd.underlying122 rfl (by kernel_rfl)) rfl ?_; exact ⟨by (rfl), by repeat (with_reducible first | exact HB.out | refine o7 ?_ b3P.out)⟩
    ·cases nt_ c10
     rw [if_neg a3X] at H; have H' := a_ H; clear H
     go_wp2
     go_meet
     case rel => exact ⟨_, (0), (0), (0), (by rfl), H', ⟨by have := HJ1.out; (omega)⟩, ⟨by exact a3M.out⟩, ⟨by exact a9B.out⟩, ⟨by exact HB.out⟩⟩
   case rest =>
    clear HC9; obtain ⟨kq, a4l, c04, c05, rfl, HA, HJ8, a3M, a9B, HB⟩ := hcut
    cases kq with
    | zero => exact absurd HA.out (by simp [G8.j1])
    | succ kj8 =>
     have H := HA.out; clear HA
     simp only [G8.j1] at H
     by_cases c20 : a4l ≥ (l0.length : Int)
     ·rw [if_pos c20] at H; have b8I : decide ((l0.length : Int) ≤ a4l) = true := dt_ c20; clear c20; obtain ⟨rfl, rfl, rfl⟩ := s3_ H; have d07 := a4k.out; have d08 := a2z.out; obtain ⟨b5j, b5k, b5l, b5m⟩ := a1B a9B.out; obtain ⟨b7L, b7M, b7N, b7O⟩ := a1B a3M.out
      go_wp2
      refine bodyPost_ret (U9 rfl _ _ b1x 122 #[.int .i64 0, .int .i64 0] (0, 0) _ rfl (l9 (l9 a3M.out 0 _ rfl) 1 _ rfl) Tryd.underlying122 rfl (by kernel_rfl)) rfl ?_; exact ⟨by (rfl), by repeat (with_reducible first | exact HB.out | refine o7 ?_ b3P.out)⟩
     ·rw [if_neg c20] at H; have b8I : decide ((l0.length : Int) ≤ a4l) = false := df_ c20; clear c20; have c5Z := a2x H; replace H := O5 H; have e5V := a2x H; replace H := O5 H
      by_cases c26 : (Int.tmod (wrap64 (rd l0 a4l)) 2) = 1
      ·rw [if_pos c26] at H; obtain ⟨f5d, f5e⟩ := bt_ c26; clear c26
       by_cases c27 : (wrap64 (rd l0 a4l)) = 255
       ·rw [if_pos c27] at H; obtain ⟨e5W, f5f⟩ := bt_ c27; clear c27; obtain ⟨rfl, rfl, rfl⟩ := s3_ H; have a7t : 0 ≤ (a4l : Int) := V5; have a7u : a4l < (l0.length : Int) := V5; obtain ⟨b3Q, b6z, a2M⟩ := Kd.Q7 HR0.out a4l a7t a7u
        cases b6z
        replace a2M := cb_ HB a2M; replace a7t := eq_true a7t; replace a7u := eq_true a7u; have e5J := a4k.out; have e5K := a2z.out; obtain ⟨d0x, d0y, d0z, d0A⟩ := a1B a9B.out; obtain ⟨c3o, c3p, c3q, c3r⟩ := a1B a3M.out
        go_wp2
        refine bodyPost_ret (U9 rfl _ _ b1x 122 #[.int .i64 0, .int .i64 0] (0, 0) _ rfl (l9 (l9 a3M.out 0 _ rfl) 1 _ rfl) Tryd.underlying122 rfl (by kernel_rfl)) rfl ?_; exact ⟨by (rfl), by repeat (with_reducible first | exact HB.out | refine o7 ?_ b3P.out)⟩
       ·rw [if_neg c27] at H; have e5W := bq_ c27; have f5f := bn_ c27; obtain ⟨rfl, rfl, rfl⟩ := s3_ H; have a7t : 0 ≤ (a4l : Int) := V5; have a7u : a4l < (l0.length : Int) := V5; obtain ⟨b3Q, b6z, a2M⟩ := Kd.Q7 HR0.out a4l a7t a7u
        cases b6z
        replace a2M := cb_ HB a2M; replace a7t := eq_true a7t; replace a7u := eq_true a7u; have g9G := a2z.out; have g9H := a4k.out; obtain ⟨e3f, e3g, e3h, e3i⟩ := a1B a3M.out
        go_wp2
        refine bodyPost_ret (U9 rfl _ _ b1x 122 #[.int .i64 (wrap64 (rd l0 a4l)), .int .i64 (wrap64 (a4l + 1))] (0, 0) _ rfl (l9 (l9 a3M.out 0 _ rfl) 1 _ rfl) Tryd.underlying122 rfl (by kernel_rfl)) rfl ?_; exact ⟨by (rfl), by repeat (with_reducible first | exact HB.out | refine o7 ?_ b3P.out)⟩
      ·rw [if_neg c26] at H; have f5d := bq_ c26; have f5e := bn_ c26
       by_cases c33 : (wrap64 (a4l + 1)) ≥ (l0.length : Int)
       ·rw [if_pos c33] at H; have c6d : decide ((l0.length : Int) ≤ (wrap64 (a4l + 1))) = true := dt_ c33; clear c33; obtain ⟨rfl, rfl, rfl⟩ := s3_ H; have a7t : 0 ≤ (a4l : Int) := V5; have a7u : a4l < (l0.length : Int) := V5; obtain ⟨b3Q, b6z, a2M⟩ := Kd.Q7 HR0.out a4l a7t a7u
        cases b6z
        replace a2M := cb_ HB a2M; replace a7t := eq_true a7t; replace a7u := eq_true a7u; have f5g := a4k.out; have f5h := a2z.out; obtain ⟨d0B, d0C, d0D, d0E⟩ := a1B a9B.out; obtain ⟨c9N, c9O, c9P, c9Q⟩ := a1B a3M.out
        go_wp2
        refine bodyPost_ret (U9 rfl _ _ b1x 122 #[.int .i64 0, .int .i64 0] (0, 0) _ rfl (l9 (l9 a3M.out 0 _ rfl) 1 _ rfl) Tryd.underlying122 rfl (by kernel_rfl)) rfl ?_; exact ⟨by (rfl), by repeat (with_reducible first | exact HB.out | refine o7 ?_ b3P.out)⟩
       ·rw [if_neg c33] at H; have c6d : decide ((l0.length : Int) ≤ (wrap64 (a4l + 1))) = false := df_ c33; clear c33; obtain ⟨b2w, d67⟩ := si_ ((wrap64 (a4l + 1))); rw [d67] at H
        (try rw [d67] at c6d)
        have g4I : (IntKind.i64.wrap (a4l + 1)) = b2w := (a0J _).trans d67; have g9I := a2x H; replace H := O5 H; have g9J := a2x H; replace H := O5 H
        by_cases c40 : (Int.tmod (wrap64 (rd l0 (b2w))) 2) = 0
        ·rw [if_pos c40] at H; obtain ⟨f5i, f5j⟩ := bt_ c40; clear c40; obtain ⟨rfl, rfl, rfl⟩ := s3_ H; have a7t : 0 ≤ (a4l : Int) := V5; have a7u : a4l < (l0.length : Int) := V5; obtain ⟨b3Q, b6z, a2M⟩ := Kd.Q7 HR0.out a4l a7t a7u
         cases b6z
         replace a2M := cb_ HB a2M; replace a7t := eq_true a7t; replace a7u := eq_true a7u; have b4p : 0 ≤ ((b2w) : Int) := V5; have b4q : (b2w) < (l0.length : Int) := V5; obtain ⟨b9h, c8d, a6Q⟩ := Kd.Q7 HR0.out (b2w) b4p b4q; obtain rfl : b3Q = b9h := (by injection c8d); replace a6Q := cb_ HB a6Q; replace b4p := eq_true b4p; replace b4q := eq_true b4q; have f5k := a4k.out; have f5l := a2z.out; obtain ⟨c2G, c2H, c2I, c2J⟩ := a1B a9B.out; obtain ⟨d1H, d1I, d1J, d1K⟩ := a1B a3M.out
         go_wp2
         refine bodyPost_ret (U9 rfl _ _ b1x 122 #[.int .i64 0, .int .i64 0] (0, 0) _ rfl (l9 (l9 a3M.out 0 _ rfl) 1 _ rfl) Tryd.underlying122 rfl (by kernel_rfl)) rfl ?_; exact ⟨by (rfl), by repeat (with_reducible first | exact HB.out | refine o7 ?_ b3P.out)⟩
        ·rw [if_neg c40] at H; have f5i := bq_ c40; have f5j := bn_ c40
         by_cases c44 : (wrap64 (rd l0 a4l)) = 0
         ·rw [if_pos c44] at H; obtain ⟨f5m, f5n⟩ := bt_ c44; clear c44
          by_cases c45 : (wrap64 (rd l0 (b2w))) = 255
          ·rw [if_pos c45] at H; obtain ⟨f5o, f5p⟩ := bt_ c45; clear c45; obtain ⟨rfl, rfl, rfl⟩ := s3_ H; have a7t : 0 ≤ (a4l : Int) := V5; have a7u : a4l < (l0.length : Int) := V5; obtain ⟨b3Q, b6z, a2M⟩ := Kd.Q7 HR0.out a4l a7t a7u
           cases b6z
           replace a2M := cb_ HB a2M; replace a7t := eq_true a7t; replace a7u := eq_true a7u; have b4p : 0 ≤ ((b2w) : Int) := V5; have b4q : (b2w) < (l0.length : Int) := V5; obtain ⟨b9h, c8d, a6Q⟩ := Kd.Q7 HR0.out (b2w) b4p b4q; obtain rfl : b3Q = b9h := (by injection c8d); replace a6Q := cb_ HB a6Q; replace b4p := eq_true b4p; replace b4q := eq_true b4q; have f3i := a4k.out; have f3j := a2z.out; obtain ⟨e1i, e1j, e1k, e1l⟩ := a1B a9B.out; obtain ⟨e1m, e1n, e1o, e1p⟩ := a1B a3M.out
           go_wp2
           refine bodyPost_ret (U9 rfl _ _ b1x 122 #[.int .i64 0, .int .i64 0] (0, 0) _ rfl (l9 (l9 a3M.out 0 _ rfl) 1 _ rfl) Tryd.underlying122 rfl (by kernel_rfl)) rfl ?_; exact ⟨by (rfl), by repeat (with_reducible first | exact HB.out | refine o7 ?_ b3P.out)⟩
          ·rw [if_neg c45] at H; have f5o := bq_ c45; have f5p := bn_ c45; obtain ⟨rfl, rfl, rfl⟩ := s3_ H; have a7t : 0 ≤ (a4l : Int) := V5; have a7u : a4l < (l0.length : Int) := V5; obtain ⟨b3Q, b6z, a2M⟩ := Kd.Q7 HR0.out a4l a7t a7u
           cases b6z
           replace a2M := cb_ HB a2M; replace a7t := eq_true a7t; replace a7u := eq_true a7u; have b4p : 0 ≤ ((b2w) : Int) := V5; have b4q : (b2w) < (l0.length : Int) := V5; obtain ⟨b9h, c8d, a6Q⟩ := Kd.Q7 HR0.out (b2w) b4p b4q; obtain rfl : b3Q = b9h := (by injection c8d); replace a6Q := cb_ HB a6Q; replace b4p := eq_true b4p; replace b4q := eq_true b4q; have e5i := a2z.out; have e5j := a4k.out; obtain ⟨g0Z, g00, g01, g02⟩ := a1B a3M.out
           go_wp2
           refine bodyPost_ret (U9 rfl _ _ b1x 122 #[.int .i64 (wrap64 ((wrap64 (256 * (wrap64 (rd l0 a4l)))) + (wrap64 (rd l0 (b2w))))), .int .i64 (wrap64 (a4l + 2))] (0, 0) _ rfl (l9 (l9 a3M.out 0 _ rfl) 1 _ rfl) Tryd.underlying122 rfl (by kernel_rfl)) rfl ?_; exact ⟨by (rfl), by repeat (with_reducible first | exact HB.out | refine o7 ?_ b3P.out)⟩
         ·rw [if_neg c44] at H; have f5m := bq_ c44; have f5n := bn_ c44; obtain ⟨rfl, rfl, rfl⟩ := s3_ H; have a7t : 0 ≤ (a4l : Int) := V5; have a7u : a4l < (l0.length : Int) := V5; obtain ⟨b3Q, b6z, a2M⟩ := Kd.Q7 HR0.out a4l a7t a7u
          cases b6z
          replace a2M := cb_ HB a2M; replace a7t := eq_true a7t; replace a7u := eq_true a7u; have b4p : 0 ≤ ((b2w) : Int) := V5; have b4q : (b2w) < (l0.length : Int) := V5; obtain ⟨b9h, c8d, a6Q⟩ := Kd.Q7 HR0.out (b2w) b4p b4q; obtain rfl : b3Q = b9h := (by injection c8d); replace a6Q := cb_ HB a6Q; replace b4p := eq_true b4p; replace b4q := eq_true b4q; have f3k := a2z.out; have f3l := a4k.out; obtain ⟨d0R, d0S, d0T, d0U⟩ := a1B a3M.out
          go_wp2
          refine bodyPost_ret (U9 rfl _ _ b1x 122 #[.int .i64 (wrap64 ((wrap64 (256 * (wrap64 (rd l0 a4l)))) + (wrap64 (rd l0 (b2w))))), .int .i64 (wrap64 (a4l + 2))] (0, 0) _ rfl (l9 (l9 a3M.out 0 _ rfl) 1 _ rfl) Tryd.underlying122 rfl (by kernel_rfl)) rfl ?_; exact ⟨by (rfl), by repeat (with_reducible first | exact HB.out | refine o7 ?_ b3P.out)⟩
def J9.f (k : Nat) (l0 : List (S42)) (a1 : Int) (l2 : List Int) : Option (List (S42)) := (G8.f k l2).bind fun c06 => (if c06.2.2 = 0 then (if 0 ≤ c06.2.1 then (if c06.2.1 ≤ (l2.length : Int) then (if ([] : List Int).length + (l2.drop (c06.2.1 : Int).toNat).length < 140737488355328 then (if l0.length < 3518437208883 then (some (l0 ++ [(⟨a1, c06.1, (([] : List Int) ++ (l2.drop (c06.2.1 : Int).toNat))⟩ : S42)])) else (none)) else (none)) else (none)) else (none)) else (some l0))
def J9.T5 : Bool × List (List Nat × List Nat) := (true, [([], []), ([0], [0]), ([], []), ([], []), ([3], [3]), ([2, 4], [2, 4]), ([1, 5], [1, 5]), ([0, 1, 2, 3, 4, 5, 6], []), ([7, 6, 6, 0, 1, 2, 3, 4, 5, 6], [6, 7])])
def J9.B5 : List Nat := [0, 1, 0, 0, 8, 28, 63, 127, 255]
theorem J9.e9f : a3g .any (opsOf Tryd.f47 5) = J9.T5 := by kernel_rfl
theorem J9.d68 : a2I J9.T5.2 J9.B5 = true := by kernel_rfl
theorem J9.calls (k : Nat) (base : Nat) (ok : Nat → Prop) (v : Value) (l0 : List (S42)) (a1 : Int) (A2 : Option Addr) (c2 : Nat) (l2 : List Int) (r : List (S42)) (w : World) (hS : Kd.S k42 42 w base ok v l0) (hf : ∀ k, w.heap.size ≤ k → ok k) (hb : base ≤ w.heap.size) (hr2 : Kd.C (Kd.int .u8) w A2 l2.length l2) (hc2 : l2.length ≤ c2) (h : J9.f k l0 a1 l2 = some r) :
  Calls Tryd.prog 47 #[v, .int .i64 a1, .slice A2 l2.length c2] w fun e w' => ∃ v', e = .returned v' ∧ Aside0 (Longer w w' base ok v v' r) ∧ Aside0 (Below base w w') := by
 have d64 := Tryd.underlying122
 have d3A := Tryd.underlying42
 have HS := a_ hS
 have HF := a_ hf
 have HBA := a_ hb
 have HLT := a_ (Kd.b93 hS)
 obtain ⟨A0, c0, rfl⟩ := Kd.a6m hS
 clear hS hf hb
 have HR2 := a_ hr2
 have HC2 := a_ hc2
 clear hr2 hc2
 have HB := a_ (Below.refl w.heap.size w)
 have H := h
 clear h
 unfold J9.f at H
 obtain ⟨⟨b1j, b4r, e9g⟩, A4, H⟩ := bd_ H
 try dsimp only at H
 by_cases c5 : e9g = 0
 ·rw [if_pos c5] at H; obtain ⟨a5H, b1f⟩ := bt_ c5; clear c5; have c6 := Z4 H; replace H := O5 H; have a8y := eq_true c6; have b5p := dt_ c6; clear c6; have c7 := Z4 H; replace H := O5 H; have a6f := eq_true c7; have b0g := dt_ c7; clear c7; have c8 := Z4 H; replace H := O5 H; have b6u := a_ c8; clear c8; obtain ⟨b5C, d69⟩ := is_ ((([] : List Int) ++ (l2.drop (b4r : Int).toNat)) : List Int); rw [← d69] at H; have f5q := a_ d69; clear d69; have c9 := Z4 H; replace H := O5 H; have c8e := a_ c9; clear c9; obtain ⟨h3S, d7a⟩ := is_ ((l0 ++ [(⟨a1, b1j, b5C⟩ : S42)]) : List (S42)); rw [← d7a] at H; have f5r := a_ d7a; clear d7a; obtain rfl := oj_ H
  go_enter Tryd.func47, Tryd.ntmps47
  try go_wp2_with (first | (refine gl_ (some 12) Tryd.func66 #[.slice A2 l2.length c2] ?_; (with_reducible refine (G8.calls k _ _ l2 b1j b4r e9g _ HR2.out HC2.out A4.out).mono ?_); rintro e w10 ⟨rfl, hb⟩; refine ⟨_, rfl, ?_⟩; replace HB := V3 HB hb; (try clear hb)) | (refine be_ 7 #[.int .i64 0, .int .i64 0] 122 ?_; intro b3R hg w11 hbox hb; have a5S := a_ hbox; have b9i := lb_ HB hg; replace HB := V3 HB hb; clear hb hbox hg; obtain ⟨d1L, d1M, d1N, d1O⟩ := a1B a5S.out) | (refine be_ 9 #[.int .i64 0, .int .i64 0, .slice none 0 0] 42 ?_; intro a4m hg w13 hbox hb; have a5T := a_ hbox; have g9K := a_ ((by rw [hg]; exact (y5 (by repeat (with_reducible first | exact HB.out | refine o7 ?_ b9i.out))) : w.heap.size ≤ a4m)); have e5X := a_ ((by rw [hg]; exact (y5 (by repeat (with_reducible first | exact HB.out | refine o7 ?_ b9i.out))) : w.heap.size ≤ a4m)); have a8N := a_ ((by rw [hg]; exact Nat.ne_of_lt (a0u (g := b3R) (o := .cells #[.int .i64 b1j, .int .i64 b4r] 122 (0, 0)) (l9 (l9 a5S.out 0 _ rfl) 1 _ rfl)) : b3R ≠ a4m)); have c07 := a_ ((by rw [hg]; exact Nat.ne_of_gt (a0u (g := b3R) (o := .cells #[.int .i64 b1j, .int .i64 b4r] 122 (0, 0)) (l9 (l9 a5S.out 0 _ rfl) 1 _ rfl)) : a4m ≠ b3R)); replace a5S := a_ (L6 (g := b3R) (o := .cells #[.int .i64 b1j, .int .i64 b4r] 122 (0, 0)) (l9 (l9 a5S.out 0 _ rfl) 1 _ rfl) hb); replace HB := a_ (J6 (by repeat (with_reducible first | exact HB.out | refine o7 ?_ b9i.out)) hb); clear hb hbox hg; have f5s := c07.out; have f5t := a8N.out; obtain ⟨d1j, d1k, d1l, d1m, d1n, d1o⟩ := a1Z a5T.out))
  have n0_ : Aside0 ((((w13.setCell ⟨a4m, 0, none⟩ (.int .i64 a1)).setCell ⟨a4m, 1, none⟩ (.int .i64 b1j)).setCell ⟨a4m, 2, none⟩ (.slice none 0 0)).heap[b3R]? = some (.cells #[.int .i64 b1j, .int .i64 b4r] 122 (0, 0))) := ⟨o8 (o8 (o8 a5S.out a8N.out _) a8N.out _) a8N.out _⟩; have n1_ : Aside0 ((((w13.setCell ⟨a4m, 0, none⟩ (.int .i64 a1)).setCell ⟨a4m, 1, none⟩ (.int .i64 b1j)).setCell ⟨a4m, 2, none⟩ (.slice none 0 0)).heap[a4m]? = some (.cells #[.int .i64 a1, .int .i64 b1j, .slice none 0 0] 42 (0, 0))) := ⟨l9 (l9 (l9 a5T.out 0 _ rfl) 1 _ rfl) 2 _ rfl⟩; have n2_ : Aside0 (Below w.heap.size w (((w13.setCell ⟨a4m, 0, none⟩ (.int .i64 a1)).setCell ⟨a4m, 1, none⟩ (.int .i64 b1j)).setCell ⟨a4m, 2, none⟩ (.slice none 0 0))) := ⟨by repeat (with_reducible first | exact HB.out | refine o7 ?_ e5X.out)⟩
  (try clear a5S)
  (try clear a5T)
  (try clear HB)
  generalize (((w13.setCell ⟨a4m, 0, none⟩ (.int .i64 a1)).setCell ⟨a4m, 1, none⟩ (.int .i64 b1j)).setCell ⟨a4m, 2, none⟩ (.slice none 0 0)) = w16 at n0_ n1_ n2_ ⊢; have a5S := n0_; have a5T := n1_; have HB := n2_; clear n0_ n1_ n2_; replace a5S := a_ (G9 a5S.out); replace a5T := a_ (G9 a5T.out); replace HB := a_ (Y4 HB.out); obtain ⟨d6T, a7N, _, a7O, _⟩ := info_parts info5; obtain ⟨A18, b86, b2p, b2q⟩ := a0O (P := Tryd.prog) (Value.int .u8) 0 22 5 .i64 Tryd.underlying22 a7N a7O A2 c2 l2 b4r (V5) (V5) HC2.out; have e5Y := ci_ (Kd.Y8 (h1 := fun _ => rfl) (b2p _ (Kd.Y3 HR2.out))); have g9L := a_ b2q; clear b2p b2q a7N a7O; refine a2E (n := 9) (S := fun w' => w'.cell? ⟨a4m, 0, none⟩ = some (.int .i64 a1) ∧ w'.cell? ⟨a4m, 1, none⟩ = some (.int .i64 b1j) ∧ w'.cell? ⟨a4m, 2, none⟩ = some (.slice none 0 0) ∧ w'.cell? ⟨b3R, 0, none⟩ = some (.int .i64 b1j) ∧ w'.cell? ⟨b3R, 1, none⟩ = some (.int .i64 b4r)) (ds := [8]) (bo_ 9 0) (by kernel_rfl) rfl rfl ⟨bc0 a5T, bc1 a5T, bc2 a5T, bc0 a5S, bc1 a5S⟩ (fun hHeld => ?_); refine a2J J9.e9f J9.d68 (fun Z8 HW_ => ?_); generalize w16.drew = w17 at a5S a5T HB e5Y hHeld ⊢; refine pu_ 0 (some 22) Z8 ?_; refine pu_ 2 (some 24) Z8 ?_; refine pu_ 3 (some 25) Z8 ?_; refine a1H (i := 1) (N := some 23) (v := ?_) (a' := ?_) (bo_ 9 15) rfl rfl (a1I Z8.out HW_.out (by kernel_rfl)) (fun _ _ _ h => h) (Or.inl ⟨by rfl, ?_⟩) hHeld ?_ ?_
  rotate_left
  ·rintro w' ⟨s0, s1, s2, s3, s4⟩
   go_simp
   with_reducible rfl
  rotate_left
  ·simp only [Act.put, List.setIfInBounds_toArray, List.set_cons_zero, List.set_cons_succ, a0J, a2b]
   rfl
  refine a1H (i := 4) (N := some 26) (v := ?_) (a' := ?_) (bo_ 9 31) rfl rfl (a1I Z8.out HW_.out (by kernel_rfl)) (fun _ _ _ h => h) (Or.inl ⟨by rfl, ?_⟩) hHeld ?_ ?_
  rotate_left
  ·rintro w' ⟨s0, s1, s2, s3, s4⟩
   go_simp
   with_reducible rfl
  rotate_left
  ·simp only [Act.put, List.setIfInBounds_toArray, List.set_cons_zero, List.set_cons_succ, a0J, a2b]
   rfl
  refine pu_ 5 (some 27) Z8 ?_; refine a6o (i := 6) (N := some 28) (bo_ 9 127) rfl rfl (a1U Z8.out (by kernel_rfl)) (by decide) (fun K hK => ?_); refine Kd.a4q (Kd.int .u8) (w0 := w) w.heap.size (by rfl) (.tmp 23) (.tmp 27) 22 5 (.int .u8 0) 1 rfl Tryd.underlying22 info5 rfl (by decide) (by omega) (.slice none 0 0) ([] : List Int) (l2.drop (b4r : Int).toNat) _ _ _ (fun _ => True) (fun _ => False) rfl rfl ?aO ?aR (fun _ _ h => h) (fun _ h => h.elim) ?aF ?aB ?aS ?aL ?_
  (case aR => (have c_ := (Kd.y9 e5Y.out HB.out); rw [show (l2.drop (b4r : Int).toNat).length = (l2.length - b4r.toNat) from List.length_drop] at c_; exact c_))
  (case aB => exact HB.out)
  (case aF => exact (fun _ _ => trivial))
  (case aO => exact (Kd.Y2 _ _ _ _ (fun _ => True)))
  (case aS => exact (y5 HB.out))
  (case aL => have := b6u.out; have e8x := (show (l2.drop (b4r : Int).toNat).length = (l2.length - b4r.toNat) from List.length_drop); omega)
  intro h3T w19 ho hb hg hat; rw [← f5q.out] at ho; have b6V := a_ ho; replace a5S := a_ (J7 a5S.out hg (by simp [Value.ownBlock])); replace a5T := a_ (J7 a5T.out hg (by simp [Value.ownBlock])); replace HB := a_ hb; clear ho hb hg hat; obtain ⟨a5I, a4V, b84⟩ := Kd.G7 b6V.out; subst b84; refine hK.out _ _ ⟨bc0 a5T, bc1 a5T, bc2 a5T, bc0 a5S, bc1 a5S⟩ (fun hHeld => ?_); clear hK K; refine nm_ (some 28) ?_; refine pu_ 7 (some 29) Z8 ?_; refine b1Q (i := 8) (N := none) (bo_ 9 511) rfl rfl (a1U Z8.out (by kernel_rfl)) (by decide) (fun K hK => ?_); have h3U := bc2 a5T; have g9M := l7 a5T.out 2; have g04 := a8N.out; have g05 := c07.out; refine a7H (w1 := ?_) (by rfl) rfl ?_ ?_
  rotate_left
  ·go_simp
   rfl
  refine hK.out _ _ ?_; clear hK K; refine a4D (a5D Z8.out (by kernel_rfl)) ?_; have n0_ : Aside0 (Kd.R (Kd.int .u8) 5 (w19.setCell ⟨a4m, 2, none⟩ (.slice a5I b5C.length a4V)) w.heap.size (fun _ => True) (.slice a5I b5C.length a4V) b5C) := ⟨by exact Kd.D7 (Kd.U0 (p := ⟨a4m, 2, none⟩) (Kd.P8 b6V.out a5T.out (by decide)) (fun _ hk => hk.2) (.slice a5I b5C.length a4V)) (fun _ hk => trivial)⟩; have n1_ : Aside0 ((w19.setCell ⟨a4m, 2, none⟩ (.slice a5I b5C.length a4V)).heap[b3R]? = some (.cells #[.int .i64 b1j, .int .i64 b4r] 122 (0, 0))) := ⟨o8 a5S.out a8N.out _⟩; have n2_ : Aside0 ((w19.setCell ⟨a4m, 2, none⟩ (.slice a5I b5C.length a4V)).heap[a4m]? = some (.cells #[.int .i64 a1, .int .i64 b1j, .slice a5I b5C.length a4V] 42 (0, 0))) := ⟨l9 a5T.out 2 _ rfl⟩; have n3_ : Aside0 (Below w.heap.size w (w19.setCell ⟨a4m, 2, none⟩ (.slice a5I b5C.length a4V))) := ⟨by repeat (with_reducible first | exact HB.out | refine o7 ?_ e5X.out)⟩
  (try clear b6V)
  (try clear a5S)
  (try clear a5T)
  (try clear HB)
  generalize (w19.setCell ⟨a4m, 2, none⟩ (.slice a5I b5C.length a4V)) = w22 at n0_ n1_ n2_ n3_ ⊢; have b6V := n0_; have a5S := n1_; have a5T := n2_; have HB := n3_; clear n0_ n1_ n2_ n3_; obtain ⟨b7L, b7M, g06, b7N, b7O, g07⟩ := a1Z a5T.out
  try go_wp2_with (first | ((with_reducible refine E8 (b := .append) (xs := #[.tmp 30, .tmp 32]) rfl ?_); at_builtin; refine Kd.a7I k42 (w0 := w22) base rfl (.tmp 30) (.tmp 32) 27 42 (.agg #[(.int .i64 0), (.int .i64 0), (.slice none 0 0)]) 40 rfl Tryd.underlying27 info42 rfl (by decide) (by omega) (.slice A0 l0.length c0) l0 (⟨a1, b1j, b5C⟩ : S42) [.int .i64 a1, .int .i64 b1j, .slice a5I b5C.length a4V] ok (fun k_ => some k_ = (.slice a5I b5C.length a4V : Value).ownBlock) rfl rfl ?aP ?aK ?aF ?aO ?aB ?aS ?aL ?_; (case aP => exact c9m _ _ _ (⟨a1, b1j, b5C⟩ : S42) (Kd.a3v rfl (Kd.Z9 b6V.out HBA.out))); (case aK => exact fun k_ hk => ⟨HF.out k_ (Kd.a0C b6V.out k_ hk.symm), fun e_ => by have h1 := Kd.a0C b6V.out k_ hk.symm; have h2 := HLT.out k_ e_.symm; omega⟩); (case aF => exact fun k_ hk => HF.out k_ (Nat.le_trans (y5 HB.out) hk)); (case aO => exact Kd.N7 (Kd.d4y HS.out HB.out) (fun k_ hk => ⟨hk.1, fun e_ => by have h1 := Kd.a0C b6V.out k_ e_.symm; have h2 := hk.2; omega⟩)); (case aB => exact Below.refl _ _); (case aS => exact Nat.le_trans HBA.out (y5 HB.out)); (case aL => have := c8e.out; omega); intro h3V w24 ho hb hg hat; rw [← f5r.out] at ho; have HO := a_ ho; have HB5 := a_ hb; have HG := a_ hg; have HAT := a_ hat; clear ho hb hg hat))
  go_ret
  exact ⟨_, rfl, ⟨⟨HO.out, (a4f HB.out _).trans HG.out, HAT.out.elim Or.inl (fun ⟨b, h, hle⟩ => Or.inr ⟨b, h, Nat.le_trans (y5 HB.out) hle⟩)⟩⟩, ⟨(HB.out.mono HBA.out).trans HB5.out⟩⟩
 ·rw [if_neg c5] at H; have a5H := bq_ c5; have b1f := bn_ c5; obtain rfl := oj_ H
  go_enter Tryd.func47, Tryd.ntmps47
  go_wp2_with (first | (refine gl_ (some 12) Tryd.func66 #[.slice A2 l2.length c2] ?_; (with_reducible refine (G8.calls k _ _ l2 b1j b4r e9g _ HR2.out HC2.out A4.out).mono ?_); rintro e w25 ⟨rfl, hb⟩; refine ⟨_, rfl, ?_⟩; replace HB := V3 HB hb; (try clear hb)) | (refine be_ 7 #[.int .i64 0, .int .i64 0] 122 ?_; intro b3R hg w26 hbox hb; have a5S := a_ hbox; have b9i := lb_ HB hg; replace HB := V3 HB hb; clear hb hbox hg; obtain ⟨b7y, b7z, b7A, b7B⟩ := a1B a5S.out))
  go_ret
  exact ⟨_, rfl, ⟨⟨Kd.a4s HS.out (by repeat (with_reducible first | exact HB.out | refine o7 ?_ b9i.out)), a4f (by repeat (with_reducible first | exact HB.out | refine o7 ?_ b9i.out)) _, .inl rfl⟩⟩, ⟨Below.mono (B := w.heap.size) (by repeat (with_reducible first | exact HB.out | refine o7 ?_ b9i.out)) HBA.out⟩⟩
theorem b1F.d3R (n : Nat) (w : World) (hn : n < 140737488355328) :
  Calls Tryd.prog 91 #[.slice none 0 0, .int .i64 (n : Int)] w fun e w' => ∃ v0_ : Value, e = .returned (v0_) ∧ Kd.R (Kd.int .u8) 5 w' w.heap.size (fun _ => True) v0_ [] ∧ Below w.heap.size w w' := by
 have HB := a_ (Below.refl w.heap.size w)
 have h0 : decide ((n : Int) < 0) = false := df_ (by omega)
 have HN := a_ hn
 have hb1 : (n : Int) ≤ 140737488355328 := by omega
 clear hn
 by_cases hz : 0 < (n : Int)
 ·have hz1 : decide (0 < (n : Int)) = true := dt_ hz
  go_enter Tryd.func91, Tryd.ntmps91
  go_wp2_with ((with_reducible refine E8 (b := .append) (xs := #[.tmp 20, .tmp 21]) rfl ?_); at_builtin; refine Kd.b8g (Kd.int .u8) (w0 := w) w.heap.size rfl (.tmp 20) (.tmp 21) 22 3 5 (.int .u8 0) 1 rfl Tryd.underlying22 Tryd.underlying3 info5 rfl (by decide) (by omega) (.slice none 0 0) ([] : List Int) 0 (kx := .i64) (n : Int) (fun _ => True) rfl rfl ?aZ (fun _ _ => trivial) (Kd.Y2 _ _ _ _ _) (by omega) ?aB ?aS ?aL ?_; (case aZ => rfl); (case aB => exact HB.out); (case aS => exact Nat.le_refl _); (case aL => have := HN.out; simp only [List.length_nil]; omega); intro v1 w1 ho hb hg hat; have n0_ := a_ hb; have n1_ := a_ ho; clear ho hb hg hat HB; have HB := n0_; have HO := n1_; clear n0_ n1_; obtain ⟨A1, c1, eo⟩ := Kd.G7 HO.out; subst eo)
  go_ret
  exact ⟨_, rfl, Kd.d4q (m := 0) HO.out (Nat.zero_le _), HB.out⟩
 ·have hz1 : decide (0 < (n : Int)) = false := df_ hz
  go_enter Tryd.func91, Tryd.ntmps91
  go_wp2
  go_ret
  exact ⟨_, rfl, Kd.Y2 _ _ _ _ _, HB.out⟩
end Go.Proofs.YtgnonglkibhnhaaDoor.Print
