-- laid together by this session's own program (wip/tools/merge.py) of texts that its program laid
import Derived.Test.YtgnonglkibhnhaaDoorM5
namespace Go.Proofs.YtgnonglkibhnhaaDoor.Print
open Go.RowKit Go.Proofs.YtgnonglkibhnhaaDoorW.PrintWords Go.Proofs.YtgnonglkibhnhaaDoorW.PrintLast Go.Proofs.YtgnonglkibhnhaaDoorW.PrintMore
attribute [local go_sem] a0d a0e a0V a0W X5 X6 a0f a0g
set_option linter.unusedVariables false
set_option linter.unusedSimpArgs false
set_option maxHeartbeats 16000000
set_option maxRecDepth 100000
def a0E.f (k : Nat) (l0 : List Int) : Option (Bool × Bool × Int × Int × Bool) :=
 (y8.num k l0 false 0 4).bind fun t1 => if t1 = 2712847316 then some (false, false, 0, 0, true) else if t1 = 2712812621 then some (false, true, 0, 0, true) else
  (y8.num k l0 true 0 4).bind fun t2 => if t2 = 2712847316 then some (true, false, 0, 0, true) else if t2 = 2712812621 then some (true, true, 0, 0, true) else some (false, false, 0, 0, false)
def a0E.left (k : Nat) (l0 : List Int) (j : Nat) (r : Bool × Bool × Int × Int × Bool) : Prop :=
 match j with
 | 0 => a0E.f k l0 = some r
 | 1 => ((y8.num k l0 true 0 4).bind fun t2 => if t2 = 2712847316 then some (true, false, 0, 0, true) else if t2 = 2712812621 then some (true, true, 0, 0, true) else some (false, false, 0, 0, false)) = some r
 | _ => (false, false, 0, 0, false) = r
theorem a0E.left_step {k : Nat} {l0 : List Int} {j : Nat} {r : Bool × Bool × Int × Int × Bool} (hj : j < 2) (h : a0E.left k l0 j r) :
  ∃ t, y8.num k l0 (decide (j = 1)) 0 4 = some t ∧ (t = 2712847316 → (decide (j = 1), false, 0, 0, true) = r) ∧ (t ≠ 2712847316 → t = 2712812621 → (decide (j = 1), true, 0, 0, true) = r) ∧ (t ≠ 2712847316 → t ≠ 2712812621 → a0E.left k l0 (j + 1) r) := by
 have hc : j = 0 ∨ j = 1 := by omega
 rcases hc with rfl | rfl
 ·obtain ⟨t, ht, h⟩ := Option.bind_eq_some_iff.1 (show a0E.f k l0 = some r from h); refine ⟨t, ht, fun h1 => ?_, fun h1 h2 => ?_, fun h1 h2 => ?_⟩
  ·rw [if_pos h1] at h; exact oj_ h
  ·rw [if_neg h1, if_pos h2] at h; exact oj_ h
  ·rw [if_neg h1, if_neg h2] at h; exact h
 ·obtain ⟨t, ht, h⟩ := Option.bind_eq_some_iff.1 h; refine ⟨t, ht, fun h1 => ?_, fun h1 h2 => ?_, fun h1 h2 => ?_⟩
  ·rw [if_pos h1] at h; exact oj_ h
  ·rw [if_neg h1, if_pos h2] at h; exact oj_ h
  ·rw [if_neg h1, if_neg h2] at h; exact oj_ h
structure a0E.Round (w W : World) (gq g2 k : Nat) (l0 : List Int) (j : Nat) (r : Bool × Bool × Int × Int × Bool) : Prop where
 hr : W.heap[gq]? = some (.cells #[.bool false, .bool true] 4 (0, 0))
 h2 : W.heap[g2]? = some (.cells #[.bool false, .bool false, .int .u32 0, .int .u32 0] 46 (0, 0))
 hb : Below w.heap.size w W
 hl : a0E.left k l0 j r
theorem a0E.calls (k : Nat) (A0 : Option Addr) (c0 : Nat) (l0 : List Int) (r1 r2 : Bool) (r3 r4 : Int) (r5 : Bool) (w : World) (hr0 : Kd.C (Kd.int .u8) w A0 l0.length l0) (hc0 : l0.length ≤ c0) (h4 : 4 ≤ l0.length) (h : a0E.f k l0 = some (r1, r2, r3, r4, r5)) :
  Calls Tryd.prog 78 #[.slice A0 l0.length c0] w fun e w' => e = .returned (.tuple #[.agg #[.bool r1, .bool r2, .int .u32 r3, .int .u32 r4], .bool r5]) ∧ Below w.heap.size w w' := by
 have huM := Tryd.underlying46
 have HR0 := a_ hr0
 have HC0 := a_ hc0
 have HW := a_ (Below.refl w.heap.size w)
 have HF := a_ (show a0E.left k l0 0 (r1, r2, r3, r4, r5) from h)
 have H4 := a_ h4
 clear hr0 hc0 h h4
 go_enter Tryd.func78, Tryd.ntmps78
 go_wp2_with ((refine be_ 2 #[.bool false, .bool false, .int .u32 0, .int .u32 0] 46 ?_; intro g2 hg w1 hbox hb; have BK2 := a_ hbox; have HB1 := Q8 HW hb; have GE2 : Aside0 (w.heap.size ≤ g2) := ⟨by rw [hg]; exact Nat.le_refl _⟩; clear hg hbox hb; have c5W := bc0 BK2; have c5X := l7 BK2.out 0; have c5Y := bc1 BK2; have c5Z := l7 BK2.out 1; have c54 := bc2 BK2; have c58 := l7 BK2.out 2; have c6a := bc3 BK2; have c6b := l7 BK2.out 3))
 obtain ⟨gq, hgq⟩ : ∃ gq, gq = w1.heap.size := ⟨_, rfl⟩
 have BR := a_ (a8n w1 (Obj.cells #[.bool false, .bool true] 4))
 have a7l := a_ (a7O BK2.out (Obj.cells #[.bool false, .bool true] 4))
 have HB2 := a_ (Z7 HB1.out (Obj.cells #[.bool false, .bool true] 4))
 rw [← hgq] at BR ⊢
 generalize w1.alloc (Obj.cells #[.bool false, .bool true] 4) = w2 at BR a7l HB2 ⊢
 clear hgq BK2 HB1 c5W c5Y c54 c6a c5X c5Z c58 c6b HW
 go_loopg [8] 2 (fun kq v8 w' => ∃ j : Nat, kq + j = 2 ∧ v8 = .int .i64 (j : Int) ∧ Aside0 (a0E.Round w w' gq g2 k l0 j (r1, r2, r3, r4, r5)))
 case atStart => exact ⟨0, rfl, rfl, ⟨⟨BR.out, a7l.out, HB2.out, HF.out⟩⟩⟩
 case round =>
  obtain ⟨j, hj, rfl, HI⟩ := hrel; clear BR a7l HB2 HF; have HK := a_ HI.out.hr; have BK := a_ HI.out.h2; have HB := a_ HI.out.hb; have HL := a_ HI.out.hl; clear HI; obtain ⟨c5W, c5Y, c54, c6a, c5X, c5Z, c58, c6b⟩ := blk4 BK.out
  by_cases hlt : j < 2
  ·obtain ⟨t, ht, e1, e2, e3⟩ := a0E.left_step hlt HL.out; obtain ⟨k1, rfl⟩ : ∃ k1, gk = k1 + 1 := ⟨gk - 1, by omega⟩; have HT := a_ ht; have E1 := a_ e1; have E2 := a_ e2; have E3 := a_ e3; clear ht e1 e2 e3 HL
   rcases (show j = 0 ∨ j = 1 by omega) with rfl | rfl
   ·have hcq := bc0 HK; have hv : ((0 : Nat) : Int) = 0 := rfl
    simp only [hv]
    go_wp2_with (fail)
    refine (y8.calls A0 l0.length c0 false _).mono ?_; rintro e w3 ⟨gb, ga, gg, rfl, hI, hb⟩; have BK3 := X8 BK hb; have HK3 := X8 HK hb; have HB3 := Q8 HB hb; have LA := a_ (Nat.le_trans (o9 HB.out) hI.la); have I3 := a_ (hI.lower (o9 HB.out)); have NB2 : Aside0 (g2 ≠ ga) := ⟨a4V BK3.out hI.ha (by decide)⟩; have NBQ : Aside0 (gq ≠ ga) := ⟨a4V HK3.out hI.ha (by decide)⟩; clear hI hb
    go_wp2_with (fail)
    refine (y8.next k A0 l0 c0 false 0 4 t _ gb ga gg _ I3.out (Kd.E8 HR0.out HB3.out) HC0.out (by omega) (by omega) (by have := H4.out; omega) HT.out).mono ?_; rintro e w4 ⟨rfl, hI, hk, hb⟩; have BK4 := a_ (hk.blk BK3.out NB2.out (by simp)); have HK4 := a_ (hk.blk HK3.out NBQ.out (by simp)); have HB4 := a_ (hb w HB3.out LA.out); clear hI hk hb BK3 HK3 HB3 I3; have b6N := bc0 BK4; have b6O := l7 BK4.out 0; have b6P := bc1 BK4; have b6Q := l7 BK4.out 1; have b6R := bc2 BK4; have b6S := l7 BK4.out 2; have b6T := bc3 BK4; have b6U := l7 BK4.out 3
    by_cases c1 : t = 2712847316
    ·have c1b : (t == 2712847316) = true := by simpa using c1
     have h : (false, false, (0 : Int), (0 : Int), true) = (r1, r2, r3, r4, r5) := E1.out c1
     simp only [Prod.mk.injEq] at h
     obtain ⟨rfl, rfl, rfl, rfl, rfl⟩ := h; clear E1 E2 E3 c1
     go_wp2_with (fail)
     refine bodyPost_ret (a0C rfl _ _ g2 46 #[.bool false, .bool false, .int .u32 0, .int .u32 0] (0, 0) _ rfl (l9 (l9 (l9 (l9 BK4.out 0 _ rfl) 1 _ rfl) 2 _ rfl) 3 _ rfl) Tryd.underlying46 rfl (by kernel_rfl)) rfl ?_; exact ⟨rfl, by repeat (first | exact HB4.out | refine o8 ?_ GE2.out)⟩
    ·by_cases c2 : t = 2712812621
     ·have c1b : (t == 2712847316) = false := by simpa using c1
      have c2b : (t == 2712812621) = true := by simpa using c2
      have h : (false, true, (0 : Int), (0 : Int), true) = (r1, r2, r3, r4, r5) := E2.out c1 c2
      simp only [Prod.mk.injEq] at h
      obtain ⟨rfl, rfl, rfl, rfl, rfl⟩ := h; clear E1 E2 E3 c1 c2
      go_wp2_with (fail)
      refine bodyPost_ret (a0C rfl _ _ g2 46 #[.bool false, .bool true, .int .u32 0, .int .u32 0] (0, 0) _ rfl (l9 (l9 (l9 (l9 BK4.out 0 _ rfl) 1 _ rfl) 2 _ rfl) 3 _ rfl) Tryd.underlying46 rfl (by kernel_rfl)) rfl ?_; exact ⟨rfl, by repeat (first | exact HB4.out | refine o8 ?_ GE2.out)⟩
     ·have c1b : (t == 2712847316) = false := by simpa using c1
      have c2b : (t == 2712812621) = false := by simpa using c2
      have HL : Aside0 (a0E.left k l0 1 (r1, r2, r3, r4, r5)) := ⟨E3.out c1 c2⟩; clear E1 E2 E3 c1 c2
      go_wp2_with (fail)
      go_roundg k1
      case measure => omega
      case rel => exact ⟨1, by omega, rfl, ⟨⟨HK4.out, BK4.out, HB4.out, HL.out⟩⟩⟩
   ·have hcq := bc1 HK; have hv : ((1 : Nat) : Int) = 1 := rfl
    simp only [hv]
    go_wp2_with (fail)
    refine (y8.calls A0 l0.length c0 true _).mono ?_; rintro e w3 ⟨gb, ga, gg, rfl, hI, hb⟩; have BK3 := X8 BK hb; have HK3 := X8 HK hb; have HB3 := Q8 HB hb; have LA := a_ (Nat.le_trans (o9 HB.out) hI.la); have I3 := a_ (hI.lower (o9 HB.out)); have NB2 : Aside0 (g2 ≠ ga) := ⟨a4V BK3.out hI.ha (by decide)⟩; have NBQ : Aside0 (gq ≠ ga) := ⟨a4V HK3.out hI.ha (by decide)⟩; clear hI hb
    go_wp2_with (fail)
    refine (y8.next k A0 l0 c0 true 0 4 t _ gb ga gg _ I3.out (Kd.E8 HR0.out HB3.out) HC0.out (by omega) (by omega) (by have := H4.out; omega) HT.out).mono ?_; rintro e w4 ⟨rfl, hI, hk, hb⟩; have BK4 := a_ (hk.blk BK3.out NB2.out (by simp)); have HK4 := a_ (hk.blk HK3.out NBQ.out (by simp)); have HB4 := a_ (hb w HB3.out LA.out); clear hI hk hb BK3 HK3 HB3 I3; have b6N := bc0 BK4; have b6O := l7 BK4.out 0; have b6P := bc1 BK4; have b6Q := l7 BK4.out 1; have b6R := bc2 BK4; have b6S := l7 BK4.out 2; have b6T := bc3 BK4; have b6U := l7 BK4.out 3
    by_cases c1 : t = 2712847316
    ·have c1b : (t == 2712847316) = true := by simpa using c1
     have h : (true, false, (0 : Int), (0 : Int), true) = (r1, r2, r3, r4, r5) := E1.out c1
     simp only [Prod.mk.injEq] at h
     obtain ⟨rfl, rfl, rfl, rfl, rfl⟩ := h; clear E1 E2 E3 c1
     go_wp2_with (fail)
     refine bodyPost_ret (a0C rfl _ _ g2 46 #[.bool true, .bool false, .int .u32 0, .int .u32 0] (0, 0) _ rfl (l9 (l9 (l9 (l9 BK4.out 0 _ rfl) 1 _ rfl) 2 _ rfl) 3 _ rfl) Tryd.underlying46 rfl (by kernel_rfl)) rfl ?_; exact ⟨rfl, by repeat (first | exact HB4.out | refine o8 ?_ GE2.out)⟩
    ·by_cases c2 : t = 2712812621
     ·have c1b : (t == 2712847316) = false := by simpa using c1
      have c2b : (t == 2712812621) = true := by simpa using c2
      have h : (true, true, (0 : Int), (0 : Int), true) = (r1, r2, r3, r4, r5) := E2.out c1 c2
      simp only [Prod.mk.injEq] at h
      obtain ⟨rfl, rfl, rfl, rfl, rfl⟩ := h; clear E1 E2 E3 c1 c2
      go_wp2_with (fail)
      refine bodyPost_ret (a0C rfl _ _ g2 46 #[.bool true, .bool true, .int .u32 0, .int .u32 0] (0, 0) _ rfl (l9 (l9 (l9 (l9 BK4.out 0 _ rfl) 1 _ rfl) 2 _ rfl) 3 _ rfl) Tryd.underlying46 rfl (by kernel_rfl)) rfl ?_; exact ⟨rfl, by repeat (first | exact HB4.out | refine o8 ?_ GE2.out)⟩
     ·have c1b : (t == 2712847316) = false := by simpa using c1
      have c2b : (t == 2712812621) = false := by simpa using c2
      have HL : Aside0 (a0E.left k l0 2 (r1, r2, r3, r4, r5)) := ⟨E3.out c1 c2⟩; clear E1 E2 E3 c1 c2
      go_wp2_with (fail)
      go_roundg k1
      case measure => omega
      case rel => exact ⟨2, by omega, rfl, ⟨⟨HK4.out, BK4.out, HB4.out, HL.out⟩⟩⟩
  ·obtain rfl : j = 2 := by omega
   have h : (false, false, (0 : Int), (0 : Int), false) = (r1, r2, r3, r4, r5) := HL.out
   simp only [Prod.mk.injEq] at h
   obtain ⟨rfl, rfl, rfl, rfl, rfl⟩ := h; have hv : ((2 : Nat) : Int) = 2 := rfl
   simp only [hv]
   clear HL
   go_wp2_with (fail)
   refine bodyPost_ret (a0C rfl _ _ g2 46 #[.bool false, .bool false, .int .u32 0, .int .u32 0] (0, 0) _ rfl (l9 (l9 (l9 (l9 BK.out 0 _ rfl) 1 _ rfl) 2 _ rfl) 3 _ rfl) Tryd.underlying46 rfl (by kernel_rfl)) rfl ?_; exact ⟨rfl, by repeat (first | exact HB.out | refine o8 ?_ GE2.out)⟩
def a6A.f (k : Nat) (l0 : List Int) : Option (Bool × Bool × Int × Int × Int) :=
 if (l0.length : Int) < 4 then some (false, false, 0, 0, 2) else
 (a0E.f k l0).bind fun o => if o.2.2.2.2 = false then some (false, false, 0, 0, 3) else if (l0.length : Int) < 24 then some (false, false, 0, 0, 2) else
  (y8.num k (l0.drop 4) o.1 0 2).bind fun t1 => if t1 ≠ 2 then some (false, false, 0, 0, 3) else
   (y8.num k (l0.drop 4) o.1 2 2).bind fun _ => (y8.num k (l0.drop 4) o.1 4 4).bind fun _ => (y8.num k (l0.drop 4) o.1 8 4).bind fun _ => (y8.num k (l0.drop 4) o.1 12 4).bind fun t5 => (y8.num k (l0.drop 4) o.1 16 4).bind fun t6 => some (o.1, o.2.1, t5, t6, 0)
theorem a6A.calls (k : Nat) (A0 : Option Addr) (c0 : Nat) (l0 : List Int) (r1 r2 : Bool) (r3 r4 : Int) (r5 : Int) (w : World) (hr0 : Kd.C (Kd.int .u8) w A0 l0.length l0) (hc0 : l0.length ≤ c0) (h : a6A.f k l0 = some (r1, r2, r3, r4, r5)) :
  Calls Tryd.prog 61 #[.slice A0 l0.length c0] w fun e w' => e = .returned (.tuple #[.agg #[.bool r1, .bool r2, .int .u32 r3, .int .u32 r4], .int .i64 r5]) ∧ Below w.heap.size w w' := by
 have huM := Tryd.underlying46
 unfold a6A.f at h
 have HR0 := a_ hr0
 have HC0 := a_ hc0
 have HW := a_ (Below.refl w.heap.size w)
 by_cases c1 : (l0.length : Int) < 4
 ·rw [if_pos c1] at h
  simp only [Option.some.injEq, Prod.mk.injEq] at h
  obtain ⟨rfl, rfl, rfl, rfl, rfl⟩ := h; have c1b := dt_ c1; clear c1 hr0 hc0
  go_enter Tryd.func61, Tryd.ntmps61
  go_wp2_with ((refine be_ 2 #[.bool false, .bool false, .int .u32 0, .int .u32 0] 46 ?_; intro g2 hg w1 hbox hb; have BK2 := a_ hbox; have HB1 := Q8 HW hb; have GE2 : Aside0 (w.heap.size ≤ g2) := ⟨by rw [hg]; exact Nat.le_refl _⟩; clear hg hbox hb; have c5W := bc0 BK2; have c5X := l7 BK2.out 0; have c5Y := bc1 BK2; have c5Z := l7 BK2.out 1; have c54 := bc2 BK2; have c58 := l7 BK2.out 2; have c6a := bc3 BK2; have c6b := l7 BK2.out 3))
  refine bodyPost_ret (a0C rfl _ _ g2 46 #[.bool false, .bool false, .int .u32 0, .int .u32 0] (0, 0) _ rfl (l9 (l9 (l9 (l9 BK2.out 0 _ rfl) 1 _ rfl) 2 _ rfl) 3 _ rfl) Tryd.underlying46 rfl (by kernel_rfl)) rfl ?_; exact ⟨rfl, by repeat (first | with_reducible exact HB1.out | with_reducible refine o8 ?_ GE2.out)⟩
 ·rw [if_neg c1] at h; obtain ⟨⟨o1, o2, o3, o4, o5⟩, ho, h⟩ := Option.bind_eq_some_iff.1 h
  dsimp only at h
  have c1b := df_ c1; have h4 : 4 ≤ l0.length := by omega
  have H4 := a_ h4; have HO := a_ ho; have H := a_ h; clear c1 hr0 hc0 h4 ho h
  go_enter Tryd.func61, Tryd.ntmps61
  go_wp2_with ((refine be_ 2 #[.bool false, .bool false, .int .u32 0, .int .u32 0] 46 ?_; intro g2 hg w1 hbox hb; have BK2 := a_ hbox; have HB1 := Q8 HW hb; have GE2 : Aside0 (w.heap.size ≤ g2) := ⟨by rw [hg]; exact Nat.le_refl _⟩; clear hg hbox hb; have c5W := bc0 BK2; have c5X := l7 BK2.out 0; have c5Y := bc1 BK2; have c5Z := l7 BK2.out 1; have c54 := bc2 BK2; have c58 := l7 BK2.out 2; have c6a := bc3 BK2; have c6b := l7 BK2.out 3))
  refine (a0E.calls k A0 c0 l0 o1 o2 o3 o4 o5 _ (Kd.E8 HR0.out HB1.out) HC0.out H4.out HO.out).mono ?_; rintro e w2 ⟨rfl, hb2⟩; have a7l := X8 BK2 hb2; have HB2 := Q8 HB1 hb2; clear hb2 BK2 HB1; have h := H.out
  cases o5 with
  | false =>
   rw [if_pos rfl] at h
   simp only [Option.some.injEq, Prod.mk.injEq] at h
   obtain ⟨rfl, rfl, rfl, rfl, rfl⟩ := h; clear H; have f8w := a7l
   go_wp2_with ((refine be_ 4 #[.bool false, .bool false, .int .u32 0, .int .u32 0] 46 ?_; intro g4 hg w3 hbox hb; have BK4 := a_ hbox; have GE4 : Aside0 (w.heap.size ≤ g4) := ⟨by rw [hg]; exact o9 HB2.out⟩; have NB : Aside0 (g2 ≠ g4) := ⟨by rw [hg]; exact Nat.ne_of_lt (a0B a7l.out)⟩; have a2K := X8 a7l hb; have HB3 := Q8 HB2 hb; clear hg hbox hb a7l HB2; have b6N := bc0 BK4; have b6O := l7 BK4.out 0; have b6P := bc1 BK4; have b6Q := l7 BK4.out 1; have b6R := bc2 BK4; have b6S := l7 BK4.out 2; have b6T := bc3 BK4; have b6U := l7 BK4.out 3; have c3r := bc0 a2K; have c3s := l7 a2K.out 0; have c3t := bc1 a2K; have c3u := l7 a2K.out 1; have c3v := bc2 a2K; have c3w := l7 a2K.out 2; have c3x := bc3 a2K; have c3y := l7 a2K.out 3; have n24 : g2 ≠ g4 := NB.out; have n42 : g4 ≠ g2 := NB.out.symm))
   refine bodyPost_ret (a0C rfl _ _ g2 46 #[.bool false, .bool false, .int .u32 0, .int .u32 0] (0, 0) _ rfl (by refine l9 (cs := #[.bool false, .bool false, .int .u32 0, .int .u32 0]) ?_ 3 _ rfl; refine l9 (cs := #[.bool false, .bool false, .int .u32 0, .int .u32 0]) ?_ 2 _ rfl; refine l9 (cs := #[.bool false, .bool false, .int .u32 0, .int .u32 0]) ?_ 1 _ rfl; refine l9 (cs := #[.bool false, .bool false, .int .u32 0, .int .u32 0]) ?_ 0 _ rfl; repeat (first | with_reducible exact a2K.out | refine E5 ?_ NB.out _)) Tryd.underlying46 rfl (by kernel_rfl)) rfl ?_; exact ⟨rfl, by repeat (first | with_reducible exact HB3.out | with_reducible refine o8 ?_ GE2.out | with_reducible refine o8 ?_ GE4.out)⟩
  | true =>
   simp only [Bool.true_eq_false, if_false] at h
   by_cases c2 : (l0.length : Int) < 24
   ·rw [if_pos c2] at h
    simp only [Option.some.injEq, Prod.mk.injEq] at h
    obtain ⟨rfl, rfl, rfl, rfl, rfl⟩ := h; have c2b := dt_ c2; clear H c2
    go_wp2_with ((refine be_ 4 #[.bool false, .bool false, .int .u32 0, .int .u32 0] 46 ?_; intro g4 hg w3 hbox hb; have BK4 := a_ hbox; have GE4 : Aside0 (w.heap.size ≤ g4) := ⟨by rw [hg]; exact o9 HB2.out⟩; have NB : Aside0 (g2 ≠ g4) := ⟨by rw [hg]; exact Nat.ne_of_lt (a0B a7l.out)⟩; have a2K := X8 a7l hb; have HB3 := Q8 HB2 hb; clear hg hbox hb a7l HB2; have b6N := bc0 BK4; have b6O := l7 BK4.out 0; have b6P := bc1 BK4; have b6Q := l7 BK4.out 1; have b6R := bc2 BK4; have b6S := l7 BK4.out 2; have b6T := bc3 BK4; have b6U := l7 BK4.out 3; have c3r := bc0 a2K; have c3s := l7 a2K.out 0; have c3t := bc1 a2K; have c3u := l7 a2K.out 1; have c3v := bc2 a2K; have c3w := l7 a2K.out 2; have c3x := bc3 a2K; have c3y := l7 a2K.out 3; have n24 : g2 ≠ g4 := NB.out; have n42 : g4 ≠ g2 := NB.out.symm))
    refine bodyPost_ret (a0C rfl _ _ g2 46 #[.bool false, .bool false, .int .u32 0, .int .u32 0] (0, 0) _ rfl (by refine l9 (cs := #[.bool false, .bool false, .int .u32 0, .int .u32 0]) ?_ 3 _ rfl; refine l9 (cs := #[.bool false, .bool false, .int .u32 0, .int .u32 0]) ?_ 2 _ rfl; refine l9 (cs := #[.bool false, .bool false, .int .u32 0, .int .u32 0]) ?_ 1 _ rfl; refine l9 (cs := #[.bool false, .bool false, .int .u32 0, .int .u32 0]) ?_ 0 _ rfl; repeat (first | with_reducible exact a2K.out | refine E5 ?_ NB.out _)) Tryd.underlying46 rfl (by kernel_rfl)) rfl ?_; exact ⟨rfl, by repeat (first | with_reducible exact HB3.out | with_reducible refine o8 ?_ GE2.out | with_reducible refine o8 ?_ GE4.out)⟩
   ·rw [if_neg c2] at h; have c2b := df_ c2; obtain ⟨t1, q1, h⟩ := Option.bind_eq_some_iff.1 h; obtain ⟨i0, hi0, _, hsz, _⟩ := info_parts info5; obtain ⟨A8, hcut, hA8, hC8⟩ := a2q (P := Tryd.prog) (Value.int .u8) 0 22 5 .i64 Tryd.underlying22 hi0 hsz A0 c0 l0 4 (by omega) (by omega) HC0.out; have HR8 := ci_ (Kd.a2a (h1 := fun _ => rfl) (hA8 _ (Kd.a1L HR0.out))); have hl4 : (l0.drop (4 : Int).toNat).length = l0.length - 4 := List.length_drop ..; have HL4 : Aside0 (20 ≤ ((l0.drop (4 : Int).toNat).length : Int)) := ⟨by omega⟩; have HC8 := a_ hC8; have T1 : Aside0 (y8.num k (l0.drop (4 : Int).toNat) o1 0 2 = some t1) := ⟨q1⟩; have H : Aside0 ((if t1 ≠ 2 then some (false, false, 0, 0, 3) else
   (y8.num k (l0.drop (4 : Int).toNat) o1 2 2).bind fun _ => (y8.num k (l0.drop (4 : Int).toNat) o1 4 4).bind fun _ => (y8.num k (l0.drop (4 : Int).toNat) o1 8 4).bind fun _ => (y8.num k (l0.drop (4 : Int).toNat) o1 12 4).bind fun t5 => (y8.num k (l0.drop (4 : Int).toNat) o1 16 4).bind fun t6 => some (o1, o2, t5, t6, 0)) = some (r1, r2, r3, r4, r5)) := ⟨h⟩
    clear h q1 hl4 hA8 hC8 hi0 hsz c2; generalize l0.drop (4 : Int).toNat = l4 at hcut HR8 HL4 HC8 T1 H; generalize c0 - (4 : Int).toNat = c8 at hcut HC8
    go_wp2_with ((refine be_ 4 #[.bool false, .bool false, .int .u32 0, .int .u32 0] 46 ?_; intro g4 hg w3 hbox hb; have BK4 := a_ hbox; have GE4 : Aside0 (w.heap.size ≤ g4) := ⟨by rw [hg]; exact o9 HB2.out⟩; have NB : Aside0 (g2 ≠ g4) := ⟨by rw [hg]; exact Nat.ne_of_lt (a0B a7l.out)⟩; have a2K := X8 a7l hb; have HB3 := Q8 HB2 hb; clear hg hbox hb a7l HB2; have b6N := bc0 BK4; have b6O := l7 BK4.out 0; have b6P := bc1 BK4; have b6Q := l7 BK4.out 1; have b6R := bc2 BK4; have b6S := l7 BK4.out 2; have b6T := bc3 BK4; have b6U := l7 BK4.out 3; have c3r := bc0 a2K; have c3s := l7 a2K.out 0; have c3t := bc1 a2K; have c3u := l7 a2K.out 1; have c3v := bc2 a2K; have c3w := l7 a2K.out 2; have c3x := bc3 a2K; have c3y := l7 a2K.out 3; have n24 : g2 ≠ g4 := NB.out; have n42 : g4 ≠ g2 := NB.out.symm))
    generalize hW : World.setCell (World.setCell (World.setCell (World.setCell w3 ⟨g4, 0, none⟩ (.bool o1)) ⟨g4, 1, none⟩ (.bool o2)) ⟨g4, 2, none⟩ (.int .u32 o3)) ⟨g4, 3, none⟩ (.int .u32 o4) = w3b; have e2T : Aside0 (w3b.heap[g4]? = some (.cells #[.bool o1, .bool o2, .int .u32 o3, .int .u32 o4] 46 (0, 0))) := ⟨by rw [← hW]; exact (l9 (l9 (l9 (l9 BK4.out 0 _ rfl) 1 _ rfl) 2 _ rfl) 3 _ rfl)⟩; have e7W : Aside0 (w3b.heap[g2]? = some (.cells #[.bool false, .bool false, .int .u32 0, .int .u32 0] 46 (0, 0))) := ⟨by rw [← hW]; repeat (first | with_reducible exact a2K.out | refine E5 ?_ NB.out _)⟩; have d7x : Aside0 (Below w.heap.size w w3b) := ⟨by rw [← hW]; repeat (first | with_reducible exact HB3.out | with_reducible refine o8 ?_ GE4.out)⟩; clear hW BK4 a2K HB3 b6N b6O c3r c3s b6P b6Q c3t c3u b6R b6S c3v c3w b6T b6U c3x c3y; have e7X := bc0 e2T
    go_region_held (fun w' => w'.cell? ⟨g4, 0, none⟩ = some (.bool o1)) (first | exact e7Y | exact e7X) (with_reducible refine (y8.calls A8 l4.length c8 o1 _).mono ?_;  rintro e w4 ⟨gb, ga, gg, rfl, hI, hb⟩; have b2t := a_ (Q5 (P6 e2T.out) hb); have d19 := a_ (Q5 (P6 e7W.out) hb); have HB4 := a_ (L8 (a1K d7x.out) hb); have LA := a_ (Nat.le_trans (o9 (a1K d7x.out)) hI.la); have I4 := a_ (hI.lower (o9 (a1K d7x.out))); have N2 : Aside0 (g2 ≠ ga) := ⟨a4V d19.out hI.ha (by decide)⟩; have N4 : Aside0 (g4 ≠ ga) := ⟨a4V b2t.out hI.ha (by decide)⟩; have Nb : Aside0 (gb ≠ g4) := ⟨a4V hI.hb b2t.out (by decide)⟩; have Na : Aside0 (ga ≠ g4) := ⟨N4.out.symm⟩; have Ng : Aside0 (gg ≠ g4) := ⟨a4V hI.hg b2t.out (by decide)⟩; clear hI hb e2T e7W d7x; have e7Y := bc0 b2t)
    go_wp2_with (fail)
    refine (y8.next k A8 l4 c8 o1 0 2 t1 w.heap.size gb ga gg _ I4.out (Kd.E8 HR8.out (by repeat (with_reducible exact HB4.out))) HC8.out (by omega) (by omega) (by have := HL4.out; omega) T1.out).mono ?_; rintro e w5 ⟨rfl, hI, hk, hb⟩; have a7W := a_ (hk.blk b2t.out N4.out (by simp)); have a9Q := a_ (hk.blk d19.out N2.out (by simp)); have HB5 := a_ (hb w (by repeat (with_reducible exact HB4.out)) LA.out); have I5 : Aside0 (y8.Inv w5 w.heap.size A8 l4.length c8 o1 2 gb ga gg) := ⟨hI⟩; clear hI hk hb b2t d19 HB4 I4; have f8y := bc0 a7W; have f8z := l7 a7W.out 0; have f8A := bc1 a7W; have f8B := l7 a7W.out 1; have f8C := bc2 a7W; have f8D := l7 a7W.out 2; have f8E := bc3 a7W; have f8F := l7 a7W.out 3; have f8G := bc0 a9Q; have f8H := l7 a9Q.out 0; have f8I := bc1 a9Q; have f8J := l7 a9Q.out 1; have f8K := bc2 a9Q; have f8L := l7 a9Q.out 2; have f8M := bc3 a9Q; have f8N := l7 a9Q.out 3; have h := H.out
    by_cases c5 : t1 = 2
    ·rw [if_neg (by simpa using c5)] at h; obtain ⟨t2, q2, h⟩ := Option.bind_eq_some_iff.1 h; obtain ⟨t3, q3, h⟩ := Option.bind_eq_some_iff.1 h; obtain ⟨t4, q4, h⟩ := Option.bind_eq_some_iff.1 h; obtain ⟨t5, q5, h⟩ := Option.bind_eq_some_iff.1 h; obtain ⟨t6, q6, h⟩ := Option.bind_eq_some_iff.1 h
     simp only [Option.some.injEq, Prod.mk.injEq] at h
     obtain ⟨rfl, rfl, rfl, rfl, rfl⟩ := h; have T2 := a_ q2; have T3 := a_ q3; have T4 := a_ q4; have T5 := a_ q5; have T6 := a_ q6; have c5b : (t1 == 2) = true := by simpa using c5
     have c5c : (t1 != 2) = false := by simpa using c5
     clear q2 q3 q4 q5 q6 c5 H
     go_wp2_with (fail)
     refine (y8.next k A8 l4 c8 o1 2 2 t2 w.heap.size gb ga gg _ I5.out (Kd.E8 HR8.out (by repeat (with_reducible exact HB5.out))) HC8.out (by omega) (by omega) (by have := HL4.out; omega) T2.out).mono ?_; rintro e w6 ⟨rfl, hI, hk, hb⟩; have a7X := a_ (hk.blk a7W.out N4.out (by simp)); have b0S := a_ (hk.blk a9Q.out N2.out (by simp)); have HB6 := a_ (hb w (by repeat (with_reducible exact HB5.out)) LA.out); have I6 : Aside0 (y8.Inv w6 w.heap.size A8 l4.length c8 o1 4 gb ga gg) := ⟨hI⟩; clear hI hk hb a7W a9Q HB5 I5; have f8O := bc0 a7X; have f8P := l7 a7X.out 0; have f8Q := bc1 a7X; have f8R := l7 a7X.out 1; have f8S := bc2 a7X; have f8T := l7 a7X.out 2; have f8U := bc3 a7X; have f8V := l7 a7X.out 3; have f8W := bc0 b0S; have f8X := l7 b0S.out 0; have f8Y := bc1 b0S; have f8Z := l7 b0S.out 1; have f9a := bc2 b0S; have f9b := l7 b0S.out 2; have f9c := bc3 b0S; have f9d := l7 b0S.out 3
     go_wp2_with (fail)
     refine (y8.next k A8 l4 c8 o1 4 4 t3 w.heap.size gb ga gg _ I6.out (Kd.E8 HR8.out (by repeat (with_reducible exact HB6.out))) HC8.out (by omega) (by omega) (by have := HL4.out; omega) T3.out).mono ?_; rintro e w7 ⟨rfl, hI, hk, hb⟩; have a4n := a_ (hk.blk a7X.out N4.out (by simp)); have b0T := a_ (hk.blk b0S.out N2.out (by simp)); have HB7 := a_ (hb w (by repeat (with_reducible exact HB6.out)) LA.out); have I7 : Aside0 (y8.Inv w7 w.heap.size A8 l4.length c8 o1 8 gb ga gg) := ⟨hI⟩; clear hI hk hb a7X b0S HB6 I6; have f9e := bc0 a4n; have f9f := l7 a4n.out 0; have f9g := bc1 a4n; have f9h := l7 a4n.out 1; have f9i := bc2 a4n; have f9j := l7 a4n.out 2; have f9k := bc3 a4n; have f9l := l7 a4n.out 3; have f9m := bc0 b0T; have f9n := l7 b0T.out 0; have f9o := bc1 b0T; have f9p := l7 b0T.out 1; have f9q := bc2 b0T; have f9r := l7 b0T.out 2; have f9s := bc3 b0T; have f9t := l7 b0T.out 3
     go_wp2_with (fail)
     refine (y8.next k A8 l4 c8 o1 8 4 t4 w.heap.size gb ga gg _ I7.out (Kd.E8 HR8.out (by repeat (with_reducible exact HB7.out))) HC8.out (by omega) (by omega) (by have := HL4.out; omega) T4.out).mono ?_; rintro e w8 ⟨rfl, hI, hk, hb⟩; have a2L := a_ (hk.blk a4n.out N4.out (by simp)); have b0U := a_ (hk.blk b0T.out N2.out (by simp)); have HB8 := a_ (hb w (by repeat (with_reducible exact HB7.out)) LA.out); have I8 : Aside0 (y8.Inv w8 w.heap.size A8 l4.length c8 o1 12 gb ga gg) := ⟨hI⟩; clear hI hk hb a4n b0T HB7 I7; have e2V := bc0 a2L; have e2W := l7 a2L.out 0; have e2X := bc1 a2L; have e2Y := l7 a2L.out 1; have e2Z := bc2 a2L; have e3a := l7 a2L.out 2; have e3c := bc3 a2L; have e3d := l7 a2L.out 3; have f9u := bc0 b0U; have f9v := l7 b0U.out 0; have f9w := bc1 b0U; have f9x := l7 b0U.out 1; have f9y := bc2 b0U; have f9z := l7 b0U.out 2; have f9A := bc3 b0U; have f9B := l7 b0U.out 3
     go_wp2_with (fail)
     refine (y8.next k A8 l4 c8 o1 12 4 t5 w.heap.size gb ga gg _ I8.out (Kd.E8 HR8.out (by repeat (with_reducible exact HB8.out))) HC8.out (by omega) (by omega) (by have := HL4.out; omega) T5.out).mono ?_; rintro e w9 ⟨rfl, hI, hk, hb⟩; have b0V := a_ (hk.blk a2L.out N4.out (by simp)); have b0W := a_ (hk.blk b0U.out N2.out (by simp)); have HB9 := a_ (hb w (by repeat (with_reducible exact HB8.out)) LA.out); have I9 : Aside0 (y8.Inv w9 w.heap.size A8 l4.length c8 o1 16 gb ga gg) := ⟨hI⟩; clear hI hk hb a2L b0U HB8 I8; have d2a := bc0 b0V; have d2b := l7 b0V.out 0; have d2c := bc1 b0V; have d2d := l7 b0V.out 1; have d2e := bc2 b0V; have d2f := l7 b0V.out 2; have d2g := bc3 b0V; have d2h := l7 b0V.out 3; have f9C := bc0 b0W; have f9D := l7 b0W.out 0; have f9E := bc1 b0W; have f9F := l7 b0W.out 1; have f9G := bc2 b0W; have f9H := l7 b0W.out 2; have f9I := bc3 b0W; have f9J := l7 b0W.out 3
     go_wp2_with (fail)
     refine (y8.next k A8 l4 c8 o1 16 4 t6 w.heap.size gb ga gg _ (by repeat (first | exact I9.out | refine y8.Inv.far ?_ Nb.out Na.out Ng.out _)) (Kd.E8 HR8.out (by repeat (first | with_reducible exact HB9.out | with_reducible refine o8 ?_ GE4.out))) HC8.out (by omega) (by omega) (by have := HL4.out; omega) T6.out).mono ?_; rintro e w10 ⟨rfl, hI, hk, hb⟩; have a9R := a_ (hk.blk (o := .cells #[.bool o1, .bool o2, .int .u32 t5, .int .u32 o4] 46 (0, 0)) (g' := g4) (l9 b0V.out 2 _ rfl) N4.out (by simp)); have a8I := a_ (hk.blk (o := .cells #[.bool false, .bool false, .int .u32 0, .int .u32 0] 46 (0, 0)) (g' := g2) (by exact E5 (p := ⟨g4, 2, none⟩) b0W.out NB.out _) N2.out (by simp)); have a8F := a_ (hb w (by repeat (first | with_reducible exact HB9.out | with_reducible refine o8 ?_ GE4.out)) LA.out); have I10 : Aside0 (y8.Inv w10 w.heap.size A8 l4.length c8 o1 20 gb ga gg) := ⟨hI⟩; clear hI hk hb b0V b0W HB9 I9; have f9K := bc0 a9R; have f9L := l7 a9R.out 0; have f9M := bc1 a9R; have f9N := l7 a9R.out 1; have f9O := bc2 a9R; have f9P := l7 a9R.out 2; have f9Q := bc3 a9R; have f9R := l7 a9R.out 3; have f9S := bc0 a8I; have f9T := l7 a8I.out 0; have f9U := bc1 a8I; have f9V := l7 a8I.out 1; have f9W := bc2 a8I; have f9X := l7 a8I.out 2; have f9Y := bc3 a8I; have f9Z := l7 a8I.out 3; have n24 : g2 ≠ g4 := NB.out; have n42 : g4 ≠ g2 := NB.out.symm
     go_wp2_with (fail)
     have E2 := a_ (E5 (p := ⟨g4, 3, none⟩) a8I.out NB.out (.int .u32 t6)); refine bodyPost_ret (a0C rfl _ _ g2 46 #[.bool o1, .bool o2, .int .u32 t5, .int .u32 t6] (0, 0) _ rfl (l9 (l9 (l9 (l9 E2.out 0 _ rfl) 1 _ rfl) 2 _ rfl) 3 _ rfl) Tryd.underlying46 rfl (by kernel_rfl)) rfl ?_; exact ⟨rfl, by repeat (first | with_reducible exact a8F.out | with_reducible refine o8 ?_ GE2.out | with_reducible refine o8 ?_ GE4.out)⟩
    ·rw [if_pos (by simpa using c5)] at h
     simp only [Option.some.injEq, Prod.mk.injEq] at h
     obtain ⟨rfl, rfl, rfl, rfl, rfl⟩ := h; have c5b : (t1 == 2) = false := by simpa using c5
     have c5c : (t1 != 2) = true := by simpa using c5
     clear c5 H; have n24 : g2 ≠ g4 := NB.out; have n42 : g4 ≠ g2 := NB.out.symm
     go_wp2_with (fail)
     refine bodyPost_ret (a0C rfl _ _ g2 46 #[.bool false, .bool false, .int .u32 0, .int .u32 0] (0, 0) _ rfl (l9 (l9 (l9 (l9 a9Q.out 0 _ rfl) 1 _ rfl) 2 _ rfl) 3 _ rfl) Tryd.underlying46 rfl (by kernel_rfl)) rfl ?_; exact ⟨rfl, by repeat (first | with_reducible exact HB5.out | with_reducible refine o8 ?_ GE2.out)⟩
def a18.f (l0 : List Int) (a1 : Int) (a2 : Int) : Option (List Int × Bool) := if a1 < 0 then (some (([] : List Int), false)) else (if a2 < 0 then (some (([] : List Int), false)) else (if a1 > (l0.length : Int) then (some (([] : List Int), false)) else (if a2 > (wrap64 ((l0.length : Int) - a1)) then (some (([] : List Int), false)) else (if 0 ≤ a1 then (if a1 ≤ (wrap64 (a1 + a2)) then (if (wrap64 (a1 + a2)) ≤ (l0.length : Int) then ((N8.f ((l0.take ((wrap64 (a1 + a2)) : Int).toNat).drop (a1 : Int).toNat)).bind fun e3e => (some (e3e, true))) else (none)) else (none)) else (none)))))
theorem a18.calls (A0 : Option Addr) (c0 : Nat) (l0 : List Int) (a1 : Int) (a2 : Int) (r1 : List Int) (r2 : Bool) (w : World) (hr0 : Kd.C (Kd.int .u8) w A0 l0.length l0) (hc0 : l0.length ≤ c0) (h : a18.f l0 a1 a2 = some (r1, r2)) :
  Calls Tryd.prog 80 #[.slice A0 l0.length c0, .int .i64 a1, .int .i64 a2] w fun e w' => ∃ v0_ : Value, e = .returned (.tuple #[v0_, .bool r2]) ∧ Kd.R (Kd.int .u8) 5 w' w.heap.size (fun _ => True) v0_ r1 ∧ Below w.heap.size w w' := by
 have HR0 := a_ hr0
 have HC0 := a_ hc0
 clear hr0 hc0
 have HB := a_ (Below.refl w.heap.size w)
 have H := h
 clear h
 unfold a18.f at H
 by_cases c4 : a1 < 0
 ·rw [if_pos c4] at H; have a3x := dt_ c4; clear c4; obtain ⟨rfl, rfl⟩ := s2_ H
  go_enter Tryd.func80, Tryd.ntmps80
  go_wp2
  go_ret2
  exact ⟨_, by (rfl), by (exact Kd.Y4 _ _ _ _ _), by exact HB.out⟩
 ·rw [if_neg c4] at H; have a3x := df_ c4; clear c4
  by_cases c5 : a2 < 0
  ·rw [if_pos c5] at H; have a7h := dt_ c5; clear c5; obtain ⟨rfl, rfl⟩ := s2_ H
   go_enter Tryd.func80, Tryd.ntmps80
   go_wp2
   go_ret2
   exact ⟨_, by (rfl), by (exact Kd.Y4 _ _ _ _ _), by exact HB.out⟩
  ·rw [if_neg c5] at H; have a7h := df_ c5; clear c5
   by_cases c6 : a1 > (l0.length : Int)
   ·rw [if_pos c6] at H; have a5Y : decide ((l0.length : Int) < a1) = true := dt_ c6; clear c6; obtain ⟨rfl, rfl⟩ := s2_ H
    go_enter Tryd.func80, Tryd.ntmps80
    go_wp2
    go_ret2
    exact ⟨_, by (rfl), by (exact Kd.Y4 _ _ _ _ _), by exact HB.out⟩
   ·rw [if_neg c6] at H; have a5Y : decide ((l0.length : Int) < a1) = false := df_ c6; clear c6
    by_cases c7 : a2 > (wrap64 ((l0.length : Int) - a1))
    ·rw [if_pos c7] at H; have a5H : decide ((wrap64 ((l0.length : Int) - a1)) < a2) = true := dt_ c7; clear c7; obtain ⟨rfl, rfl⟩ := s2_ H
     go_enter Tryd.func80, Tryd.ntmps80
     go_wp2
     go_ret2
     exact ⟨_, by (rfl), by (exact Kd.Y4 _ _ _ _ _), by exact HB.out⟩
    ·rw [if_neg c7] at H; have a5H : decide ((wrap64 ((l0.length : Int) - a1)) < a2) = false := df_ c7; clear c7; have c8 := X4 H; replace H := O6 H; have a9G := eq_true c8; have c9t := dt_ c8; clear c8; have c9 := X4 H; replace H := O6 H; have a6P := eq_true c9; have b1o := dt_ c9; have c10 := X4 H; replace H := O6 H; have b2j := eq_true c10; have c08 := dt_ c10; obtain ⟨e3e, A11, H⟩ := bd_ H
     (try dsimp only at H); obtain ⟨rfl, rfl⟩ := s2_ H; obtain ⟨f98, c1t, _, c1u, _⟩ := info_parts info5; obtain ⟨A12, e3f, d2i, d2j⟩ := b1T (P := Tryd.prog) (Value.int .u8) 0 22 5 .i64 .i64 Tryd.underlying22 c1t c1u A0 c0 l0 a1 (wrap64 (a1 + a2)) (U9) (by omega) (U9) HC0.out; have e7Z := ci_ (Kd.a2a (h1 := fun _ => rfl) (d2i _ (Kd.a1L HR0.out))); have e70 := a_ d2j; clear d2i d2j c1t c1u
     go_enter Tryd.func80, Tryd.ntmps80
     go_wp2_with (first | (refine gl_ (some 34) Tryd.func96 #[.slice A12 ((l0.take ((wrap64 (a1 + a2)) : Int).toNat).drop (a1 : Int).toNat).length (c0 - a1.toNat)] ?_ (hargs := by (try simp only [List.map_toArray, List.map_cons, List.map_nil]); (rw [show ((l0.take ((wrap64 (a1 + a2)) : Int).toNat).drop (a1 : Int).toNat).length = ((wrap64 (a1 + a2)).toNat - a1.toNat) from (by rw [List.length_drop, List.length_take]; have h_ : ((wrap64 (a1 + a2)) : Int) ≤ (l0.length : Int) := U9; omega)] <;> rfl)); (with_reducible refine (N8.calls _ _ ((l0.take ((wrap64 (a1 + a2)) : Int).toNat).drop (a1 : Int).toNat) e3e _ e7Z.out e70.out A11.out).mono ?_); rintro e w13 ⟨g7X, rfl, ho0, hb⟩; refine ⟨_, rfl, ?_⟩; have e71 := rl_ ho0 HB; replace HB := Q8 HB hb; (try clear hb); (try clear ho0)))
     go_ret2
     exact ⟨_, by (rfl), by exact e71.out, by exact HB.out⟩
def a4L.f (k : Nat) (l0 : List Int) (a1 : Bool) : Option (Int × Int × Int × List Int × Int × Int) :=
 if (l0.length : Int) < 16 then some (0, 0, 0, ([] : List Int), 0, 2) else
 (y8.num k l0 a1 0 4).bind fun t1 => (y8.num k l0 a1 4 4).bind fun t2 => (y8.num k l0 a1 8 4).bind fun t3 => (y8.num k l0 a1 12 4).bind fun t4 =>
  if t3 > 131072 then some (0, 0, 0, ([] : List Int), 0, 4) else
  (a18.f l0 16 t3).bind fun c => if c.2 = true then some (t1, t2, t4, c.1, 16 + t3, 0) else some (0, 0, 0, ([] : List Int), 0, 2)
theorem a4L.calls (k : Nat) (A0 : Option Addr) (c0 : Nat) (l0 : List Int) (a1 : Bool) (r1 : Int) (r2 : Int) (r3 : Int) (r4 : List Int) (r5 : Int) (r6 : Int) (w : World) (hr0 : Kd.C (Kd.int .u8) w A0 l0.length l0) (hc0 : l0.length ≤ c0) (h : a4L.f k l0 a1 = some (r1, r2, r3, r4, r5, r6)) :
  Calls Tryd.prog 62 #[.slice A0 l0.length c0, .bool a1] w fun e w' => ∃ v3_ : Value, e = .returned (.tuple #[.agg #[.int .u32 r1, .int .u32 r2, .int .u32 r3, v3_], .int .i64 r5, .int .i64 r6]) ∧ Kd.R (Kd.int .u8) 5 w' w.heap.size (fun _ => True) v3_ r4 ∧ Below w.heap.size w w' := by
 have c3q := Tryd.underlying51
 unfold a4L.f at h
 have HR0 := a_ hr0
 have HC0 := a_ hc0
 have HW := a_ (Below.refl w.heap.size w)
 by_cases c1 : (l0.length : Int) < 16
 ·rw [if_pos c1] at h
  simp only [Option.some.injEq, Prod.mk.injEq] at h
  obtain ⟨rfl, rfl, rfl, rfl, rfl, rfl⟩ := h; have c1b := dt_ c1; clear c1 hr0 hc0
  go_enter Tryd.func62, Tryd.ntmps62
  go_wp2_with ((refine be_ 4 #[.int .u32 0, .int .u32 0, .int .u32 0, .slice none 0 0] 51 ?_; intro g4 hg w1 hbox hb; have BK4 := a_ hbox; have HB1 := Q8 HW hb; have GE4 : Aside0 (w.heap.size ≤ g4) := ⟨by rw [hg]; exact Nat.le_refl _⟩; clear hg hbox hb; obtain ⟨b6N, b6P, b6R, b6T, b6O, b6Q, b6S, b6U⟩ := blk4 BK4.out))
  refine bodyPost_ret (a2p rfl _ _ g4 51 #[.int .u32 0, .int .u32 0, .int .u32 0, .slice none 0 0] (0, 0) _ rfl (l9 (l9 (l9 (l9 BK4.out 0 _ rfl) 1 _ rfl) 2 _ rfl) 3 _ rfl) Tryd.underlying51 rfl (by kernel_rfl)) rfl ?_; exact ⟨_, rfl, Kd.Y4 _ _ _ _ _, by repeat (first | exact HB1.out | refine o8 ?_ GE4.out)⟩
 ·rw [if_neg c1] at h; replace h := Option.bind_eq_some_iff.1 h; obtain ⟨t1, h1, h⟩ := h; replace h := Option.bind_eq_some_iff.1 h; obtain ⟨t2, h2, h⟩ := h; replace h := Option.bind_eq_some_iff.1 h; obtain ⟨t3, h3, h⟩ := h; replace h := Option.bind_eq_some_iff.1 h; obtain ⟨t4, h4, h⟩ := h; have c1b := df_ c1; have hlen : 16 ≤ (l0.length : Int) := by omega
  have r30 := (y8.range h3).1; have r31 := (y8.range h3).2; have HL := a_ hlen; have H1 := a_ h1; have H2 := a_ h2; have H3 := a_ h3; have H4 := a_ h4; have H := a_ h; clear h1 h2 h3 h4 h c1 hr0 hc0
  go_enter Tryd.func62, Tryd.ntmps62
  go_wp2_with ((refine be_ 4 #[.int .u32 0, .int .u32 0, .int .u32 0, .slice none 0 0] 51 ?_; intro g4 hg w1 hbox hb; have BK4 := a_ hbox; have HB1 := Q8 HW hb; have GE4 : Aside0 (w.heap.size ≤ g4) := ⟨by rw [hg]; exact Nat.le_refl _⟩; clear hg hbox hb; obtain ⟨b6N, b6P, b6R, b6T, b6O, b6Q, b6S, b6U⟩ := blk4 BK4.out))
  refine (y8.calls A0 l0.length c0 a1 _).mono ?_; rintro e w2 ⟨gb, ga, gg, rfl, hI2, hb2⟩; have d2k := X8 BK4 hb2; have HB2 := Q8 HB1 hb2; have LA := a_ (Nat.le_trans (o9 HB1.out) hI2.la); have I2 := a_ (hI2.lower (o9 HB1.out)); have NB4 : Aside0 (g4 ≠ ga) := ⟨a4V d2k.out hI2.ha (by decide)⟩; clear hI2 hb2 BK4 HB1
  go_wp2_with (fail)
  refine (y8.next k A0 l0 c0 a1 0 4 t1 _ gb ga gg _ I2.out (Kd.E8 HR0.out HB2.out) HC0.out (by omega) (by omega) (by have := HL.out; omega) H1.out).mono ?_; rintro e w3 ⟨rfl, hI3, hk3, hb3⟩; have d2l := a_ (hk3.blk d2k.out NB4.out (by simp)); have HB3 := a_ (hb3 w HB2.out LA.out); have I3 : Aside0 (y8.Inv w3 w.heap.size A0 l0.length c0 a1 4 gb ga gg) := ⟨hI3⟩; clear hI3 hk3 hb3 d2k HB2 I2
  go_wp2_with ((refine be_ 8 #[.int .u32 0, .int .u32 0, .int .u32 0, .slice none 0 0] 51 ?_; intro g8 hg w4 hbox hb; have BK8 := a_ hbox; have GE8 : Aside0 (w.heap.size ≤ g8) := ⟨by rw [hg]; exact o9 HB3.out⟩; have c1w : Aside0 (g4 ≠ g8) := ⟨by rw [hg]; exact Nat.ne_of_lt (a0B d2l.out)⟩; have b2t := X8 d2l hb; have I4 := a_ (I3.out.below hb); have HB4 := Q8 HB3 hb; have N8b : Aside0 (gb ≠ g8) := ⟨a4V I4.out.hb BK8.out (by decide)⟩; have N8a : Aside0 (ga ≠ g8) := ⟨a4V I4.out.ha BK8.out (by decide)⟩; have N8g : Aside0 (gg ≠ g8) := ⟨a4V I4.out.hg BK8.out (by decide)⟩; clear hg hbox hb d2l HB3 I3; obtain ⟨e0w, e0x, e0z, b75, c5B, e0y, e0A, e0B⟩ := blk4 BK8.out))
  refine (y8.next k A0 l0 c0 a1 4 4 t2 w.heap.size gb ga gg _ (by repeat (first | exact I4.out | refine y8.Inv.far ?_ N8b.out N8a.out N8g.out _)) (Kd.E8 HR0.out (by repeat (first | exact HB4.out | refine o8 ?_ GE8.out))) HC0.out (by omega) (by omega) (by have := HL.out; omega) H2.out).mono ?_; rintro e w5 ⟨rfl, hI, hk, hb⟩; have b0X := a_ (hk.blk (o := .cells #[.int .u32 t1, .int .u32 0, .int .u32 0, .slice none 0 0] 51 (0, 0)) (g' := g8) (l9 (l9 (l9 (l9 BK8.out 0 _ rfl) 1 _ rfl) 2 _ rfl) 3 _ rfl) N8a.out.symm (by simp)); have a7W := a_ (hk.blk (o := .cells #[.int .u32 0, .int .u32 0, .int .u32 0, .slice none 0 0] 51 (0, 0)) (g' := g4) (by repeat (first | exact b2t.out | refine E5 ?_ c1w.out _)) NB4.out (by simp)); have HB5 := a_ (hb w (by repeat (first | exact HB4.out | refine o8 ?_ GE8.out)) LA.out); have I5 : Aside0 (y8.Inv w5 w.heap.size A0 l0.length c0 a1 8 gb ga gg) := ⟨hI⟩; clear hI hk hb BK8 b2t HB4 I4; have g0a := bc0 b0X; have g0b := l7 b0X.out 0; have g0c := bc1 b0X; have g0d := l7 b0X.out 1; have g0e := bc2 b0X; have g0f := l7 b0X.out 2; have g0g := bc3 b0X; have g0h := l7 b0X.out 3
  go_wp2_with (fail)
  refine (y8.next k A0 l0 c0 a1 8 4 t3 w.heap.size gb ga gg _ (by repeat (first | exact I5.out | refine y8.Inv.far ?_ N8b.out N8a.out N8g.out _)) (Kd.E8 HR0.out (by repeat (first | exact HB5.out | refine o8 ?_ GE8.out))) HC0.out (by omega) (by omega) (by have := HL.out; omega) H3.out).mono ?_; rintro e w6 ⟨rfl, hI, hk, hb⟩; have b0Y := a_ (hk.blk (o := .cells #[.int .u32 t1, .int .u32 t2, .int .u32 0, .slice none 0 0] 51 (0, 0)) (g' := g8) (l9 b0X.out 1 _ rfl) N8a.out.symm (by simp)); have a7X := a_ (hk.blk (o := .cells #[.int .u32 0, .int .u32 0, .int .u32 0, .slice none 0 0] 51 (0, 0)) (g' := g4) (by repeat (first | exact a7W.out | refine E5 ?_ c1w.out _)) NB4.out (by simp)); have HB6 := a_ (hb w (by repeat (first | exact HB5.out | refine o8 ?_ GE8.out)) LA.out); have I6 : Aside0 (y8.Inv w6 w.heap.size A0 l0.length c0 a1 12 gb ga gg) := ⟨hI⟩; clear hI hk hb b0X a7W HB5 I5; have g0i := bc0 b0Y; have g0j := l7 b0Y.out 0; have g0k := bc1 b0Y; have g0l := l7 b0Y.out 1; have g0m := bc2 b0Y; have g0n := l7 b0Y.out 2; have g0o := bc3 b0Y; have g0p := l7 b0Y.out 3
  go_wp2_with (fail)
  refine (y8.next k A0 l0 c0 a1 12 4 t4 w.heap.size gb ga gg _ I6.out (Kd.E8 HR0.out HB6.out) HC0.out (by omega) (by omega) (by have := HL.out; omega) H4.out).mono ?_; rintro e w7 ⟨rfl, hI, hk, hb⟩; have b2u := a_ (hk.blk b0Y.out N8a.out.symm (by simp)); have a4n := a_ (hk.blk a7X.out NB4.out (by simp)); have HB7 := a_ (hb w HB6.out LA.out); clear hI hk hb b0Y a7X HB6 I6; have g0q := bc0 b2u; have g0r := l7 b2u.out 0; have g0s := bc1 b2u; have g0t := l7 b2u.out 1; have g0u := bc2 b2u; have g0v := l7 b2u.out 2; have g0w := bc3 b2u; have g0x := l7 b2u.out 3; have e2V := bc0 a4n; have e2W := l7 a4n.out 0; have e2X := bc1 a4n; have e2Y := l7 a4n.out 1; have e2Z := bc2 a4n; have e3a := l7 a4n.out 2; have e3c := bc3 a4n; have e3d := l7 a4n.out 3; have n48 : g4 ≠ g8 := c1w.out; have n84 : g8 ≠ g4 := c1w.out.symm
  by_cases c2 : t3 > 131072
  ·have h := H.out; rw [if_pos c2] at h
   simp only [Option.some.injEq, Prod.mk.injEq] at h
   obtain ⟨rfl, rfl, rfl, rfl, rfl, rfl⟩ := h; have c2b : decide (131072 < t3) = true := dt_ c2
   go_wp2_with (fail)
   refine bodyPost_ret (a2p rfl _ _ g4 51 #[.int .u32 0, .int .u32 0, .int .u32 0, .slice none 0 0] (0, 0) _ rfl (l9 (l9 (l9 (l9 (E5 a4n.out c1w.out _) 0 _ rfl) 1 _ rfl) 2 _ rfl) 3 _ rfl) Tryd.underlying51 rfl (by kernel_rfl)) rfl ?_; exact ⟨_, rfl, Kd.Y4 _ _ _ _ _, by repeat (first | exact HB7.out | refine o8 ?_ GE4.out | refine o8 ?_ GE8.out)⟩
  ·have h := H.out; rw [if_neg c2] at h; obtain ⟨⟨d1, d2⟩, h5, h6⟩ := Option.bind_eq_some_iff.1 h; have H5 := a_ h5; have c2b : decide (131072 < t3) = false := df_ c2; have r32 : t3 ≤ 131072 := by omega
   cases d2 with
   | false =>
    simp only [Bool.false_eq_true, if_false, Option.some.injEq, Prod.mk.injEq] at h6
    obtain ⟨rfl, rfl, rfl, rfl, rfl, rfl⟩ := h6; clear h h5 c2
    go_wp2_with (fail)
    refine (a18.calls A0 c0 l0 16 t3 d1 false _ (Kd.E8 HR0.out (by repeat (first | exact HB7.out | refine o8 ?_ GE8.out))) HC0.out H5.out).mono ?_; rintro e w8 ⟨v, rfl, hv, hb⟩; have a2L := a_ (Q5 (g := g4) (o := .cells #[.int .u32 0, .int .u32 0, .int .u32 0, .slice none 0 0] 51 (0, 0)) (by repeat (first | exact a4n.out | refine E5 ?_ c1w.out _)) hb); have HB8 := a_ (L8 (by repeat (first | exact HB7.out | refine o8 ?_ GE8.out)) hb); clear hv hb; have d2a := bc0 a2L; have d2b := l7 a2L.out 0; have d2c := bc1 a2L; have d2d := l7 a2L.out 1; have d2e := bc2 a2L; have d2f := l7 a2L.out 2; have d2g := bc3 a2L; have d2h := l7 a2L.out 3
    go_wp2_with (fail)
    refine bodyPost_ret (a2p rfl _ _ g4 51 #[.int .u32 0, .int .u32 0, .int .u32 0, .slice none 0 0] (0, 0) _ rfl (l9 (l9 (l9 (l9 a2L.out 0 _ rfl) 1 _ rfl) 2 _ rfl) 3 _ rfl) Tryd.underlying51 rfl (by kernel_rfl)) rfl ?_; exact ⟨_, rfl, Kd.Y4 _ _ _ _ _, by repeat (first | exact HB8.out | refine o8 ?_ GE4.out)⟩
   | true =>
    simp only [if_true, Option.some.injEq, Prod.mk.injEq] at h6
    obtain ⟨rfl, rfl, rfl, rfl, rfl, rfl⟩ := h6; clear h h5 c2
    go_wp2_with (fail)
    refine (a18.calls A0 c0 l0 16 t3 d1 true _ (Kd.E8 HR0.out (by repeat (first | exact HB7.out | refine o8 ?_ GE8.out))) HC0.out H5.out).mono ?_; rintro e w8 ⟨v, rfl, hv, hb⟩; obtain ⟨Av, cv, rfl⟩ := Kd.H6 hv; have a2L := a_ (Q5 (g := g4) (o := .cells #[.int .u32 0, .int .u32 0, .int .u32 0, .slice none 0 0] 51 (0, 0)) (by repeat (first | exact a4n.out | refine E5 ?_ c1w.out _)) hb); have b2v := a_ (Q5 (g := g8) (o := .cells #[.int .u32 t1, .int .u32 t2, .int .u32 t4, .slice none 0 0] 51 (0, 0)) (l9 b2u.out 2 _ rfl) hb); have HB8 := a_ (L8 (by repeat (first | exact HB7.out | refine o8 ?_ GE8.out)) hb); have HO := a_ (Kd.X3 hv (o9 (by repeat (first | exact HB7.out | refine o8 ?_ GE8.out)))); clear hv hb; have d2a := bc0 a2L; have d2b := l7 a2L.out 0; have d2c := bc1 a2L; have d2d := l7 a2L.out 1; have d2e := bc2 a2L; have d2f := l7 a2L.out 2; have d2g := bc3 a2L; have d2h := l7 a2L.out 3; have g0y := bc0 b2v; have g0z := l7 b2v.out 0; have g0A := bc1 b2v; have g0B := l7 b2v.out 1; have g0C := bc2 b2v; have g0D := l7 b2v.out 2; have g0E := bc3 b2v; have g0F := l7 b2v.out 3
    go_wp2_with (fail)
    have B0 := a_ (E5 (p := ⟨g8, 3, none⟩) a2L.out c1w.out (.slice Av d1.length cv)); have B1 := a_ (l9 B0.out 0 (.int .u32 t1) (cs' := #[.int .u32 t1, .int .u32 0, .int .u32 0, .slice none 0 0]) rfl); have B2 := a_ (l9 B1.out 1 (.int .u32 t2) (cs' := #[.int .u32 t1, .int .u32 t2, .int .u32 0, .slice none 0 0]) rfl); have B3 := a_ (l9 B2.out 2 (.int .u32 t4) (cs' := #[.int .u32 t1, .int .u32 t2, .int .u32 t4, .slice none 0 0]) rfl); have B4 := a_ (l9 B3.out 3 (.slice Av d1.length cv) (cs' := #[.int .u32 t1, .int .u32 t2, .int .u32 t4, .slice Av d1.length cv]) rfl); have O0 := a_ (Kd.b7J HO.out b2v.out (by decide) 3 (.slice Av d1.length cv)); have O1 := a_ (Kd.b7J O0.out B0.out (by decide) 0 (.int .u32 t1)); have O2 := a_ (Kd.b7J O1.out B1.out (by decide) 1 (.int .u32 t2)); have O3 := a_ (Kd.b7J O2.out B2.out (by decide) 2 (.int .u32 t4)); have O4 := a_ (Kd.b7J O3.out B3.out (by decide) 3 (.slice Av d1.length cv)); refine bodyPost_ret (a2p rfl _ _ g4 51 #[.int .u32 t1, .int .u32 t2, .int .u32 t4, .slice Av d1.length cv] (0, 0) _ rfl B4.out Tryd.underlying51 rfl (by kernel_rfl)) rfl ?_; exact ⟨_, rfl, O4.out, by repeat (first | exact HB8.out | refine o8 ?_ GE4.out | refine o8 ?_ GE8.out)⟩
def a4H.f (l0 : List Int) : Option (Int × Int) := if (l0.length : Int) = 0 then (some (0, 2)) else (if 0 < (l0.length : Int) then (if (rd l0 0) = 255 then (if (l0.length : Int) = 1 then (some (0, 2)) else (if 1 < (l0.length : Int) then (if (rd l0 1) = 3 then (some (2, 0)) else (some (0, 3))) else (none))) else (some (0, 0))) else (none))
theorem a4H.calls (A0 : Option Addr) (c0 : Nat) (l0 : List Int) (r1 : Int) (r2 : Int) (w : World) (hr0 : Kd.C (Kd.int .u8) w A0 l0.length l0) (hc0 : l0.length ≤ c0) (h : a4H.f l0 = some (r1, r2)) :
  Calls Tryd.prog 97 #[.slice A0 l0.length c0] w fun e w' => e = .returned (.tuple #[.int .i64 r1, .int .i64 r2]) ∧ G6 w w' := by
 have HR0 := a_ hr0
 have HC0 := a_ hc0
 clear hr0 hc0
 have H := h
 clear h
 unfold a4H.f at H
 by_cases c2 : (l0.length : Int) = 0
 ·rw [if_pos c2] at H; obtain ⟨a7Y, c1x⟩ := bt_ c2; clear c2; obtain ⟨rfl, rfl⟩ := s2_ H
  go_enter Tryd.func97, Tryd.ntmps97
  go_wp2
  go_ret2
  exact ⟨by (rfl), by exact G6.refl _⟩
 ·rw [if_neg c2] at H; have a7Y := bq_ c2; have c1x := bn_ c2; have e74 : ¬ (l0 = []) := fun h_ => c2 (by rw [h_]; rfl)
  have c3 := X4 H; replace H := O6 H; have a3w := dt_ c3; have b1t : decide (0 < l0.length) = true := dt_ (by omega); clear c3
  by_cases c4 : (rd l0 0) = 255
  ·rw [if_pos c4] at H; obtain ⟨a3x, a9S⟩ := bt_ c4; clear c4
   by_cases c5 : (l0.length : Int) = 1
   ·rw [if_pos c5] at H; obtain ⟨a7h, b3X⟩ := bt_ c5; clear c5; obtain ⟨rfl, rfl⟩ := s2_ H; have b1v : 0 ≤ (0 : Int) := (by omega); have b1w : 0 < (l0.length : Int) := U9; obtain ⟨c1y, e126, a5e⟩ := Kd.a0x HR0.out 0 b1v b1w
    cases e126
    have d2m : (0 < l0.length) = True := eq_true (by omega)
    (try rw [show (0 : Int).toNat = 0 from rfl] at a5e)
    (try rw [Addr.add_zero'] at a5e)
    replace b1v := eq_true b1v; replace b1w := eq_true b1w
    go_enter Tryd.func97, Tryd.ntmps97
    go_wp2
    go_ret2
    exact ⟨by (rfl), by exact G6.refl _⟩
   ·rw [if_neg c5] at H; have a7h := bq_ c5; have b3X := bn_ c5; have c6 := X4 H; replace H := O6 H; have a5Y := dt_ c6; have b2w : decide (1 < l0.length) = true := dt_ (by omega); clear c6
    by_cases c7 : (rd l0 1) = 3
    ·rw [if_pos c7] at H; obtain ⟨a5H, b3Y⟩ := bt_ c7; clear c7; obtain ⟨rfl, rfl⟩ := s2_ H; have b1v : 0 ≤ (0 : Int) := (by omega); have b1w : 0 < (l0.length : Int) := U9; obtain ⟨c1y, e126, a5e⟩ := Kd.a0x HR0.out 0 b1v b1w
     cases e126
     have d2m : (0 < l0.length) = True := eq_true (by omega)
     (try rw [show (0 : Int).toNat = 0 from rfl] at a5e)
     (try rw [Addr.add_zero'] at a5e)
     replace b1v := eq_true b1v; replace b1w := eq_true b1w; have c3z : 0 ≤ (1 : Int) := (by omega); have c3A : 1 < (l0.length : Int) := U9; obtain ⟨d2n, e127, b88⟩ := Kd.a0x HR0.out 1 c3z c3A; obtain rfl : c1y = d2n := (by injection e127)
     (try simp only [show (1 : Int).toNat = 1 from rfl, Nat.reduceMul, Nat.reduceEqDiff, Go.Addr.add, ↓reduceIte] at b88)
     have e75 : (1 < l0.length) = True := eq_true (by omega); replace c3z := eq_true c3z; replace c3A := eq_true c3A
     go_enter Tryd.func97, Tryd.ntmps97
     go_wp2
     go_ret2
     exact ⟨by (rfl), by exact G6.refl _⟩
    ·rw [if_neg c7] at H; have a5H := bq_ c7; have b3Y := bn_ c7; obtain ⟨rfl, rfl⟩ := s2_ H; have b1v : 0 ≤ (0 : Int) := (by omega); have b1w : 0 < (l0.length : Int) := U9; obtain ⟨c1y, e126, a5e⟩ := Kd.a0x HR0.out 0 b1v b1w
     cases e126
     have d2m : (0 < l0.length) = True := eq_true (by omega)
     (try rw [show (0 : Int).toNat = 0 from rfl] at a5e)
     (try rw [Addr.add_zero'] at a5e)
     replace b1v := eq_true b1v; replace b1w := eq_true b1w; have c3z : 0 ≤ (1 : Int) := (by omega); have c3A : 1 < (l0.length : Int) := U9; obtain ⟨d2n, e127, b88⟩ := Kd.a0x HR0.out 1 c3z c3A; obtain rfl : c1y = d2n := (by injection e127)
     (try simp only [show (1 : Int).toNat = 1 from rfl, Nat.reduceMul, Nat.reduceEqDiff, Go.Addr.add, ↓reduceIte] at b88)
     have e75 : (1 < l0.length) = True := eq_true (by omega); replace c3z := eq_true c3z; replace c3A := eq_true c3A
     go_enter Tryd.func97, Tryd.ntmps97
     go_wp2
     go_ret2
     exact ⟨by (rfl), by exact G6.refl _⟩
  ·rw [if_neg c4] at H; have a3x := bq_ c4; have a9S := bn_ c4; obtain ⟨rfl, rfl⟩ := s2_ H; have b1v : 0 ≤ (0 : Int) := (by omega); have b1w : 0 < (l0.length : Int) := U9; obtain ⟨c1y, e126, a5e⟩ := Kd.a0x HR0.out 0 b1v b1w
   cases e126
   have d2m : (0 < l0.length) = True := eq_true (by omega)
   (try rw [show (0 : Int).toNat = 0 from rfl] at a5e)
   (try rw [Addr.add_zero'] at a5e)
   replace b1v := eq_true b1v; replace b1w := eq_true b1w
   go_enter Tryd.func97, Tryd.ntmps97
   go_wp2
   go_ret2
   exact ⟨by (rfl), by exact G6.refl _⟩
end Go.Proofs.YtgnonglkibhnhaaDoor.Print
