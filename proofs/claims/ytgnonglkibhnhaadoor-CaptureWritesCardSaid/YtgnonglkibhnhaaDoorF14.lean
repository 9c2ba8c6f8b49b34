import Derived.Test.YtgnonglkibhnhaaDoorF29
import Derived.Test.YtgnonglkibhnhaaDoorM5
namespace Go.Proofs.YtgnonglkibhnhaaDoor.Print
open Go.RowKit Go.Proofs.YtgnonglkibhnhaaDoorW.PrintWords Go.Proofs.YtgnonglkibhnhaaDoorW.PrintLast Go.Proofs.YtgnonglkibhnhaaDoorW.PrintMore
attribute [local go_sem] a0d a0e a0V a0W X5 X6 a0f a0g
set_option linter.unusedVariables false
set_option linter.unusedSimpArgs false

/-! ### capture_Write: function 14 -/
attribute [local go_sem high] b2m b0M b0N b2n b0O b0P b7E
def capture_Write.f (k : Nat) (l0 : List (S42)) (a1 : Int) (a05 a06 a07 a08 : Int) (a09 a1a : ByteArray) (a0y Y7 : Int) (Y1 : Bool) : Option ((List Int) × Int) :=
 if a1 = 1 then (H7.go l0 0).bind fun i => if 0 ≤ i then some ([], 1) else F8.f k 0 0 l0
 else if a1 = 2 then (H7.go l0 0).bind fun i => if 0 ≤ i then some ([], 1) else capture_notes_write.f k l0 Y7 Y1
 else some ([], 7)
set_option maxHeartbeats 8000000 in
set_option maxRecDepth 100000 in
theorem capture_Write.calls (k : Nat) (A0 : Option Addr) (c0 : Nat) (l0 : List (S42)) (a1 : Int) (a05 a06 a07 a08 : Int) (a09 a1a : ByteArray) (a0y Y7 : Int) (Y1 : Bool) (r1 : List Int) (r2 : Int) (w : World) (hG0 : Kd.C b1a w (some ⟨0, 0, none⟩) 8 G7) (hr0 : Kd.C k42 w A0 l0.length l0) (hc0 : l0.length ≤ c0) (h : capture_Write.f k l0 a1 a05 a06 a07 a08 a09 a1a a0y Y7 Y1 = some (r1, r2)) :
  Calls Tryd.prog 14 #[.slice A0 l0.length c0, .int .i64 a1, .agg #[.int .i64 a05, .int .i64 a06, .int .i64 a07, .int .i64 a08, .string a09, .string a1a, .int .i64 a0y, .int .u32 Y7, .bool Y1]] w fun e w' => ∃ v0_ : Value, e = .returned (.tuple #[v0_, .int .i64 r2]) ∧ Kd.R (Kd.int .u8) 5 w' w.heap.size (fun _ => True) v0_ r1 ∧ Below w.heap.size w w' := by
 have c3k := Tryd.underlying25
 have e2w := Tryd.underlying65
 have e2x := Tryd.underlying67
 have HG0 := a_ hG0
 have HR0 := a_ hr0
 have HC0 := a_ hc0
 have HB := a_ (Below.refl w.heap.size w)
 have HH := a_ h
 clear hG0 hr0 hc0 h
 by_cases e1 : a1 = 1
 ·subst e1; have h := HH.out; rw [capture_Write.f, if_pos rfl] at h; obtain ⟨i, hi, h⟩ := Option.bind_eq_some_iff.1 h; have HI := a_ hi; clear HH hi
  by_cases hp : 0 ≤ i
  ·rw [if_pos hp] at h
   simp only [Option.some.injEq, Prod.mk.injEq] at h
   obtain ⟨rfl, rfl⟩ := h; have hd : decide (0 ≤ i) = true := dt_ hp
   go_enter Tryd.func14, Tryd.ntmps14
   go_wp2_with (first | (refine be_ 5 #[.int .i64 a05, .int .i64 a06, .int .i64 a07, .int .i64 a08, .string a09, .string a1a, .int .i64 a0y, .int .u32 Y7, .bool Y1] 25 ?_; intro g5 hg w5 hbox hb; have HB5 := Q8 HB hb; have BK5 := a_ hbox; clear hg hbox hb) | (go_at_call 22; refine (F5.calls 1 _).mono ?_; rintro e w8 ⟨he, hb⟩; rw [show F5.form (F5.at 1) = .iface 65 (.agg #[]) from rfl] at he; subst he; have HB8 := Q8 HB5 hb; have a7T := X8 BK5 hb; clear hb) | (go_at_call 27; refine (a1U.calls A0 c0 l0 i _ (Kd.E8 HR0.out HB8.out) HC0.out HI.out).mono ?_; rintro e w9 ⟨rfl, hb⟩; have HB9 := Q8 HB8 hb; have b0A := X8 a7T hb; clear hb))
   go_ret2
   exact ⟨_, rfl, Kd.Y4 _ _ _ _ _, HB9.out⟩
  ·rw [if_neg hp] at h; have HT := a_ h; have hd : decide (0 ≤ i) = false := df_ hp; clear h
   go_enter Tryd.func14, Tryd.ntmps14
   go_wp2_with (first | (refine be_ 5 #[.int .i64 a05, .int .i64 a06, .int .i64 a07, .int .i64 a08, .string a09, .string a1a, .int .i64 a0y, .int .u32 Y7, .bool Y1] 25 ?_; intro g5 hg w5 hbox hb; have HB5 := Q8 HB hb; have BK5 := a_ hbox; clear hg hbox hb) | (go_at_call 22; refine (F5.calls 1 _).mono ?_; rintro e w8 ⟨he, hb⟩; rw [show F5.form (F5.at 1) = .iface 65 (.agg #[]) from rfl] at he; subst he; have HB8 := Q8 HB5 hb; have a7T := X8 BK5 hb; clear hb) | (go_at_call 27; refine (a1U.calls A0 c0 l0 i _ (Kd.E8 HR0.out HB8.out) HC0.out HI.out).mono ?_; rintro e w9 ⟨rfl, hb⟩; have HB9 := Q8 HB8 hb; have b0A := X8 a7T hb; clear hb) | (refine be_ 9 #[] 67 ?_; intro g9 hg w10 hbox hb; have a8F := Q8 HB9 hb; have c1i := X8 b0A hb; obtain ⟨d1z, d1A, d1B, d1C, d1D, d1E, d1F, c5y, c5z⟩ := d67 c1i.out; clear hg hbox hb) | (go_at_call 30; refine (F8.calls k 0 0 A0 c0 l0 r1 r2 _ (Kd.E8 HR0.out a8F.out) HC0.out HT.out).mono ?_; rintro e w11 ⟨v0, rfl, ho, hb⟩; have HO := a_ (Kd.X3 ho a8F.out.size); have c1m := Q8 a8F hb; clear ho hb))
   go_ret2
   exact ⟨_, rfl, HO.out, c1m.out⟩
 ·by_cases e2 : a1 = 2
  ·subst e2; have h := HH.out; rw [capture_Write.f, if_neg e1, if_pos rfl] at h; obtain ⟨i, hi, h⟩ := Option.bind_eq_some_iff.1 h; have HI := a_ hi; clear HH hi
   by_cases hp : 0 ≤ i
   ·rw [if_pos hp] at h
    simp only [Option.some.injEq, Prod.mk.injEq] at h
    obtain ⟨rfl, rfl⟩ := h; have hd : decide (0 ≤ i) = true := dt_ hp
    go_enter Tryd.func14, Tryd.ntmps14
    go_wp2_with (first | (refine be_ 5 #[.int .i64 a05, .int .i64 a06, .int .i64 a07, .int .i64 a08, .string a09, .string a1a, .int .i64 a0y, .int .u32 Y7, .bool Y1] 25 ?_; intro g5 hg w5 hbox hb; have HB5 := Q8 HB hb; have BK5 := a_ hbox; clear hg hbox hb) | (go_at_call 22; refine (F5.calls 2 _).mono ?_; rintro e w8 ⟨he, hb⟩; rw [show F5.form (F5.at 2) = .iface 67 (.agg #[]) from rfl] at he; subst he; have HB8 := Q8 HB5 hb; have a7T := X8 BK5 hb; clear hb) | (go_at_call 27; refine (a1U.calls A0 c0 l0 i _ (Kd.E8 HR0.out HB8.out) HC0.out HI.out).mono ?_; rintro e w9 ⟨rfl, hb⟩; have HB9 := Q8 HB8 hb; have b0A := X8 a7T hb; clear hb))
    go_ret2
    exact ⟨_, rfl, Kd.Y4 _ _ _ _ _, HB9.out⟩
   ·rw [if_neg hp] at h; have HT := a_ h; have hd : decide (0 ≤ i) = false := df_ hp; clear h
    go_enter Tryd.func14, Tryd.ntmps14
    go_wp2_with (first | (refine be_ 5 #[.int .i64 a05, .int .i64 a06, .int .i64 a07, .int .i64 a08, .string a09, .string a1a, .int .i64 a0y, .int .u32 Y7, .bool Y1] 25 ?_; intro g5 hg w5 hbox hb; have HB5 := Q8 HB hb; have BK5 := a_ hbox; clear hg hbox hb) | (go_at_call 22; refine (F5.calls 2 _).mono ?_; rintro e w8 ⟨he, hb⟩; rw [show F5.form (F5.at 2) = .iface 67 (.agg #[]) from rfl] at he; subst he; have HB8 := Q8 HB5 hb; have a7T := X8 BK5 hb; clear hb) | (go_at_call 27; refine (a1U.calls A0 c0 l0 i _ (Kd.E8 HR0.out HB8.out) HC0.out HI.out).mono ?_; rintro e w9 ⟨rfl, hb⟩; have HB9 := Q8 HB8 hb; have b0A := X8 a7T hb; clear hb) | (refine be_ 9 #[] 67 ?_; intro g9 hg w10 hbox hb; have a8F := Q8 HB9 hb; have c1i := X8 b0A hb; obtain ⟨d1z, d1A, d1B, d1C, d1D, d1E, d1F, c5y, c5z⟩ := d67 c1i.out; clear hg hbox hb) | (go_at_call 29; refine (capture_notes_write.calls k A0 c0 l0 a05 a06 a07 a08 a09 a1a a0y Y7 Y1 r1 r2 _ (Kd.E8 HG0.out a8F.out) (Kd.E8 HR0.out a8F.out) HC0.out HT.out).mono ?_; rintro e w11 ⟨v0, rfl, ho, hb⟩; have HO := a_ (Kd.X3 ho a8F.out.size); have c1m := Q8 a8F hb; clear ho hb))
    go_ret2
    exact ⟨_, rfl, HO.out, c1m.out⟩
  ·have h := HH.out; rw [capture_Write.f, if_neg e1, if_neg e2] at h
   simp only [Option.some.injEq, Prod.mk.injEq] at h
   obtain ⟨rfl, rfl⟩ := h; have hat : F5.form (F5.at a1) = .nilIface := by unfold F5.at; rw [if_neg e1, if_neg e2]; rfl
   have HAT := a_ hat; clear HH hat
   go_enter Tryd.func14, Tryd.ntmps14
   go_wp2_with (first | (refine be_ 5 #[.int .i64 a05, .int .i64 a06, .int .i64 a07, .int .i64 a08, .string a09, .string a1a, .int .i64 a0y, .int .u32 Y7, .bool Y1] 25 ?_; intro g5 hg w5 hbox hb; have HB5 := Q8 HB hb; have BK5 := a_ hbox; clear hg hbox hb) | (go_at_call 22; refine (F5.calls a1 _).mono ?_; rintro e w8 ⟨he, hb⟩; rw [HAT.out] at he; subst he; have HB8 := Q8 HB5 hb; have a7T := X8 BK5 hb; clear hb))
   go_ret2
   exact ⟨_, rfl, Kd.Y4 _ _ _ _ _, HB8.out⟩

end Go.Proofs.YtgnonglkibhnhaaDoor.Print
