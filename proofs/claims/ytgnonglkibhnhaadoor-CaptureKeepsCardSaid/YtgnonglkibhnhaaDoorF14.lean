import Derived.Test.YtgnonglkibhnhaaDoorF29
import Derived.Test.YtgnonglkibhnhaaDoorM10
namespace Go.Proofs.YtgnonglkibhnhaaDoor.Print
open Go.RowKit Go.Proofs.YtgnonglkibhnhaaDoorW.PrintWords Go.Proofs.YtgnonglkibhnhaaDoorW.PrintLast Go.Proofs.YtgnonglkibhnhaaDoorW.PrintMore
attribute [local go_sem] a0o a0p a0R a0S Y5 Y6 a0q a0r
set_option linter.unusedVariables false
set_option linter.unusedSimpArgs false

/-! ### capture_Write: function 14 -/
attribute [local go_sem high] b5g b3J b3K b5h b3L b3M b98
def capture_Write.f (k : Nat) (l0 : List (S42)) (a1 : Int) (a1o a1p a1q a1r : Int) (a1s a1t : ByteArray) (a0U a0w : Int) (a0m : Bool) : Option ((List Int) × Int) :=
 if a1 = 1 then (H8.go l0 0).bind fun i => if 0 ≤ i then some ([], 1) else F7.f k 0 0 l0
 else if a1 = 2 then (H8.go l0 0).bind fun i => if 0 ≤ i then some ([], 1) else capture_notes_write.f k l0 a0w a0m
 else some ([], 7)
set_option maxHeartbeats 8000000 in
set_option maxRecDepth 100000 in
theorem capture_Write.calls (k : Nat) (A0 : Option Addr) (c0 : Nat) (l0 : List (S42)) (a1 : Int) (a1o a1p a1q a1r : Int) (a1s a1t : ByteArray) (a0U a0w : Int) (a0m : Bool) (r1 : List Int) (r2 : Int) (w : World) (hG0 : Kd.C b35 w (some ⟨0, 0, none⟩) 8 H7) (hr0 : Kd.C k42 w A0 l0.length l0) (hc0 : l0.length ≤ c0) (h : capture_Write.f k l0 a1 a1o a1p a1q a1r a1s a1t a0U a0w a0m = some (r1, r2)) :
  Calls Tryd.prog 14 #[.slice A0 l0.length c0, .int .i64 a1, .agg #[.int .i64 a1o, .int .i64 a1p, .int .i64 a1q, .int .i64 a1r, .string a1s, .string a1t, .int .i64 a0U, .int .u32 a0w, .bool a0m]] w fun e w' => ∃ v0_ : Value, e = .returned (.tuple #[v0_, .int .i64 r2]) ∧ Kd.R (Kd.int .u8) 5 w' w.heap.size (fun _ => True) v0_ r1 ∧ Below w.heap.size w w' := by
 have c2n := Tryd.underlying25
 have e7L := Tryd.underlying65
 have e7M := Tryd.underlying67
 have HG0 := a_ hG0
 have HR0 := a_ hr0
 have HC0 := a_ hc0
 have HB := a_ (Below.refl w.heap.size w)
 have HH := a_ h
 clear hG0 hr0 hc0 h
 by_cases e1 : a1 = 1
 ·subst e1; have h := HH.out; rw [capture_Write.f, if_pos rfl] at h; obtain ⟨i, hi, h⟩ := Option.bind_eq_some_iff.1 h; have HI := a_ hi; clear HH hi
  by_cases hp : 0 ≤ i
  ·rw [if_pos hp] at h
   simp only [Option.some.injEq, Prod.mk.injEq] at h
   obtain ⟨rfl, rfl⟩ := h; have hd : decide (0 ≤ i) = true := dt_ hp
   go_enter Tryd.func14, Tryd.ntmps14
   go_wp2_with (first | (refine be_ 5 #[.int .i64 a1o, .int .i64 a1p, .int .i64 a1q, .int .i64 a1r, .string a1s, .string a1t, .int .i64 a0U, .int .u32 a0w, .bool a0m] 25 ?_; intro g5 hg w5 hbox hb; have HB5 := V3 HB hb; have BK5 := a_ hbox; clear hg hbox hb) | (go_at_call 22; refine (E5.calls 1 _).mono ?_; rintro e w8 ⟨he, hb⟩; rw [show E5.form (E5.at 1) = .iface 65 (.agg #[]) from rfl] at he; subst he; have HB8 := V3 HB5 hb; have b0d := X3 BK5 hb; clear hb) | (go_at_call 27; refine (a2B.calls A0 c0 l0 i _ (Kd.y9 HR0.out HB8.out) HC0.out HI.out).mono ?_; rintro e w9 ⟨rfl, hb⟩; have HB9 := V3 HB8 hb; have a4U := X3 b0d hb; clear hb))
   go_ret2
   exact ⟨_, rfl, Kd.Y2 _ _ _ _ _, HB9.out⟩
  ·rw [if_neg hp] at h; have HT := a_ h; have hd : decide (0 ≤ i) = false := df_ hp; clear h
   go_enter Tryd.func14, Tryd.ntmps14
   go_wp2_with (first | (refine be_ 5 #[.int .i64 a1o, .int .i64 a1p, .int .i64 a1q, .int .i64 a1r, .string a1s, .string a1t, .int .i64 a0U, .int .u32 a0w, .bool a0m] 25 ?_; intro g5 hg w5 hbox hb; have HB5 := V3 HB hb; have BK5 := a_ hbox; clear hg hbox hb) | (go_at_call 22; refine (E5.calls 1 _).mono ?_; rintro e w8 ⟨he, hb⟩; rw [show E5.form (E5.at 1) = .iface 65 (.agg #[]) from rfl] at he; subst he; have HB8 := V3 HB5 hb; have b0d := X3 BK5 hb; clear hb) | (go_at_call 27; refine (a2B.calls A0 c0 l0 i _ (Kd.y9 HR0.out HB8.out) HC0.out HI.out).mono ?_; rintro e w9 ⟨rfl, hb⟩; have HB9 := V3 HB8 hb; have a4U := X3 b0d hb; clear hb) | (refine be_ 9 #[] 67 ?_; intro g9 hg w10 hbox hb; have a7c := V3 HB9 hb; have c5F := X3 a4U hb; obtain ⟨c5G, c5H, c5I, c5J, d5P, d5Q, d5R, d0b, d0c⟩ := e0D c5F.out; clear hg hbox hb) | (go_at_call 30; refine (F7.calls k 0 0 A0 c0 l0 r1 r2 _ (Kd.y9 HR0.out a7c.out) HC0.out HT.out).mono ?_; rintro e w11 ⟨v0, rfl, ho, hb⟩; have HO := a_ (Kd.Z9 ho a7c.out.size); have b6r := V3 a7c hb; clear ho hb))
   go_ret2
   exact ⟨_, rfl, HO.out, b6r.out⟩
 ·by_cases e2 : a1 = 2
  ·subst e2; have h := HH.out; rw [capture_Write.f, if_neg e1, if_pos rfl] at h; obtain ⟨i, hi, h⟩ := Option.bind_eq_some_iff.1 h; have HI := a_ hi; clear HH hi
   by_cases hp : 0 ≤ i
   ·rw [if_pos hp] at h
    simp only [Option.some.injEq, Prod.mk.injEq] at h
    obtain ⟨rfl, rfl⟩ := h; have hd : decide (0 ≤ i) = true := dt_ hp
    go_enter Tryd.func14, Tryd.ntmps14
    go_wp2_with (first | (refine be_ 5 #[.int .i64 a1o, .int .i64 a1p, .int .i64 a1q, .int .i64 a1r, .string a1s, .string a1t, .int .i64 a0U, .int .u32 a0w, .bool a0m] 25 ?_; intro g5 hg w5 hbox hb; have HB5 := V3 HB hb; have BK5 := a_ hbox; clear hg hbox hb) | (go_at_call 22; refine (E5.calls 2 _).mono ?_; rintro e w8 ⟨he, hb⟩; rw [show E5.form (E5.at 2) = .iface 67 (.agg #[]) from rfl] at he; subst he; have HB8 := V3 HB5 hb; have b0d := X3 BK5 hb; clear hb) | (go_at_call 27; refine (a2B.calls A0 c0 l0 i _ (Kd.y9 HR0.out HB8.out) HC0.out HI.out).mono ?_; rintro e w9 ⟨rfl, hb⟩; have HB9 := V3 HB8 hb; have a4U := X3 b0d hb; clear hb))
    go_ret2
    exact ⟨_, rfl, Kd.Y2 _ _ _ _ _, HB9.out⟩
   ·rw [if_neg hp] at h; have HT := a_ h; have hd : decide (0 ≤ i) = false := df_ hp; clear h
    go_enter Tryd.func14, Tryd.ntmps14
    go_wp2_with (first | (refine be_ 5 #[.int .i64 a1o, .int .i64 a1p, .int .i64 a1q, .int .i64 a1r, .string a1s, .string a1t, .int .i64 a0U, .int .u32 a0w, .bool a0m] 25 ?_; intro g5 hg w5 hbox hb; have HB5 := V3 HB hb; have BK5 := a_ hbox; clear hg hbox hb) | (go_at_call 22; refine (E5.calls 2 _).mono ?_; rintro e w8 ⟨he, hb⟩; rw [show E5.form (E5.at 2) = .iface 67 (.agg #[]) from rfl] at he; subst he; have HB8 := V3 HB5 hb; have b0d := X3 BK5 hb; clear hb) | (go_at_call 27; refine (a2B.calls A0 c0 l0 i _ (Kd.y9 HR0.out HB8.out) HC0.out HI.out).mono ?_; rintro e w9 ⟨rfl, hb⟩; have HB9 := V3 HB8 hb; have a4U := X3 b0d hb; clear hb) | (refine be_ 9 #[] 67 ?_; intro g9 hg w10 hbox hb; have a7c := V3 HB9 hb; have c5F := X3 a4U hb; obtain ⟨c5G, c5H, c5I, c5J, d5P, d5Q, d5R, d0b, d0c⟩ := e0D c5F.out; clear hg hbox hb) | (go_at_call 29; refine (capture_notes_write.calls k A0 c0 l0 a1o a1p a1q a1r a1s a1t a0U a0w a0m r1 r2 _ (Kd.y9 HG0.out a7c.out) (Kd.y9 HR0.out a7c.out) HC0.out HT.out).mono ?_; rintro e w11 ⟨v0, rfl, ho, hb⟩; have HO := a_ (Kd.Z9 ho a7c.out.size); have b6r := V3 a7c hb; clear ho hb))
    go_ret2
    exact ⟨_, rfl, HO.out, b6r.out⟩
  ·have h := HH.out; rw [capture_Write.f, if_neg e1, if_neg e2] at h
   simp only [Option.some.injEq, Prod.mk.injEq] at h
   obtain ⟨rfl, rfl⟩ := h; have hat : E5.form (E5.at a1) = .nilIface := by unfold E5.at; rw [if_neg e1, if_neg e2]; rfl
   have HAT := a_ hat; clear HH hat
   go_enter Tryd.func14, Tryd.ntmps14
   go_wp2_with (first | (refine be_ 5 #[.int .i64 a1o, .int .i64 a1p, .int .i64 a1q, .int .i64 a1r, .string a1s, .string a1t, .int .i64 a0U, .int .u32 a0w, .bool a0m] 25 ?_; intro g5 hg w5 hbox hb; have HB5 := V3 HB hb; have BK5 := a_ hbox; clear hg hbox hb) | (go_at_call 22; refine (E5.calls a1 _).mono ?_; rintro e w8 ⟨he, hb⟩; rw [HAT.out] at he; subst he; have HB8 := V3 HB5 hb; have b0d := X3 BK5 hb; clear hb))
   go_ret2
   exact ⟨_, rfl, Kd.Y2 _ _ _ _ _, HB8.out⟩

end Go.Proofs.YtgnonglkibhnhaaDoor.Print
