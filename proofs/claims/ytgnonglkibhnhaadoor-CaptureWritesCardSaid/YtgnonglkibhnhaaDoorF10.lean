import Derived.Test.YtgnonglkibhnhaaDoorF24
namespace Go.Proofs.YtgnonglkibhnhaaDoor.Print
open Go.RowKit Go.Proofs.YtgnonglkibhnhaaDoorW.PrintWords Go.Proofs.YtgnonglkibhnhaaDoorW.PrintLast Go.Proofs.YtgnonglkibhnhaaDoorW.PrintMore
attribute [local go_sem] a0d a0e a0V a0W X5 X6 a0f a0g
set_option linter.unusedVariables false
set_option linter.unusedSimpArgs false

/-! ### capture_Read: function 10 -/
attribute [local go_sem high] b2m b0M b0N b2n b0O b0P
def capture_Read.f (k : Nat) (l0 : List Int) (a1 : Int) (a05 a06 a07 a08 : Int) (a09 a1a : ByteArray) (a0y Y7 : Int) (Y1 : Bool) : Option ((List (S42)) × Int × Int) := if a1 = 1 then capture_records_read.f k l0 a0y else if a1 = 2 then capture_notes_read.f k l0 Y7 Y1 else some ([], 0, 7)
set_option maxHeartbeats 8000000 in
set_option maxRecDepth 100000 in
theorem capture_Read.calls (k : Nat) (A0 : Option Addr) (c0 : Nat) (l0 : List Int) (a1 : Int) (a05 a06 a07 a08 : Int) (a09 a1a : ByteArray) (a0y Y7 : Int) (Y1 : Bool) (r1 : List (S42)) (r2 r3 : Int) (w : World) (hG0 : Kd.C b1a w (some ⟨0, 0, none⟩) 8 G7) (hr0 : Kd.C (Kd.int .u8) w A0 l0.length l0) (hc0 : l0.length ≤ c0) (h : capture_Read.f k l0 a1 a05 a06 a07 a08 a09 a1a a0y Y7 Y1 = some (r1, r2, r3)) :
  Calls Tryd.prog 10 #[.slice A0 l0.length c0, .int .i64 a1, .agg #[.int .i64 a05, .int .i64 a06, .int .i64 a07, .int .i64 a08, .string a09, .string a1a, .int .i64 a0y, .int .u32 Y7, .bool Y1]] w fun e w' => ∃ v0_ : Value, e = .returned (.tuple #[v0_, .agg #[.int .i64 r2, .int .i64 r3]]) ∧ Kd.S k42 42 w' w.heap.size (fun _ => True) v0_ r1 ∧ Below w.heap.size w w' := by
 have b2i := Tryd.underlying30
 have c3k := Tryd.underlying25
 have e2w := Tryd.underlying65
 have e2x := Tryd.underlying67
 have HG0 := a_ hG0
 have HR0 := a_ hr0
 have HC0 := a_ hc0
 have HB := a_ (Below.refl w.heap.size w)
 have HH := a_ h
 clear hG0 hr0 hc0 h
 by_cases e1 : a1 = 1
 ·subst e1; have h := HH.out; rw [capture_Read.f, if_pos rfl] at h; have HT := a_ h; clear HH h
  go_enter Tryd.func10, Tryd.ntmps10
  go_wp2_with (first | (refine be_ 5 #[.int .i64 a05, .int .i64 a06, .int .i64 a07, .int .i64 a08, .string a09, .string a1a, .int .i64 a0y, .int .u32 Y7, .bool Y1] 25 ?_; intro g5 hg w5 hbox hb; have HB5 := Q8 HB hb; have BK5 := a_ hbox; clear hg hbox hb) | (refine be_ 7 #[.int .i64 0, .int .i64 0] 30 ?_; intro g7 hg w7 hbox hb; have HB7 := Q8 HB5 hb; have b2o := X8 BK5 hb; have BK7 := a_ hbox; have GE7 : Aside0 (w.heap.size ≤ g7) := ⟨by rw [hg]; exact HB5.out.size⟩; clear hg hbox hb) | (go_at_call 22; refine (F5.calls 1 _).mono ?_; rintro e w8 ⟨he, hb⟩; rw [show F5.form (F5.at 1) = .iface 65 (.agg #[]) from rfl] at he; subst he; have HB8 := Q8 HB7 hb; have a7T := X8 b2o hb; have b0z := X8 BK7 hb;  clear hb) | (refine be_ 8 #[] 65 ?_; intro g9 hg w9 hbox hb; have HB9 := Q8 HB8 hb; have b0A := X8 a7T hb; have a9h := X8 b0z hb; have f7V := hbox; obtain ⟨d1z, d1A, d1B, d1C, d1D, d1E, d1F, c5y, c5z⟩ := d67 b0A.out; have f7W : (w9.heap[g9]?) = some (.cells #[] 65 (0, 0)) := hbox; clear hg hbox hb) | (go_at_call 23; refine (capture_records_read.calls k A0 c0 l0 a05 a06 a07 a08 a09 a1a a0y Y7 Y1 r1 r2 r3 _ (Kd.E8 HR0.out HB9.out) HC0.out HT.out).mono ?_; rintro e w10 ⟨v0, rfl, ho, hb⟩; have HO := a_ ho; have HLO := a_ HB9.out.size; have a8F := Q8 HB9 hb; have b1p := X8 a9h hb; clear ho hb; have b6x := bc0 b1p; have b1q := l7 b1p.out 0; have b6y := bc1 b1p; have b1r := l7 b1p.out 1))
  refine bodyPost_ret (a2T rfl _ _ g7 30 #[.int .i64 r2, .int .i64 r3] (0, 0) _ rfl (l9 (l9 b1p.out 0 _ rfl) 1 _ rfl) b2i rfl (by kernel_rfl)) rfl ?_; exact ⟨_, rfl, Kd.b4P (Kd.b4h (Kd.b4h HO.out b1p.out (by decide) 0 _) (a3F b1p.out 0 _) (by decide) 1 _) HLO.out, o8 (o8 a8F.out GE7.out) GE7.out⟩
 ·by_cases e2 : a1 = 2
  ·subst e2; have h := HH.out; rw [capture_Read.f, if_neg e1, if_pos rfl] at h; have HT := a_ h; clear HH h
   go_enter Tryd.func10, Tryd.ntmps10
   go_wp2_with (first | (refine be_ 5 #[.int .i64 a05, .int .i64 a06, .int .i64 a07, .int .i64 a08, .string a09, .string a1a, .int .i64 a0y, .int .u32 Y7, .bool Y1] 25 ?_; intro g5 hg w5 hbox hb; have HB5 := Q8 HB hb; have BK5 := a_ hbox; clear hg hbox hb) | (refine be_ 7 #[.int .i64 0, .int .i64 0] 30 ?_; intro g7 hg w7 hbox hb; have HB7 := Q8 HB5 hb; have b2o := X8 BK5 hb; have BK7 := a_ hbox; have GE7 : Aside0 (w.heap.size ≤ g7) := ⟨by rw [hg]; exact HB5.out.size⟩; clear hg hbox hb) | (go_at_call 22; refine (F5.calls 2 _).mono ?_; rintro e w8 ⟨he, hb⟩; rw [show F5.form (F5.at 2) = .iface 67 (.agg #[]) from rfl] at he; subst he; have HB8 := Q8 HB7 hb; have a7T := X8 b2o hb; have b0z := X8 BK7 hb;  clear hb) | (refine be_ 9 #[] 67 ?_; intro g9 hg w9 hbox hb; have HB9 := Q8 HB8 hb; have b0A := X8 a7T hb; have a9h := X8 b0z hb; have f7V := hbox; obtain ⟨d1z, d1A, d1B, d1C, d1D, d1E, d1F, c5y, c5z⟩ := d67 b0A.out; have f7W : (w9.heap[g9]?) = some (.cells #[] 67 (0, 0)) := hbox; clear hg hbox hb) | (go_at_call 24; refine (capture_notes_read.calls k A0 c0 l0 a05 a06 a07 a08 a09 a1a a0y Y7 Y1 r1 r2 r3 _ (Kd.E8 HG0.out HB9.out) (Kd.E8 HR0.out HB9.out) HC0.out HT.out).mono ?_; rintro e w10 ⟨v0, rfl, ho, hb⟩; have HO := a_ ho; have HLO := a_ HB9.out.size; have a8F := Q8 HB9 hb; have b1p := X8 a9h hb; clear ho hb; have b6x := bc0 b1p; have b1q := l7 b1p.out 0; have b6y := bc1 b1p; have b1r := l7 b1p.out 1))
   refine bodyPost_ret (a2T rfl _ _ g7 30 #[.int .i64 r2, .int .i64 r3] (0, 0) _ rfl (l9 (l9 b1p.out 0 _ rfl) 1 _ rfl) b2i rfl (by kernel_rfl)) rfl ?_; exact ⟨_, rfl, Kd.b4P (Kd.b4h (Kd.b4h HO.out b1p.out (by decide) 0 _) (a3F b1p.out 0 _) (by decide) 1 _) HLO.out, o8 (o8 a8F.out GE7.out) GE7.out⟩
  ·have h := HH.out; rw [capture_Read.f, if_neg e1, if_neg e2] at h
   simp only [Option.some.injEq, Prod.mk.injEq] at h
   obtain ⟨rfl, rfl, rfl⟩ := h; have hat : F5.form (F5.at a1) = .nilIface := by unfold F5.at; rw [if_neg e1, if_neg e2]; rfl
   have HAT := a_ hat; clear HH hat
   go_enter Tryd.func10, Tryd.ntmps10
   go_wp2_with (first | (refine be_ 5 #[.int .i64 a05, .int .i64 a06, .int .i64 a07, .int .i64 a08, .string a09, .string a1a, .int .i64 a0y, .int .u32 Y7, .bool Y1] 25 ?_; intro g5 hg w5 hbox hb; have HB5 := Q8 HB hb; have BK5 := a_ hbox; clear hg hbox hb) | (refine be_ 7 #[.int .i64 0, .int .i64 0] 30 ?_; intro g7 hg w7 hbox hb; have HB7 := Q8 HB5 hb; have b2o := X8 BK5 hb; have BK7 := a_ hbox; have GE7 : Aside0 (w.heap.size ≤ g7) := ⟨by rw [hg]; exact HB5.out.size⟩; clear hg hbox hb) | (go_at_call 22; refine (F5.calls a1 _).mono ?_; rintro e w8 ⟨he, hb⟩; rw [HAT.out] at he; subst he; have HB8 := Q8 HB7 hb; have a7T := X8 b2o hb; have b0z := X8 BK7 hb; have b6x := bc0 b0z; have b1q := l7 b0z.out 0; have b6y := bc1 b0z; have b1r := l7 b0z.out 1; clear hb))
   refine bodyPost_ret (a2T rfl _ _ g7 30 #[.int .i64 0, .int .i64 7] (0, 0) _ rfl (l9 (l9 b0z.out 0 _ rfl) 1 _ rfl) b2i rfl (by kernel_rfl)) rfl ?_; exact ⟨_, rfl, Kd.a7k _ _ _ _ _, o8 (o8 HB8.out GE7.out) GE7.out⟩

end Go.Proofs.YtgnonglkibhnhaaDoor.Print
