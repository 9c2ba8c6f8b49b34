import Derived.Test.YtgnonglkibhnhaaDoorZ
import Derived.Test.YtgnonglkibhnhaaDoorM1
import Derived.Test.YtgnonglkibhnhaaDoorM3
import Derived.Test.YtgnonglkibhnhaaDoorF29
import Derived.Test.YtgnonglkibhnhaaDoorF30
namespace Go.Proofs.YtgnonglkibhnhaaDoor.Print
open Go.RowKit Go.Proofs.YtgnonglkibhnhaaDoorW.PrintWords Go.Proofs.YtgnonglkibhnhaaDoorW.PrintLast Go.Proofs.YtgnonglkibhnhaaDoorW.PrintMore
attribute [local go_sem] a0u a0v a1m a1n Y7 Y8 a0w a0x
set_option linter.unusedVariables false
set_option linter.unusedSimpArgs false

/-! ### capture_Write: function 14 -/
attribute [local go_sem high] b3T b2J b2K b3U b2L b2M b9Z
def capture_Write.f (k : Nat) (l0 : List (S42)) (a1 : Int) (a5r a5s a5t a5u : Int) (a5v a5w : ByteArray) (a3B a18 : Int) (a1K : Bool) : Option ((List Int) × Int) :=
 if a1 = 1 then (G8.go l0 0).bind fun i => if 0 ≤ i then some ([], 1) else capture_records_write.f k 0 0 l0
 else if a1 = 2 then (G8.go l0 0).bind fun i => if 0 ≤ i then some ([], 1) else capture_notes_write.f k l0 a18 a1K
 else some ([], 7)
set_option maxHeartbeats 8000000 in
set_option maxRecDepth 100000 in
theorem capture_Write.calls (k : Nat) (A0 : Option Addr) (c0 : Nat) (l0 : List (S42)) (a1 : Int) (a5r a5s a5t a5u : Int) (a5v a5w : ByteArray) (a3B a18 : Int) (a1K : Bool) (r1 : List Int) (r2 : Int) (w : World) (hG0 : Kd.C b0s w (some ⟨0, 0, none⟩) 8 F8) (hr0 : Kd.C k42 w A0 l0.length l0) (hc0 : l0.length ≤ c0) (h : capture_Write.f k l0 a1 a5r a5s a5t a5u a5v a5w a3B a18 a1K = some (r1, r2)) :
  Calls Tryd.prog 14 #[.slice A0 l0.length c0, .int .i64 a1, .agg #[.int .i64 a5r, .int .i64 a5s, .int .i64 a5t, .int .i64 a5u, .string a5v, .string a5w, .int .i64 a3B, .int .u32 a18, .bool a1K]] w fun e w' => ∃ v0_ : Value, e = .returned (.tuple #[v0_, .int .i64 r2]) ∧ Kd.R (Kd.int .u8) 5 w' w.heap.size (fun _ => True) v0_ r1 ∧ Below w.heap.size w w' := by
 have d1K := Tryd.underlying25
 have e7m := Tryd.underlying65
 have e7n := Tryd.underlying67
 have HG0 := a_ hG0
 have HR0 := a_ hr0
 have HC0 := a_ hc0
 have HB := a_ (Below.refl w.heap.size w)
 have HH := a_ h
 clear hG0 hr0 hc0 h
 by_cases e1 : a1 = 1
 ·subst e1
  have h := HH.out
  rw [capture_Write.f, if_pos rfl] at h
  obtain ⟨i, hi, h⟩ := Option.bind_eq_some_iff.1 h
  have HI := a_ hi
  clear HH hi
  by_cases hp : 0 ≤ i
  ·rw [if_pos hp] at h
   simp only [Option.some.injEq, Prod.mk.injEq] at h
   obtain ⟨rfl, rfl⟩ := h
   have hd : decide (0 ≤ i) = true := decide_eq_true hp
   go_enter Tryd.func14, Tryd.ntmps14
   go_wp2_with (first | (refine be_ 5 #[.int .i64 a5r, .int .i64 a5s, .int .i64 a5t, .int .i64 a5u, .string a5v, .string a5w, .int .i64 a3B, .int .u32 a18, .bool a1K] 25 ?_; intro g5 hg w5 hbox hb; have HB5 := W9 HB hb; have BK5 := a_ hbox; clear hg hbox hb) | (go_at_call 22; refine (E8.calls 1 _).mono ?_; rintro e w8 ⟨he, hb⟩; rw [show E8.form (E8.at 1) = .iface 65 (.agg #[]) from rfl] at he; subst he; have HB8 := W9 HB5 hb; have a96 := U5 BK5 hb; clear hb) | (go_at_call 27; refine (a2a.calls A0 c0 l0 i _ (Kd.D6 HR0.out HB8.out) HC0.out HI.out).mono ?_; rintro e w9 ⟨rfl, hb⟩; have HB9 := W9 HB8 hb; have b2B := U5 a96 hb; clear hb))
   go_ret2
   exact ⟨_, rfl, Kd.a0I _ _ _ _ _, HB9.out⟩
  ·rw [if_neg hp] at h
   have HT := a_ h
   have hd : decide (0 ≤ i) = false := decide_eq_false hp
   clear h
   go_enter Tryd.func14, Tryd.ntmps14
   go_wp2_with (first | (refine be_ 5 #[.int .i64 a5r, .int .i64 a5s, .int .i64 a5t, .int .i64 a5u, .string a5v, .string a5w, .int .i64 a3B, .int .u32 a18, .bool a1K] 25 ?_; intro g5 hg w5 hbox hb; have HB5 := W9 HB hb; have BK5 := a_ hbox; clear hg hbox hb) | (go_at_call 22; refine (E8.calls 1 _).mono ?_; rintro e w8 ⟨he, hb⟩; rw [show E8.form (E8.at 1) = .iface 65 (.agg #[]) from rfl] at he; subst he; have HB8 := W9 HB5 hb; have a96 := U5 BK5 hb; clear hb) | (go_at_call 27; refine (a2a.calls A0 c0 l0 i _ (Kd.D6 HR0.out HB8.out) HC0.out HI.out).mono ?_; rintro e w9 ⟨rfl, hb⟩; have HB9 := W9 HB8 hb; have b2B := U5 a96 hb; clear hb) | (refine be_ 9 #[] 67 ?_; intro g9 hg w10 hbox hb; have a9L := W9 HB9 hb; have c5u := U5 b2B hb; obtain ⟨c4R, c4S, c4T, c4V, d4F, d4G, d4H, c9q, c9r⟩ := d9e c5u.out; clear hg hbox hb) | (go_at_call 30; refine (capture_records_write.calls k 0 0 A0 c0 l0 r1 r2 _ (Kd.D6 HR0.out a9L.out) HC0.out HT.out).mono ?_; rintro e w11 ⟨v0, rfl, ho, hb⟩; have HO := a_ (Kd.X4 ho a9L.out.size); have c4W := W9 a9L hb; clear ho hb))
   go_ret2
   exact ⟨_, rfl, HO.out, c4W.out⟩
 ·by_cases e2 : a1 = 2
  ·subst e2
   have h := HH.out
   rw [capture_Write.f, if_neg e1, if_pos rfl] at h
   obtain ⟨i, hi, h⟩ := Option.bind_eq_some_iff.1 h
   have HI := a_ hi
   clear HH hi
   by_cases hp : 0 ≤ i
   ·rw [if_pos hp] at h
    simp only [Option.some.injEq, Prod.mk.injEq] at h
    obtain ⟨rfl, rfl⟩ := h
    have hd : decide (0 ≤ i) = true := decide_eq_true hp
    go_enter Tryd.func14, Tryd.ntmps14
    go_wp2_with (first | (refine be_ 5 #[.int .i64 a5r, .int .i64 a5s, .int .i64 a5t, .int .i64 a5u, .string a5v, .string a5w, .int .i64 a3B, .int .u32 a18, .bool a1K] 25 ?_; intro g5 hg w5 hbox hb; have HB5 := W9 HB hb; have BK5 := a_ hbox; clear hg hbox hb) | (go_at_call 22; refine (E8.calls 2 _).mono ?_; rintro e w8 ⟨he, hb⟩; rw [show E8.form (E8.at 2) = .iface 67 (.agg #[]) from rfl] at he; subst he; have HB8 := W9 HB5 hb; have a96 := U5 BK5 hb; clear hb) | (go_at_call 27; refine (a2a.calls A0 c0 l0 i _ (Kd.D6 HR0.out HB8.out) HC0.out HI.out).mono ?_; rintro e w9 ⟨rfl, hb⟩; have HB9 := W9 HB8 hb; have b2B := U5 a96 hb; clear hb))
    go_ret2
    exact ⟨_, rfl, Kd.a0I _ _ _ _ _, HB9.out⟩
   ·rw [if_neg hp] at h
    have HT := a_ h
    have hd : decide (0 ≤ i) = false := decide_eq_false hp
    clear h
    go_enter Tryd.func14, Tryd.ntmps14
    go_wp2_with (first | (refine be_ 5 #[.int .i64 a5r, .int .i64 a5s, .int .i64 a5t, .int .i64 a5u, .string a5v, .string a5w, .int .i64 a3B, .int .u32 a18, .bool a1K] 25 ?_; intro g5 hg w5 hbox hb; have HB5 := W9 HB hb; have BK5 := a_ hbox; clear hg hbox hb) | (go_at_call 22; refine (E8.calls 2 _).mono ?_; rintro e w8 ⟨he, hb⟩; rw [show E8.form (E8.at 2) = .iface 67 (.agg #[]) from rfl] at he; subst he; have HB8 := W9 HB5 hb; have a96 := U5 BK5 hb; clear hb) | (go_at_call 27; refine (a2a.calls A0 c0 l0 i _ (Kd.D6 HR0.out HB8.out) HC0.out HI.out).mono ?_; rintro e w9 ⟨rfl, hb⟩; have HB9 := W9 HB8 hb; have b2B := U5 a96 hb; clear hb) | (refine be_ 9 #[] 67 ?_; intro g9 hg w10 hbox hb; have a9L := W9 HB9 hb; have c5u := U5 b2B hb; obtain ⟨c4R, c4S, c4T, c4V, d4F, d4G, d4H, c9q, c9r⟩ := d9e c5u.out; clear hg hbox hb) | (go_at_call 29; refine (capture_notes_write.calls k A0 c0 l0 a5r a5s a5t a5u a5v a5w a3B a18 a1K r1 r2 _ (Kd.D6 HG0.out a9L.out) (Kd.D6 HR0.out a9L.out) HC0.out HT.out).mono ?_; rintro e w11 ⟨v0, rfl, ho, hb⟩; have HO := a_ (Kd.X4 ho a9L.out.size); have c4W := W9 a9L hb; clear ho hb))
    go_ret2
    exact ⟨_, rfl, HO.out, c4W.out⟩
  ·have h := HH.out
   rw [capture_Write.f, if_neg e1, if_neg e2] at h
   simp only [Option.some.injEq, Prod.mk.injEq] at h
   obtain ⟨rfl, rfl⟩ := h
   have hat : E8.form (E8.at a1) = .nilIface := by unfold E8.at; rw [if_neg e1, if_neg e2]; rfl
   have HAT := a_ hat
   clear HH hat
   go_enter Tryd.func14, Tryd.ntmps14
   go_wp2_with (first | (refine be_ 5 #[.int .i64 a5r, .int .i64 a5s, .int .i64 a5t, .int .i64 a5u, .string a5v, .string a5w, .int .i64 a3B, .int .u32 a18, .bool a1K] 25 ?_; intro g5 hg w5 hbox hb; have HB5 := W9 HB hb; have BK5 := a_ hbox; clear hg hbox hb) | (go_at_call 22; refine (E8.calls a1 _).mono ?_; rintro e w8 ⟨he, hb⟩; rw [HAT.out] at he; subst he; have HB8 := W9 HB5 hb; have a96 := U5 BK5 hb; clear hb))
   go_ret2
   exact ⟨_, rfl, Kd.a0I _ _ _ _ _, HB8.out⟩

end Go.Proofs.YtgnonglkibhnhaaDoor.Print
