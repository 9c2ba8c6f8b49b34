import Derived.Test.YtgnonglkibhnhaaDoorZ
import Derived.Test.YtgnonglkibhnhaaDoorM1
import Derived.Test.YtgnonglkibhnhaaDoorF23
import Derived.Test.YtgnonglkibhnhaaDoorF24
namespace Go.Proofs.YtgnonglkibhnhaaDoor.Print
open Go.RowKit Go.Proofs.YtgnonglkibhnhaaDoorW.PrintWords Go.Proofs.YtgnonglkibhnhaaDoorW.PrintLast Go.Proofs.YtgnonglkibhnhaaDoorW.PrintMore
attribute [local go_sem] a0u a0v a1m a1n Y7 Y8 a0w a0x
set_option linter.unusedVariables false
set_option linter.unusedSimpArgs false

/-! ### capture_Read: function 10 -/
attribute [local go_sem high] b3T b2J b2K b3U b2L b2M
def capture_Read.f (k : Nat) (l0 : List Int) (a1 : Int) (a5r a5s a5t a5u : Int) (a5v a5w : ByteArray) (a3B a18 : Int) (a1K : Bool) : Option ((List (S42)) × Int × Int) := if a1 = 1 then capture_records_read.f k l0 a3B else if a1 = 2 then capture_notes_read.f k l0 a18 a1K else some ([], 0, 7)
set_option maxHeartbeats 8000000 in
set_option maxRecDepth 100000 in
theorem capture_Read.calls (k : Nat) (A0 : Option Addr) (c0 : Nat) (l0 : List Int) (a1 : Int) (a5r a5s a5t a5u : Int) (a5v a5w : ByteArray) (a3B a18 : Int) (a1K : Bool) (r1 : List (S42)) (r2 r3 : Int) (w : World) (hG0 : Kd.C b0s w (some ⟨0, 0, none⟩) 8 F8) (hr0 : Kd.C (Kd.int .u8) w A0 l0.length l0) (hc0 : l0.length ≤ c0) (h : capture_Read.f k l0 a1 a5r a5s a5t a5u a5v a5w a3B a18 a1K = some (r1, r2, r3)) :
  Calls Tryd.prog 10 #[.slice A0 l0.length c0, .int .i64 a1, .agg #[.int .i64 a5r, .int .i64 a5s, .int .i64 a5t, .int .i64 a5u, .string a5v, .string a5w, .int .i64 a3B, .int .u32 a18, .bool a1K]] w fun e w' => ∃ v0_ : Value, e = .returned (.tuple #[v0_, .agg #[.int .i64 r2, .int .i64 r3]]) ∧ Kd.S k42 42 w' w.heap.size (fun _ => True) v0_ r1 ∧ Below w.heap.size w w' := by
 have b2w := Tryd.underlying30
 have d1K := Tryd.underlying25
 have e7m := Tryd.underlying65
 have e7n := Tryd.underlying67
 have HG0 := a_ hG0
 have HR0 := a_ hr0
 have HC0 := a_ hc0
 have HB := a_ (Below.refl w.heap.size w)
 have HH := a_ h
 clear hG0 hr0 hc0 h
 by_cases e1 : a1 = 1
 ·subst e1
  have h := HH.out
  rw [capture_Read.f, if_pos rfl] at h
  have HT := a_ h
  clear HH h
  go_enter Tryd.func10, Tryd.ntmps10
  go_wp2_with (first | (refine be_ 5 #[.int .i64 a5r, .int .i64 a5s, .int .i64 a5t, .int .i64 a5u, .string a5v, .string a5w, .int .i64 a3B, .int .u32 a18, .bool a1K] 25 ?_; intro g5 hg w5 hbox hb; have HB5 := W9 HB hb; have BK5 := a_ hbox; clear hg hbox hb) | (refine be_ 7 #[.int .i64 0, .int .i64 0] 30 ?_; intro g7 hg w7 hbox hb; have HB7 := W9 HB5 hb; have b4a := U5 BK5 hb; have BK7 := a_ hbox; have GE7 : Aside0 (w.heap.size ≤ g7) := ⟨by rw [hg]; exact HB5.out.size⟩; clear hg hbox hb) | (go_at_call 22; refine (E8.calls 1 _).mono ?_; rintro e w8 ⟨he, hb⟩; rw [show E8.form (E8.at 1) = .iface 65 (.agg #[]) from rfl] at he; subst he; have HB8 := W9 HB7 hb; have a96 := U5 b4a hb; have b2z := U5 BK7 hb;  clear hb) | (refine be_ 8 #[] 65 ?_; intro g9 hg w9 hbox hb; have HB9 := W9 HB8 hb; have b2B := U5 a96 hb; have b1c := U5 b2z hb; have g5C := hbox; obtain ⟨c4R, c4S, c4T, c4V, d4F, d4G, d4H, c9q, c9r⟩ := d9e b2B.out; have g5D : (w9.heap[g9]?) = some (.cells #[] 65 (0, 0)) := hbox; clear hg hbox hb) | (go_at_call 23; refine (capture_records_read.calls k A0 c0 l0 a5r a5s a5t a5u a5v a5w a3B a18 a1K r1 r2 r3 _ (Kd.D6 HR0.out HB9.out) HC0.out HT.out).mono ?_; rintro e w10 ⟨v0, rfl, ho, hb⟩; have HO := a_ ho; have HLO := a_ HB9.out.size; have a9L := W9 HB9 hb; have b3i := U5 b1c hb; clear ho hb; have b8w := bc0 b3i; have b3j := l7 b3i.out 0; have b8x := bc1 b3i; have b3k := l7 b3i.out 1))
  refine bodyPost_ret (a3s rfl _ _ g7 30 #[.int .i64 r2, .int .i64 r3] (0, 0) _ rfl (by refine l9 (cs := #[.int .i64 r2, .int .i64 0]) ?_ 1 _ rfl; refine l9 (cs := #[.int .i64 0, .int .i64 0]) ?_ 0 _ rfl; exact b3i.out) b2w rfl (by kernel_rfl)) rfl ?_
  exact ⟨_, rfl, Kd.b66 (Kd.b53 (Kd.b53 HO.out b3i.out (by decide) 0 _) (a4S b3i.out 0 _) (by decide) 1 _) HLO.out, o8 (o8 a9L.out GE7.out) GE7.out⟩
 ·by_cases e2 : a1 = 2
  ·subst e2
   have h := HH.out
   rw [capture_Read.f, if_neg e1, if_pos rfl] at h
   have HT := a_ h
   clear HH h
   go_enter Tryd.func10, Tryd.ntmps10
   go_wp2_with (first | (refine be_ 5 #[.int .i64 a5r, .int .i64 a5s, .int .i64 a5t, .int .i64 a5u, .string a5v, .string a5w, .int .i64 a3B, .int .u32 a18, .bool a1K] 25 ?_; intro g5 hg w5 hbox hb; have HB5 := W9 HB hb; have BK5 := a_ hbox; clear hg hbox hb) | (refine be_ 7 #[.int .i64 0, .int .i64 0] 30 ?_; intro g7 hg w7 hbox hb; have HB7 := W9 HB5 hb; have b4a := U5 BK5 hb; have BK7 := a_ hbox; have GE7 : Aside0 (w.heap.size ≤ g7) := ⟨by rw [hg]; exact HB5.out.size⟩; clear hg hbox hb) | (go_at_call 22; refine (E8.calls 2 _).mono ?_; rintro e w8 ⟨he, hb⟩; rw [show E8.form (E8.at 2) = .iface 67 (.agg #[]) from rfl] at he; subst he; have HB8 := W9 HB7 hb; have a96 := U5 b4a hb; have b2z := U5 BK7 hb;  clear hb) | (refine be_ 9 #[] 67 ?_; intro g9 hg w9 hbox hb; have HB9 := W9 HB8 hb; have b2B := U5 a96 hb; have b1c := U5 b2z hb; have g5C := hbox; obtain ⟨c4R, c4S, c4T, c4V, d4F, d4G, d4H, c9q, c9r⟩ := d9e b2B.out; have g5D : (w9.heap[g9]?) = some (.cells #[] 67 (0, 0)) := hbox; clear hg hbox hb) | (go_at_call 24; refine (capture_notes_read.calls k A0 c0 l0 a5r a5s a5t a5u a5v a5w a3B a18 a1K r1 r2 r3 _ (Kd.D6 HG0.out HB9.out) (Kd.D6 HR0.out HB9.out) HC0.out HT.out).mono ?_; rintro e w10 ⟨v0, rfl, ho, hb⟩; have HO := a_ ho; have HLO := a_ HB9.out.size; have a9L := W9 HB9 hb; have b3i := U5 b1c hb; clear ho hb; have b8w := bc0 b3i; have b3j := l7 b3i.out 0; have b8x := bc1 b3i; have b3k := l7 b3i.out 1))
   refine bodyPost_ret (a3s rfl _ _ g7 30 #[.int .i64 r2, .int .i64 r3] (0, 0) _ rfl (by refine l9 (cs := #[.int .i64 r2, .int .i64 0]) ?_ 1 _ rfl; refine l9 (cs := #[.int .i64 0, .int .i64 0]) ?_ 0 _ rfl; exact b3i.out) b2w rfl (by kernel_rfl)) rfl ?_
   exact ⟨_, rfl, Kd.b66 (Kd.b53 (Kd.b53 HO.out b3i.out (by decide) 0 _) (a4S b3i.out 0 _) (by decide) 1 _) HLO.out, o8 (o8 a9L.out GE7.out) GE7.out⟩
  ·have h := HH.out
   rw [capture_Read.f, if_neg e1, if_neg e2] at h
   simp only [Option.some.injEq, Prod.mk.injEq] at h
   obtain ⟨rfl, rfl, rfl⟩ := h
   have hat : E8.form (E8.at a1) = .nilIface := by unfold E8.at; rw [if_neg e1, if_neg e2]; rfl
   have HAT := a_ hat
   clear HH hat
   go_enter Tryd.func10, Tryd.ntmps10
   go_wp2_with (first | (refine be_ 5 #[.int .i64 a5r, .int .i64 a5s, .int .i64 a5t, .int .i64 a5u, .string a5v, .string a5w, .int .i64 a3B, .int .u32 a18, .bool a1K] 25 ?_; intro g5 hg w5 hbox hb; have HB5 := W9 HB hb; have BK5 := a_ hbox; clear hg hbox hb) | (refine be_ 7 #[.int .i64 0, .int .i64 0] 30 ?_; intro g7 hg w7 hbox hb; have HB7 := W9 HB5 hb; have b4a := U5 BK5 hb; have BK7 := a_ hbox; have GE7 : Aside0 (w.heap.size ≤ g7) := ⟨by rw [hg]; exact HB5.out.size⟩; clear hg hbox hb) | (go_at_call 22; refine (E8.calls a1 _).mono ?_; rintro e w8 ⟨he, hb⟩; rw [HAT.out] at he; subst he; have HB8 := W9 HB7 hb; have a96 := U5 b4a hb; have b2z := U5 BK7 hb; have b8w := bc0 b2z; have b3j := l7 b2z.out 0; have b8x := bc1 b2z; have b3k := l7 b2z.out 1; clear hb))
   refine bodyPost_ret (a3s rfl _ _ g7 30 #[.int .i64 0, .int .i64 7] (0, 0) _ rfl (by refine l9 (cs := #[.int .i64 0, .int .i64 0]) ?_ 1 _ rfl; refine l9 (cs := #[.int .i64 0, .int .i64 0]) ?_ 0 _ rfl; exact b2z.out) b2w rfl (by kernel_rfl)) rfl ?_
   exact ⟨_, rfl, Kd.a6k _ _ _ _ _, o8 (o8 HB8.out GE7.out) GE7.out⟩

end Go.Proofs.YtgnonglkibhnhaaDoor.Print
