import Derived.Test.YtgnonglkibhnhaaDoorZ
import Derived.Test.YtgnonglkibhnhaaDoorM1
import Derived.Test.YtgnonglkibhnhaaDoorM3
import Derived.Test.YtgnonglkibhnhaaDoorF29
import Derived.Test.YtgnonglkibhnhaaDoorF30
namespace Go.Proofs.YtgnonglkibhnhaaDoor.Print
open Go.RowKit Go.Proofs.YtgnonglkibhnhaaDoorW.PrintWords Go.Proofs.YtgnonglkibhnhaaDoorW.PrintLast Go.Proofs.YtgnonglkibhnhaaDoorW.PrintMore
attribute [local go_sem] max2_int min2_int max_two min_two max_three min_three max_four min_four
set_option linter.unusedVariables false
set_option linter.unusedSimpArgs false

/-! ### capture_Write: function 14 -/
attribute [local go_sem high] capture_as65 capture_as65n capture_as65z capture_as67 capture_as67n capture_as67z capture_as65x
def capture_Write.f (k : Nat) (l0 : List (S42)) (a1 : Int) (a2_0 a2_1 a2_2 a2_3 : Int) (a2_4 a2_5 : ByteArray) (a2_6 a2_7 : Int) (a2_8 : Bool) : Option ((List Int) × Int) :=
 if a1 = 1 then (slices_IndexFunc_Item.go l0 0).bind fun i => if 0 ≤ i then some ([], 1) else capture_records_write.f k 0 0 l0
 else if a1 = 2 then (slices_IndexFunc_Item.go l0 0).bind fun i => if 0 ≤ i then some ([], 1) else capture_notes_write.f k l0 a2_7 a2_8
 else some ([], 7)
set_option maxHeartbeats 8000000 in
set_option maxRecDepth 100000 in
theorem capture_Write.calls (k : Nat) (A0 : Option Addr) (c0 : Nat) (l0 : List (S42)) (a1 : Int) (a2_0 a2_1 a2_2 a2_3 : Int) (a2_4 a2_5 : ByteArray) (a2_6 a2_7 : Int) (a2_8 : Bool) (r1 : List Int) (r2 : Int) (w : World) (hG0 : Kd.C k131 w (some ⟨0, 0, none⟩) 8 formsG0) (hr0 : Kd.C k42 w A0 l0.length l0) (hc0 : l0.length ≤ c0) (h : capture_Write.f k l0 a1 a2_0 a2_1 a2_2 a2_3 a2_4 a2_5 a2_6 a2_7 a2_8 = some (r1, r2)) :
  Calls Tryd.prog 14 #[.slice A0 l0.length c0, .int .i64 a1, .agg #[.int .i64 a2_0, .int .i64 a2_1, .int .i64 a2_2, .int .i64 a2_3, .string a2_4, .string a2_5, .int .i64 a2_6, .int .u32 a2_7, .bool a2_8]] w fun e w' => ∃ v0_ : Value, e = .returned (.tuple #[v0_, .int .i64 r2]) ∧ Kd.R (Kd.int .u8) 5 w' w.heap.size (fun _ => True) v0_ r1 ∧ Below w.heap.size w w' := by
 have hu25 := Tryd.underlying25
 have hu65 := Tryd.underlying65
 have hu67 := Tryd.underlying67
 have HG0 := a_ hG0
 have HR0 := a_ hr0
 have HC0 := a_ hc0
 have HB := a_ (Below.refl w.heap.size w)
 have HH := a_ h
 clear hG0 hr0 hc0 h
 by_cases e1 : a1 = 1
 ·subst e1
  have h := HH.out
  rw [capture_Write.f, if_pos rfl] at h
  obtain ⟨i, hi, h⟩ := Option.bind_eq_some_iff.1 h
  have HI := a_ hi
  clear HH hi
  by_cases hp : 0 ≤ i
  ·rw [if_pos hp] at h
   simp only [Option.some.injEq, Prod.mk.injEq] at h
   obtain ⟨rfl, rfl⟩ := h
   have hd : decide (0 ≤ i) = true := decide_eq_true hp
   go_enter Tryd.func14, Tryd.ntmps14
   go_wp2_with (first | (refine be_ 5 #[.int .i64 a2_0, .int .i64 a2_1, .int .i64 a2_2, .int .i64 a2_3, .string a2_4, .string a2_5, .int .i64 a2_6, .int .u32 a2_7, .bool a2_8] 25 ?_; intro g5 hg w5 hbox hb; have HB5 := bs_ HB hb; have BK5 := a_ hbox; clear hg hbox hb) | (go_at_call 22; refine (capture_formOf.calls 1 _).mono ?_; rintro e w8 ⟨he, hb⟩; rw [show capture_formOf.form (capture_formOf.at 1) = .iface 65 (.agg #[]) from rfl] at he; subst he; have HB8 := bs_ HB5 hb; have BK5c := bb_ BK5 hb; clear hb) | (go_at_call 27; refine (slices_ContainsFunc_Item.calls A0 c0 l0 i _ (Kd.C_below HR0.out HB8.out) HC0.out HI.out).mono ?_; rintro e w9 ⟨rfl, hb⟩; have HB9 := bs_ HB8 hb; have BK5d := bb_ BK5c hb; clear hb))
   go_ret2
   exact ⟨_, rfl, Kd.R_nil _ _ _ _ _, HB9.out⟩
  ·rw [if_neg hp] at h
   have HT := a_ h
   have hd : decide (0 ≤ i) = false := decide_eq_false hp
   clear h
   go_enter Tryd.func14, Tryd.ntmps14
   go_wp2_with (first | (refine be_ 5 #[.int .i64 a2_0, .int .i64 a2_1, .int .i64 a2_2, .int .i64 a2_3, .string a2_4, .string a2_5, .int .i64 a2_6, .int .u32 a2_7, .bool a2_8] 25 ?_; intro g5 hg w5 hbox hb; have HB5 := bs_ HB hb; have BK5 := a_ hbox; clear hg hbox hb) | (go_at_call 22; refine (capture_formOf.calls 1 _).mono ?_; rintro e w8 ⟨he, hb⟩; rw [show capture_formOf.form (capture_formOf.at 1) = .iface 65 (.agg #[]) from rfl] at he; subst he; have HB8 := bs_ HB5 hb; have BK5c := bb_ BK5 hb; clear hb) | (go_at_call 27; refine (slices_ContainsFunc_Item.calls A0 c0 l0 i _ (Kd.C_below HR0.out HB8.out) HC0.out HI.out).mono ?_; rintro e w9 ⟨rfl, hb⟩; have HB9 := bs_ HB8 hb; have BK5d := bb_ BK5c hb; clear hb) | (refine be_ 9 #[] 67 ?_; intro g9 hg w10 hbox hb; have HB10 := bs_ HB9 hb; have BK5e := bb_ BK5d hb; obtain ⟨hc5_0, hc5_1, hc5_2, hc5_3, hc5_4, hc5_5, hc5_6, hc5_7, hc5_8⟩ := blc9 BK5e.out; clear hg hbox hb) | (go_at_call 30; refine (capture_records_write.calls k 0 0 A0 c0 l0 r1 r2 _ (Kd.C_below HR0.out HB10.out) HC0.out HT.out).mono ?_; rintro e w11 ⟨v0, rfl, ho, hb⟩; have HO := a_ (Kd.R_lower ho HB10.out.size); have HB11 := bs_ HB10 hb; clear ho hb))
   go_ret2
   exact ⟨_, rfl, HO.out, HB11.out⟩
 ·by_cases e2 : a1 = 2
  ·subst e2
   have h := HH.out
   rw [capture_Write.f, if_neg e1, if_pos rfl] at h
   obtain ⟨i, hi, h⟩ := Option.bind_eq_some_iff.1 h
   have HI := a_ hi
   clear HH hi
   by_cases hp : 0 ≤ i
   ·rw [if_pos hp] at h
    simp only [Option.some.injEq, Prod.mk.injEq] at h
    obtain ⟨rfl, rfl⟩ := h
    have hd : decide (0 ≤ i) = true := decide_eq_true hp
    go_enter Tryd.func14, Tryd.ntmps14
    go_wp2_with (first | (refine be_ 5 #[.int .i64 a2_0, .int .i64 a2_1, .int .i64 a2_2, .int .i64 a2_3, .string a2_4, .string a2_5, .int .i64 a2_6, .int .u32 a2_7, .bool a2_8] 25 ?_; intro g5 hg w5 hbox hb; have HB5 := bs_ HB hb; have BK5 := a_ hbox; clear hg hbox hb) | (go_at_call 22; refine (capture_formOf.calls 2 _).mono ?_; rintro e w8 ⟨he, hb⟩; rw [show capture_formOf.form (capture_formOf.at 2) = .iface 67 (.agg #[]) from rfl] at he; subst he; have HB8 := bs_ HB5 hb; have BK5c := bb_ BK5 hb; clear hb) | (go_at_call 27; refine (slices_ContainsFunc_Item.calls A0 c0 l0 i _ (Kd.C_below HR0.out HB8.out) HC0.out HI.out).mono ?_; rintro e w9 ⟨rfl, hb⟩; have HB9 := bs_ HB8 hb; have BK5d := bb_ BK5c hb; clear hb))
    go_ret2
    exact ⟨_, rfl, Kd.R_nil _ _ _ _ _, HB9.out⟩
   ·rw [if_neg hp] at h
    have HT := a_ h
    have hd : decide (0 ≤ i) = false := decide_eq_false hp
    clear h
    go_enter Tryd.func14, Tryd.ntmps14
    go_wp2_with (first | (refine be_ 5 #[.int .i64 a2_0, .int .i64 a2_1, .int .i64 a2_2, .int .i64 a2_3, .string a2_4, .string a2_5, .int .i64 a2_6, .int .u32 a2_7, .bool a2_8] 25 ?_; intro g5 hg w5 hbox hb; have HB5 := bs_ HB hb; have BK5 := a_ hbox; clear hg hbox hb) | (go_at_call 22; refine (capture_formOf.calls 2 _).mono ?_; rintro e w8 ⟨he, hb⟩; rw [show capture_formOf.form (capture_formOf.at 2) = .iface 67 (.agg #[]) from rfl] at he; subst he; have HB8 := bs_ HB5 hb; have BK5c := bb_ BK5 hb; clear hb) | (go_at_call 27; refine (slices_ContainsFunc_Item.calls A0 c0 l0 i _ (Kd.C_below HR0.out HB8.out) HC0.out HI.out).mono ?_; rintro e w9 ⟨rfl, hb⟩; have HB9 := bs_ HB8 hb; have BK5d := bb_ BK5c hb; clear hb) | (refine be_ 9 #[] 67 ?_; intro g9 hg w10 hbox hb; have HB10 := bs_ HB9 hb; have BK5e := bb_ BK5d hb; obtain ⟨hc5_0, hc5_1, hc5_2, hc5_3, hc5_4, hc5_5, hc5_6, hc5_7, hc5_8⟩ := blc9 BK5e.out; clear hg hbox hb) | (go_at_call 29; refine (capture_notes_write.calls k A0 c0 l0 a2_0 a2_1 a2_2 a2_3 a2_4 a2_5 a2_6 a2_7 a2_8 r1 r2 _ (Kd.C_below HG0.out HB10.out) (Kd.C_below HR0.out HB10.out) HC0.out HT.out).mono ?_; rintro e w11 ⟨v0, rfl, ho, hb⟩; have HO := a_ (Kd.R_lower ho HB10.out.size); have HB11 := bs_ HB10 hb; clear ho hb))
    go_ret2
    exact ⟨_, rfl, HO.out, HB11.out⟩
  ·have h := HH.out
   rw [capture_Write.f, if_neg e1, if_neg e2] at h
   simp only [Option.some.injEq, Prod.mk.injEq] at h
   obtain ⟨rfl, rfl⟩ := h
   have hat : capture_formOf.form (capture_formOf.at a1) = .nilIface := by unfold capture_formOf.at; rw [if_neg e1, if_neg e2]; rfl
   have HAT := a_ hat
   clear HH hat
   go_enter Tryd.func14, Tryd.ntmps14
   go_wp2_with (first | (refine be_ 5 #[.int .i64 a2_0, .int .i64 a2_1, .int .i64 a2_2, .int .i64 a2_3, .string a2_4, .string a2_5, .int .i64 a2_6, .int .u32 a2_7, .bool a2_8] 25 ?_; intro g5 hg w5 hbox hb; have HB5 := bs_ HB hb; have BK5 := a_ hbox; clear hg hbox hb) | (go_at_call 22; refine (capture_formOf.calls a1 _).mono ?_; rintro e w8 ⟨he, hb⟩; rw [HAT.out] at he; subst he; have HB8 := bs_ HB5 hb; have BK5c := bb_ BK5 hb; clear hb))
   go_ret2
   exact ⟨_, rfl, Kd.R_nil _ _ _ _ _, HB8.out⟩

end Go.Proofs.YtgnonglkibhnhaaDoor.Print
