-- laid together by this session's own program (wip/tools/merge.py) of texts that its program laid
import Derived.Test.YtgnonglkibhnhaaDoorF24
import Derived.Test.YtgnonglkibhnhaaDoorF39
namespace Go.Proofs.YtgnonglkibhnhaaDoor.Print
open Go.RowKit Go.Proofs.YtgnonglkibhnhaaDoorW.PrintWords Go.Proofs.YtgnonglkibhnhaaDoorW.PrintLast Go.Proofs.YtgnonglkibhnhaaDoorW.PrintMore
attribute [local go_sem] a0n a0o a0P a0Q Y4 Y5 a0p a0q
set_option linter.unusedVariables false
set_option linter.unusedSimpArgs false
set_option maxHeartbeats 16000000
set_option maxRecDepth 100000
section
attribute [local go_sem high] b4C b29 b3a b4D b3b b3c
def a0F.f (k : Nat) (l0 : List Int) (a1 : Int) (a1J a1K a1L a1M : Int) (a1N a1O : ByteArray) (a02 a0D : Int) (a0y : Bool) : Option ((List (S42)) × Int × Int) := if a1 = 1 then capture_records_read.f k l0 a02 else if a1 = 2 then capture_notes_read.f k l0 a0D a0y else some ([], 0, 7)
theorem a0F.calls (k : Nat) (A0 : Option Addr) (c0 : Nat) (l0 : List Int) (a1 : Int) (a1J a1K a1L a1M : Int) (a1N a1O : ByteArray) (a02 a0D : Int) (a0y : Bool) (r1 : List (S42)) (r2 r3 : Int) (w : World) (hG0 : Kd.C b3v w (some ⟨0, 0, none⟩) 8 H6) (hr0 : Kd.C (Kd.int .u8) w A0 l0.length l0) (hc0 : l0.length ≤ c0) (h : a0F.f k l0 a1 a1J a1K a1L a1M a1N a1O a02 a0D a0y = some (r1, r2, r3)) :
  Calls Tryd.prog 10 #[.slice A0 l0.length c0, .int .i64 a1, .agg #[.int .i64 a1J, .int .i64 a1K, .int .i64 a1L, .int .i64 a1M, .string a1N, .string a1O, .int .i64 a02, .int .u32 a0D, .bool a0y]] w fun e w' => ∃ v0_ : Value, e = .returned (.tuple #[v0_, .agg #[.int .i64 r2, .int .i64 r3]]) ∧ Kd.S k42 42 w' w.heap.size (fun _ => True) v0_ r1 ∧ Below w.heap.size w w' := by
 have a7R := Tryd.underlying30
 have c1j := Tryd.underlying25
 have e5D := Tryd.underlying65
 have e5E := Tryd.underlying67
 have HG0 := a_ hG0
 have HR0 := a_ hr0
 have HC0 := a_ hc0
 have HB := a_ (Below.refl w.heap.size w)
 have HH := a_ h
 clear hG0 hr0 hc0 h
 by_cases e1 : a1 = 1
 ·subst e1; have h := HH.out; rw [a0F.f, if_pos rfl] at h; have HT := a_ h; clear HH h
  go_enter Tryd.func10, Tryd.ntmps10
  go_wp2_with (first | (refine be_ 5 #[.int .i64 a1J, .int .i64 a1K, .int .i64 a1L, .int .i64 a1M, .string a1N, .string a1O, .int .i64 a02, .int .u32 a0D, .bool a0y] 25 ?_; intro g5 hg w5 hbox hb; have HB5 := U9 HB hb; have BK5 := a_ hbox; clear hg hbox hb) | (refine be_ 7 #[.int .i64 0, .int .i64 0] 30 ?_; intro g7 hg w7 hbox hb; have HB7 := U9 HB5 hb; have a9Q := X4 BK5 hb; have BK7 := a_ hbox; have GE7 : Aside0 (w.heap.size ≤ g7) := ⟨by rw [hg]; exact HB5.out.size⟩; clear hg hbox hb) | (go_at_call 22; refine (D8.calls 1 _).mono ?_; rintro e w8 ⟨he, hb⟩; rw [show D8.form (D8.at 1) = .iface 65 (.agg #[]) from rfl] at he; subst he; have HB8 := U9 HB7 hb; have a9O := X4 a9Q hb; have b2W := X4 BK7 hb;  clear hb) | (refine be_ 8 #[] 65 ?_; intro g9 hg w9 hbox hb; have HB9 := U9 HB8 hb; have a4O := X4 a9O hb; have b1e := X4 b2W hb; have g5d := hbox; obtain ⟨c4u, c4v, c4w, c4x, d4l, d4m, d4n, c8R, c8S⟩ := d81 a4O.out; have g5e : (w9.heap[g9]?) = some (.cells #[] 65 (0, 0)) := hbox; clear hg hbox hb) | (go_at_call 23; refine (capture_records_read.calls k A0 c0 l0 a1J a1K a1L a1M a1N a1O a02 a0D a0y r1 r2 r3 _ (Kd.C9 HR0.out HB9.out) HC0.out HT.out).mono ?_; rintro e w10 ⟨v0, rfl, ho, hb⟩; have HO := a_ ho; have HLO := a_ HB9.out.size; have a6Q := U9 HB9 hb; have b3V := X4 b1e hb; clear ho hb; have b8V := bc0 b3V; have b3W := l7 b3V.out 0; have b8W := bc1 b3V; have b3X := l7 b3V.out 1))
  refine bodyPost_ret (a0u rfl _ _ g7 30 #[.int .i64 r2, .int .i64 r3] (0, 0) _ rfl (l9 (l9 b3V.out 0 _ rfl) 1 _ rfl) a7R rfl (by kernel_rfl)) rfl ?_; exact ⟨_, rfl, Kd.a7r (Kd.b0U (Kd.b0U HO.out b3V.out (by decide) 0 _) (a3U b3V.out 0 _) (by decide) 1 _) HLO.out, o7 (o7 a6Q.out GE7.out) GE7.out⟩
 ·by_cases e2 : a1 = 2
  ·subst e2; have h := HH.out; rw [a0F.f, if_neg e1, if_pos rfl] at h; have HT := a_ h; clear HH h
   go_enter Tryd.func10, Tryd.ntmps10
   go_wp2_with (first | (refine be_ 5 #[.int .i64 a1J, .int .i64 a1K, .int .i64 a1L, .int .i64 a1M, .string a1N, .string a1O, .int .i64 a02, .int .u32 a0D, .bool a0y] 25 ?_; intro g5 hg w5 hbox hb; have HB5 := U9 HB hb; have BK5 := a_ hbox; clear hg hbox hb) | (refine be_ 7 #[.int .i64 0, .int .i64 0] 30 ?_; intro g7 hg w7 hbox hb; have HB7 := U9 HB5 hb; have a9Q := X4 BK5 hb; have BK7 := a_ hbox; have GE7 : Aside0 (w.heap.size ≤ g7) := ⟨by rw [hg]; exact HB5.out.size⟩; clear hg hbox hb) | (go_at_call 22; refine (D8.calls 2 _).mono ?_; rintro e w8 ⟨he, hb⟩; rw [show D8.form (D8.at 2) = .iface 67 (.agg #[]) from rfl] at he; subst he; have HB8 := U9 HB7 hb; have a9O := X4 a9Q hb; have b2W := X4 BK7 hb;  clear hb) | (refine be_ 9 #[] 67 ?_; intro g9 hg w9 hbox hb; have HB9 := U9 HB8 hb; have a4O := X4 a9O hb; have b1e := X4 b2W hb; have g5d := hbox; obtain ⟨c4u, c4v, c4w, c4x, d4l, d4m, d4n, c8R, c8S⟩ := d81 a4O.out; have g5e : (w9.heap[g9]?) = some (.cells #[] 67 (0, 0)) := hbox; clear hg hbox hb) | (go_at_call 24; refine (capture_notes_read.calls k A0 c0 l0 a1J a1K a1L a1M a1N a1O a02 a0D a0y r1 r2 r3 _ (Kd.C9 HG0.out HB9.out) (Kd.C9 HR0.out HB9.out) HC0.out HT.out).mono ?_; rintro e w10 ⟨v0, rfl, ho, hb⟩; have HO := a_ ho; have HLO := a_ HB9.out.size; have a6Q := U9 HB9 hb; have b3V := X4 b1e hb; clear ho hb; have b8V := bc0 b3V; have b3W := l7 b3V.out 0; have b8W := bc1 b3V; have b3X := l7 b3V.out 1))
   refine bodyPost_ret (a0u rfl _ _ g7 30 #[.int .i64 r2, .int .i64 r3] (0, 0) _ rfl (l9 (l9 b3V.out 0 _ rfl) 1 _ rfl) a7R rfl (by kernel_rfl)) rfl ?_; exact ⟨_, rfl, Kd.a7r (Kd.b0U (Kd.b0U HO.out b3V.out (by decide) 0 _) (a3U b3V.out 0 _) (by decide) 1 _) HLO.out, o7 (o7 a6Q.out GE7.out) GE7.out⟩
  ·have h := HH.out; rw [a0F.f, if_neg e1, if_neg e2] at h
   simp only [Option.some.injEq, Prod.mk.injEq] at h
   obtain ⟨rfl, rfl, rfl⟩ := h; have hat : D8.form (D8.at a1) = .nilIface := by unfold D8.at; rw [if_neg e1, if_neg e2]; rfl
   have HAT := a_ hat; clear HH hat
   go_enter Tryd.func10, Tryd.ntmps10
   go_wp2_with (first | (refine be_ 5 #[.int .i64 a1J, .int .i64 a1K, .int .i64 a1L, .int .i64 a1M, .string a1N, .string a1O, .int .i64 a02, .int .u32 a0D, .bool a0y] 25 ?_; intro g5 hg w5 hbox hb; have HB5 := U9 HB hb; have BK5 := a_ hbox; clear hg hbox hb) | (refine be_ 7 #[.int .i64 0, .int .i64 0] 30 ?_; intro g7 hg w7 hbox hb; have HB7 := U9 HB5 hb; have a9Q := X4 BK5 hb; have BK7 := a_ hbox; have GE7 : Aside0 (w.heap.size ≤ g7) := ⟨by rw [hg]; exact HB5.out.size⟩; clear hg hbox hb) | (go_at_call 22; refine (D8.calls a1 _).mono ?_; rintro e w8 ⟨he, hb⟩; rw [HAT.out] at he; subst he; have HB8 := U9 HB7 hb; have a9O := X4 a9Q hb; have b2W := X4 BK7 hb; have b8V := bc0 b2W; have b3W := l7 b2W.out 0; have b8W := bc1 b2W; have b3X := l7 b2W.out 1; clear hb))
   refine bodyPost_ret (a0u rfl _ _ g7 30 #[.int .i64 0, .int .i64 7] (0, 0) _ rfl (l9 (l9 b2W.out 0 _ rfl) 1 _ rfl) a7R rfl (by kernel_rfl)) rfl ?_; exact ⟨_, rfl, Kd.a5h _ _ _ _ _, o7 (o7 HB8.out GE7.out) GE7.out⟩
end
def V7.l0 : Nat → List Int → List (S58) → Int → Option ((List (S58)) × Int × Int)
 | 0, _, _, _ => none
 | k + 1, x0, x4, x5 => if x5 < (x0.length : Int) then (if 0 ≤ x5 then (if x5 ≤ (x0.length : Int) then ((umpireref10_Next.f k (x0.drop (x5 : Int).toNat)).bind fun c0w => (if c0w.2.2.2.2 = 0 then (if x4.length < 3518437208883 then (V7.l0 k x0 (x4 ++ [(⟨c0w.1, c0w.2.1, c0w.2.2.1⟩ : S58)]) (wrap64 (x5 + c0w.2.2.2.1))) else (none)) else (some (x4, x5, c0w.2.2.2.2)))) else (none)) else (none)) else (some (x4, 0, 0))
def V7.f (k : Nat) (l0 : List Int) : Option ((List (S58)) × Int × Int) := V7.l0 k l0 ([] : List (S58)) 0
theorem V7.calls (k : Nat) (A0 : Option Addr) (c0 : Nat) (l0 : List Int) (r1 : List (S58)) (r2 : Int) (r3 : Int) (w : World) (hr0 : Kd.C (Kd.int .u8) w A0 l0.length l0) (hc0 : l0.length ≤ c0) (h : V7.f k l0 = some (r1, r2, r3)) :
  Calls Tryd.prog 20 #[.slice A0 l0.length c0] w fun e w' => ∃ v0_ : Value, e = .returned (.tuple #[v0_, .agg #[.int .i64 r2, .int .i64 r3]]) ∧ Kd.S k58 58 w' w.heap.size (fun _ => True) v0_ r1 ∧ Below w.heap.size w w' := by
 have a7R := Tryd.underlying30
 have c6F := Tryd.underlying58
 have HR0 := a_ hr0
 have HC0 := a_ hc0
 clear hr0 hc0
 have HB := a_ (Below.refl w.heap.size w)
 have H := h
 clear h
 unfold V7.f at H
 have H' := a_ H
 clear H
 go_enter Tryd.func20, Tryd.ntmps20
 go_wp2_with (first | (refine be_ 3 #[.int .i64 0, .int .i64 0] 30 ?_; intro b6p hg w2 hbox hb; have a4F := a_ hbox; have e4q := lb_ HB hg; replace HB := U9 HB hb; clear hb hbox hg))
 go_loopg [4, 5] k (fun kq v4 v5 w' => ∃ (a2H : List (S58)) (J9 : Int) (b2N : Int) (b2O : Int), v5 = .int .i64 J9 ∧ Aside0 (V7.l0 kq l0 a2H J9 = some (r1, r2, r3)) ∧ Aside0 (kq ≤ k) ∧ Aside0 (Kd.S k58 58 w' w.heap.size (fun _ => True) v4 a2H) ∧ Aside0 (w'.heap[b6p]? = some (.cells #[.int .i64 b2N, .int .i64 b2O] 30 (0, 0))) ∧ Aside0 (Below w.heap.size w w'))
 case atStart => exact ⟨([] : List (S58)), (0), (0), (0), (by rfl), H', ⟨Nat.le_refl _⟩, ⟨by (exact Kd.a5h _ _ _ _ _)⟩, ⟨by exact a4F.out⟩, ⟨by exact HB.out⟩⟩
 case round =>
  clear H'; obtain ⟨a2H, J9, b2N, b2O, rfl, HA, HK1, a1t, a4F, HB⟩ := hrel
  cases gk with
  | zero => exact absurd HA.out (by simp [V7.l0])
  | succ k1 =>
   have H := HA.out; clear HA
   simp only [V7.l0] at H
   by_cases c3 : J9 < (l0.length : Int)
   ·rw [if_pos c3] at H; have a3O := dt_ c3; clear c3; have c4 := Z7 H; replace H := O5 H; have a4d := eq_true c4; have b1R := dt_ c4; clear c4; have c5 := Z7 H; replace H := O5 H; have a5y := eq_true c5; have b0H := dt_ c5; clear c5; obtain ⟨⟨b8X, b8Y, b3Y, e8a, d6B⟩, A6, H⟩ := bd_ H
    try dsimp only at H
    by_cases c7 : d6B = 0
    ·rw [if_pos c7] at H; obtain ⟨a5U, a9R⟩ := bt_ c7; clear c7; have c8 := Z7 H; replace H := O5 H; have b5T := a_ c8; clear c8; obtain ⟨g5g, d6C⟩ := is_ ((a2H ++ [(⟨b8X, b8Y, b3Y⟩ : S58)]) : List (S58)); rw [← d6C] at H; have f4A := a_ d6C; clear d6C; have H' := a_ H; clear H; obtain ⟨i09, d6e, _, d6f, _⟩ := info_parts info5; obtain ⟨A9, f3R, hA9, hC9⟩ := a0N (P := Tryd.prog) (Value.int .u8) 0 22 5 .i64 Tryd.underlying22 d6e d6f A0 c0 l0 J9 (V9) (V9) HC0.out; have d6D := ci_ (Kd.Y8 (h1 := fun _ => rfl) (hA9 _ (Kd.Y2 HR0.out))); have d6E := a_ hC9; clear hA9 hC9 d6e d6f
     go_wp2_with (first | (refine gl_ (some 17) Tryd.func39 #[.slice A9 (l0.drop (J9 : Int).toNat).length (c0 - J9.toNat)] ?_ (hargs := by (try simp only [List.map_toArray, List.map_cons, List.map_nil]); (rw [show (l0.drop (J9 : Int).toNat).length = (l0.length - J9.toNat) from List.length_drop] <;> rfl)); (with_reducible refine (umpireref10_Next.calls k1 _ _ (l0.drop (J9 : Int).toNat) b8X b8Y b3Y e8a d6B _ (Kd.C9 d6D.out HB.out) d6E.out A6.out).mono ?_); rintro e w10 ⟨g5h, rfl, ho0, hb⟩; refine ⟨_, rfl, ?_⟩; have a98 := rl_ ho0 HB; replace a1t := rS_ a1t ho0 hb; replace a4F := X4 a4F hb; replace HB := U9 HB hb; (try clear hb); (try clear ho0)) | (refine be_ 6 #[.int .i64 0, .int .u32 0, .slice none 0 0] 58 ?_; intro a6q hg w11 hbox hb; have a99 := a_ hbox; have d6F := lb_ HB hg; obtain ⟨a5D, b50⟩ := nn_ a4F hg; replace a1t := se_ a1t hg hb; replace a98 := rb_ a98 hb; replace a4F := X4 a4F hb; replace HB := U9 HB hb; clear hb hbox hg; have d5B := b50.out; have d5C := a5D.out; obtain ⟨b2y, b2z, b62, b2A, b2B, b63⟩ := a1R a99.out; obtain ⟨a9C, a9D, d6j⟩ := Kd.G7 a98.out; subst d6j) | ((with_reducible refine a8E (t := 58) (p := 6) rfl ?_); refine a7w (t := 58) (p := 6) (v := ?e7P) (w1 := (((w11.setCell ⟨a6q, 0, none⟩ (.int .i64 b8X)).setCell ⟨a6q, 1, none⟩ (.int .u32 b8Y)).setCell ⟨a6q, 2, none⟩ (.slice a9C b3Y.length a9D))) ?hg ?ho ?hn ?hr ?_; (case ho => rfl); (case hg => rfl); (case hn => rfl); (case hr => (go_simp; done)); intro w15 hw; have n0_ : Aside0 (Kd.S k58 58 w15 w.heap.size (fun k_ => some k_ ≠ (.slice a9C b3Y.length a9D : Value).ownBlock ∧ k_ ≠ a6q) u4 a2H) := ⟨(by rw [hw]; exact (by exact Kd.N8 (Kd.V8 (p := ⟨a6q, 2, none⟩) (Kd.V8 (p := ⟨a6q, 1, none⟩) (Kd.V8 (p := ⟨a6q, 0, none⟩) (Kd.N8 a1t.out (fun k_ hk => (⟨hk, hk.2⟩ : _ ∧ k_ ≠ a6q))) (fun _ hk => hk.2) (.int .i64 b8X)) (fun _ hk => hk.2) (.int .u32 b8Y)) (fun _ hk => hk.2) (.slice a9C b3Y.length a9D)) (fun _ hk => ⟨hk.1.1.2, hk.1.2⟩)))⟩; have n1_ : Aside0 (Kd.R (Kd.int .u8) 5 w15 w.heap.size (fun _ => True) (.slice a9C b3Y.length a9D) b3Y) := ⟨(by rw [hw]; exact (by exact Kd.D7 (Kd.V3 (p := ⟨a6q, 2, none⟩) (Kd.V3 (p := ⟨a6q, 1, none⟩) (Kd.V3 (p := ⟨a6q, 0, none⟩) (Kd.U2 a98.out a99.out (by decide)) (fun _ hk => hk.2) (.int .i64 b8X)) (fun _ hk => hk.2) (.int .u32 b8Y)) (fun _ hk => hk.2) (.slice a9C b3Y.length a9D)) (fun _ hk => trivial)))⟩; have n2_ : Aside0 (w15.heap[b6p]? = some (.cells #[.int .i64 b2N, .int .i64 b2O] 30 (0, 0))) := ⟨(by rw [hw]; exact (o8 (o8 (o8 a4F.out a5D.out _) a5D.out _) a5D.out _))⟩; have n3_ : Aside0 (w15.heap[a6q]? = some (.cells #[.int .i64 b8X, .int .u32 b8Y, .slice a9C b3Y.length a9D] 58 (0, 0))) := ⟨(by rw [hw]; exact (l9 (l9 (l9 a99.out 0 _ rfl) 1 _ rfl) 2 _ rfl))⟩; have n4_ : Aside0 (Below w.heap.size w w15) := ⟨(by rw [hw]; exact (by repeat (with_reducible first | exact HB.out | refine o7 ?_ d6F.out)))⟩; clear hw a1t a98 a4F a99 HB; have a1t := n0_; have a98 := n1_; have a4F := n2_; have a99 := n3_; have HB := n4_; clear n0_ n1_ n2_ n3_ n4_; obtain ⟨c1N, c1O, d0o, c1P, c1Q, d0p⟩ := a1R a99.out) | ((with_reducible refine E5 (b := .append) (xs := #[.tmp 27, .tmp 29]) rfl ?_); at_builtin; refine Kd.a7y k58 (w0 := w) w.heap.size rfl (.tmp 27) (.tmp 29) 54 58 (.agg #[(.int .i64 0), (.int .u32 0), (.slice none 0 0)]) 40 rfl Tryd.underlying54 info58 rfl (by decide) (by omega) u4 a2H (⟨b8X, b8Y, b3Y⟩ : S58) [.int .i64 b8X, .int .u32 b8Y, .slice a9C b3Y.length a9D] (fun k_ => k_ ≠ a6q) (fun k_ => some k_ = (.slice a9C b3Y.length a9D : Value).ownBlock) rfl rfl ?aP (fun k_ hk_ => ((Kd.D7 (ok' := fun k_ => (fun k_ => k_ ≠ a6q) k_ ∧ some k_ ≠ (u4 : Value).ownBlock) (Kd.U2 (Kd.X5 (a98.out) (Kd.a2u a1t.out) (by decide)) a99.out (by decide)) (fun k_ hk => ⟨hk.2, hk.1.2⟩))).1 k_ hk_.symm) ?aF ?aO ?aB ?aS ?aL ?_; (case aP => exact c71 _ _ _ (⟨b8X, b8Y, b3Y⟩ : S58) (Kd.D7 (Kd.a3r rfl (Kd.D7 (ok' := fun k_ => (fun k_ => k_ ≠ a6q) k_ ∧ some k_ ≠ (u4 : Value).ownBlock) (Kd.U2 (Kd.X5 (a98.out) (Kd.a2u a1t.out) (by decide)) a99.out (by decide)) (fun k_ hk => ⟨hk.2, hk.1.2⟩))) (fun _ h_ => h_))); (case aB => exact HB.out); (case aF => exact (fun k_ hk => Kd.a6v a99.out k_ hk)); (case aO => exact (by exact Kd.N8 a1t.out (fun k_ hk => ⟨hk.2, fun e_ => hk.1 e_⟩))); (case aS => exact (y5 HB.out)); (case aL => have := b5T.out; omega); intro h1K w17 ho hb hg hat; rw [← f4A.out] at ho; have f4B := a_ ho; replace a4F := a_ (N7 a4F.out hg (Kd.b7C a1t.out a4F.out (by decide))); replace a99 := a_ (N7 a99.out hg (Kd.c0N a1t.out (fun _ hk => hk.2))); replace HB := a_ hb; clear a1t a98 ho hb hg hat))
     go_roundg k1
     case measure => have := HK1.out; omega
     case rel => exact ⟨(g5g), (wrap64 (J9 + e8a)), (b2N), (b2O), (by rfl), H', ⟨by have := HK1.out; omega⟩, ⟨by exact Kd.N8 f4B.out (fun _ hk => trivial)⟩, ⟨by exact a4F.out⟩, ⟨by exact HB.out⟩⟩
    ·rw [if_neg c7] at H; have a5U := bq_ c7; have a9R := bn_ c7; obtain ⟨rfl, rfl, rfl⟩ := s3_ H; obtain ⟨d5p, a7D, _, a7E, _⟩ := info_parts info5; obtain ⟨A18, b8q, b1H, b1I⟩ := a0N (P := Tryd.prog) (Value.int .u8) 0 22 5 .i64 Tryd.underlying22 a7D a7E A0 c0 l0 J9 (V9) (V9) HC0.out; have d6D := ci_ (Kd.Y8 (h1 := fun _ => rfl) (b1H _ (Kd.Y2 HR0.out))); have d6E := a_ b1I; clear b1H b1I a7D a7E
     go_wp2_with (first | (refine gl_ (some 17) Tryd.func39 #[.slice A18 (l0.drop (J9 : Int).toNat).length (c0 - J9.toNat)] ?_ (hargs := by (try simp only [List.map_toArray, List.map_cons, List.map_nil]); (rw [show (l0.drop (J9 : Int).toNat).length = (l0.length - J9.toNat) from List.length_drop] <;> rfl)); (with_reducible refine (umpireref10_Next.calls k1 _ _ (l0.drop (J9 : Int).toNat) b8X b8Y b3Y e8a d6B _ (Kd.C9 d6D.out HB.out) d6E.out A6.out).mono ?_); rintro e w19 ⟨g5h, rfl, ho0, hb⟩; refine ⟨_, rfl, ?_⟩; have a98 := rl_ ho0 HB; replace a1t := rS_ a1t ho0 hb; replace a4F := X4 a4F hb; replace HB := U9 HB hb; (try clear hb); (try clear ho0)) | (refine be_ 6 #[.int .i64 0, .int .u32 0, .slice none 0 0] 58 ?_; intro a6q hg w20 hbox hb; have a99 := a_ hbox; have d6F := lb_ HB hg; obtain ⟨a5D, b50⟩ := nn_ a4F hg; replace a1t := se_ a1t hg hb; replace a98 := rb_ a98 hb; replace a4F := X4 a4F hb; replace HB := U9 HB hb; clear hb hbox hg; have c9G := b50.out; have c9H := a5D.out; obtain ⟨b2q, b2r, b4F, b2s, b2t, b4G⟩ := a1R a99.out; obtain ⟨b1c, b1d, c7d⟩ := Kd.G7 a98.out; subst c7d; obtain ⟨b0A, b0B, b0C, b0D⟩ := a1p a4F.out))
     refine bodyPost_ret (a0u rfl _ _ b6p 30 #[.int .i64 J9, .int .i64 d6B] (0, 0) _ rfl (l9 (l9 (o8 (o8 (o8 a4F.out a5D.out _) a5D.out _) a5D.out _) 0 _ rfl) 1 _ rfl) Tryd.underlying30 rfl (by kernel_rfl)) rfl ?_; exact ⟨_, by (rfl), by exact Kd.N8 (Kd.V8 (p := ⟨b6p, 1, none⟩) (Kd.V8 (p := ⟨b6p, 0, none⟩) (Kd.V8 (p := ⟨a6q, 2, none⟩) (Kd.V8 (p := ⟨a6q, 1, none⟩) (Kd.V8 (p := ⟨a6q, 0, none⟩) (Kd.a1F (Kd.N8 a1t.out (fun k_ hk => (⟨hk, hk.2⟩ : _ ∧ k_ ≠ a6q))) a4F.out (by decide)) (fun _ hk => hk.1.2) (.int .i64 b8X)) (fun _ hk => hk.1.2) (.int .u32 b8Y)) (fun _ hk => hk.1.2) (.slice b1c b3Y.length b1d)) (fun _ hk => hk.2) (.int .i64 J9)) (fun _ hk => hk.2) (.int .i64 d6B)) (fun _ hk => trivial), by repeat (with_reducible first | exact HB.out | refine o7 ?_ e4q.out | refine o7 ?_ d6F.out)⟩
   ·rw [if_neg c3] at H; have a3O := df_ c3; clear c3; obtain ⟨rfl, rfl, rfl⟩ := s3_ H; obtain ⟨c84, c86, c89, c9a⟩ := a1p a4F.out
    go_wp2
    refine bodyPost_ret (a0u rfl _ _ b6p 30 #[.int .i64 0, .int .i64 0] (0, 0) _ rfl (l9 (l9 a4F.out 0 _ rfl) 1 _ rfl) Tryd.underlying30 rfl (by kernel_rfl)) rfl ?_; exact ⟨_, by (rfl), by exact Kd.N8 (Kd.V8 (p := ⟨b6p, 1, none⟩) (Kd.V8 (p := ⟨b6p, 0, none⟩) (Kd.a1F a1t.out a4F.out (by decide)) (fun _ hk => hk.2) (.int .i64 0)) (fun _ hk => hk.2) (.int .i64 0)) (fun _ hk => trivial), by repeat (with_reducible first | exact HB.out | refine o7 ?_ e4q.out)⟩
def J8.l0 : Nat → List Int → Int → List Int → Int → Option (List Int)
 | 0, _, _, _, _ => none
 | k + 1, x0, x1, x5, x6 => if x6 < (x0.length : Int) then (if 0 ≤ x6 then ((W9.f k x1 (rd x0 x6)).bind fun e8b => (if e8b = true then (J8.l0 k x0 x1 x5 (wrap64 (x6 + 1))) else (if x5.length < 140737488355328 then (J8.l0 k x0 x1 (x5 ++ [rd x0 x6]) (wrap64 (x6 + 1))) else (none)))) else (none)) else (some x5)
def J8.f (k : Nat) (l0 : List Int) (a1 : Int) : Option (List Int) := J8.l0 k l0 a1 ([] : List Int) 0
theorem J8.calls (k : Nat) (A0 : Option Addr) (c0 : Nat) (l0 : List Int) (a1 : Int) (r : List Int) (w : World) (hr0 : Kd.C (Kd.int .u8) w A0 l0.length l0) (hc0 : l0.length ≤ c0) (h : J8.f k l0 a1 = some r) :
  Calls Tryd.prog 99 #[.slice A0 l0.length c0, .int .u32 a1] w fun e w' => ∃ v0_ : Value, e = .returned (v0_) ∧ Kd.R (Kd.int .u8) 5 w' w.heap.size (fun _ => True) v0_ r ∧ Below w.heap.size w w' := by
 have HR0 := a_ hr0
 have HC0 := a_ hc0
 clear hr0 hc0
 have HB := a_ (Below.refl w.heap.size w)
 have H := h
 clear h
 unfold J8.f at H
 have H' := a_ H
 clear H
 go_enter Tryd.func99, Tryd.ntmps99
 go_wp2
 go_loopg [5, 6] k (fun kq v5 v6 w' => ∃ (J9 : List Int) (a07 : Int), v6 = .int .i64 a07 ∧ Aside0 (J8.l0 kq l0 a1 J9 a07 = some r) ∧ Aside0 (kq ≤ k) ∧ Aside0 (Kd.R (Kd.int .u8) 5 w' w.heap.size (fun _ => True) v5 J9) ∧ Aside0 (Below w.heap.size w w'))
 case atStart => exact ⟨([] : List Int), (0), (by rfl), H', ⟨Nat.le_refl _⟩, ⟨by (exact Kd.Y1 _ _ _ _ _)⟩, ⟨by exact HB.out⟩⟩
 case round =>
  clear H'; obtain ⟨J9, a07, rfl, HA, HK1, b6C, HB⟩ := hrel
  cases gk with
  | zero => exact absurd HA.out (by simp [J8.l0])
  | succ k1 =>
   have H := HA.out; clear HA
   simp only [J8.l0] at H
   by_cases c3 : a07 < (l0.length : Int)
   ·rw [if_pos c3] at H; have a3O := dt_ c3; clear c3; have a4d := a2z H; replace H := O5 H; obtain ⟨e8b, A5, H⟩ := bd_ H
    try dsimp only at H
    by_cases c6 : e8b = true
    ·subst c6; rw [if_pos rfl] at H; have H' := a_ H; clear H; have c7A : 0 ≤ (a07 : Int) := V9; have c7B : a07 < (l0.length : Int) := V9; obtain ⟨e4r, e8c, b5a⟩ := Kd.Q8 HR0.out a07 c7A c7B
     cases e8c
     replace b5a := cb_ HB b5a; replace c7A := eq_true c7A; replace c7B := eq_true c7B
     go_wp2_with (first | (refine gl_ (some 18) Tryd.func92 #[.int .u32 a1, .int .u8 (rd l0 a07)] ?_; (with_reducible refine (W9.calls k1 a1 (rd l0 a07) true _ A5.out).mono ?_); rintro e w' ⟨rfl, ⟨nd, rfl⟩⟩; refine ⟨_, rfl, ?_⟩))
     go_roundg k1
     case measure => have := HK1.out; omega
     case rel => exact ⟨(J9), (wrap64 (a07 + 1)), (by rfl), H', ⟨by have := HK1.out; omega⟩, ⟨by (with_reducible repeat (apply Kd.a1g)); exact b6C.out⟩, ⟨by repeat (with_reducible first | exact HB.out | apply o9)⟩⟩
    ·cases nt_ c6
     rw [if_neg a3S] at H; have c7 := Z7 H; replace H := O5 H; have d6G := a_ c7; clear c7; obtain ⟨g5i, d6H⟩ := is_ ((J9 ++ [rd l0 a07]) : List Int); rw [← d6H] at H; have f4C := a_ d6H; clear d6H; have H' := a_ H; clear H; have c7A : 0 ≤ (a07 : Int) := V9; have c7B : a07 < (l0.length : Int) := V9; obtain ⟨e4r, e8c, b5a⟩ := Kd.Q8 HR0.out a07 c7A c7B
     cases e8c
     replace b5a := cb_ HB b5a; replace c7A := eq_true c7A; replace c7B := eq_true c7B
     go_wp2_with (first | (refine gl_ (some 18) Tryd.func92 #[.int .u32 a1, .int .u8 (rd l0 a07)] ?_; (with_reducible refine (W9.calls k1 a1 (rd l0 a07) false _ A5.out).mono ?_); rintro e w' ⟨rfl, ⟨nd, rfl⟩⟩; refine ⟨_, rfl, ?_⟩; have e8d : 0 ≤ (a07 : Int) := V9; have e8e : a07 < (l0.length : Int) := V9; obtain ⟨f4D, g5j, d0G⟩ := Kd.Q8 HR0.out a07 e8d e8e; obtain rfl : e4r = f4D := (by injection g5j); replace d0G := cb_ HB d0G; replace e8d := eq_true e8d; replace e8e := eq_true e8e) | ((with_reducible refine E5 (b := .append) (xs := #[.tmp 20, .tmp 25]) rfl ?_); at_builtin; refine Kd.a2K (Kd.int .u8) (w0 := w) w.heap.size rfl (.tmp 20) (.tmp 25) 22 5 (.int .u8 0) 1 rfl Tryd.underlying22 info5 rfl (by decide) (by omega) u5 J9 (rd l0 a07) [.int .u8 (rd l0 a07)] (fun _ => True) (fun _ => False) rfl rfl ?aP (fun _ hk => hk.elim) ?aF ?aO ?aB ?aS ?aL ?_; (case aP => exact rfl); (case aB => exact (by repeat (with_reducible first | exact HB.out | apply o9))); (case aF => exact (fun _ _ => trivial)); (case aO => exact (by (with_reducible repeat (apply Kd.a1g)); exact b6C.out)); (case aS => exact (y5 (by repeat (with_reducible first | exact HB.out | apply o9)))); (case aL => have := d6G.out; omega); intro h1L w8 ho hb hg hat; rw [← f4C.out] at ho; have f4E := a_ ho; replace HB := a_ hb; clear b6C ho hb hg hat))
     go_roundg k1
     case measure => have := HK1.out; omega
     case rel => exact ⟨(g5i), (wrap64 (a07 + 1)), (by rfl), H', ⟨by have := HK1.out; omega⟩, ⟨by exact f4E.out⟩, ⟨by exact HB.out⟩⟩
   ·rw [if_neg c3] at H; have a3O := df_ c3; clear c3; obtain rfl := oj_ H
    go_wp2
    go_ret
    exact ⟨_, by (rfl), by exact b6C.out, by exact HB.out⟩
mutual
def y9.l0 : Nat → List Int → List Int → Int → Option (List Int × Bool)
 | 0, _, _, _ => none
 | k + 1, x6, x7, x8 => if x8 < (x6.length : Int) then (if 0 ≤ x8 then (if (rd x6 x8) = 126 then (y9.j1 k x6 x7 x8 true) else (if (rd x6 x8) = 125 then (if (wrap64 (x8 + 1)) = (x6.length : Int) then (y9.j1 k x6 x7 x8 true) else (if 0 ≤ (wrap64 (x8 + 1)) then (if (wrap64 (x8 + 1)) < (x6.length : Int) then (y9.j1 k x6 x7 x8 ((rd x6 (wrap64 (x8 + 1))) == 126)) else (none)) else (none))) else (y9.j1 k x6 x7 x8 false))) else (none)) else (some (x7, true))
def y9.j1 : Nat → List Int → List Int → Int → Bool → Option (List Int × Bool)
 | 0, _, _, _, _ => none
 | k + 1, x6, x7, x8, x42 => if x42 = true then (some (([] : List Int), false)) else (if 0 ≤ x8 then (if x8 < (x6.length : Int) then (if (rd x6 x8) = 125 then (if 0 ≤ (wrap64 (x8 + 1)) then (if (wrap64 (x8 + 1)) < (x6.length : Int) then (if x7.length < 140737488355328 then (y9.l0 k x6 (x7 ++ [Go.bits .xor .u8 (rd x6 (wrap64 (x8 + 1))) 32]) (wrap64 (x8 + 2))) else (none)) else (none)) else (none)) else (if x7.length < 140737488355328 then (y9.l0 k x6 (x7 ++ [rd x6 x8]) (wrap64 (x8 + 1))) else (none))) else (none)) else (none))
end
def y9.f (k : Nat) (l0 : List Int) (a1 : Int) : Option (List Int × Bool) := (J8.f k l0 a1).bind fun a5o => (y9.l0 k a5o ([] : List Int) 0)
theorem y9.calls (k : Nat) (A0 : Option Addr) (c0 : Nat) (l0 : List Int) (a1 : Int) (r1 : List Int) (r2 : Bool) (w : World) (hr0 : Kd.C (Kd.int .u8) w A0 l0.length l0) (hc0 : l0.length ≤ c0) (h : y9.f k l0 a1 = some (r1, r2)) :
  Calls Tryd.prog 100 #[.slice A0 l0.length c0, .int .u32 a1] w fun e w' => ∃ v0_ : Value, e = .returned (.tuple #[v0_, .bool r2]) ∧ Kd.R (Kd.int .u8) 5 w' w.heap.size (fun _ => True) v0_ r1 ∧ Below w.heap.size w w' := by
 have HR0 := a_ hr0
 have HC0 := a_ hc0
 clear hr0 hc0
 have HB := a_ (Below.refl w.heap.size w)
 have H := h
 clear h
 unfold y9.f at H
 obtain ⟨a5o, A3, H⟩ := bd_ H
 try dsimp only at H
 have H' := a_ H
 clear H
 go_enter Tryd.func100, Tryd.ntmps100
 go_wp2_with (first | (refine gl_ (some 11) Tryd.func99 #[.slice A0 l0.length c0, .int .u32 a1] ?_; (with_reducible refine (J8.calls k _ _ l0 a1 a5o _ HR0.out HC0.out A3.out).mono ?_); rintro e w4 ⟨f4F, rfl, ho0, hb⟩; refine ⟨_, rfl, ?_⟩; have f4G := rl_ ho0 HB; replace HB := U9 HB hb; (try clear hb); (try clear ho0)))
 go_loopg [7, 8] k (fun kq v7 v8 w' => ∃ (a2s : List Int) (Q7 : Int), v8 = .int .i64 Q7 ∧ Aside0 (y9.l0 kq a5o a2s Q7 = some (r1, r2)) ∧ Aside0 (kq ≤ k) ∧ Aside0 (Kd.R (Kd.int .u8) 5 w' w.heap.size (fun k_ => some k_ ≠ (v7 : Value).ownBlock) f4F a5o) ∧ Aside0 (Kd.R (Kd.int .u8) 5 w' w.heap.size (fun k_ => some k_ ≠ (f4F : Value).ownBlock) v7 a2s) ∧ Aside0 (Below w.heap.size w w'))
 case atStart => exact ⟨([] : List Int), (0), (by rfl), H', ⟨Nat.le_refl _⟩, ⟨by exact Kd.D7 f4G.out (fun _ hk => (by simp [Value.ownBlock]))⟩, ⟨by (exact Kd.Y1 _ _ _ _ _)⟩, ⟨by exact HB.out⟩⟩
 case round =>
  clear H'; obtain ⟨a2s, Q7, rfl, HA, HK1, a0U, U4, HB⟩ := hrel
  cases gk with
  | zero => exact absurd HA.out (by simp [y9.l0])
  | succ k1 =>
   have H := HA.out; clear HA
   simp only [y9.l0] at H
   by_cases c5 : Q7 < (a5o.length : Int)
   ·rw [if_pos c5] at H; have a5y := dt_ c5; clear c5; have HC6 := a_ H; clear H; obtain ⟨Ao7, co7, eo7⟩ := Kd.G7 a0U.out; subst eo7
    go_upto_region 5 with (fail)
    go_cut [42] (fun v42 wc => ∃ (kq : Nat) (d0H : Bool), v42 = .bool d0H ∧ Aside0 (y9.j1 kq a5o a2s Q7 d0H = some (r1, r2)) ∧ Aside0 (kq ≤ k1) ∧ Aside0 (Kd.R (Kd.int .u8) 5 wc w.heap.size (fun k_ => some k_ ≠ (u7 : Value).ownBlock) (.slice Ao7 a5o.length co7) a5o) ∧ Aside0 (Kd.R (Kd.int .u8) 5 wc w.heap.size (fun k_ => some k_ ≠ ((.slice Ao7 a5o.length co7) : Value).ownBlock) u7 a2s) ∧ Aside0 (Below w.heap.size w wc))
    case first =>
     have H := HC6.out; clear HC6; have b1u := a2z H; replace H := O5 H
     by_cases c9 : (rd a5o Q7) = 126
     ·rw [if_pos c9] at H; obtain ⟨b1v, b71⟩ := bt_ c9; clear c9; have H' := a_ H; clear H; have e8f : (0 ≤ (Q7 : Int)) = True := et_; have e8g : (Q7 < (a5o.length : Int)) = True := et_; obtain ⟨b8Z, c7C, c2O⟩ := Kd.Q8 (Kd.E8 a0U.out).2.2 Q7 V9 V9
      cases c7C
      go_wp2
      go_meet
      case rel => exact ⟨_, (true), (by rfl), H', ⟨by have := HK1.out; (omega)⟩, ⟨by exact a0U.out⟩, ⟨by exact U4.out⟩, ⟨by exact HB.out⟩⟩
     ·rw [if_neg c9] at H; have b1v := bq_ c9; have b71 := bn_ c9
      by_cases c10 : (rd a5o Q7) = 125
      ·rw [if_pos c10] at H; obtain ⟨a9e, b72⟩ := bt_ c10; clear c10
       by_cases c11 : (wrap64 (Q7 + 1)) = (a5o.length : Int)
       ·rw [if_pos c11] at H; obtain ⟨a7B, d0j⟩ := bt_ c11; clear c11; have H' := a_ H; clear H; have e8f : (0 ≤ (Q7 : Int)) = True := et_; have e8g : (Q7 < (a5o.length : Int)) = True := et_; obtain ⟨b8Z, c7C, c2O⟩ := Kd.Q8 (Kd.E8 a0U.out).2.2 Q7 V9 V9
        cases c7C
        have f4H : (0 ≤ (Q7 : Int)) = True := et_; have f4I : (Q7 < (a5o.length : Int)) = True := et_; obtain ⟨c5p, d6I, d0I⟩ := Kd.Q8 (Kd.E8 a0U.out).2.2 Q7 V9 V9; obtain rfl : b8Z = c5p := (by injection d6I)
        go_wp2
        go_meet
        case rel => exact ⟨_, (true), (by rfl), H', ⟨by have := HK1.out; (omega)⟩, ⟨by exact a0U.out⟩, ⟨by exact U4.out⟩, ⟨by exact HB.out⟩⟩
       ·rw [if_neg c11] at H; have a7B := bq_ c11; have d0j := bn_ c11; obtain ⟨d6J, d0J⟩ := si_ ((wrap64 (Q7 + 1))); rw [d0J] at H
        (try rw [d0J] at a7B)
        (try rw [d0J] at d0j)
        have g5k : (IntKind.i64.wrap (Q7 + 1)) = d6J := (a0I _).trans d0J; have b73 := a2z H; replace H := O5 H; have b8i := a2z H; replace H := O5 H; have H' := a_ H; clear H; have e8f : (0 ≤ (Q7 : Int)) = True := et_; have e8g : (Q7 < (a5o.length : Int)) = True := et_; obtain ⟨b8Z, c7C, c2O⟩ := Kd.Q8 (Kd.E8 a0U.out).2.2 Q7 V9 V9
        cases c7C
        have f4H : (0 ≤ (Q7 : Int)) = True := et_; have f4I : (Q7 < (a5o.length : Int)) = True := et_; obtain ⟨c5p, d6I, d0I⟩ := Kd.Q8 (Kd.E8 a0U.out).2.2 Q7 V9 V9; obtain rfl : b8Z = c5p := (by injection d6I); have h1N : (0 ≤ ((d6J) : Int)) = True := et_; have h1O : ((d6J) < (a5o.length : Int)) = True := et_; obtain ⟨f4J, g5l, f9K⟩ := Kd.Q8 (Kd.E8 a0U.out).2.2 (d6J) V9 V9; obtain rfl : b8Z = f4J := (by injection g5l)
        go_wp2
        go_meet
        case rel => exact ⟨_, (((rd a5o (d6J)) == 126)), (by rfl), H', ⟨by have := HK1.out; (omega)⟩, ⟨by exact a0U.out⟩, ⟨by exact U4.out⟩, ⟨by exact HB.out⟩⟩
      ·rw [if_neg c10] at H; have a9e := bq_ c10; have b72 := bn_ c10; have H' := a_ H; clear H; have e8f : (0 ≤ (Q7 : Int)) = True := et_; have e8g : (Q7 < (a5o.length : Int)) = True := et_; obtain ⟨b8Z, c7C, c2O⟩ := Kd.Q8 (Kd.E8 a0U.out).2.2 Q7 V9 V9
       cases c7C
       have f4H : (0 ≤ (Q7 : Int)) = True := et_; have f4I : (Q7 < (a5o.length : Int)) = True := et_; obtain ⟨c5p, d6I, d0I⟩ := Kd.Q8 (Kd.E8 a0U.out).2.2 Q7 V9 V9; obtain rfl : b8Z = c5p := (by injection d6I)
       go_wp2
       go_meet
       case rel => exact ⟨_, (false), (by rfl), H', ⟨by have := HK1.out; (omega)⟩, ⟨by exact a0U.out⟩, ⟨by exact U4.out⟩, ⟨by exact HB.out⟩⟩
    case rest =>
     clear HC6
     try clear a5y
     obtain ⟨kq, d0H, rfl, HA, HJ5, a0U, U4, HB⟩ := hcut
     cases kq with
     | zero => exact absurd HA.out (by simp [y9.j1])
     | succ kj5 =>
      have H := HA.out; clear HA
      simp only [y9.j1] at H
      by_cases c15 : d0H = true
      ·subst c15; rw [if_pos rfl] at H; obtain ⟨rfl, rfl⟩ := s2_ H
       go_wp2
       go_ret2
       exact ⟨_, by (rfl), by (exact Kd.Y1 _ _ _ _ _), by exact HB.out⟩
      ·cases nt_ c15
       rw [if_neg a3S] at H; have c8r := a2z H; replace H := O5 H; have b4w := a2z H; replace H := O5 H
       by_cases c18 : (rd a5o Q7) = 125
       ·rw [if_pos c18] at H; obtain ⟨c8t, e2R⟩ := bt_ c18; clear c18; obtain ⟨a3u, c0u⟩ := si_ ((wrap64 (Q7 + 1))); rw [c0u] at H; have e73 : (IntKind.i64.wrap (Q7 + 1)) = a3u := (a0I _).trans c0u; have b74 := a2z H; replace H := O5 H; have e4n := a2z H; replace H := O5 H; have c22 := Z7 H; replace H := O5 H; have f4K := a_ c22; clear c22; obtain ⟨g5m, d6K⟩ := is_ ((a2s ++ [Go.bits .xor .u8 (rd a5o (a3u)) 32]) : List Int); rw [← d6K] at H; have f4L := a_ d6K; clear d6K; have H' := a_ H; clear H; have g5n : (0 ≤ (Q7 : Int)) = True := et_; have g5o : (Q7 < (a5o.length : Int)) = True := et_; obtain ⟨c5q, e8h, e1R⟩ := Kd.Q8 (Kd.E8 a0U.out).2.2 Q7 V9 V9
        cases e8h
        have h1P : (0 ≤ ((a3u) : Int)) = True := et_; have h1Q : ((a3u) < (a5o.length : Int)) = True := et_; obtain ⟨f4M, g5p, f9L⟩ := Kd.Q8 (Kd.E8 a0U.out).2.2 (a3u) V9 V9; obtain rfl : c5q = f4M := (by injection g5p)
        go_wp2_with (first | ((with_reducible refine E5 (b := .append) (xs := #[.tmp 48, .tmp 55]) rfl ?_); (try (refine Y7 (by rfl) ?_; dsimp only)); at_builtin; refine Kd.a2K (Kd.int .u8) (w0 := w) w.heap.size rfl (.tmp 48) (.tmp 55) 22 5 (.int .u8 0) 1 rfl Tryd.underlying22 info5 rfl (by decide) (by omega) u7 a2s (Go.bits .xor .u8 (rd a5o (a3u)) 32) [.int .u8 (Go.bits .xor .u8 (rd a5o (a3u)) 32)] (fun k_ => some k_ ≠ (.slice (some c5q) a5o.length co7 : Value).ownBlock) (fun _ => False) rfl rfl ?aP (fun _ hk => hk.elim) ?aF ?aO ?aB ?aS ?aL ?_; (case aP => exact rfl); (case aB => exact HB.out); (case aF => exact (fun k_ hk => Kd.fresh' (Kd.a0m a0U.out) k_ hk)); (case aO => exact U4.out); (case aS => exact (y5 HB.out)); (case aL => have := f4K.out; omega); intro h1R w23 ho hb hg hat; rw [← f4L.out] at ho; have f4N := a_ ho; replace a0U := a_ (Kd.a0R (ok := (fun _ => True)) (by exact Kd.D7 a0U.out (fun _ hk => ⟨trivial, hk⟩)) hg hat); replace HB := a_ hb; clear U4 ho hb hg hat))
        go_roundg kj5
        case measure => have := HK1.out; have := HJ5.out; omega
        case rel => exact ⟨(g5m), (wrap64 (Q7 + 2)), (by rfl), H', ⟨by have := HK1.out; have := HJ5.out; omega⟩, ⟨by exact Kd.D7 a0U.out (fun _ hk => hk.2)⟩, ⟨by exact f4N.out⟩, ⟨by exact HB.out⟩⟩
       ·rw [if_neg c18] at H; have c8t := bq_ c18; have e2R := bn_ c18; have c24 := Z7 H; replace H := O5 H; have f4O := a_ c24; clear c24; obtain ⟨g5q, d6L⟩ := is_ ((a2s ++ [rd a5o Q7]) : List Int); rw [← d6L] at H; have f4P := a_ d6L; clear d6L; have H' := a_ H; clear H; have g5n : (0 ≤ (Q7 : Int)) = True := et_; have g5o : (Q7 < (a5o.length : Int)) = True := et_; obtain ⟨c5q, e8h, e1R⟩ := Kd.Q8 (Kd.E8 a0U.out).2.2 Q7 V9 V9
        cases e8h
        have h1S : (0 ≤ (Q7 : Int)) = True := et_; have h1T : (Q7 < (a5o.length : Int)) = True := et_; obtain ⟨f4Q, g5r, f9M⟩ := Kd.Q8 (Kd.E8 a0U.out).2.2 Q7 V9 V9; obtain rfl : c5q = f4Q := (by injection g5r)
        go_wp2_with (first | ((with_reducible refine E5 (b := .append) (xs := #[.tmp 59, .tmp 64]) rfl ?_); (try (refine Y7 (by rfl) ?_; dsimp only)); at_builtin; refine Kd.a2K (Kd.int .u8) (w0 := w) w.heap.size rfl (.tmp 59) (.tmp 64) 22 5 (.int .u8 0) 1 rfl Tryd.underlying22 info5 rfl (by decide) (by omega) u7 a2s (rd a5o Q7) [.int .u8 (rd a5o Q7)] (fun k_ => some k_ ≠ (.slice (some c5q) a5o.length co7 : Value).ownBlock) (fun _ => False) rfl rfl ?aP (fun _ hk => hk.elim) ?aF ?aO ?aB ?aS ?aL ?_; (case aP => exact rfl); (case aB => exact HB.out); (case aF => exact (fun k_ hk => Kd.fresh' (Kd.a0m a0U.out) k_ hk)); (case aO => exact U4.out); (case aS => exact (y5 HB.out)); (case aL => have := f4O.out; omega); intro h1U w25 ho hb hg hat; rw [← f4P.out] at ho; have f4R := a_ ho; replace a0U := a_ (Kd.a0R (ok := (fun _ => True)) (by exact Kd.D7 a0U.out (fun _ hk => ⟨trivial, hk⟩)) hg hat); replace HB := a_ hb; clear U4 ho hb hg hat))
        go_roundg kj5
        case measure => have := HK1.out; have := HJ5.out; omega
        case rel => exact ⟨(g5q), (wrap64 (Q7 + 1)), (by rfl), H', ⟨by have := HK1.out; have := HJ5.out; omega⟩, ⟨by exact Kd.D7 a0U.out (fun _ hk => hk.2)⟩, ⟨by exact f4R.out⟩, ⟨by exact HB.out⟩⟩
   ·rw [if_neg c5] at H; have a5y := df_ c5; clear c5; obtain ⟨rfl, rfl⟩ := s2_ H; obtain ⟨e1S, e1T, e8i⟩ := Kd.G7 a0U.out; subst e8i
    go_wp2
    go_ret2
    exact ⟨_, by (rfl), by exact Kd.D7 U4.out (fun _ hk => trivial), by exact HB.out⟩
mutual
def D9.j0 : Nat → Int → List Int → Bool → Int → Option (Int)
 | 0, _, _, _, _ => none
 | k + 1, x0, x1, x2, x7 => (a0O.f x2).bind fun e1U => (D9.l0 k x1 x7 (Go.bits .and .u32 x0 e1U) 0)
def D9.l0 : Nat → List Int → Int → Int → Int → Option (Int)
 | 0, _, _, _, _ => none
 | k + 1, x1, x7, x8, x9 => if x9 < (x1.length : Int) then (if 0 ≤ x9 then (D9.l1 k x1 x7 (Go.bits .xor .u32 x8 ((rd x1 x9) % 4294967296)) x9 0) else (none)) else (some x8)
def D9.l1 : Nat → List Int → Int → Int → Int → Int → Option (Int)
 | 0, _, _, _, _, _ => none
 | k + 1, x1, x7, x8, x9, x10 => if x10 < 8 then (if (Int.tmod x8 2) = 1 then (D9.l1 k x1 x7 (Go.bits .xor .u32 ((Int.tdiv x8 2) % 4294967296) x7) x9 (wrap64 (x10 + 1))) else (D9.l1 k x1 x7 ((Int.tdiv x8 2) % 4294967296) x9 (wrap64 (x10 + 1)))) else (D9.l0 k x1 x7 x8 (wrap64 (x9 + 1)))
end
def D9.f (k : Nat) (a0 : Int) (l1 : List Int) (a2 : Bool) : Option (Int) := if a2 = true then (D9.j0 k a0 l1 a2 3988292384) else (D9.j0 k a0 l1 a2 33800)
theorem D9.calls (k : Nat) (a0 : Int) (A1 : Option Addr) (c1 : Nat) (l1 : List Int) (a2 : Bool) (r : Int) (w : World) (hr1 : Kd.C (Kd.int .u8) w A1 l1.length l1) (hc1 : l1.length ≤ c1) (h : D9.f k a0 l1 a2 = some r) :
  Calls Tryd.prog 94 #[.int .u32 a0, .slice A1 l1.length c1, .bool a2] w fun e w' => e = .returned (.int .u32 r) ∧ F8 w w' := by
 have HR1 := a_ hr1
 have HC1 := a_ hc1
 clear hr1 hc1
 have H := h
 clear h
 unfold D9.f at H
 have HC4 := a_ H
 clear H
 go_enter Tryd.func94, Tryd.ntmps94
 go_upto_if 12 with (fail)
 go_cut [7] (fun v7 wc => ∃ (kq : Nat) (d2x : Int), v7 = .int .u32 d2x ∧ Aside0 (D9.j0 kq a0 l1 a2 d2x = some r) ∧ Aside0 (kq ≤ k) ∧ F8 w wc)
 case first =>
  have H := HC4.out; clear HC4
  by_cases c5 : a2 = true
  ·subst c5; rw [if_pos rfl] at H; have H' := a_ H; clear H
   go_wp2
   go_meet
   case rel => exact ⟨_, (3988292384), (by rfl), H', ⟨by (omega)⟩, by exact F8.refl _⟩
  ·cases nt_ c5
   rw [if_neg a3S] at H; have H' := a_ H; clear H
   go_wp2
   go_meet
   case rel => exact ⟨_, (33800), (by rfl), H', ⟨by (omega)⟩, by exact F8.refl _⟩
 case rest =>
  clear HC4; obtain ⟨kq, d2x, rfl, HA, HJ3, ⟨mc3, rfl⟩⟩ := hcut
  cases kq with
  | zero => exact absurd HA.out (by simp [D9.j0])
  | succ kj3 =>
   have H := HA.out; clear HA
   simp only [D9.j0] at H
   obtain ⟨e1U, A6, H⟩ := bd_ H
   (try dsimp only at H); have H' := a_ H; clear H
   go_wp2_with (first | (refine gl_ (some 15) Tryd.func93 #[.bool a2] ?_; (with_reducible refine (a0O.calls a2 e1U _ A6.out).mono ?_); rintro e w' ⟨rfl, ⟨nd, rfl⟩⟩; refine ⟨_, rfl, ?_⟩))
   go_loopg [8, 9] kj3 (fun kq v8 v9 w' => ∃ (b0a : Int) (b2X : Int), v8 = .int .u32 b0a ∧ v9 = .int .i64 b2X ∧ Aside0 (D9.l0 kq l1 d2x b0a b2X = some r) ∧ Aside0 (kq ≤ kj3) ∧ F8 w w')
   case atStart => exact ⟨(Go.bits .and .u32 a0 e1U), (0), (by rfl), (by rfl), H', ⟨Nat.le_refl _⟩, by repeat (first | exact F8.refl _ | apply F8.step)⟩
   case round =>
    clear H'; obtain ⟨b0a, b2X, rfl, rfl, HA, HK2, ⟨m2, rfl⟩⟩ := hrel
    cases gk with
    | zero => exact absurd HA.out (by simp [D9.l0])
    | succ k2 =>
     have H := HA.out; clear HA
     simp only [D9.l0] at H
     by_cases c7 : b2X < (l1.length : Int)
     ·rw [if_pos c7] at H; have a5U := dt_ c7; clear c7; have b1u := a2z H; replace H := O5 H; have H' := a_ H; clear H; obtain ⟨g8g, g5s, e1V, g5t, g5u⟩ := d2l HR1 b2X V9 V9
      cases g5s
      go_wp2
      go_loopg [8, 10] k2 (fun kq v8 v10 w' => ∃ (c7D : Int) (c0x : Int), v8 = .int .u32 c7D ∧ v10 = .int .i64 c0x ∧ Aside0 (D9.l1 kq l1 d2x c7D b2X c0x = some r) ∧ Aside0 (kq ≤ k2) ∧ F8 w w')
      case atStart => exact ⟨(Go.bits .xor .u32 b0a ((rd l1 b2X) % 4294967296)), (0), (by rfl), (by rfl), H', ⟨Nat.le_refl _⟩, by repeat (first | exact F8.refl _ | apply F8.step)⟩
      case round =>
       clear H'
       try clear a5U
       try clear b1u
       try clear e1V
       try clear g5t
       try clear g5u
       obtain ⟨c7D, c0x, rfl, rfl, HA, HK3, ⟨m3, rfl⟩⟩ := hrel
       cases gk with
       | zero => exact absurd HA.out (by simp [D9.l1])
       | succ k3 =>
        have H := HA.out; clear HA
        simp only [D9.l1] at H
        by_cases c9 : c0x < 8
        ·rw [if_pos c9] at H; have b1v := dt_ c9; clear c9
         by_cases c10 : (Int.tmod c7D 2) = 1
         ·rw [if_pos c10] at H; obtain ⟨a9e, b72⟩ := bt_ c10; clear c10; have H' := a_ H; clear H
          go_wp2
          go_roundg k3
          case measure => have := HJ3.out; have := HK2.out; have := HK3.out; omega
          case rel => exact ⟨(Go.bits .xor .u32 ((Int.tdiv c7D 2) % 4294967296) d2x), (wrap64 (c0x + 1)), (by rfl), (by rfl), H', ⟨by have := HJ3.out; have := HK2.out; have := HK3.out; omega⟩, by repeat (first | exact F8.refl _ | apply F8.step)⟩
         ·rw [if_neg c10] at H; have a9e := bq_ c10; have b72 := bn_ c10; have H' := a_ H; clear H
          go_wp2
          go_roundg k3
          case measure => have := HJ3.out; have := HK2.out; have := HK3.out; omega
          case rel => exact ⟨((Int.tdiv c7D 2) % 4294967296), (wrap64 (c0x + 1)), (by rfl), (by rfl), H', ⟨by have := HJ3.out; have := HK2.out; have := HK3.out; omega⟩, by repeat (first | exact F8.refl _ | apply F8.step)⟩
        ·rw [if_neg c9] at H; have b1v := df_ c9; clear c9; have H' := a_ H; clear H
         go_wp2
         go_roundg k3
         case measure => have := HJ3.out; have := HK2.out; have := HK3.out; omega
         case rel => exact ⟨(c7D), (wrap64 (b2X + 1)), (by rfl), (by rfl), H', ⟨by have := HJ3.out; have := HK2.out; have := HK3.out; omega⟩, by repeat (first | exact F8.refl _ | apply F8.step)⟩
     ·rw [if_neg c7] at H; have a5U := df_ c7; clear c7; obtain rfl := oj_ H
      go_wp2
      go_ret
      exact ⟨by (rfl), by repeat (first | exact F8.refl _ | apply F8.step)⟩
def a3n.f (k : Nat) (l0 : List Int) (a1 : Bool) : Option (Int) := (a0O.f a1).bind fun e8n => ((a0O.f a1).bind fun d6M => ((D9.f k d6M l0 a1).bind fun e8o => (some ((e8n - e8o) % 4294967296))))
theorem a3n.calls (k : Nat) (A0 : Option Addr) (c0 : Nat) (l0 : List Int) (a1 : Bool) (r : Int) (w : World) (hr0 : Kd.C (Kd.int .u8) w A0 l0.length l0) (hc0 : l0.length ≤ c0) (h : a3n.f k l0 a1 = some r) :
  Calls Tryd.prog 76 #[.slice A0 l0.length c0, .bool a1] w fun e w' => e = .returned (.int .u32 r) ∧ F8 w w' := by
 have HR0 := a_ hr0
 have HC0 := a_ hc0
 clear hr0 hc0
 have H := h
 clear h
 unfold a3n.f at H
 obtain ⟨e8n, A3, H⟩ := bd_ H
 try dsimp only at H
 obtain ⟨d6M, A4, H⟩ := bd_ H
 try dsimp only at H
 obtain ⟨e8o, A5, H⟩ := bd_ H
 try dsimp only at H
 obtain rfl := oj_ H
 go_enter Tryd.func76, Tryd.ntmps76
 go_wp2_with (first | (refine gl_ (some 6) Tryd.func93 #[.bool a1] ?_; (with_reducible refine (a0O.calls a1 e8n _ A3.out).mono ?_); rintro e w' ⟨rfl, ⟨nd, rfl⟩⟩; refine ⟨_, rfl, ?_⟩) | (refine gl_ (some 8) Tryd.func93 #[.bool a1] ?_; (with_reducible refine (a0O.calls a1 d6M _ A4.out).mono ?_); rintro e w' ⟨rfl, ⟨nd, rfl⟩⟩; refine ⟨_, rfl, ?_⟩) | (refine gl_ (some 11) Tryd.func94 #[.int .u32 d6M, .slice A0 l0.length c0, .bool a1] ?_; (with_reducible refine (D9.calls k d6M _ _ l0 a1 e8o _ ?P5 ?P6 A5.out).mono ?_); (case P5 => exact HR0.out); (case P6 => exact HC0.out); rintro e w' ⟨rfl, ⟨nd, rfl⟩⟩; refine ⟨_, rfl, ?_⟩))
 go_ret
 exact ⟨by (rfl), by repeat (first | exact F8.refl _ | apply F8.step)⟩
def V6.l0 : Nat → Bool → List Int → Int → Int → Option (List Int)
 | 0, _, _, _, _ => none
 | k + 1, x1, x5, x6, x7 => (N9.f x1).bind fun d6N => (if x7 < d6N then (if x5.length < 140737488355328 then (V6.l0 k x1 (x5 ++ [(Int.tmod x6 256) % 256]) ((Int.tdiv x6 256) % 4294967296) (wrap64 (x7 + 1))) else (none)) else (some x5))
def V6.f (k : Nat) (l0 : List Int) (a1 : Bool) : Option (List Int) := if ([] : List Int).length + l0.length < 140737488355328 then ((a3n.f k l0 a1).bind fun e1W => (V6.l0 k a1 (([] : List Int) ++ l0) e1W 0)) else (none)
theorem V6.calls (k : Nat) (A0 : Option Addr) (c0 : Nat) (l0 : List Int) (a1 : Bool) (r : List Int) (w : World) (hr0 : Kd.C (Kd.int .u8) w A0 l0.length l0) (hc0 : l0.length ≤ c0) (h : V6.f k l0 a1 = some r) :
  Calls Tryd.prog 57 #[.slice A0 l0.length c0, .bool a1] w fun e w' => ∃ v0_ : Value, e = .returned (v0_) ∧ Kd.R (Kd.int .u8) 5 w' w.heap.size (fun _ => True) v0_ r ∧ Below w.heap.size w w' := by
 have HR0 := a_ hr0
 have HC0 := a_ hc0
 clear hr0 hc0
 have HB := a_ (Below.refl w.heap.size w)
 have H := h
 clear h
 unfold V6.f at H
 have c3 := Z7 H
 replace H := O5 H
 have e5R := a_ c3
 clear c3
 obtain ⟨g5v, d6O⟩ := is_ ((([] : List Int) ++ l0) : List Int)
 rw [← d6O] at H
 have f4S := a_ d6O
 clear d6O
 obtain ⟨e1W, A4, H⟩ := bd_ H
 try dsimp only at H
 have H' := a_ H
 clear H
 go_enter Tryd.func57, Tryd.ntmps57
 go_wp2_with (first | ((with_reducible refine E5 (b := .append) (xs := #[.tmp 8, .tmp 9]) rfl ?_); at_builtin; refine Kd.P8 (Kd.int .u8) (w0 := w) w.heap.size rfl (.tmp 8) (.tmp 9) 22 5 (.int .u8 0) 1 rfl Tryd.underlying22 info5 rfl (by decide) (by omega) (.slice none 0 0) ([] : List Int) l0 _ _ _ (fun _ => True) (fun _ => False) rfl rfl ?aO ?aR (fun _ _ h => h) (fun _ h => h.elim) ?aF ?aB ?aS ?aL ?_; (case aR => exact HR0.out); (case aB => exact HB.out); (case aF => exact (fun _ _ => trivial)); (case aO => exact (Kd.Y1 _ _ _ _ (fun _ => True))); (case aS => exact (y5 HB.out)); (case aL => have := e5R.out; omega); intro h1V w5 ho hb hg hat; rw [← f4S.out] at ho; have f4T := a_ ho; replace HB := a_ hb; clear ho hb hg hat) | (refine gl_ (some 13) Tryd.func76 #[.slice A0 l0.length c0, .bool a1] ?_; (with_reducible refine (a3n.calls k _ _ l0 a1 e1W _ (Kd.C9 HR0.out HB.out) HC0.out A4.out).mono ?_); rintro e w' ⟨rfl, ⟨nd, rfl⟩⟩; refine ⟨_, rfl, ?_⟩))
 go_loopg [5, 6, 7] k (fun kq v5 v6 v7 w' => ∃ (J9 : List Int) (a07 : Int) (a2s : Int), v6 = .int .u32 a07 ∧ v7 = .int .i64 a2s ∧ Aside0 (V6.l0 kq a1 J9 a07 a2s = some r) ∧ Aside0 (kq ≤ k) ∧ Aside0 (Kd.R (Kd.int .u8) 5 w' w.heap.size (fun _ => True) v5 J9) ∧ Aside0 (Below w.heap.size w w'))
 case atStart => exact ⟨(g5v), (e1W), (0), (by rfl), (by rfl), H', ⟨Nat.le_refl _⟩, ⟨by (with_reducible repeat (apply Kd.a1g)); exact f4T.out⟩, ⟨by repeat (with_reducible first | exact HB.out | apply o9)⟩⟩
 case round =>
  clear H'; obtain ⟨J9, a07, a2s, rfl, rfl, HA, HK1, b6C, HB⟩ := hrel
  cases gk with
  | zero => exact absurd HA.out (by simp [V6.l0])
  | succ k1 =>
   have H := HA.out; clear HA
   simp only [V6.l0] at H
   obtain ⟨d6N, A6, H⟩ := bd_ H
   try dsimp only at H
   by_cases c7 : a2s < d6N
   ·rw [if_pos c7] at H; have a5U := dt_ c7; clear c7; have c8 := Z7 H; replace H := O5 H; have b5T := a_ c8; clear c8; obtain ⟨g5w, d6P⟩ := is_ ((J9 ++ [(Int.tmod a07 256) % 256]) : List Int); rw [← d6P] at H; have f4U := a_ d6P; clear d6P; have H' := a_ H; clear H
    go_wp2_with (first | (refine gl_ (some 16) Tryd.func77 #[.bool a1] ?_; (with_reducible refine (N9.calls a1 d6N _ A6.out).mono ?_); rintro e w' ⟨rfl, ⟨nd, rfl⟩⟩; refine ⟨_, rfl, ?_⟩) | ((with_reducible refine E5 (b := .append) (xs := #[.tmp 20, .tmp 24]) rfl ?_); at_builtin; refine Kd.a2K (Kd.int .u8) (w0 := w) w.heap.size rfl (.tmp 20) (.tmp 24) 22 5 (.int .u8 0) 1 rfl Tryd.underlying22 info5 rfl (by decide) (by omega) u5 J9 ((Int.tmod a07 256) % 256) [.int .u8 ((Int.tmod a07 256) % 256)] (fun _ => True) (fun _ => False) rfl rfl ?aP (fun _ hk => hk.elim) ?aF ?aO ?aB ?aS ?aL ?_; (case aP => exact rfl); (case aB => exact (by repeat (with_reducible first | exact HB.out | apply o9))); (case aF => exact (fun _ _ => trivial)); (case aO => exact (by (with_reducible repeat (apply Kd.a1g)); exact b6C.out)); (case aS => exact (y5 (by repeat (with_reducible first | exact HB.out | apply o9)))); (case aL => have := b5T.out; omega); intro h1W w9 ho hb hg hat; rw [← f4U.out] at ho; have f4V := a_ ho; replace HB := a_ hb; clear b6C ho hb hg hat))
    go_roundg k1
    case measure => have := HK1.out; omega
    case rel => exact ⟨(g5w), ((Int.tdiv a07 256) % 4294967296), (wrap64 (a2s + 1)), (by rfl), (by rfl), H', ⟨by have := HK1.out; omega⟩, ⟨by exact f4V.out⟩, ⟨by exact HB.out⟩⟩
   ·rw [if_neg c7] at H; have a5U := df_ c7; clear c7; obtain rfl := oj_ H
    go_wp2_with (first | (refine gl_ (some 16) Tryd.func77 #[.bool a1] ?_; (with_reducible refine (N9.calls a1 d6N _ A6.out).mono ?_); rintro e w' ⟨rfl, ⟨nd, rfl⟩⟩; refine ⟨_, rfl, ?_⟩))
    go_ret
    exact ⟨_, by (rfl), by (with_reducible repeat (apply Kd.a1g)); exact b6C.out, by repeat (with_reducible first | exact HB.out | apply o9)⟩
end Go.Proofs.YtgnonglkibhnhaaDoor.Print
