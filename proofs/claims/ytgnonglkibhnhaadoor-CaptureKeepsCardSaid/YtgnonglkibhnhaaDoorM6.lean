-- laid together by this session's own program (wip/tools/merge.py) of texts that its program laid
import Derived.Test.YtgnonglkibhnhaaDoorF24
import Derived.Test.YtgnonglkibhnhaaDoorF39
namespace Go.Proofs.YtgnonglkibhnhaaDoor.Print
open Go.RowKit Go.Proofs.YtgnonglkibhnhaaDoorW.PrintWords Go.Proofs.YtgnonglkibhnhaaDoorW.PrintLast Go.Proofs.YtgnonglkibhnhaaDoorW.PrintMore
attribute [local go_sem] a0o a0p a0R a0S Y5 Y6 a0q a0r
set_option linter.unusedVariables false
set_option linter.unusedSimpArgs false
set_option maxHeartbeats 16000000
set_option maxRecDepth 100000
section
attribute [local go_sem high] b5g b3J b3K b5h b3L b3M
def a0H.f (k : Nat) (l0 : List Int) (a1 : Int) (a1o a1p a1q a1r : Int) (a1s a1t : ByteArray) (a0U a0w : Int) (a0m : Bool) : Option ((List (S42)) × Int × Int) := if a1 = 1 then capture_records_read.f k l0 a0U else if a1 = 2 then capture_notes_read.f k l0 a0w a0m else some ([], 0, 7)
theorem a0H.calls (k : Nat) (A0 : Option Addr) (c0 : Nat) (l0 : List Int) (a1 : Int) (a1o a1p a1q a1r : Int) (a1s a1t : ByteArray) (a0U a0w : Int) (a0m : Bool) (r1 : List (S42)) (r2 r3 : Int) (w : World) (hG0 : Kd.C b35 w (some ⟨0, 0, none⟩) 8 H7) (hr0 : Kd.C (Kd.int .u8) w A0 l0.length l0) (hc0 : l0.length ≤ c0) (h : a0H.f k l0 a1 a1o a1p a1q a1r a1s a1t a0U a0w a0m = some (r1, r2, r3)) :
  Calls Tryd.prog 10 #[.slice A0 l0.length c0, .int .i64 a1, .agg #[.int .i64 a1o, .int .i64 a1p, .int .i64 a1q, .int .i64 a1r, .string a1s, .string a1t, .int .i64 a0U, .int .u32 a0w, .bool a0m]] w fun e w' => ∃ v0_ : Value, e = .returned (.tuple #[v0_, .agg #[.int .i64 r2, .int .i64 r3]]) ∧ Kd.S k42 42 w' w.heap.size (fun _ => True) v0_ r1 ∧ Below w.heap.size w w' := by
 have a8e := Tryd.underlying30
 have c2n := Tryd.underlying25
 have e7L := Tryd.underlying65
 have e7M := Tryd.underlying67
 have HG0 := a_ hG0
 have HR0 := a_ hr0
 have HC0 := a_ hc0
 have HB := a_ (Below.refl w.heap.size w)
 have HH := a_ h
 clear hG0 hr0 hc0 h
 by_cases e1 : a1 = 1
 ·subst e1; have h := HH.out; rw [a0H.f, if_pos rfl] at h; have HT := a_ h; clear HH h
  go_enter Tryd.func10, Tryd.ntmps10
  go_wp2_with (first | (refine be_ 5 #[.int .i64 a1o, .int .i64 a1p, .int .i64 a1q, .int .i64 a1r, .string a1s, .string a1t, .int .i64 a0U, .int .u32 a0w, .bool a0m] 25 ?_; intro g5 hg w5 hbox hb; have HB5 := V3 HB hb; have BK5 := a_ hbox; clear hg hbox hb) | (refine be_ 7 #[.int .i64 0, .int .i64 0] 30 ?_; intro g7 hg w7 hbox hb; have HB7 := V3 HB5 hb; have b0f := X3 BK5 hb; have BK7 := a_ hbox; have GE7 : Aside0 (w.heap.size ≤ g7) := ⟨by rw [hg]; exact HB5.out.size⟩; clear hg hbox hb) | (go_at_call 22; refine (E5.calls 1 _).mono ?_; rintro e w8 ⟨he, hb⟩; rw [show E5.form (E5.at 1) = .iface 65 (.agg #[]) from rfl] at he; subst he; have HB8 := V3 HB7 hb; have b0d := X3 b0f hb; have b3B := X3 BK7 hb;  clear hb) | (refine be_ 8 #[] 65 ?_; intro g9 hg w9 hbox hb; have HB9 := V3 HB8 hb; have a4U := X3 b0d hb; have b1J := X3 b3B hb; have g7g := hbox; obtain ⟨c5G, c5H, c5I, c5J, d5P, d5Q, d5R, d0b, d0c⟩ := e0D a4U.out; have g7h : (w9.heap[g9]?) = some (.cells #[] 65 (0, 0)) := hbox; clear hg hbox hb) | (go_at_call 23; refine (capture_records_read.calls k A0 c0 l0 a1o a1p a1q a1r a1s a1t a0U a0w a0m r1 r2 r3 _ (Kd.y9 HR0.out HB9.out) HC0.out HT.out).mono ?_; rintro e w10 ⟨v0, rfl, ho, hb⟩; have HO := a_ ho; have HLO := a_ HB9.out.size; have a7c := V3 HB9 hb; have b4y := X3 b1J hb; clear ho hb; have b9A := bc0 b4y; have b4z := l7 b4y.out 0; have b9B := bc1 b4y; have b4A := l7 b4y.out 1))
  refine bodyPost_ret (a0v rfl _ _ g7 30 #[.int .i64 r2, .int .i64 r3] (0, 0) _ rfl (l9 (l9 b4y.out 0 _ rfl) 1 _ rfl) a8e rfl (by kernel_rfl)) rfl ?_; exact ⟨_, rfl, Kd.a7C (Kd.b1r (Kd.b1r HO.out b4y.out (by decide) 0 _) (a3Z b4y.out 0 _) (by decide) 1 _) HLO.out, o7 (o7 a7c.out GE7.out) GE7.out⟩
 ·by_cases e2 : a1 = 2
  ·subst e2; have h := HH.out; rw [a0H.f, if_neg e1, if_pos rfl] at h; have HT := a_ h; clear HH h
   go_enter Tryd.func10, Tryd.ntmps10
   go_wp2_with (first | (refine be_ 5 #[.int .i64 a1o, .int .i64 a1p, .int .i64 a1q, .int .i64 a1r, .string a1s, .string a1t, .int .i64 a0U, .int .u32 a0w, .bool a0m] 25 ?_; intro g5 hg w5 hbox hb; have HB5 := V3 HB hb; have BK5 := a_ hbox; clear hg hbox hb) | (refine be_ 7 #[.int .i64 0, .int .i64 0] 30 ?_; intro g7 hg w7 hbox hb; have HB7 := V3 HB5 hb; have b0f := X3 BK5 hb; have BK7 := a_ hbox; have GE7 : Aside0 (w.heap.size ≤ g7) := ⟨by rw [hg]; exact HB5.out.size⟩; clear hg hbox hb) | (go_at_call 22; refine (E5.calls 2 _).mono ?_; rintro e w8 ⟨he, hb⟩; rw [show E5.form (E5.at 2) = .iface 67 (.agg #[]) from rfl] at he; subst he; have HB8 := V3 HB7 hb; have b0d := X3 b0f hb; have b3B := X3 BK7 hb;  clear hb) | (refine be_ 9 #[] 67 ?_; intro g9 hg w9 hbox hb; have HB9 := V3 HB8 hb; have a4U := X3 b0d hb; have b1J := X3 b3B hb; have g7g := hbox; obtain ⟨c5G, c5H, c5I, c5J, d5P, d5Q, d5R, d0b, d0c⟩ := e0D a4U.out; have g7h : (w9.heap[g9]?) = some (.cells #[] 67 (0, 0)) := hbox; clear hg hbox hb) | (go_at_call 24; refine (capture_notes_read.calls k A0 c0 l0 a1o a1p a1q a1r a1s a1t a0U a0w a0m r1 r2 r3 _ (Kd.y9 HG0.out HB9.out) (Kd.y9 HR0.out HB9.out) HC0.out HT.out).mono ?_; rintro e w10 ⟨v0, rfl, ho, hb⟩; have HO := a_ ho; have HLO := a_ HB9.out.size; have a7c := V3 HB9 hb; have b4y := X3 b1J hb; clear ho hb; have b9A := bc0 b4y; have b4z := l7 b4y.out 0; have b9B := bc1 b4y; have b4A := l7 b4y.out 1))
   refine bodyPost_ret (a0v rfl _ _ g7 30 #[.int .i64 r2, .int .i64 r3] (0, 0) _ rfl (l9 (l9 b4y.out 0 _ rfl) 1 _ rfl) a8e rfl (by kernel_rfl)) rfl ?_; exact ⟨_, rfl, Kd.a7C (Kd.b1r (Kd.b1r HO.out b4y.out (by decide) 0 _) (a3Z b4y.out 0 _) (by decide) 1 _) HLO.out, o7 (o7 a7c.out GE7.out) GE7.out⟩
  ·have h := HH.out; rw [a0H.f, if_neg e1, if_neg e2] at h
   simp only [Option.some.injEq, Prod.mk.injEq] at h
   obtain ⟨rfl, rfl, rfl⟩ := h; have hat : E5.form (E5.at a1) = .nilIface := by unfold E5.at; rw [if_neg e1, if_neg e2]; rfl
   have HAT := a_ hat; clear HH hat
   go_enter Tryd.func10, Tryd.ntmps10
   go_wp2_with (first | (refine be_ 5 #[.int .i64 a1o, .int .i64 a1p, .int .i64 a1q, .int .i64 a1r, .string a1s, .string a1t, .int .i64 a0U, .int .u32 a0w, .bool a0m] 25 ?_; intro g5 hg w5 hbox hb; have HB5 := V3 HB hb; have BK5 := a_ hbox; clear hg hbox hb) | (refine be_ 7 #[.int .i64 0, .int .i64 0] 30 ?_; intro g7 hg w7 hbox hb; have HB7 := V3 HB5 hb; have b0f := X3 BK5 hb; have BK7 := a_ hbox; have GE7 : Aside0 (w.heap.size ≤ g7) := ⟨by rw [hg]; exact HB5.out.size⟩; clear hg hbox hb) | (go_at_call 22; refine (E5.calls a1 _).mono ?_; rintro e w8 ⟨he, hb⟩; rw [HAT.out] at he; subst he; have HB8 := V3 HB7 hb; have b0d := X3 b0f hb; have b3B := X3 BK7 hb; have b9A := bc0 b3B; have b4z := l7 b3B.out 0; have b9B := bc1 b3B; have b4A := l7 b3B.out 1; clear hb))
   refine bodyPost_ret (a0v rfl _ _ g7 30 #[.int .i64 0, .int .i64 7] (0, 0) _ rfl (l9 (l9 b3B.out 0 _ rfl) 1 _ rfl) a8e rfl (by kernel_rfl)) rfl ?_; exact ⟨_, rfl, Kd.a5p _ _ _ _ _, o7 (o7 HB8.out GE7.out) GE7.out⟩
end
def V8.l0 : Nat → List Int → List (S58) → Int → Option ((List (S58)) × Int × Int)
 | 0, _, _, _ => none
 | k + 1, x0, x4, x5 => if x5 < (x0.length : Int) then (if 0 ≤ x5 then (if x5 ≤ (x0.length : Int) then ((umpireref10_Next.f k (x0.drop (x5 : Int).toNat)).bind fun c1l => (if c1l.2.2.2.2 = 0 then (if x4.length < 3518437208883 then (V8.l0 k x0 (x4 ++ [(⟨c1l.1, c1l.2.1, c1l.2.2.1⟩ : S58)]) (wrap64 (x5 + c1l.2.2.2.1))) else (none)) else (some (x4, x5, c1l.2.2.2.2)))) else (none)) else (none)) else (some (x4, 0, 0))
def V8.f (k : Nat) (l0 : List Int) : Option ((List (S58)) × Int × Int) := V8.l0 k l0 ([] : List (S58)) 0
theorem V8.calls (k : Nat) (A0 : Option Addr) (c0 : Nat) (l0 : List Int) (r1 : List (S58)) (r2 : Int) (r3 : Int) (w : World) (hr0 : Kd.C (Kd.int .u8) w A0 l0.length l0) (hc0 : l0.length ≤ c0) (h : V8.f k l0 = some (r1, r2, r3)) :
  Calls Tryd.prog 20 #[.slice A0 l0.length c0] w fun e w' => ∃ v0_ : Value, e = .returned (.tuple #[v0_, .agg #[.int .i64 r2, .int .i64 r3]]) ∧ Kd.S k58 58 w' w.heap.size (fun _ => True) v0_ r1 ∧ Below w.heap.size w w' := by
 have a8e := Tryd.underlying30
 have c7K := Tryd.underlying58
 have HR0 := a_ hr0
 have HC0 := a_ hc0
 clear hr0 hc0
 have HB := a_ (Below.refl w.heap.size w)
 have H := h
 clear h
 unfold V8.f at H
 have H' := a_ H
 clear H
 go_enter Tryd.func20, Tryd.ntmps20
 go_wp2_with (first | (refine be_ 3 #[.int .i64 0, .int .i64 0] 30 ?_; intro b6X hg w2 hbox hb; have a4K := a_ hbox; have e6D := lb_ HB hg; replace HB := V3 HB hb; clear hb hbox hg))
 go_loopg [4, 5] k (fun kq v4 v5 w' => ∃ (a2O : List (S58)) (L9 : Int) (b3t : Int) (b3u : Int), v5 = .int .i64 L9 ∧ Aside0 (V8.l0 kq l0 a2O L9 = some (r1, r2, r3)) ∧ Aside0 (kq ≤ k) ∧ Aside0 (Kd.S k58 58 w' w.heap.size (fun _ => True) v4 a2O) ∧ Aside0 (w'.heap[b6X]? = some (.cells #[.int .i64 b3t, .int .i64 b3u] 30 (0, 0))) ∧ Aside0 (Below w.heap.size w w'))
 case atStart => exact ⟨([] : List (S58)), (0), (0), (0), (by rfl), H', ⟨Nat.le_refl _⟩, ⟨by (exact Kd.a5p _ _ _ _ _)⟩, ⟨by exact a4K.out⟩, ⟨by exact HB.out⟩⟩
 case round =>
  clear H'; obtain ⟨a2O, L9, b3t, b3u, rfl, HA, HK1, a1F, a4K, HB⟩ := hrel
  cases gk with
  | zero => exact absurd HA.out (by simp [V8.l0])
  | succ k1 =>
   have H := HA.out; clear HA
   simp only [V8.l0] at H
   by_cases c3 : L9 < (l0.length : Int)
   ·rw [if_pos c3] at H; have a3T := dt_ c3; clear c3; have c4 := Z4 H; replace H := O5 H; have a4i := eq_true c4; have b2z := dt_ c4; clear c4; have c5 := Z4 H; replace H := O5 H; have a5H := eq_true c5; have b1f := dt_ c5; clear c5; obtain ⟨⟨b9C, b9D, b4B, e94, d77⟩, A6, H⟩ := bd_ H
    try dsimp only at H
    by_cases c7 : d77 = 0
    ·rw [if_pos c7] at H; obtain ⟨a6f, b0g⟩ := bt_ c7; clear c7; have c8 := Z4 H; replace H := O5 H; have b6u := a_ c8; clear c8; obtain ⟨g7j, d78⟩ := is_ ((a2O ++ [(⟨b9C, b9D, b4B⟩ : S58)]) : List (S58)); rw [← d78] at H; have f6S := a_ d78; clear d78; have H' := a_ H; clear H; obtain ⟨i09, d7I, _, d7J, _⟩ := info_parts info5; obtain ⟨A9, f6m, hA9, hC9⟩ := a0O (P := Tryd.prog) (Value.int .u8) 0 22 5 .i64 Tryd.underlying22 d7I d7J A0 c0 l0 L9 (V5) (V5) HC0.out; have d79 := ci_ (Kd.Y8 (h1 := fun _ => rfl) (hA9 _ (Kd.Y3 HR0.out))); have d8a := a_ hC9; clear hA9 hC9 d7I d7J
     go_wp2_with (first | (refine gl_ (some 17) Tryd.func39 #[.slice A9 (l0.drop (L9 : Int).toNat).length (c0 - L9.toNat)] ?_ (hargs := by (try simp only [List.map_toArray, List.map_cons, List.map_nil]); (rw [show (l0.drop (L9 : Int).toNat).length = (l0.length - L9.toNat) from List.length_drop] <;> rfl)); (with_reducible refine (umpireref10_Next.calls k1 _ _ (l0.drop (L9 : Int).toNat) b9C b9D b4B e94 d77 _ (Kd.y9 d79.out HB.out) d8a.out A6.out).mono ?_); rintro e w10 ⟨g7k, rfl, ho0, hb⟩; refine ⟨_, rfl, ?_⟩; have b0u := rl_ ho0 HB; replace a1F := rS_ a1F ho0 hb; replace a4K := X3 a4K hb; replace HB := V3 HB hb; (try clear hb); (try clear ho0)) | (refine be_ 6 #[.int .i64 0, .int .u32 0, .slice none 0 0] 58 ?_; intro a6z hg w11 hbox hb; have b0v := a_ hbox; have d8b := lb_ HB hg; obtain ⟨a5N, b6B⟩ := nn_ a4K hg; replace a1F := se_ a1F hg hb; replace b0u := rb_ b0u hb; replace a4K := X3 a4K hb; replace HB := V3 HB hb; clear hb hbox hg; have d65 := b6B.out; have d66 := a5N.out; obtain ⟨b3e, b3f, b7J, b3g, b3h, b7K⟩ := a1Z b0v.out; obtain ⟨a9V, a9W, d7N⟩ := Kd.G7 b0u.out; subst d7N) | ((with_reducible refine a6n (t := 58) (p := 6) rfl ?_); refine a5n (t := 58) (p := 6) (v := ?e9K) (w1 := (((w11.setCell ⟨a6z, 0, none⟩ (.int .i64 b9C)).setCell ⟨a6z, 1, none⟩ (.int .u32 b9D)).setCell ⟨a6z, 2, none⟩ (.slice a9V b4B.length a9W))) ?hg ?ho ?hn ?hr ?_; (case ho => rfl); (case hg => rfl); (case hn => rfl); (case hr => (go_simp; done)); intro w15 hw; have n0_ : Aside0 (Kd.S k58 58 w15 w.heap.size (fun k_ => some k_ ≠ (.slice a9V b4B.length a9W : Value).ownBlock ∧ k_ ≠ a6z) u4 a2O) := ⟨(by rw [hw]; exact (by exact Kd.N7 (Kd.V9 (p := ⟨a6z, 2, none⟩) (Kd.V9 (p := ⟨a6z, 1, none⟩) (Kd.V9 (p := ⟨a6z, 0, none⟩) (Kd.N7 a1F.out (fun k_ hk => (⟨hk, hk.2⟩ : _ ∧ k_ ≠ a6z))) (fun _ hk => hk.2) (.int .i64 b9C)) (fun _ hk => hk.2) (.int .u32 b9D)) (fun _ hk => hk.2) (.slice a9V b4B.length a9W)) (fun _ hk => ⟨hk.1.1.2, hk.1.2⟩)))⟩; have n1_ : Aside0 (Kd.R (Kd.int .u8) 5 w15 w.heap.size (fun _ => True) (.slice a9V b4B.length a9W) b4B) := ⟨(by rw [hw]; exact (by exact Kd.D7 (Kd.U0 (p := ⟨a6z, 2, none⟩) (Kd.U0 (p := ⟨a6z, 1, none⟩) (Kd.U0 (p := ⟨a6z, 0, none⟩) (Kd.P8 b0u.out b0v.out (by decide)) (fun _ hk => hk.2) (.int .i64 b9C)) (fun _ hk => hk.2) (.int .u32 b9D)) (fun _ hk => hk.2) (.slice a9V b4B.length a9W)) (fun _ hk => trivial)))⟩; have n2_ : Aside0 (w15.heap[b6X]? = some (.cells #[.int .i64 b3t, .int .i64 b3u] 30 (0, 0))) := ⟨(by rw [hw]; exact (o8 (o8 (o8 a4K.out a5N.out _) a5N.out _) a5N.out _))⟩; have n3_ : Aside0 (w15.heap[a6z]? = some (.cells #[.int .i64 b9C, .int .u32 b9D, .slice a9V b4B.length a9W] 58 (0, 0))) := ⟨(by rw [hw]; exact (l9 (l9 (l9 b0v.out 0 _ rfl) 1 _ rfl) 2 _ rfl))⟩; have n4_ : Aside0 (Below w.heap.size w w15) := ⟨(by rw [hw]; exact (by repeat (with_reducible first | exact HB.out | refine o7 ?_ d8b.out)))⟩; clear hw a1F b0u a4K b0v HB; have a1F := n0_; have b0u := n1_; have a4K := n2_; have b0v := n3_; have HB := n4_; clear n0_ n1_ n2_ n3_ n4_; obtain ⟨c2W, c2X, d1P, c2Y, c2Z, d1Q⟩ := a1Z b0v.out) | ((with_reducible refine E8 (b := .append) (xs := #[.tmp 27, .tmp 29]) rfl ?_); at_builtin; refine Kd.a7I k58 (w0 := w) w.heap.size rfl (.tmp 27) (.tmp 29) 54 58 (.agg #[(.int .i64 0), (.int .u32 0), (.slice none 0 0)]) 40 rfl Tryd.underlying54 info58 rfl (by decide) (by omega) u4 a2O (⟨b9C, b9D, b4B⟩ : S58) [.int .i64 b9C, .int .u32 b9D, .slice a9V b4B.length a9W] (fun k_ => k_ ≠ a6z) (fun k_ => some k_ = (.slice a9V b4B.length a9W : Value).ownBlock) rfl rfl ?aP (fun k_ hk_ => ((Kd.D7 (ok' := fun k_ => (fun k_ => k_ ≠ a6z) k_ ∧ some k_ ≠ (u4 : Value).ownBlock) (Kd.P8 (Kd.X5 (b0u.out) (Kd.a2A a1F.out) (by decide)) b0v.out (by decide)) (fun k_ hk => ⟨hk.2, hk.1.2⟩))).1 k_ hk_.symm) ?aF ?aO ?aB ?aS ?aL ?_; (case aP => exact c9n _ _ _ (⟨b9C, b9D, b4B⟩ : S58) (Kd.D7 (Kd.a3v rfl (Kd.D7 (ok' := fun k_ => (fun k_ => k_ ≠ a6z) k_ ∧ some k_ ≠ (u4 : Value).ownBlock) (Kd.P8 (Kd.X5 (b0u.out) (Kd.a2A a1F.out) (by decide)) b0v.out (by decide)) (fun k_ hk => ⟨hk.2, hk.1.2⟩))) (fun _ h_ => h_))); (case aB => exact HB.out); (case aF => exact (fun k_ hk => Kd.a6F b0v.out k_ hk)); (case aO => exact (by exact Kd.N7 a1F.out (fun k_ hk => ⟨hk.2, fun e_ => hk.1 e_⟩))); (case aS => exact (y5 HB.out)); (case aL => have := b6u.out; omega); intro h4H w17 ho hb hg hat; rw [← f6S.out] at ho; have f6T := a_ ho; replace a4K := a_ (J7 a4K.out hg (Kd.b8f a1F.out a4K.out (by decide))); replace b0v := a_ (J7 b0v.out hg (Kd.c1G a1F.out (fun _ hk => hk.2))); replace HB := a_ hb; clear a1F b0u ho hb hg hat))
     go_roundg k1
     case measure => have := HK1.out; omega
     case rel => exact ⟨(g7j), (wrap64 (L9 + e94)), (b3t), (b3u), (by rfl), H', ⟨by have := HK1.out; omega⟩, ⟨by exact Kd.N7 f6T.out (fun _ hk => trivial)⟩, ⟨by exact a4K.out⟩, ⟨by exact HB.out⟩⟩
    ·rw [if_neg c7] at H; have a6f := bq_ c7; have b0g := bn_ c7; obtain ⟨rfl, rfl, rfl⟩ := s3_ H; obtain ⟨d6T, a7N, _, a7O, _⟩ := info_parts info5; obtain ⟨A18, b86, b2p, b2q⟩ := a0O (P := Tryd.prog) (Value.int .u8) 0 22 5 .i64 Tryd.underlying22 a7N a7O A0 c0 l0 L9 (V5) (V5) HC0.out; have d79 := ci_ (Kd.Y8 (h1 := fun _ => rfl) (b2p _ (Kd.Y3 HR0.out))); have d8a := a_ b2q; clear b2p b2q a7N a7O
     go_wp2_with (first | (refine gl_ (some 17) Tryd.func39 #[.slice A18 (l0.drop (L9 : Int).toNat).length (c0 - L9.toNat)] ?_ (hargs := by (try simp only [List.map_toArray, List.map_cons, List.map_nil]); (rw [show (l0.drop (L9 : Int).toNat).length = (l0.length - L9.toNat) from List.length_drop] <;> rfl)); (with_reducible refine (umpireref10_Next.calls k1 _ _ (l0.drop (L9 : Int).toNat) b9C b9D b4B e94 d77 _ (Kd.y9 d79.out HB.out) d8a.out A6.out).mono ?_); rintro e w19 ⟨g7k, rfl, ho0, hb⟩; refine ⟨_, rfl, ?_⟩; have b0u := rl_ ho0 HB; replace a1F := rS_ a1F ho0 hb; replace a4K := X3 a4K hb; replace HB := V3 HB hb; (try clear hb); (try clear ho0)) | (refine be_ 6 #[.int .i64 0, .int .u32 0, .slice none 0 0] 58 ?_; intro a6z hg w20 hbox hb; have b0v := a_ hbox; have d8b := lb_ HB hg; obtain ⟨a5N, b6B⟩ := nn_ a4K hg; replace a1F := se_ a1F hg hb; replace b0u := rb_ b0u hb; replace a4K := X3 a4K hb; replace HB := V3 HB hb; clear hb hbox hg; have d07 := b6B.out; have d08 := a5N.out; obtain ⟨b5j, b5k, b7w, b5l, b5m, b7x⟩ := a1Z b0v.out; obtain ⟨b1H, b1I, c8m⟩ := Kd.G7 b0u.out; subst c8m; obtain ⟨a8t, a8u, a8v, a8w⟩ := a1B a4K.out))
     refine bodyPost_ret (a0v rfl _ _ b6X 30 #[.int .i64 L9, .int .i64 d77] (0, 0) _ rfl (l9 (l9 (o8 (o8 (o8 a4K.out a5N.out _) a5N.out _) a5N.out _) 0 _ rfl) 1 _ rfl) Tryd.underlying30 rfl (by kernel_rfl)) rfl ?_; exact ⟨_, by (rfl), by exact Kd.N7 (Kd.V9 (p := ⟨b6X, 1, none⟩) (Kd.V9 (p := ⟨b6X, 0, none⟩) (Kd.V9 (p := ⟨a6z, 2, none⟩) (Kd.V9 (p := ⟨a6z, 1, none⟩) (Kd.V9 (p := ⟨a6z, 0, none⟩) (Kd.a1S (Kd.N7 a1F.out (fun k_ hk => (⟨hk, hk.2⟩ : _ ∧ k_ ≠ a6z))) a4K.out (by decide)) (fun _ hk => hk.1.2) (.int .i64 b9C)) (fun _ hk => hk.1.2) (.int .u32 b9D)) (fun _ hk => hk.1.2) (.slice b1H b4B.length b1I)) (fun _ hk => hk.2) (.int .i64 L9)) (fun _ hk => hk.2) (.int .i64 d77)) (fun _ hk => trivial), by repeat (with_reducible first | exact HB.out | refine o7 ?_ e6D.out | refine o7 ?_ d8b.out)⟩
   ·rw [if_neg c3] at H; have a3T := df_ c3; clear c3; obtain ⟨rfl, rfl, rfl⟩ := s3_ H; obtain ⟨d0t, d0u, d0v, d0w⟩ := a1B a4K.out
    go_wp2
    refine bodyPost_ret (a0v rfl _ _ b6X 30 #[.int .i64 0, .int .i64 0] (0, 0) _ rfl (l9 (l9 a4K.out 0 _ rfl) 1 _ rfl) Tryd.underlying30 rfl (by kernel_rfl)) rfl ?_; exact ⟨_, by (rfl), by exact Kd.N7 (Kd.V9 (p := ⟨b6X, 1, none⟩) (Kd.V9 (p := ⟨b6X, 0, none⟩) (Kd.a1S a1F.out a4K.out (by decide)) (fun _ hk => hk.2) (.int .i64 0)) (fun _ hk => hk.2) (.int .i64 0)) (fun _ hk => trivial), by repeat (with_reducible first | exact HB.out | refine o7 ?_ e6D.out)⟩
def L8.l0 : Nat → List Int → Int → List Int → Int → Option (List Int)
 | 0, _, _, _, _ => none
 | k + 1, x0, x1, x5, x6 => if x6 < (x0.length : Int) then (if 0 ≤ x6 then ((W9.f k x1 (rd x0 x6)).bind fun e95 => (if e95 = true then (L8.l0 k x0 x1 x5 (wrap64 (x6 + 1))) else (if x5.length < 140737488355328 then (L8.l0 k x0 x1 (x5 ++ [rd x0 x6]) (wrap64 (x6 + 1))) else (none)))) else (none)) else (some x5)
def L8.f (k : Nat) (l0 : List Int) (a1 : Int) : Option (List Int) := L8.l0 k l0 a1 ([] : List Int) 0
theorem L8.calls (k : Nat) (A0 : Option Addr) (c0 : Nat) (l0 : List Int) (a1 : Int) (r : List Int) (w : World) (hr0 : Kd.C (Kd.int .u8) w A0 l0.length l0) (hc0 : l0.length ≤ c0) (h : L8.f k l0 a1 = some r) :
  Calls Tryd.prog 99 #[.slice A0 l0.length c0, .int .u32 a1] w fun e w' => ∃ v0_ : Value, e = .returned (v0_) ∧ Kd.R (Kd.int .u8) 5 w' w.heap.size (fun _ => True) v0_ r ∧ Below w.heap.size w w' := by
 have HR0 := a_ hr0
 have HC0 := a_ hc0
 clear hr0 hc0
 have HB := a_ (Below.refl w.heap.size w)
 have H := h
 clear h
 unfold L8.f at H
 have H' := a_ H
 clear H
 go_enter Tryd.func99, Tryd.ntmps99
 go_wp2
 go_loopg [5, 6] k (fun kq v5 v6 w' => ∃ (L9 : List Int) (a1d : Int), v6 = .int .i64 a1d ∧ Aside0 (L8.l0 kq l0 a1 L9 a1d = some r) ∧ Aside0 (kq ≤ k) ∧ Aside0 (Kd.R (Kd.int .u8) 5 w' w.heap.size (fun _ => True) v5 L9) ∧ Aside0 (Below w.heap.size w w'))
 case atStart => exact ⟨([] : List Int), (0), (by rfl), H', ⟨Nat.le_refl _⟩, ⟨by (exact Kd.Y2 _ _ _ _ _)⟩, ⟨by exact HB.out⟩⟩
 case round =>
  clear H'; obtain ⟨L9, a1d, rfl, HA, HK1, b7d, HB⟩ := hrel
  cases gk with
  | zero => exact absurd HA.out (by simp [L8.l0])
  | succ k1 =>
   have H := HA.out; clear HA
   simp only [L8.l0] at H
   by_cases c3 : a1d < (l0.length : Int)
   ·rw [if_pos c3] at H; have a3T := dt_ c3; clear c3; have a4i := a2x H; replace H := O5 H; obtain ⟨e95, A5, H⟩ := bd_ H
    try dsimp only at H
    by_cases c6 : e95 = true
    ·subst c6; rw [if_pos rfl] at H; have H' := a_ H; clear H; have c8K : 0 ≤ (a1d : Int) := V5; have c8L : a1d < (l0.length : Int) := V5; obtain ⟨e6E, e96, b5M⟩ := Kd.Q7 HR0.out a1d c8K c8L
     cases e96
     replace b5M := cb_ HB b5M; replace c8K := eq_true c8K; replace c8L := eq_true c8L
     go_wp2_with (first | (refine gl_ (some 18) Tryd.func92 #[.int .u32 a1, .int .u8 (rd l0 a1d)] ?_; (with_reducible refine (W9.calls k1 a1 (rd l0 a1d) true _ A5.out).mono ?_); rintro e w' ⟨rfl, ⟨nd, rfl⟩⟩; refine ⟨_, rfl, ?_⟩))
     go_roundg k1
     case measure => have := HK1.out; omega
     case rel => exact ⟨(L9), (wrap64 (a1d + 1)), (by rfl), H', ⟨by have := HK1.out; omega⟩, ⟨by (with_reducible repeat (apply Kd.a06)); exact b7d.out⟩, ⟨by repeat (with_reducible first | exact HB.out | apply o9)⟩⟩
    ·cases nt_ c6
     rw [if_neg a3X] at H; have c7 := Z4 H; replace H := O5 H; have d8c := a_ c7; clear c7; obtain ⟨g7l, d8d⟩ := is_ ((L9 ++ [rd l0 a1d]) : List Int); rw [← d8d] at H; have f6U := a_ d8d; clear d8d; have H' := a_ H; clear H; have c8K : 0 ≤ (a1d : Int) := V5; have c8L : a1d < (l0.length : Int) := V5; obtain ⟨e6E, e96, b5M⟩ := Kd.Q7 HR0.out a1d c8K c8L
     cases e96
     replace b5M := cb_ HB b5M; replace c8K := eq_true c8K; replace c8L := eq_true c8L
     go_wp2_with (first | (refine gl_ (some 18) Tryd.func92 #[.int .u32 a1, .int .u8 (rd l0 a1d)] ?_; (with_reducible refine (W9.calls k1 a1 (rd l0 a1d) false _ A5.out).mono ?_); rintro e w' ⟨rfl, ⟨nd, rfl⟩⟩; refine ⟨_, rfl, ?_⟩; have e97 : 0 ≤ (a1d : Int) := V5; have e98 : a1d < (l0.length : Int) := V5; obtain ⟨f6V, g7m, d2b⟩ := Kd.Q7 HR0.out a1d e97 e98; obtain rfl : e6E = f6V := (by injection g7m); replace d2b := cb_ HB d2b; replace e97 := eq_true e97; replace e98 := eq_true e98) | ((with_reducible refine E8 (b := .append) (xs := #[.tmp 20, .tmp 25]) rfl ?_); at_builtin; refine Kd.a2Q (Kd.int .u8) (w0 := w) w.heap.size rfl (.tmp 20) (.tmp 25) 22 5 (.int .u8 0) 1 rfl Tryd.underlying22 info5 rfl (by decide) (by omega) u5 L9 (rd l0 a1d) [.int .u8 (rd l0 a1d)] (fun _ => True) (fun _ => False) rfl rfl ?aP (fun _ hk => hk.elim) ?aF ?aO ?aB ?aS ?aL ?_; (case aP => exact rfl); (case aB => exact (by repeat (with_reducible first | exact HB.out | apply o9))); (case aF => exact (fun _ _ => trivial)); (case aO => exact (by (with_reducible repeat (apply Kd.a06)); exact b7d.out)); (case aS => exact (y5 (by repeat (with_reducible first | exact HB.out | apply o9)))); (case aL => have := d8c.out; omega); intro h4I w8 ho hb hg hat; rw [← f6U.out] at ho; have f6W := a_ ho; replace HB := a_ hb; clear b7d ho hb hg hat))
     go_roundg k1
     case measure => have := HK1.out; omega
     case rel => exact ⟨(g7l), (wrap64 (a1d + 1)), (by rfl), H', ⟨by have := HK1.out; omega⟩, ⟨by exact f6W.out⟩, ⟨by exact HB.out⟩⟩
   ·rw [if_neg c3] at H; have a3T := df_ c3; clear c3; obtain rfl := oj_ H
    go_wp2
    go_ret
    exact ⟨_, by (rfl), by exact b7d.out, by exact HB.out⟩
mutual
def C9.l0 : Nat → List Int → List Int → Int → Option (List Int × Bool)
 | 0, _, _, _ => none
 | k + 1, x6, x7, x8 => if x8 < (x6.length : Int) then (if 0 ≤ x8 then (if (rd x6 x8) = 126 then (C9.j1 k x6 x7 x8 true) else (if (rd x6 x8) = 125 then (if (wrap64 (x8 + 1)) = (x6.length : Int) then (C9.j1 k x6 x7 x8 true) else (if 0 ≤ (wrap64 (x8 + 1)) then (if (wrap64 (x8 + 1)) < (x6.length : Int) then (C9.j1 k x6 x7 x8 ((rd x6 (wrap64 (x8 + 1))) == 126)) else (none)) else (none))) else (C9.j1 k x6 x7 x8 false))) else (none)) else (some (x7, true))
def C9.j1 : Nat → List Int → List Int → Int → Bool → Option (List Int × Bool)
 | 0, _, _, _, _ => none
 | k + 1, x6, x7, x8, x42 => if x42 = true then (some (([] : List Int), false)) else (if 0 ≤ x8 then (if x8 < (x6.length : Int) then (if (rd x6 x8) = 125 then (if 0 ≤ (wrap64 (x8 + 1)) then (if (wrap64 (x8 + 1)) < (x6.length : Int) then (if x7.length < 140737488355328 then (C9.l0 k x6 (x7 ++ [Go.bits .xor .u8 (rd x6 (wrap64 (x8 + 1))) 32]) (wrap64 (x8 + 2))) else (none)) else (none)) else (none)) else (if x7.length < 140737488355328 then (C9.l0 k x6 (x7 ++ [rd x6 x8]) (wrap64 (x8 + 1))) else (none))) else (none)) else (none))
end
def C9.f (k : Nat) (l0 : List Int) (a1 : Int) : Option (List Int × Bool) := (L8.f k l0 a1).bind fun a5w => (C9.l0 k a5w ([] : List Int) 0)
theorem C9.calls (k : Nat) (A0 : Option Addr) (c0 : Nat) (l0 : List Int) (a1 : Int) (r1 : List Int) (r2 : Bool) (w : World) (hr0 : Kd.C (Kd.int .u8) w A0 l0.length l0) (hc0 : l0.length ≤ c0) (h : C9.f k l0 a1 = some (r1, r2)) :
  Calls Tryd.prog 100 #[.slice A0 l0.length c0, .int .u32 a1] w fun e w' => ∃ v0_ : Value, e = .returned (.tuple #[v0_, .bool r2]) ∧ Kd.R (Kd.int .u8) 5 w' w.heap.size (fun _ => True) v0_ r1 ∧ Below w.heap.size w w' := by
 have HR0 := a_ hr0
 have HC0 := a_ hc0
 clear hr0 hc0
 have HB := a_ (Below.refl w.heap.size w)
 have H := h
 clear h
 unfold C9.f at H
 obtain ⟨a5w, A3, H⟩ := bd_ H
 try dsimp only at H
 have H' := a_ H
 clear H
 go_enter Tryd.func100, Tryd.ntmps100
 go_wp2_with (first | (refine gl_ (some 11) Tryd.func99 #[.slice A0 l0.length c0, .int .u32 a1] ?_; (with_reducible refine (L8.calls k _ _ l0 a1 a5w _ HR0.out HC0.out A3.out).mono ?_); rintro e w4 ⟨f6X, rfl, ho0, hb⟩; refine ⟨_, rfl, ?_⟩; have f6Y := rl_ ho0 HB; replace HB := V3 HB hb; (try clear hb); (try clear ho0)))
 go_loopg [7, 8] k (fun kq v7 v8 w' => ∃ (a2y : List Int) (S9 : Int), v8 = .int .i64 S9 ∧ Aside0 (C9.l0 kq a5w a2y S9 = some (r1, r2)) ∧ Aside0 (kq ≤ k) ∧ Aside0 (Kd.R (Kd.int .u8) 5 w' w.heap.size (fun k_ => some k_ ≠ (v7 : Value).ownBlock) f6X a5w) ∧ Aside0 (Kd.R (Kd.int .u8) 5 w' w.heap.size (fun k_ => some k_ ≠ (f6X : Value).ownBlock) v7 a2y) ∧ Aside0 (Below w.heap.size w w'))
 case atStart => exact ⟨([] : List Int), (0), (by rfl), H', ⟨Nat.le_refl _⟩, ⟨by exact Kd.D7 f6Y.out (fun _ hk => (by simp [Value.ownBlock]))⟩, ⟨by (exact Kd.Y2 _ _ _ _ _)⟩, ⟨by exact HB.out⟩⟩
 case round =>
  clear H'; obtain ⟨a2y, S9, rfl, HA, HK1, a0Y, O7, HB⟩ := hrel
  cases gk with
  | zero => exact absurd HA.out (by simp [C9.l0])
  | succ k1 =>
   have H := HA.out; clear HA
   simp only [C9.l0] at H
   by_cases c5 : S9 < (a5w.length : Int)
   ·rw [if_pos c5] at H; have a5H := dt_ c5; clear c5; have HC6 := a_ H; clear H; obtain ⟨Ao7, co7, eo7⟩ := Kd.G7 a0Y.out; subst eo7
    go_upto_region 5 with (fail)
    go_cut [42] (fun v42 wc => ∃ (kq : Nat) (d2c : Bool), v42 = .bool d2c ∧ Aside0 (C9.j1 kq a5w a2y S9 d2c = some (r1, r2)) ∧ Aside0 (kq ≤ k1) ∧ Aside0 (Kd.R (Kd.int .u8) 5 wc w.heap.size (fun k_ => some k_ ≠ (u7 : Value).ownBlock) (.slice Ao7 a5w.length co7) a5w) ∧ Aside0 (Kd.R (Kd.int .u8) 5 wc w.heap.size (fun k_ => some k_ ≠ ((.slice Ao7 a5w.length co7) : Value).ownBlock) u7 a2y) ∧ Aside0 (Below w.heap.size w wc))
    case first =>
     have H := HC6.out; clear HC6; have b2c := a2x H; replace H := O5 H
     by_cases c9 : (rd a5w S9) = 126
     ·rw [if_pos c9] at H; obtain ⟨b2d, b8F⟩ := bt_ c9; clear c9; have H' := a_ H; clear H; have f0b : (0 ≤ (S9 : Int)) = True := et_; have f0c : (S9 < (a5w.length : Int)) = True := et_; obtain ⟨b9E, c8M, c3W⟩ := Kd.Q7 (Kd.D9 a0Y.out).2.2 S9 V5 V5
      cases c8M
      go_wp2
      go_meet
      case rel => exact ⟨_, (true), (by rfl), H', ⟨by have := HK1.out; (omega)⟩, ⟨by exact a0Y.out⟩, ⟨by exact O7.out⟩, ⟨by exact HB.out⟩⟩
     ·rw [if_neg c9] at H; have b2d := bq_ c9; have b8F := bn_ c9
      by_cases c10 : (rd a5w S9) = 125
      ·rw [if_pos c10] at H; obtain ⟨a9w, b8G⟩ := bt_ c10; clear c10
       by_cases c11 : (wrap64 (S9 + 1)) = (a5w.length : Int)
       ·rw [if_pos c11] at H; obtain ⟨a7L, d1G⟩ := bt_ c11; clear c11; have H' := a_ H; clear H; have f0b : (0 ≤ (S9 : Int)) = True := et_; have f0c : (S9 < (a5w.length : Int)) = True := et_; obtain ⟨b9E, c8M, c3W⟩ := Kd.Q7 (Kd.D9 a0Y.out).2.2 S9 V5 V5
        cases c8M
        have f6Z : (0 ≤ (S9 : Int)) = True := et_; have f7a : (S9 < (a5w.length : Int)) = True := et_; obtain ⟨c6t, d8e, d2d⟩ := Kd.Q7 (Kd.D9 a0Y.out).2.2 S9 V5 V5; obtain rfl : b9E = c6t := (by injection d8e)
        go_wp2
        go_meet
        case rel => exact ⟨_, (true), (by rfl), H', ⟨by have := HK1.out; (omega)⟩, ⟨by exact a0Y.out⟩, ⟨by exact O7.out⟩, ⟨by exact HB.out⟩⟩
       ·rw [if_neg c11] at H; have a7L := bq_ c11; have d1G := bn_ c11; obtain ⟨d8f, d2e⟩ := si_ ((wrap64 (S9 + 1))); rw [d2e] at H
        (try rw [d2e] at a7L)
        (try rw [d2e] at d1G)
        have g7n : (IntKind.i64.wrap (S9 + 1)) = d8f := (a0J _).trans d2e; have b8H := a2x H; replace H := O5 H; have b8W := a2x H; replace H := O5 H; have H' := a_ H; clear H; have f0b : (0 ≤ (S9 : Int)) = True := et_; have f0c : (S9 < (a5w.length : Int)) = True := et_; obtain ⟨b9E, c8M, c3W⟩ := Kd.Q7 (Kd.D9 a0Y.out).2.2 S9 V5 V5
        cases c8M
        have f6Z : (0 ≤ (S9 : Int)) = True := et_; have f7a : (S9 < (a5w.length : Int)) = True := et_; obtain ⟨c6t, d8e, d2d⟩ := Kd.Q7 (Kd.D9 a0Y.out).2.2 S9 V5 V5; obtain rfl : b9E = c6t := (by injection d8e); have h4K : (0 ≤ ((d8f) : Int)) = True := et_; have h4L : ((d8f) < (a5w.length : Int)) = True := et_; obtain ⟨f7b, g7o, g1Z⟩ := Kd.Q7 (Kd.D9 a0Y.out).2.2 (d8f) V5 V5; obtain rfl : b9E = f7b := (by injection g7o)
        go_wp2
        go_meet
        case rel => exact ⟨_, (((rd a5w (d8f)) == 126)), (by rfl), H', ⟨by have := HK1.out; (omega)⟩, ⟨by exact a0Y.out⟩, ⟨by exact O7.out⟩, ⟨by exact HB.out⟩⟩
      ·rw [if_neg c10] at H; have a9w := bq_ c10; have b8G := bn_ c10; have H' := a_ H; clear H; have f0b : (0 ≤ (S9 : Int)) = True := et_; have f0c : (S9 < (a5w.length : Int)) = True := et_; obtain ⟨b9E, c8M, c3W⟩ := Kd.Q7 (Kd.D9 a0Y.out).2.2 S9 V5 V5
       cases c8M
       have f6Z : (0 ≤ (S9 : Int)) = True := et_; have f7a : (S9 < (a5w.length : Int)) = True := et_; obtain ⟨c6t, d8e, d2d⟩ := Kd.Q7 (Kd.D9 a0Y.out).2.2 S9 V5 V5; obtain rfl : b9E = c6t := (by injection d8e)
       go_wp2
       go_meet
       case rel => exact ⟨_, (false), (by rfl), H', ⟨by have := HK1.out; (omega)⟩, ⟨by exact a0Y.out⟩, ⟨by exact O7.out⟩, ⟨by exact HB.out⟩⟩
    case rest =>
     clear HC6
     try clear a5H
     obtain ⟨kq, d2c, rfl, HA, HJ5, a0Y, O7, HB⟩ := hcut
     cases kq with
     | zero => exact absurd HA.out (by simp [C9.j1])
     | succ kj5 =>
      have H := HA.out; clear HA
      simp only [C9.j1] at H
      by_cases c15 : d2c = true
      ·subst c15; rw [if_pos rfl] at H; obtain ⟨rfl, rfl⟩ := s2_ H
       go_wp2
       go_ret2
       exact ⟨_, by (rfl), by (exact Kd.Y2 _ _ _ _ _), by exact HB.out⟩
      ·cases nt_ c15
       rw [if_neg a3X] at H; have c9K := a2x H; replace H := O5 H; have b5a := a2x H; replace H := O5 H
       by_cases c18 : (rd a5w S9) = 125
       ·rw [if_pos c18] at H; obtain ⟨c9M, e5d⟩ := bt_ c18; clear c18; obtain ⟨a3y, c1k⟩ := si_ ((wrap64 (S9 + 1))); rw [c1k] at H; have e9Y : (IntKind.i64.wrap (S9 + 1)) = a3y := (a0J _).trans c1k; have b8I := a2x H; replace H := O5 H; have e6y := a2x H; replace H := O5 H; have c22 := Z4 H; replace H := O5 H; have f7c := a_ c22; clear c22; obtain ⟨g7p, d8g⟩ := is_ ((a2y ++ [Go.bits .xor .u8 (rd a5w (a3y)) 32]) : List Int); rw [← d8g] at H; have f7d := a_ d8g; clear d8g; have H' := a_ H; clear H; have g7q : (0 ≤ (S9 : Int)) = True := et_; have g7r : (S9 < (a5w.length : Int)) = True := et_; obtain ⟨c6u, f0d, e3D⟩ := Kd.Q7 (Kd.D9 a0Y.out).2.2 S9 V5 V5
        cases f0d
        have h4M : (0 ≤ ((a3y) : Int)) = True := et_; have h4N : ((a3y) < (a5w.length : Int)) = True := et_; obtain ⟨f7e, g7s, g2a⟩ := Kd.Q7 (Kd.D9 a0Y.out).2.2 (a3y) V5 V5; obtain rfl : c6u = f7e := (by injection g7s)
        go_wp2_with (first | ((with_reducible refine E8 (b := .append) (xs := #[.tmp 48, .tmp 55]) rfl ?_); (try (refine Y1 (by rfl) ?_; dsimp only)); at_builtin; refine Kd.a2Q (Kd.int .u8) (w0 := w) w.heap.size rfl (.tmp 48) (.tmp 55) 22 5 (.int .u8 0) 1 rfl Tryd.underlying22 info5 rfl (by decide) (by omega) u7 a2y (Go.bits .xor .u8 (rd a5w (a3y)) 32) [.int .u8 (Go.bits .xor .u8 (rd a5w (a3y)) 32)] (fun k_ => some k_ ≠ (.slice (some c6u) a5w.length co7 : Value).ownBlock) (fun _ => False) rfl rfl ?aP (fun _ hk => hk.elim) ?aF ?aO ?aB ?aS ?aL ?_; (case aP => exact rfl); (case aB => exact HB.out); (case aF => exact (fun k_ hk => Kd.fresh' (Kd.a0i a0Y.out) k_ hk)); (case aO => exact O7.out); (case aS => exact (y5 HB.out)); (case aL => have := f7c.out; omega); intro h4O w23 ho hb hg hat; rw [← f7d.out] at ho; have f7f := a_ ho; replace a0Y := a_ (Kd.a0T (ok := (fun _ => True)) (by exact Kd.D7 a0Y.out (fun _ hk => ⟨trivial, hk⟩)) hg hat); replace HB := a_ hb; clear O7 ho hb hg hat))
        go_roundg kj5
        case measure => have := HK1.out; have := HJ5.out; omega
        case rel => exact ⟨(g7p), (wrap64 (S9 + 2)), (by rfl), H', ⟨by have := HK1.out; have := HJ5.out; omega⟩, ⟨by exact Kd.D7 a0Y.out (fun _ hk => hk.2)⟩, ⟨by exact f7f.out⟩, ⟨by exact HB.out⟩⟩
       ·rw [if_neg c18] at H; have c9M := bq_ c18; have e5d := bn_ c18; have c24 := Z4 H; replace H := O5 H; have f7g := a_ c24; clear c24; obtain ⟨g7t, d8h⟩ := is_ ((a2y ++ [rd a5w S9]) : List Int); rw [← d8h] at H; have f7h := a_ d8h; clear d8h; have H' := a_ H; clear H; have g7q : (0 ≤ (S9 : Int)) = True := et_; have g7r : (S9 < (a5w.length : Int)) = True := et_; obtain ⟨c6u, f0d, e3D⟩ := Kd.Q7 (Kd.D9 a0Y.out).2.2 S9 V5 V5
        cases f0d
        have h4P : (0 ≤ (S9 : Int)) = True := et_; have h4Q : (S9 < (a5w.length : Int)) = True := et_; obtain ⟨f7i, g7u, g2b⟩ := Kd.Q7 (Kd.D9 a0Y.out).2.2 S9 V5 V5; obtain rfl : c6u = f7i := (by injection g7u)
        go_wp2_with (first | ((with_reducible refine E8 (b := .append) (xs := #[.tmp 59, .tmp 64]) rfl ?_); (try (refine Y1 (by rfl) ?_; dsimp only)); at_builtin; refine Kd.a2Q (Kd.int .u8) (w0 := w) w.heap.size rfl (.tmp 59) (.tmp 64) 22 5 (.int .u8 0) 1 rfl Tryd.underlying22 info5 rfl (by decide) (by omega) u7 a2y (rd a5w S9) [.int .u8 (rd a5w S9)] (fun k_ => some k_ ≠ (.slice (some c6u) a5w.length co7 : Value).ownBlock) (fun _ => False) rfl rfl ?aP (fun _ hk => hk.elim) ?aF ?aO ?aB ?aS ?aL ?_; (case aP => exact rfl); (case aB => exact HB.out); (case aF => exact (fun k_ hk => Kd.fresh' (Kd.a0i a0Y.out) k_ hk)); (case aO => exact O7.out); (case aS => exact (y5 HB.out)); (case aL => have := f7g.out; omega); intro h4R w25 ho hb hg hat; rw [← f7h.out] at ho; have f7j := a_ ho; replace a0Y := a_ (Kd.a0T (ok := (fun _ => True)) (by exact Kd.D7 a0Y.out (fun _ hk => ⟨trivial, hk⟩)) hg hat); replace HB := a_ hb; clear O7 ho hb hg hat))
        go_roundg kj5
        case measure => have := HK1.out; have := HJ5.out; omega
        case rel => exact ⟨(g7t), (wrap64 (S9 + 1)), (by rfl), H', ⟨by have := HK1.out; have := HJ5.out; omega⟩, ⟨by exact Kd.D7 a0Y.out (fun _ hk => hk.2)⟩, ⟨by exact f7j.out⟩, ⟨by exact HB.out⟩⟩
   ·rw [if_neg c5] at H; have a5H := df_ c5; clear c5; obtain ⟨rfl, rfl⟩ := s2_ H; obtain ⟨e3E, e3F, f0e⟩ := Kd.G7 a0Y.out; subst f0e
    go_wp2
    go_ret2
    exact ⟨_, by (rfl), by exact Kd.D7 O7.out (fun _ hk => trivial), by exact HB.out⟩
mutual
def F5.j0 : Nat → Int → List Int → Bool → Int → Option (Int)
 | 0, _, _, _, _ => none
 | k + 1, x0, x1, x2, x7 => (a0P.f x2).bind fun e3G => (F5.l0 k x1 x7 (Go.bits .and .u32 x0 e3G) 0)
def F5.l0 : Nat → List Int → Int → Int → Int → Option (Int)
 | 0, _, _, _, _ => none
 | k + 1, x1, x7, x8, x9 => if x9 < (x1.length : Int) then (if 0 ≤ x9 then (F5.l1 k x1 x7 (Go.bits .xor .u32 x8 ((rd x1 x9) % 4294967296)) x9 0) else (none)) else (some x8)
def F5.l1 : Nat → List Int → Int → Int → Int → Int → Option (Int)
 | 0, _, _, _, _, _ => none
 | k + 1, x1, x7, x8, x9, x10 => if x10 < 8 then (if (Int.tmod x8 2) = 1 then (F5.l1 k x1 x7 (Go.bits .xor .u32 ((Int.tdiv x8 2) % 4294967296) x7) x9 (wrap64 (x10 + 1))) else (F5.l1 k x1 x7 ((Int.tdiv x8 2) % 4294967296) x9 (wrap64 (x10 + 1)))) else (F5.l0 k x1 x7 x8 (wrap64 (x9 + 1)))
end
def F5.f (k : Nat) (a0 : Int) (l1 : List Int) (a2 : Bool) : Option (Int) := if a2 = true then (F5.j0 k a0 l1 a2 3988292384) else (F5.j0 k a0 l1 a2 33800)
theorem F5.calls (k : Nat) (a0 : Int) (A1 : Option Addr) (c1 : Nat) (l1 : List Int) (a2 : Bool) (r : Int) (w : World) (hr1 : Kd.C (Kd.int .u8) w A1 l1.length l1) (hc1 : l1.length ≤ c1) (h : F5.f k a0 l1 a2 = some r) :
  Calls Tryd.prog 94 #[.int .u32 a0, .slice A1 l1.length c1, .bool a2] w fun e w' => e = .returned (.int .u32 r) ∧ G5 w w' := by
 have HR1 := a_ hr1
 have HC1 := a_ hc1
 clear hr1 hc1
 have H := h
 clear h
 unfold F5.f at H
 have HC4 := a_ H
 clear H
 go_enter Tryd.func94, Tryd.ntmps94
 go_upto_if 12 with (fail)
 go_cut [7] (fun v7 wc => ∃ (kq : Nat) (d3V : Int), v7 = .int .u32 d3V ∧ Aside0 (F5.j0 kq a0 l1 a2 d3V = some r) ∧ Aside0 (kq ≤ k) ∧ G5 w wc)
 case first =>
  have H := HC4.out; clear HC4
  by_cases c5 : a2 = true
  ·subst c5; rw [if_pos rfl] at H; have H' := a_ H; clear H
   go_wp2
   go_meet
   case rel => exact ⟨_, (3988292384), (by rfl), H', ⟨by (omega)⟩, by exact G5.refl _⟩
  ·cases nt_ c5
   rw [if_neg a3X] at H; have H' := a_ H; clear H
   go_wp2
   go_meet
   case rel => exact ⟨_, (33800), (by rfl), H', ⟨by (omega)⟩, by exact G5.refl _⟩
 case rest =>
  clear HC4; obtain ⟨kq, d3V, rfl, HA, HJ3, ⟨mc3, rfl⟩⟩ := hcut
  cases kq with
  | zero => exact absurd HA.out (by simp [F5.j0])
  | succ kj3 =>
   have H := HA.out; clear HA
   simp only [F5.j0] at H
   obtain ⟨e3G, A6, H⟩ := bd_ H
   (try dsimp only at H); have H' := a_ H; clear H
   go_wp2_with (first | (refine gl_ (some 15) Tryd.func93 #[.bool a2] ?_; (with_reducible refine (a0P.calls a2 e3G _ A6.out).mono ?_); rintro e w' ⟨rfl, ⟨nd, rfl⟩⟩; refine ⟨_, rfl, ?_⟩))
   go_loopg [8, 9] kj3 (fun kq v8 v9 w' => ∃ (b0w : Int) (b3C : Int), v8 = .int .u32 b0w ∧ v9 = .int .i64 b3C ∧ Aside0 (F5.l0 kq l1 d3V b0w b3C = some r) ∧ Aside0 (kq ≤ kj3) ∧ G5 w w')
   case atStart => exact ⟨(Go.bits .and .u32 a0 e3G), (0), (by rfl), (by rfl), H', ⟨Nat.le_refl _⟩, by repeat (first | exact G5.refl _ | apply G5.step)⟩
   case round =>
    clear H'; obtain ⟨b0w, b3C, rfl, rfl, HA, HK2, ⟨m2, rfl⟩⟩ := hrel
    cases gk with
    | zero => exact absurd HA.out (by simp [F5.l0])
    | succ k2 =>
     have H := HA.out; clear HA
     simp only [F5.l0] at H
     by_cases c7 : b3C < (l1.length : Int)
     ·rw [if_pos c7] at H; have a6f := dt_ c7; clear c7; have b2c := a2x H; replace H := O5 H; have H' := a_ H; clear H; obtain ⟨h0L, g7v, e3H, g7w, g7x⟩ := d3J HR1 b3C V5 V5
      cases g7v
      go_wp2
      go_loopg [8, 10] k2 (fun kq v8 v10 w' => ∃ (c8N : Int) (c1m : Int), v8 = .int .u32 c8N ∧ v10 = .int .i64 c1m ∧ Aside0 (F5.l1 kq l1 d3V c8N b3C c1m = some r) ∧ Aside0 (kq ≤ k2) ∧ G5 w w')
      case atStart => exact ⟨(Go.bits .xor .u32 b0w ((rd l1 b3C) % 4294967296)), (0), (by rfl), (by rfl), H', ⟨Nat.le_refl _⟩, by repeat (first | exact G5.refl _ | apply G5.step)⟩
      case round =>
       clear H'
       try clear a6f
       try clear b2c
       try clear e3H
       try clear g7w
       try clear g7x
       obtain ⟨c8N, c1m, rfl, rfl, HA, HK3, ⟨m3, rfl⟩⟩ := hrel
       cases gk with
       | zero => exact absurd HA.out (by simp [F5.l1])
       | succ k3 =>
        have H := HA.out; clear HA
        simp only [F5.l1] at H
        by_cases c9 : c1m < 8
        ·rw [if_pos c9] at H; have b2d := dt_ c9; clear c9
         by_cases c10 : (Int.tmod c8N 2) = 1
         ·rw [if_pos c10] at H; obtain ⟨a9w, b8G⟩ := bt_ c10; clear c10; have H' := a_ H; clear H
          go_wp2
          go_roundg k3
          case measure => have := HJ3.out; have := HK2.out; have := HK3.out; omega
          case rel => exact ⟨(Go.bits .xor .u32 ((Int.tdiv c8N 2) % 4294967296) d3V), (wrap64 (c1m + 1)), (by rfl), (by rfl), H', ⟨by have := HJ3.out; have := HK2.out; have := HK3.out; omega⟩, by repeat (first | exact G5.refl _ | apply G5.step)⟩
         ·rw [if_neg c10] at H; have a9w := bq_ c10; have b8G := bn_ c10; have H' := a_ H; clear H
          go_wp2
          go_roundg k3
          case measure => have := HJ3.out; have := HK2.out; have := HK3.out; omega
          case rel => exact ⟨((Int.tdiv c8N 2) % 4294967296), (wrap64 (c1m + 1)), (by rfl), (by rfl), H', ⟨by have := HJ3.out; have := HK2.out; have := HK3.out; omega⟩, by repeat (first | exact G5.refl _ | apply G5.step)⟩
        ·rw [if_neg c9] at H; have b2d := df_ c9; clear c9; have H' := a_ H; clear H
         go_wp2
         go_roundg k3
         case measure => have := HJ3.out; have := HK2.out; have := HK3.out; omega
         case rel => exact ⟨(c8N), (wrap64 (b3C + 1)), (by rfl), (by rfl), H', ⟨by have := HJ3.out; have := HK2.out; have := HK3.out; omega⟩, by repeat (first | exact G5.refl _ | apply G5.step)⟩
     ·rw [if_neg c7] at H; have a6f := df_ c7; clear c7; obtain rfl := oj_ H
      go_wp2
      go_ret
      exact ⟨by (rfl), by repeat (first | exact G5.refl _ | apply G5.step)⟩
def a3q.f (k : Nat) (l0 : List Int) (a1 : Bool) : Option (Int) := (a0P.f a1).bind fun f0i => ((a0P.f a1).bind fun d8j => ((F5.f k d8j l0 a1).bind fun f0j => (some ((f0i - f0j) % 4294967296))))
theorem a3q.calls (k : Nat) (A0 : Option Addr) (c0 : Nat) (l0 : List Int) (a1 : Bool) (r : Int) (w : World) (hr0 : Kd.C (Kd.int .u8) w A0 l0.length l0) (hc0 : l0.length ≤ c0) (h : a3q.f k l0 a1 = some r) :
  Calls Tryd.prog 76 #[.slice A0 l0.length c0, .bool a1] w fun e w' => e = .returned (.int .u32 r) ∧ G5 w w' := by
 have HR0 := a_ hr0
 have HC0 := a_ hc0
 clear hr0 hc0
 have H := h
 clear h
 unfold a3q.f at H
 obtain ⟨f0i, A3, H⟩ := bd_ H
 try dsimp only at H
 obtain ⟨d8j, A4, H⟩ := bd_ H
 try dsimp only at H
 obtain ⟨f0j, A5, H⟩ := bd_ H
 try dsimp only at H
 obtain rfl := oj_ H
 go_enter Tryd.func76, Tryd.ntmps76
 go_wp2_with (first | (refine gl_ (some 6) Tryd.func93 #[.bool a1] ?_; (with_reducible refine (a0P.calls a1 f0i _ A3.out).mono ?_); rintro e w' ⟨rfl, ⟨nd, rfl⟩⟩; refine ⟨_, rfl, ?_⟩) | (refine gl_ (some 8) Tryd.func93 #[.bool a1] ?_; (with_reducible refine (a0P.calls a1 d8j _ A4.out).mono ?_); rintro e w' ⟨rfl, ⟨nd, rfl⟩⟩; refine ⟨_, rfl, ?_⟩) | (refine gl_ (some 11) Tryd.func94 #[.int .u32 d8j, .slice A0 l0.length c0, .bool a1] ?_; (with_reducible refine (F5.calls k d8j _ _ l0 a1 f0j _ ?P9 ?P6 A5.out).mono ?_); (case P9 => exact HR0.out); (case P6 => exact HC0.out); rintro e w' ⟨rfl, ⟨nd, rfl⟩⟩; refine ⟨_, rfl, ?_⟩))
 go_ret
 exact ⟨by (rfl), by repeat (first | exact G5.refl _ | apply G5.step)⟩
def V7.l0 : Nat → Bool → List Int → Int → Int → Option (List Int)
 | 0, _, _, _, _ => none
 | k + 1, x1, x5, x6, x7 => (O6.f x1).bind fun d8k => (if x7 < d8k then (if x5.length < 140737488355328 then (V7.l0 k x1 (x5 ++ [(Int.tmod x6 256) % 256]) ((Int.tdiv x6 256) % 4294967296) (wrap64 (x7 + 1))) else (none)) else (some x5))
def V7.f (k : Nat) (l0 : List Int) (a1 : Bool) : Option (List Int) := if ([] : List Int).length + l0.length < 140737488355328 then ((a3q.f k l0 a1).bind fun e3I => (V7.l0 k a1 (([] : List Int) ++ l0) e3I 0)) else (none)
theorem V7.calls (k : Nat) (A0 : Option Addr) (c0 : Nat) (l0 : List Int) (a1 : Bool) (r : List Int) (w : World) (hr0 : Kd.C (Kd.int .u8) w A0 l0.length l0) (hc0 : l0.length ≤ c0) (h : V7.f k l0 a1 = some r) :
  Calls Tryd.prog 57 #[.slice A0 l0.length c0, .bool a1] w fun e w' => ∃ v0_ : Value, e = .returned (v0_) ∧ Kd.R (Kd.int .u8) 5 w' w.heap.size (fun _ => True) v0_ r ∧ Below w.heap.size w w' := by
 have HR0 := a_ hr0
 have HC0 := a_ hc0
 clear hr0 hc0
 have HB := a_ (Below.refl w.heap.size w)
 have H := h
 clear h
 unfold V7.f at H
 have c3 := Z4 H
 replace H := O5 H
 have e70 := a_ c3
 clear c3
 obtain ⟨g7y, d8l⟩ := is_ ((([] : List Int) ++ l0) : List Int)
 rw [← d8l] at H
 have f7k := a_ d8l
 clear d8l
 obtain ⟨e3I, A4, H⟩ := bd_ H
 try dsimp only at H
 have H' := a_ H
 clear H
 go_enter Tryd.func57, Tryd.ntmps57
 go_wp2_with (first | ((with_reducible refine E8 (b := .append) (xs := #[.tmp 8, .tmp 9]) rfl ?_); at_builtin; refine Kd.P7 (Kd.int .u8) (w0 := w) w.heap.size rfl (.tmp 8) (.tmp 9) 22 5 (.int .u8 0) 1 rfl Tryd.underlying22 info5 rfl (by decide) (by omega) (.slice none 0 0) ([] : List Int) l0 _ _ _ (fun _ => True) (fun _ => False) rfl rfl ?aO ?aR (fun _ _ h => h) (fun _ h => h.elim) ?aF ?aB ?aS ?aL ?_; (case aR => exact HR0.out); (case aB => exact HB.out); (case aF => exact (fun _ _ => trivial)); (case aO => exact (Kd.Y2 _ _ _ _ (fun _ => True))); (case aS => exact (y5 HB.out)); (case aL => have := e70.out; omega); intro h4S w5 ho hb hg hat; rw [← f7k.out] at ho; have f7l := a_ ho; replace HB := a_ hb; clear ho hb hg hat) | (refine gl_ (some 13) Tryd.func76 #[.slice A0 l0.length c0, .bool a1] ?_; (with_reducible refine (a3q.calls k _ _ l0 a1 e3I _ (Kd.y9 HR0.out HB.out) HC0.out A4.out).mono ?_); rintro e w' ⟨rfl, ⟨nd, rfl⟩⟩; refine ⟨_, rfl, ?_⟩))
 go_loopg [5, 6, 7] k (fun kq v5 v6 v7 w' => ∃ (L9 : List Int) (a1d : Int) (a2y : Int), v6 = .int .u32 a1d ∧ v7 = .int .i64 a2y ∧ Aside0 (V7.l0 kq a1 L9 a1d a2y = some r) ∧ Aside0 (kq ≤ k) ∧ Aside0 (Kd.R (Kd.int .u8) 5 w' w.heap.size (fun _ => True) v5 L9) ∧ Aside0 (Below w.heap.size w w'))
 case atStart => exact ⟨(g7y), (e3I), (0), (by rfl), (by rfl), H', ⟨Nat.le_refl _⟩, ⟨by (with_reducible repeat (apply Kd.a06)); exact f7l.out⟩, ⟨by repeat (with_reducible first | exact HB.out | apply o9)⟩⟩
 case round =>
  clear H'; obtain ⟨L9, a1d, a2y, rfl, rfl, HA, HK1, b7d, HB⟩ := hrel
  cases gk with
  | zero => exact absurd HA.out (by simp [V7.l0])
  | succ k1 =>
   have H := HA.out; clear HA
   simp only [V7.l0] at H
   obtain ⟨d8k, A6, H⟩ := bd_ H
   try dsimp only at H
   by_cases c7 : a2y < d8k
   ·rw [if_pos c7] at H; have a6f := dt_ c7; clear c7; have c8 := Z4 H; replace H := O5 H; have b6u := a_ c8; clear c8; obtain ⟨g7z, d8m⟩ := is_ ((L9 ++ [(Int.tmod a1d 256) % 256]) : List Int); rw [← d8m] at H; have f7m := a_ d8m; clear d8m; have H' := a_ H; clear H
    go_wp2_with (first | (refine gl_ (some 16) Tryd.func77 #[.bool a1] ?_; (with_reducible refine (O6.calls a1 d8k _ A6.out).mono ?_); rintro e w' ⟨rfl, ⟨nd, rfl⟩⟩; refine ⟨_, rfl, ?_⟩) | ((with_reducible refine E8 (b := .append) (xs := #[.tmp 20, .tmp 24]) rfl ?_); at_builtin; refine Kd.a2Q (Kd.int .u8) (w0 := w) w.heap.size rfl (.tmp 20) (.tmp 24) 22 5 (.int .u8 0) 1 rfl Tryd.underlying22 info5 rfl (by decide) (by omega) u5 L9 ((Int.tmod a1d 256) % 256) [.int .u8 ((Int.tmod a1d 256) % 256)] (fun _ => True) (fun _ => False) rfl rfl ?aP (fun _ hk => hk.elim) ?aF ?aO ?aB ?aS ?aL ?_; (case aP => exact rfl); (case aB => exact (by repeat (with_reducible first | exact HB.out | apply o9))); (case aF => exact (fun _ _ => trivial)); (case aO => exact (by (with_reducible repeat (apply Kd.a06)); exact b7d.out)); (case aS => exact (y5 (by repeat (with_reducible first | exact HB.out | apply o9)))); (case aL => have := b6u.out; omega); intro h4T w9 ho hb hg hat; rw [← f7m.out] at ho; have f7n := a_ ho; replace HB := a_ hb; clear b7d ho hb hg hat))
    go_roundg k1
    case measure => have := HK1.out; omega
    case rel => exact ⟨(g7z), ((Int.tdiv a1d 256) % 4294967296), (wrap64 (a2y + 1)), (by rfl), (by rfl), H', ⟨by have := HK1.out; omega⟩, ⟨by exact f7n.out⟩, ⟨by exact HB.out⟩⟩
   ·rw [if_neg c7] at H; have a6f := df_ c7; clear c7; obtain rfl := oj_ H
    go_wp2_with (first | (refine gl_ (some 16) Tryd.func77 #[.bool a1] ?_; (with_reducible refine (O6.calls a1 d8k _ A6.out).mono ?_); rintro e w' ⟨rfl, ⟨nd, rfl⟩⟩; refine ⟨_, rfl, ?_⟩))
    go_ret
    exact ⟨_, by (rfl), by (with_reducible repeat (apply Kd.a06)); exact b7d.out, by repeat (with_reducible first | exact HB.out | apply o9)⟩
end Go.Proofs.YtgnonglkibhnhaaDoor.Print
