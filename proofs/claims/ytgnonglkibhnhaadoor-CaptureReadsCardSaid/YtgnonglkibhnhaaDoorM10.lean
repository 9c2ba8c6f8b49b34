-- laid together by this session's own program (wip/tools/merge.py) of texts that its program laid
import Derived.Test.YtgnonglkibhnhaaDoorF26
import Derived.Test.YtgnonglkibhnhaaDoorF54
namespace Go.Proofs.YtgnonglkibhnhaaDoor.Print
open Go.RowKit Go.Proofs.YtgnonglkibhnhaaDoorW.PrintWords Go.Proofs.YtgnonglkibhnhaaDoorW.PrintLast Go.Proofs.YtgnonglkibhnhaaDoorW.PrintMore
attribute [local go_sem] a0n a0o a0P a0Q Y4 Y5 a0p a0q
set_option linter.unusedVariables false
set_option linter.unusedSimpArgs false
set_option maxHeartbeats 16000000
set_option maxRecDepth 100000
def a2r.f (k : Nat) (l0 : List Int) (a1 : Int) (a1J : Int) (a1K : Int) (a1L : Int) (a1M : Int) (a1N : ByteArray) (a1O : ByteArray) (a02 : Int) (a0D : Int) (a0y : Bool) : Option ((List (S42)) × Int × Int) := if a1 = 1 then ((G9.f k l0 a1J a1K a1L a1M a1N a1O a02 a0D a0y).bind fun d7A => (some (d7A.1, d7A.2.1, d7A.2.2))) else (if a1 = 2 then ((umpireref11_notes.f k l0 a1J a1K a1L a1M a1N a1O a02 a0D a0y).bind fun d7B => (some (d7B.1, d7B.2.1, d7B.2.2))) else (some (([] : List (S42)), 0, 7)))
theorem a2r.calls (k : Nat) (A0 : Option Addr) (c0 : Nat) (l0 : List Int) (a1 : Int) (a1J : Int) (a1K : Int) (a1L : Int) (a1M : Int) (a1N : ByteArray) (a1O : ByteArray) (a02 : Int) (a0D : Int) (a0y : Bool) (r1 : List (S42)) (r2 : Int) (r3 : Int) (w : World) (hr0 : Kd.C (Kd.int .u8) w A0 l0.length l0) (hc0 : l0.length ≤ c0) (h : a2r.f k l0 a1 a1J a1K a1L a1M a1N a1O a02 a0D a0y = some (r1, r2, r3)) :
  Calls Tryd.prog 11 #[.slice A0 l0.length c0, .int .i64 a1, .agg #[.int .i64 a1J, .int .i64 a1K, .int .i64 a1L, .int .i64 a1M, .string a1N, .string a1O, .int .i64 a02, .int .u32 a0D, .bool a0y]] w fun e w' => ∃ v0_ : Value, e = .returned (.tuple #[v0_, .agg #[.int .i64 r2, .int .i64 r3]]) ∧ Kd.S k42 42 w' w.heap.size (fun _ => True) v0_ r1 ∧ Below w.heap.size w w' := by
 have c1j := Tryd.underlying25
 have a7R := Tryd.underlying30
 have HR0 := a_ hr0
 have HC0 := a_ hc0
 clear hr0 hc0
 have HB := a_ (Below.refl w.heap.size w)
 have H := h
 clear h
 unfold a2r.f at H
 by_cases c4 : a1 = 1
 ·rw [if_pos c4] at H; obtain ⟨a4d, b1R⟩ := bt_ c4; clear c4; obtain ⟨⟨g5P, e8V, e8W⟩, A5, H⟩ := bd_ H
  (try dsimp only at H); obtain ⟨rfl, rfl, rfl⟩ := s3_ H
  go_enter Tryd.func11, Tryd.ntmps11
  go_wp2_with (first | (refine be_ 5 #[.int .i64 a1J, .int .i64 a1K, .int .i64 a1L, .int .i64 a1M, .string a1N, .string a1O, .int .i64 a02, .int .u32 a0D, .bool a0y] 25 ?_; intro e4B hg w6 hbox hb; have a7L := a_ hbox; have e4C := lb_ HB hg; replace HB := U9 HB hb; clear hb hbox hg) | (refine be_ 7 #[.int .i64 0, .int .i64 0] 30 ?_; intro b5o hg w7 hbox hb; have a9w := a_ hbox; have c5E := lb_ HB hg; obtain ⟨b0e, b0f⟩ := nn_ a7L hg; replace a7L := X4 a7L hb; replace HB := U9 HB hb; clear hb hbox hg; have f1U := b0e.out; have f1V := b0f.out; obtain ⟨c6G, c6H, d4C, e7R, g5Q, g5R, g5S, g5T, g5U, c6I, c6J, d4D, e7S, g5V, g5W, g5X, g5Y, g5Z⟩ := d87 a7L.out) | (refine gl_ (some 12) Tryd.func25 #[.slice A0 l0.length c0, .agg #[.int .i64 a1J, .int .i64 a1K, .int .i64 a1L, .int .i64 a1M, .string a1N, .string a1O, .int .i64 a02, .int .u32 a0D, .bool a0y]] ?_; (with_reducible refine (G9.calls k _ _ l0 a1J a1K a1L a1M a1N a1O a02 a0D a0y g5P e8V e8W _ (Kd.C9 HR0.out HB.out) HC0.out A5.out).mono ?_); rintro e w10 ⟨h2J, rfl, ho0, hb⟩; refine ⟨_, rfl, ?_⟩; have f5Y := a_ (Kd.a7r ho0 (y5 HB.out)); replace a7L := X4 a7L hb; replace a9w := X4 a9w hb; replace HB := U9 HB hb; (try clear hb); (try clear ho0); obtain ⟨d88, d89, d9a, d9b⟩ := a1p a9w.out))
  refine bodyPost_ret (a0u rfl _ _ b5o 30 #[.int .i64 e8V, .int .i64 e8W] (0, 0) _ rfl (l9 (l9 a9w.out 0 _ rfl) 1 _ rfl) Tryd.underlying30 rfl (by kernel_rfl)) rfl ?_; exact ⟨_, by (rfl), by exact Kd.N8 (Kd.V8 (p := ⟨b5o, 1, none⟩) (Kd.V8 (p := ⟨b5o, 0, none⟩) (Kd.a1F f5Y.out a9w.out (by decide)) (fun _ hk => hk.2) (.int .i64 e8V)) (fun _ hk => hk.2) (.int .i64 e8W)) (fun _ hk => trivial), by repeat (with_reducible first | exact HB.out | refine o7 ?_ c5E.out)⟩
 ·rw [if_neg c4] at H; have a4d := bq_ c4; have b1R := bn_ c4
  by_cases c12 : a1 = 2
  ·rw [if_pos c12] at H; obtain ⟨a9S, b6m⟩ := bt_ c12; clear c12; obtain ⟨⟨g50, e8X, e8Y⟩, A13, H⟩ := bd_ H
   (try dsimp only at H); obtain ⟨rfl, rfl, rfl⟩ := s3_ H
   go_enter Tryd.func11, Tryd.ntmps11
   go_wp2_with (first | (refine be_ 5 #[.int .i64 a1J, .int .i64 a1K, .int .i64 a1L, .int .i64 a1M, .string a1N, .string a1O, .int .i64 a02, .int .u32 a0D, .bool a0y] 25 ?_; intro e4B hg w14 hbox hb; have a7L := a_ hbox; have e4C := lb_ HB hg; replace HB := U9 HB hb; clear hb hbox hg) | (refine be_ 7 #[.int .i64 0, .int .i64 0] 30 ?_; intro b5o hg w15 hbox hb; have a9w := a_ hbox; have c5E := lb_ HB hg; obtain ⟨b0e, b0f⟩ := nn_ a7L hg; replace a7L := X4 a7L hb; replace HB := U9 HB hb; clear hb hbox hg; have g8A := b0e.out; have g8B := b0f.out; obtain ⟨c1R, c1S, c1T, e2n, e2o, e2p, e2q, e2r, e2s, c1V, c1W, c1X, e2t, e2u, e2v, e2w, e2x, e2y⟩ := d87 a7L.out) | (refine gl_ (some 19) Tryd.func26 #[.slice A0 l0.length c0, .agg #[.int .i64 a1J, .int .i64 a1K, .int .i64 a1L, .int .i64 a1M, .string a1N, .string a1O, .int .i64 a02, .int .u32 a0D, .bool a0y]] ?_; (with_reducible refine (umpireref11_notes.calls k _ _ l0 a1J a1K a1L a1M a1N a1O a02 a0D a0y g50 e8X e8Y _ (Kd.C9 HR0.out HB.out) HC0.out A13.out).mono ?_); rintro e w18 ⟨h2K, rfl, ho0, hb⟩; refine ⟨_, rfl, ?_⟩; have f5Z := a_ (Kd.a7r ho0 (y5 HB.out)); replace a7L := X4 a7L hb; replace a9w := X4 a9w hb; replace HB := U9 HB hb; (try clear hb); (try clear ho0); obtain ⟨e1k, e1l, e1m, e1n⟩ := a1p a9w.out))
   refine bodyPost_ret (a0u rfl _ _ b5o 30 #[.int .i64 e8X, .int .i64 e8Y] (0, 0) _ rfl (l9 (l9 a9w.out 0 _ rfl) 1 _ rfl) Tryd.underlying30 rfl (by kernel_rfl)) rfl ?_; exact ⟨_, by (rfl), by exact Kd.N8 (Kd.V8 (p := ⟨b5o, 1, none⟩) (Kd.V8 (p := ⟨b5o, 0, none⟩) (Kd.a1F f5Z.out a9w.out (by decide)) (fun _ hk => hk.2) (.int .i64 e8X)) (fun _ hk => hk.2) (.int .i64 e8Y)) (fun _ hk => trivial), by repeat (with_reducible first | exact HB.out | refine o7 ?_ c5E.out)⟩
  ·rw [if_neg c12] at H; have a9S := bq_ c12; have b6m := bn_ c12; obtain ⟨rfl, rfl, rfl⟩ := s3_ H
   go_enter Tryd.func11, Tryd.ntmps11
   go_wp2_with (first | (refine be_ 5 #[.int .i64 a1J, .int .i64 a1K, .int .i64 a1L, .int .i64 a1M, .string a1N, .string a1O, .int .i64 a02, .int .u32 a0D, .bool a0y] 25 ?_; intro e4B hg w20 hbox hb; have a7L := a_ hbox; have e4C := lb_ HB hg; replace HB := U9 HB hb; clear hb hbox hg) | (refine be_ 7 #[.int .i64 0, .int .i64 0] 30 ?_; intro b5o hg w21 hbox hb; have a9w := a_ hbox; have c5E := lb_ HB hg; obtain ⟨b0e, b0f⟩ := nn_ a7L hg; replace a7L := X4 a7L hb; replace HB := U9 HB hb; clear hb hbox hg; have f0H := b0f.out; have f0I := b0e.out; obtain ⟨b65, b66, b67, b68⟩ := a1p a9w.out))
   refine bodyPost_ret (a0u rfl _ _ b5o 30 #[.int .i64 0, .int .i64 7] (0, 0) _ rfl (l9 (l9 a9w.out 0 _ rfl) 1 _ rfl) Tryd.underlying30 rfl (by kernel_rfl)) rfl ?_; exact ⟨_, by (rfl), by (exact Kd.a5h _ _ _ _ _), by repeat (with_reducible first | exact HB.out | refine o7 ?_ c5E.out)⟩
def H7.l0 : Nat → List (S51) → List (S42) → Int → Int → Option (List Int × Int)
 | 0, _, _, _, _ => none
 | k + 1, x6, x10, x11, x12 => if x12 < x11 then (if 0 ≤ x12 then (if x12 < (x10.length : Int) then ((some (([(wrap64 (((J5 x10 x12).f0) - 1)) % 256] : List Int) : List Int)).bind fun d2C => ((a2W.f ((J5 x10 x12).f0) ((J5 x10 x12).f1) ((J5 x10 x12).f2)).bind fun b53 => (if d2C.length + b53.length < 140737488355328 then ((some (d2C ++ b53 : List Int)).bind fun b6D => (if x6.length < 3518437208883 then (H7.l0 k (x6 ++ [(⟨(x12) % 4294967296, 0, (b6D.length : Int) % 4294967296, b6D⟩ : S51)]) x10 x11 (wrap64 (x12 + 1))) else (none))) else (none)))) else (none)) else (none)) else ((pcap_Put.f k false false 65535 204 x6).bind fun e4D => (some (e4D.1, e4D.2)))
def H7.f (k : Nat) (V4 : Int) (a0X : Int) (l1 : List (S42)) : Option (List Int × Int) := H7.l0 k ([] : List (S51)) l1 (l1.length : Int) 0
def H7.T5 : Bool × List (List Nat × List Nat) := (true, [([], []), ([0], [0]), ([1], [1]), ([2], [2]), ([3], [3]), ([], []), ([5], [5]), ([4, 6, 6], [4, 6]), ([7, 7, 0, 1, 2, 3, 4, 5, 6, 7], [7])])
def H7.B5 : List Nat := [0, 1, 3, 7, 15, 0, 32, 127, 255]
theorem H7.e7l : a3b .any (opsOf Tryd.f30 5) = H7.T5 := by kernel_rfl
theorem H7.d5E : a2C H7.T5.2 H7.B5 = true := by kernel_rfl
theorem H7.calls (k : Nat) (V4 : Int) (a0X : Int) (A1 : Option Addr) (c1 : Nat) (l1 : List (S42)) (r1 : List Int) (r2 : Int) (w : World) (hr1 : Kd.C k42 w A1 l1.length l1) (hc1 : l1.length ≤ c1) (h : H7.f k V4 a0X l1 = some (r1, r2)) :
  Calls Tryd.prog 30 #[.agg #[], .slice A1 l1.length c1] w fun e w' => ∃ v0_ : Value, e = .returned (.tuple #[v0_, .int .i64 r2]) ∧ Kd.R (Kd.int .u8) 5 w' w.heap.size (fun _ => True) v0_ r1 ∧ Below w.heap.size w w' := by
 have a7R := Tryd.underlying30
 have e5D := Tryd.underlying65
 have d2d := Tryd.underlying42
 have d2n := Tryd.underlying51
 have c6Q := Tryd.underlying46
 have HR1 := a_ hr1
 have HC1 := a_ hc1
 clear hr1 hc1
 have HB := a_ (Below.refl w.heap.size w)
 have H := h
 clear h
 unfold H7.f at H
 have H' := a_ H
 clear H
 go_enter Tryd.func30, Tryd.ntmps30
 go_wp2_with (first | (refine be_ 2 #[] 65 ?_; intro d7C hg w3 hbox hb; have a3a := a_ hbox; have g8C := lb_ HB hg; replace HB := U9 HB hb; clear hb hbox hg))
 go_loopg [6, 12] k (fun kq v6 v12 w' => ∃ (a07 : List (S51)) (D5 : Int), v12 = .int .i64 D5 ∧ Aside0 (H7.l0 kq a07 l1 (l1.length : Int) D5 = some (r1, r2)) ∧ Aside0 (kq ≤ k) ∧ Aside0 (Kd.S k51 51 w' w.heap.size (fun _ => True) v6 a07) ∧ Aside0 (w'.heap[d7C]? = some (.cells #[] 65 (0, 0))) ∧ Aside0 (Below w.heap.size w w'))
 case atStart => exact ⟨([] : List (S51)), (0), (by rfl), H', ⟨Nat.le_refl _⟩, ⟨by (exact Kd.a5h _ _ _ _ _)⟩, ⟨by exact a3a.out⟩, ⟨by exact HB.out⟩⟩
 case round =>
  clear H'; obtain ⟨a07, D5, rfl, HA, HK1, a0U, a3a, HB⟩ := hrel
  cases gk with
  | zero => exact absurd HA.out (by simp [H7.l0])
  | succ k1 =>
   have H := HA.out; clear HA
   simp only [H7.l0] at H
   by_cases c4 : D5 < (l1.length : Int)
   ·rw [if_pos c4] at H; have a4d := dt_ c4; clear c4; have a5y := a2z H; replace H := O5 H; have a8h := a2z H; replace H := O5 H; obtain ⟨d2C, d7D⟩ := is_ ((([(wrap64 (((J5 l1 D5).f0) - 1)) % 256] : List Int)) : List Int); rw [Option.bind_some, ← d7D] at H; have e4E := a_ d7D; clear d7D; obtain ⟨b53, A7, H⟩ := bd_ H
    (try dsimp only at H); have c8 := Z7 H; replace H := O5 H; have b5T := a_ c8; clear c8; obtain ⟨b6D, d7E⟩ := is_ ((d2C ++ b53) : List Int); rw [Option.bind_some, ← d7E] at H; have f6a := a_ d7E; clear d7E; have c9 := Z7 H; replace H := O5 H; have c65 := a_ c9; clear c9; obtain ⟨g51, d7F⟩ := is_ ((a07 ++ [(⟨(D5) % 4294967296, 0, (b6D.length : Int) % 4294967296, b6D⟩ : S51)]) : List (S51)); rw [← d7F] at H; have f6b := a_ d7F; clear d7F; have H' := a_ H; clear H; have e8Z : 0 ≤ (D5 : Int) := V9; have e80 : D5 < (l1.length : Int) := V9; obtain ⟨g8D, a7m, a7n, g52, d01, d02, d03, d04, d05⟩ := a3k HR1.out D5 e8Z e80
    cases g52
    replace d01 := cb_ HB d01; replace d02 := cb_ HB d02; replace d03 := cb_ HB d03; have d06 := a_ d05; have d07 := a_ d04; clear d05 d04; replace e8Z := eq_true e8Z; replace e80 := eq_true e80
    try go_wp2_with (first | (refine be_ 8 #[.int .i64 0, .int .i64 0, .slice none 0 0] 42 ?_; intro a3J hg w10 hbox hb; have a1j := a_ hbox; have f6c := lb_ HB hg; obtain ⟨b2P, d2D⟩ := nn_ a3a hg; replace a0U := sb_ a0U hb; replace a3a := X4 a3a hb; replace HB := U9 HB hb; clear hb hbox hg; have g8E := d2D.out; have g8F := b2P.out; obtain ⟨d0k, d0l, e1B, d0m, d0n, e1C⟩ := a1R a1j.out))
    have n0_ : Aside0 (Kd.S k51 51 (((w10.setCell ⟨a3J, 0, none⟩ (.int .i64 ((J5 l1 D5).f0))).setCell ⟨a3J, 1, none⟩ (.int .i64 ((J5 l1 D5).f1))).setCell ⟨a3J, 2, none⟩ (.slice a7m ((J5 l1 D5).f2).length a7n)) w.heap.size (fun _ => True) u6 a07) := ⟨by exact Kd.N8 (Kd.V8 (p := ⟨a3J, 2, none⟩) (Kd.V8 (p := ⟨a3J, 1, none⟩) (Kd.V8 (p := ⟨a3J, 0, none⟩) (Kd.a1F a0U.out a1j.out (by decide)) (fun _ hk => hk.2) (.int .i64 ((J5 l1 D5).f0))) (fun _ hk => hk.2) (.int .i64 ((J5 l1 D5).f1))) (fun _ hk => hk.2) (.slice a7m ((J5 l1 D5).f2).length a7n)) (fun _ hk => trivial)⟩; have n1_ : Aside0 ((((w10.setCell ⟨a3J, 0, none⟩ (.int .i64 ((J5 l1 D5).f0))).setCell ⟨a3J, 1, none⟩ (.int .i64 ((J5 l1 D5).f1))).setCell ⟨a3J, 2, none⟩ (.slice a7m ((J5 l1 D5).f2).length a7n)).heap[d7C]? = some (.cells #[] 65 (0, 0))) := ⟨o8 (o8 (o8 a3a.out b2P.out _) b2P.out _) b2P.out _⟩; have n2_ : Aside0 ((((w10.setCell ⟨a3J, 0, none⟩ (.int .i64 ((J5 l1 D5).f0))).setCell ⟨a3J, 1, none⟩ (.int .i64 ((J5 l1 D5).f1))).setCell ⟨a3J, 2, none⟩ (.slice a7m ((J5 l1 D5).f2).length a7n)).heap[a3J]? = some (.cells #[.int .i64 ((J5 l1 D5).f0), .int .i64 ((J5 l1 D5).f1), .slice a7m ((J5 l1 D5).f2).length a7n] 42 (0, 0))) := ⟨l9 (l9 (l9 a1j.out 0 _ rfl) 1 _ rfl) 2 _ rfl⟩; have n3_ : Aside0 (Below w.heap.size w (((w10.setCell ⟨a3J, 0, none⟩ (.int .i64 ((J5 l1 D5).f0))).setCell ⟨a3J, 1, none⟩ (.int .i64 ((J5 l1 D5).f1))).setCell ⟨a3J, 2, none⟩ (.slice a7m ((J5 l1 D5).f2).length a7n))) := ⟨by repeat (with_reducible first | exact HB.out | refine o7 ?_ f6c.out)⟩
    (try clear a0U)
    (try clear a3a)
    (try clear a1j)
    (try clear HB)
    generalize (((w10.setCell ⟨a3J, 0, none⟩ (.int .i64 ((J5 l1 D5).f0))).setCell ⟨a3J, 1, none⟩ (.int .i64 ((J5 l1 D5).f1))).setCell ⟨a3J, 2, none⟩ (.slice a7m ((J5 l1 D5).f2).length a7n)) = w13 at n0_ n1_ n2_ n3_ ⊢; have a0U := n0_; have a3a := n1_; have a1j := n2_; have HB := n3_; clear n0_ n1_ n2_ n3_; replace a0U := a_ (Kd.b3y a0U.out); replace a3a := a_ (G8 a3a.out); replace a1j := a_ (G8 a1j.out); replace HB := a_ (Y3 HB.out); refine a2x (n := 9) (S := fun w' => w'.cell? ⟨a3J, 0, none⟩ = some (.int .i64 ((J5 l1 D5).f0)) ∧ w'.cell? ⟨a3J, 1, none⟩ = some (.int .i64 ((J5 l1 D5).f1)) ∧ w'.cell? ⟨a3J, 2, none⟩ = some (.slice a7m ((J5 l1 D5).f2).length a7n)) (ds := []) (bo_ 9 0) (by kernel_rfl) rfl rfl ⟨bc0 a1j, bc1 a1j, bc2 a1j⟩ (fun hHeld => ?_); refine a2D H7.e7l H7.d5E (fun Z8 HW_ => ?_); generalize w13.drew = w14 at a0U a3a a1j HB hHeld ⊢; refine pu_ 0 (some 17) Z8 ?_; refine a1w (i := 1) (N := some 18) (v := ?_) (a' := ?_) (bo_ 9 3) rfl rfl (a1x Z8.out HW_.out (by kernel_rfl)) (fun _ _ _ h => h) (Or.inl ⟨by rfl, ?_⟩) hHeld ?_ ?_
    rotate_left
    ·rintro w' ⟨s0, s1, s2⟩
     go_simp
     with_reducible rfl
    rotate_left
    ·simp only [Act.put, List.setIfInBounds_toArray, List.set_cons_zero, List.set_cons_succ, a0I, a1W]
     rfl
    refine pu_ 2 (some 19) Z8 ?_; refine pu_ 3 (some 20) Z8 ?_; refine a1w (i := 5) (N := some 22) (v := ?_) (a' := ?_) (bo_ 9 47) rfl rfl (a1x Z8.out HW_.out (by kernel_rfl)) (fun _ _ _ h => h) (Or.inl ⟨by rfl, ?_⟩) hHeld ?_ ?_
    rotate_left
    ·rintro w' ⟨s0, s1, s2⟩
     go_simp
     with_reducible rfl
    rotate_left
    ·simp only [Act.put, List.setIfInBounds_toArray, List.set_cons_zero, List.set_cons_succ, a0I, a1W]
     rfl
    refine c3B (σ := Value × Value) 2 (bo_ 9 127) (fun s_ => [(21, s_.1), (23, s_.2)]) (fun s_ w' => (w'.cell? ⟨a3J, 0, none⟩ = some (.int .i64 ((J5 l1 D5).f0)) ∧ w'.cell? ⟨a3J, 1, none⟩ = some (.int .i64 ((J5 l1 D5).f1)) ∧ w'.cell? ⟨a3J, 2, none⟩ = some (.slice a7m ((J5 l1 D5).f2).length a7n)) ∧ (Kd.R (Kd.int .u8) 5 w' w.heap.size (fun k_ => some k_ ≠ (s_.2 : Value).ownBlock) s_.1 d2C) ∧ (Kd.R (Kd.int .u8) 5 w' w.heap.size (fun k_ => some k_ ≠ (s_.1 : Value).ownBlock) s_.2 b53) ∧ (Kd.S k51 51 w' w.heap.size (fun k_ => some k_ ≠ (s_.1 : Value).ownBlock ∧ some k_ ≠ (s_.2 : Value).ownBlock) u6 a07) ∧ (w'.heap[d7C]? = some (.cells #[] 65 (0, 0))) ∧ (w'.heap[a3J]? = some (.cells #[.int .i64 ((J5 l1 D5).f0), .int .i64 ((J5 l1 D5).f1), .slice a7m ((J5 l1 D5).f2).length a7n] 42 (0, 0))) ∧ (Below w.heap.size w w')) ?_ ?_
    rotate_left
    ·intro a9h; refine d3b (i := 4) (j := 6) (Ni := some 21) (Nj := some 23) (bo_ 9 63) (bo_ 9 111) rfl rfl rfl rfl (b7B Z8.out (by kernel_rfl)) (by decide) (by decide) (fun K hK => ?_) (fun K hK => ?_)
     ·skip
      refine Kd.a7a (Kd.int .u8) _ 5 ?hg (N := 21) ?hd (xs := ([(wrap64 (((J5 l1 D5).f0) - 1)) % 256] : List Int)) (inner := [.int .u8 ((wrap64 (((J5 l1 D5).f0) - 1)) % 256)]) (ok := fun _ => True) (okp := fun _ => True) ?hr ?hp (fun _ hk => hk) trivial (Below.refl _ _) (Nat.le_refl _) (by simp) ?_; (case hd => rfl); (case hg => rfl); (case hr => (go_simp; rfl)); (case hp => exact (L8.one (show Kd.M (Kd.int .u8) _ _ _ ((wrap64 (((J5 l1 D5).f0) - 1)) % 256) [.int .u8 ((wrap64 (((J5 l1 D5).f0) - 1)) % 256)] from rfl) (L8.none _ _))); intro d7G w15 c5t hb hg_ a1B; clear hg_ a1B; rw [← e4E.out] at c5t; have b1W := rl_ c5t HB; replace a0U := rS_ a0U c5t hb; replace a3a := X4 a3a hb; replace a1j := X4 a1j hb; replace HB := U9 HB hb; clear hb c5t; refine hK.out _ _ ⟨bc0 a1j, bc1 a1j, bc2 a1j⟩ (fun hHeld => ?_); clear hK K; refine nm_ (some 21) ?_; refine a6e (i := 6) (N := some 23) (bo_ 9 127) rfl rfl (a1I Z8.out (by kernel_rfl)) (by decide) (fun K hK => ?_); refine a5g Tryd.func51 (by kernel_rfl) rfl #[.agg #[.int .i64 ((J5 l1 D5).f0), .int .i64 ((J5 l1 D5).f1), .slice a7m ((J5 l1 D5).f2).length a7n]] (by rfl) rfl rfl (by (try simp only [List.map_toArray, List.map_cons, List.map_nil]); (rfl)) ?_
      with_reducible refine (a2W.calls ((J5 l1 D5).f0) ((J5 l1 D5).f1) _ _ ((J5 l1 D5).f2) b53 _ ?P5 ?P6 A7.out).mono ?_
      (case P5 => exact (Kd.C9 d06.out HB.out))
      (case P6 => exact d07.out)
      rintro e w17 ⟨e2z, rfl, ho0, hb⟩; refine ⟨_, rfl, ?_⟩; have a88 := rn_ ho0 b1W HB; replace a0U := rS_ a0U ho0 hb; replace b1W := rR_ b1W ho0 hb; replace a3a := X4 a3a hb; replace a1j := X4 a1j hb; replace HB := U9 HB hb
      (try clear hb)
      (try clear ho0)
      refine hK.out _ _ ⟨bc0 a1j, bc1 a1j, bc2 a1j⟩ (fun hHeld => ?_); clear hK K; refine nm_ (some 23) ?_; exact a7V (by simp only [a4M, Act.put, List.setIfInBounds_toArray, List.set_cons_zero, List.set_cons_succ]) (a9h (d7G, e2z) _ ⟨hHeld, (by exact Kd.D7 b1W.out (fun _ hk => hk.2)), (by exact Kd.D7 a88.out (fun _ hk => hk.2)), (by exact Kd.N8 a0U.out (fun _ hk => ⟨hk.1.2, hk.2⟩)), a3a.out, a1j.out, HB.out⟩)
     ·skip
      refine a5g Tryd.func51 (by kernel_rfl) rfl #[.agg #[.int .i64 ((J5 l1 D5).f0), .int .i64 ((J5 l1 D5).f1), .slice a7m ((J5 l1 D5).f2).length a7n]] (by rfl) rfl rfl (by (try simp only [List.map_toArray, List.map_cons, List.map_nil]); (rfl)) ?_
      with_reducible refine (a2W.calls ((J5 l1 D5).f0) ((J5 l1 D5).f1) _ _ ((J5 l1 D5).f2) b53 _ ?P5 ?P6 A7.out).mono ?_
      (case P5 => exact (Kd.C9 d06.out HB.out))
      (case P6 => exact d07.out)
      rintro e w15 ⟨e2z, rfl, ho0, hb⟩; refine ⟨_, rfl, ?_⟩; have a88 := rl_ ho0 HB; replace a0U := rS_ a0U ho0 hb; replace a3a := X4 a3a hb; replace a1j := X4 a1j hb; replace HB := U9 HB hb
      (try clear hb)
      (try clear ho0)
      refine hK.out _ _ ⟨bc0 a1j, bc1 a1j, bc2 a1j⟩ (fun hHeld => ?_); clear hK K; refine nm_ (some 23) ?_; refine a6e (i := 4) (N := some 21) (bo_ 9 127) rfl rfl (a1I Z8.out (by kernel_rfl)) (by decide) (fun K hK => ?_); refine Kd.a7a (Kd.int .u8) _ 5 ?hg (N := 21) ?hd (xs := ([(wrap64 (((J5 l1 D5).f0) - 1)) % 256] : List Int)) (inner := [.int .u8 ((wrap64 (((J5 l1 D5).f0) - 1)) % 256)]) (ok := fun _ => True) (okp := fun _ => True) ?hr ?hp (fun _ hk => hk) trivial (Below.refl _ _) (Nat.le_refl _) (by simp) ?_; (case hd => rfl); (case hg => rfl); (case hr => (go_simp; rfl)); (case hp => exact (L8.one (show Kd.M (Kd.int .u8) _ _ _ ((wrap64 (((J5 l1 D5).f0) - 1)) % 256) [.int .u8 ((wrap64 (((J5 l1 D5).f0) - 1)) % 256)] from rfl) (L8.none _ _))); intro d7G w16 d7H hb hg_ a1B; clear hg_ a1B; rw [← e4E.out] at d7H; have b1W := rn_ d7H a88 HB; replace a0U := rS_ a0U d7H hb; replace a88 := rR_ a88 d7H hb; replace a3a := X4 a3a hb; replace a1j := X4 a1j hb; replace HB := U9 HB hb; clear hb d7H; refine hK.out _ _ ⟨bc0 a1j, bc1 a1j, bc2 a1j⟩ (fun hHeld => ?_); clear hK K; refine nm_ (some 21) ?_; exact a7V (by simp only [a4M, Act.put, List.setIfInBounds_toArray, List.set_cons_zero, List.set_cons_succ]) (a9h (d7G, e2z) _ ⟨hHeld, (by exact Kd.D7 b1W.out (fun _ hk => hk.2)), (by exact Kd.D7 a88.out (fun _ hk => hk.2)), (by exact Kd.N8 a0U.out (fun _ hk => ⟨hk.2, hk.1.2⟩)), a3a.out, a1j.out, HB.out⟩)
    rintro ⟨d7G, e2z⟩ w18 ⟨hS_, h0_, h1_, h2_, h3_, h4_, h5_⟩; have n0_ := a_ h0_; have n1_ := a_ h1_; have n2_ := a_ h2_; have n3_ := a_ h3_; have n4_ := a_ h4_; have n5_ := a_ h5_; clear a0U a3a a1j HB h0_ h1_ h2_ h3_ h4_ h5_; have b1W := n0_; have a88 := n1_; have a0U := n2_; have a3a := n3_; have a1j := n4_; have HB := n5_; clear n0_ n1_ n2_ n3_ n4_ n5_; have hHeld : w18.cell? ⟨a3J, 0, none⟩ = some (.int .i64 ((J5 l1 D5).f0)) ∧ w18.cell? ⟨a3J, 1, none⟩ = some (.int .i64 ((J5 l1 D5).f1)) ∧ w18.cell? ⟨a3J, 2, none⟩ = some (.slice a7m ((J5 l1 D5).f2).length a7n) := hS_; obtain ⟨a6U, a6V, c2l⟩ := Kd.G7 a88.out; subst c2l; refine a7V (a' := ?_) ?_ ?_
    rotate_left
    ·simp only [a4M, Act.put, List.setIfInBounds_toArray, List.set_cons_zero, List.set_cons_succ]
     rfl
    refine a6e (i := 7) (N := some 24) (bo_ 9 255) rfl rfl (a1I Z8.out (by kernel_rfl)) (by decide) (fun K hK => ?_); refine Kd.a4m (Kd.int .u8) (w0 := w) w.heap.size (by rfl) (.tmp 21) (.tmp 23) 22 5 (.int .u8 0) 1 rfl Tryd.underlying22 info5 rfl (by decide) (by omega) d7G d2C b53 _ _ _ (fun k_ => some k_ ≠ (.slice a6U b53.length a6V : Value).ownBlock) (fun _ => False) rfl rfl ?aO ?aR (fun _ _ h => h) (fun _ h => h.elim) ?aF ?aB ?aS ?aL ?_
    (case aR => exact (Kd.E8 a88.out).2.2)
    (case aB => exact HB.out)
    (case aF => exact (fun k_ hk => Kd.fresh' (Kd.a0m a88.out) k_ hk))
    (case aO => exact b1W.out)
    (case aS => exact (y5 HB.out))
    (case aL => have := b5T.out; omega)
    intro h2L w19 ho hb hg hat; rw [← f6a.out] at ho; have d08 := a_ ho; replace a0U := a_ (Kd.b6G (ok := (fun k_ => some k_ ≠ (.slice a6U b53.length a6V : Value).ownBlock)) (by exact Kd.N8 a0U.out (fun _ hk => ⟨hk.2, hk.1⟩)) hg hat); replace a3a := a_ (N7 a3a.out hg (Kd.a8b b1W.out a3a.out (by decide))); replace a1j := a_ (N7 a1j.out hg (Kd.a8b b1W.out a1j.out (by decide))); replace a88 := a_ (Kd.a0R (ok := (fun _ => True)) (by exact Kd.D7 a88.out (fun _ hk => ⟨trivial, hk⟩)) hg hat); replace HB := a_ hb; clear b1W ho hb hg hat; refine hK.out _ _ ⟨bc0 a1j, bc1 a1j, bc2 a1j⟩ (fun hHeld => ?_); clear hK K; refine nm_ (some 24) ?_; refine pu_ 8 (some 9) Z8 ?_; refine a4y (a5v Z8.out (by kernel_rfl)) ?_; obtain ⟨b8m, b8n, c2h⟩ := Kd.G7 d08.out; subst c2h
    try go_wp2_with (first | ((with_reducible refine E5 (b := .append) (xs := #[.tmp 25, .tmp 33]) rfl ?_); at_builtin; refine Kd.a7y k51 (w0 := w) w.heap.size rfl (.tmp 25) (.tmp 33) 47 51 (.agg #[(.int .u32 0), (.int .u32 0), (.int .u32 0), (.slice none 0 0)]) 40 rfl Tryd.underlying47 info51 rfl (by decide) (by omega) u6 a07 (⟨(D5) % 4294967296, 0, (b6D.length : Int) % 4294967296, b6D⟩ : S51) [.int .u32 ((D5) % 4294967296), .int .u32 0, .int .u32 ((b6D.length : Int) % 4294967296), .slice b8m b6D.length b8n] (fun k_ => some k_ ≠ (.slice a6U b53.length a6V : Value).ownBlock) (fun k_ => some k_ = (.slice b8m b6D.length b8n : Value).ownBlock) rfl rfl ?aP (fun k_ hk_ => ((Kd.D7 (ok' := fun k_ => (fun k_ => some k_ ≠ (.slice a6U b53.length a6V : Value).ownBlock) k_ ∧ some k_ ≠ (u6 : Value).ownBlock) (Kd.X5 (d08.out) (Kd.a2u a0U.out) (by decide)) (fun k_ hk => ⟨hk.1, hk.2⟩))).1 k_ hk_.symm) ?aF ?aO ?aB ?aS ?aL ?_; (case aP => exact c0C _ _ _ (⟨(D5) % 4294967296, 0, (b6D.length : Int) % 4294967296, b6D⟩ : S51) (Kd.D7 (Kd.a3r rfl (Kd.D7 (ok' := fun k_ => (fun k_ => some k_ ≠ (.slice a6U b53.length a6V : Value).ownBlock) k_ ∧ some k_ ≠ (u6 : Value).ownBlock) (Kd.X5 (d08.out) (Kd.a2u a0U.out) (by decide)) (fun k_ hk => ⟨hk.1, hk.2⟩))) (fun _ h_ => h_))); (case aB => exact HB.out); (case aF => exact (fun k_ hk => Kd.fresh' (Kd.a0m a88.out) k_ hk)); (case aO => exact (by exact Kd.N8 a0U.out (fun k_ hk => ⟨hk.1, fun e_ => hk.2 e_⟩))); (case aS => exact (y5 HB.out)); (case aL => have := c65.out; omega); intro h2M w22 ho hb hg hat; rw [← f6b.out] at ho; have f6d := a_ ho; replace a3a := a_ (N7 a3a.out hg (Kd.b7C a0U.out a3a.out (by decide))); replace a1j := a_ (N7 a1j.out hg (Kd.b7C a0U.out a1j.out (by decide))); replace a88 := a_ (Kd.b2d a88.out (Kd.a2u a0U.out) (by decide) hg); replace HB := a_ hb; clear a0U d08 ho hb hg hat))
    go_roundg k1
    case measure => have := HK1.out; omega
    case rel => exact ⟨(g51), (wrap64 (D5 + 1)), (by rfl), H', ⟨by have := HK1.out; omega⟩, ⟨by exact Kd.N8 f6d.out (fun _ hk => trivial)⟩, ⟨by exact a3a.out⟩, ⟨by exact HB.out⟩⟩
   ·rw [if_neg c4] at H; have a4d := df_ c4; clear c4; obtain ⟨⟨g53, g54⟩, A23, H⟩ := bd_ H
    (try dsimp only at H); obtain ⟨rfl, rfl⟩ := s2_ H; obtain ⟨c1k, c1l, c6B⟩ := Kd.a6c a0U.out; subst c6B
    go_wp2_with (first | (refine gl_ (some 38) Tryd.func54 #[.agg #[.bool false, .bool false, .int .u32 65535, .int .u32 204], .slice c1k a07.length c1l] ?_; (with_reducible refine (pcap_Put.calls k1 false false 65535 204 _ _ a07 g53 g54 _ ((Kd.a2j a0U.out).2.2) ((Kd.a2j a0U.out).2.1) A23.out).mono ?_); rintro e w25 ⟨h2O, rfl, ho0, hb⟩; refine ⟨_, rfl, ?_⟩; have f6e := rl_ ho0 HB; replace a0U := rS_ a0U ho0 hb; replace a3a := X4 a3a hb; replace HB := U9 HB hb; (try clear hb); (try clear ho0)))
    go_ret2
    exact ⟨_, by (rfl), by exact f6e.out, by exact HB.out⟩
end Go.Proofs.YtgnonglkibhnhaaDoor.Print
