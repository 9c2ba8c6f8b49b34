-- laid together by this session's own program (wip/tools/merge.py) of texts that its program laid
import Derived.Test.YtgnonglkibhnhaaDoorF26
import Derived.Test.YtgnonglkibhnhaaDoorF54
namespace Go.Proofs.YtgnonglkibhnhaaDoor.Print
open Go.RowKit Go.Proofs.YtgnonglkibhnhaaDoorW.PrintWords Go.Proofs.YtgnonglkibhnhaaDoorW.PrintLast Go.Proofs.YtgnonglkibhnhaaDoorW.PrintMore
attribute [local go_sem] a0o a0p a0R a0S Y5 Y6 a0q a0r
set_option linter.unusedVariables false
set_option linter.unusedSimpArgs false
set_option maxHeartbeats 16000000
set_option maxRecDepth 100000
def a1K.f (k : Nat) (l0 : List Int) (a1 : Int) (a1o : Int) (a1p : Int) (a1q : Int) (a1r : Int) (a1s : ByteArray) (a1t : ByteArray) (a0U : Int) (a0w : Int) (a0m : Bool) : Option ((List (S42)) × Int × Int) := if a1 = 1 then ((H6.f k l0 a1o a1p a1q a1r a1s a1t a0U a0w a0m).bind fun d87 => (some (d87.1, d87.2.1, d87.2.2))) else (if a1 = 2 then ((umpireref11_notes.f k l0 a1o a1p a1q a1r a1s a1t a0U a0w a0m).bind fun d88 => (some (d88.1, d88.2.1, d88.2.2))) else (some (([] : List (S42)), 0, 7)))
theorem a1K.calls (k : Nat) (A0 : Option Addr) (c0 : Nat) (l0 : List Int) (a1 : Int) (a1o : Int) (a1p : Int) (a1q : Int) (a1r : Int) (a1s : ByteArray) (a1t : ByteArray) (a0U : Int) (a0w : Int) (a0m : Bool) (r1 : List (S42)) (r2 : Int) (r3 : Int) (w : World) (hr0 : Kd.C (Kd.int .u8) w A0 l0.length l0) (hc0 : l0.length ≤ c0) (h : a1K.f k l0 a1 a1o a1p a1q a1r a1s a1t a0U a0w a0m = some (r1, r2, r3)) :
  Calls Tryd.prog 11 #[.slice A0 l0.length c0, .int .i64 a1, .agg #[.int .i64 a1o, .int .i64 a1p, .int .i64 a1q, .int .i64 a1r, .string a1s, .string a1t, .int .i64 a0U, .int .u32 a0w, .bool a0m]] w fun e w' => ∃ v0_ : Value, e = .returned (.tuple #[v0_, .agg #[.int .i64 r2, .int .i64 r3]]) ∧ Kd.S k42 42 w' w.heap.size (fun _ => True) v0_ r1 ∧ Below w.heap.size w w' := by
 have c2n := Tryd.underlying25
 have a8e := Tryd.underlying30
 have HR0 := a_ hr0
 have HC0 := a_ hc0
 clear hr0 hc0
 have HB := a_ (Below.refl w.heap.size w)
 have H := h
 clear h
 unfold a1K.f at H
 by_cases c4 : a1 = 1
 ·rw [if_pos c4] at H; obtain ⟨a4i, b2z⟩ := bt_ c4; clear c4; obtain ⟨⟨g7S, f0Q, f0R⟩, A5, H⟩ := bd_ H
  (try dsimp only at H); obtain ⟨rfl, rfl, rfl⟩ := s3_ H
  go_enter Tryd.func11, Tryd.ntmps11
  go_wp2_with (first | (refine be_ 5 #[.int .i64 a1o, .int .i64 a1p, .int .i64 a1q, .int .i64 a1r, .string a1s, .string a1t, .int .i64 a0U, .int .u32 a0w, .bool a0m] 25 ?_; intro e6O hg w6 hbox hb; have a7V := a_ hbox; have e6P := lb_ HB hg; replace HB := V3 HB hb; clear hb hbox hg) | (refine be_ 7 #[.int .i64 0, .int .i64 0] 30 ?_; intro b50 hg w7 hbox hb; have a9O := a_ hbox; have c6H := lb_ HB hg; obtain ⟨b0A, b0B⟩ := nn_ a7V hg; replace a7V := X3 a7V hb; replace HB := V3 HB hb; clear hb hbox hg; have f4q := b0A.out; have f4r := b0B.out; obtain ⟨c7L, c7M, d57, e9M, g7T, g7U, g7V, g7W, g7X, c7N, c7O, d58, e9N, g7Y, g7Z, g70, g71, g72⟩ := d53 a7V.out) | (refine gl_ (some 12) Tryd.func25 #[.slice A0 l0.length c0, .agg #[.int .i64 a1o, .int .i64 a1p, .int .i64 a1q, .int .i64 a1r, .string a1s, .string a1t, .int .i64 a0U, .int .u32 a0w, .bool a0m]] ?_; (with_reducible refine (H6.calls k _ _ l0 a1o a1p a1q a1r a1s a1t a0U a0w a0m g7S f0Q f0R _ (Kd.y9 HR0.out HB.out) HC0.out A5.out).mono ?_); rintro e w10 ⟨h5y, rfl, ho0, hb⟩; refine ⟨_, rfl, ?_⟩; have f8p := a_ (Kd.a7C ho0 (y5 HB.out)); replace a7V := X3 a7V hb; replace a9O := X3 a9O hb; replace HB := V3 HB hb; (try clear hb); (try clear ho0); obtain ⟨e0J, e0K, e0L, e0M⟩ := a1B a9O.out))
  refine bodyPost_ret (a0v rfl _ _ b50 30 #[.int .i64 f0Q, .int .i64 f0R] (0, 0) _ rfl (l9 (l9 a9O.out 0 _ rfl) 1 _ rfl) Tryd.underlying30 rfl (by kernel_rfl)) rfl ?_; exact ⟨_, by (rfl), by exact Kd.N7 (Kd.V9 (p := ⟨b50, 1, none⟩) (Kd.V9 (p := ⟨b50, 0, none⟩) (Kd.a1S f8p.out a9O.out (by decide)) (fun _ hk => hk.2) (.int .i64 f0Q)) (fun _ hk => hk.2) (.int .i64 f0R)) (fun _ hk => trivial), by repeat (with_reducible first | exact HB.out | refine o7 ?_ c6H.out)⟩
 ·rw [if_neg c4] at H; have a4i := bq_ c4; have b2z := bn_ c4
  by_cases c12 : a1 = 2
  ·rw [if_pos c12] at H; obtain ⟨b0h, b6U⟩ := bt_ c12; clear c12; obtain ⟨⟨g73, f0S, f0T⟩, A13, H⟩ := bd_ H
   (try dsimp only at H); obtain ⟨rfl, rfl, rfl⟩ := s3_ H
   go_enter Tryd.func11, Tryd.ntmps11
   go_wp2_with (first | (refine be_ 5 #[.int .i64 a1o, .int .i64 a1p, .int .i64 a1q, .int .i64 a1r, .string a1s, .string a1t, .int .i64 a0U, .int .u32 a0w, .bool a0m] 25 ?_; intro e6O hg w14 hbox hb; have a7V := a_ hbox; have e6P := lb_ HB hg; replace HB := V3 HB hb; clear hb hbox hg) | (refine be_ 7 #[.int .i64 0, .int .i64 0] 30 ?_; intro b50 hg w15 hbox hb; have a9O := a_ hbox; have c6H := lb_ HB hg; obtain ⟨b0A, b0B⟩ := nn_ a7V hg; replace a7V := X3 a7V hb; replace HB := V3 HB hb; clear hb hbox hg; have h1l := b0A.out; have h1m := b0B.out; obtain ⟨d0n, d0o, d0p, g2g, g2h, g2i, g2j, g2k, g2l, d0q, d0r, d0s, g2m, g2n, g2o, g2p, g2q, g2r⟩ := d53 a7V.out) | (refine gl_ (some 19) Tryd.func26 #[.slice A0 l0.length c0, .agg #[.int .i64 a1o, .int .i64 a1p, .int .i64 a1q, .int .i64 a1r, .string a1s, .string a1t, .int .i64 a0U, .int .u32 a0w, .bool a0m]] ?_; (with_reducible refine (umpireref11_notes.calls k _ _ l0 a1o a1p a1q a1r a1s a1t a0U a0w a0m g73 f0S f0T _ (Kd.y9 HR0.out HB.out) HC0.out A13.out).mono ?_); rintro e w18 ⟨h5A, rfl, ho0, hb⟩; refine ⟨_, rfl, ?_⟩; have f8q := a_ (Kd.a7C ho0 (y5 HB.out)); replace a7V := X3 a7V hb; replace a9O := X3 a9O hb; replace HB := V3 HB hb; (try clear hb); (try clear ho0); obtain ⟨c3O, c3P, c3Q, c3R⟩ := a1B a9O.out))
   refine bodyPost_ret (a0v rfl _ _ b50 30 #[.int .i64 f0S, .int .i64 f0T] (0, 0) _ rfl (l9 (l9 a9O.out 0 _ rfl) 1 _ rfl) Tryd.underlying30 rfl (by kernel_rfl)) rfl ?_; exact ⟨_, by (rfl), by exact Kd.N7 (Kd.V9 (p := ⟨b50, 1, none⟩) (Kd.V9 (p := ⟨b50, 0, none⟩) (Kd.a1S f8q.out a9O.out (by decide)) (fun _ hk => hk.2) (.int .i64 f0S)) (fun _ hk => hk.2) (.int .i64 f0T)) (fun _ hk => trivial), by repeat (with_reducible first | exact HB.out | refine o7 ?_ c6H.out)⟩
  ·rw [if_neg c12] at H; have b0h := bq_ c12; have b6U := bn_ c12; obtain ⟨rfl, rfl, rfl⟩ := s3_ H
   go_enter Tryd.func11, Tryd.ntmps11
   go_wp2_with (first | (refine be_ 5 #[.int .i64 a1o, .int .i64 a1p, .int .i64 a1q, .int .i64 a1r, .string a1s, .string a1t, .int .i64 a0U, .int .u32 a0w, .bool a0m] 25 ?_; intro e6O hg w20 hbox hb; have a7V := a_ hbox; have e6P := lb_ HB hg; replace HB := V3 HB hb; clear hb hbox hg) | (refine be_ 7 #[.int .i64 0, .int .i64 0] 30 ?_; intro b50 hg w21 hbox hb; have a9O := a_ hbox; have c6H := lb_ HB hg; obtain ⟨b0A, b0B⟩ := nn_ a7V hg; replace a7V := X3 a7V hb; replace HB := V3 HB hb; clear hb hbox hg; have f2Y := b0B.out; have f2Z := b0A.out; obtain ⟨b7L, b7M, b7N, b7O⟩ := a1B a9O.out))
   refine bodyPost_ret (a0v rfl _ _ b50 30 #[.int .i64 0, .int .i64 7] (0, 0) _ rfl (l9 (l9 a9O.out 0 _ rfl) 1 _ rfl) Tryd.underlying30 rfl (by kernel_rfl)) rfl ?_; exact ⟨_, by (rfl), by (exact Kd.a5p _ _ _ _ _), by repeat (with_reducible first | exact HB.out | refine o7 ?_ c6H.out)⟩
def F7.l0 : Nat → List (S51) → List (S42) → Int → Int → Option (List Int × Int)
 | 0, _, _, _, _ => none
 | k + 1, x6, x10, x11, x12 => if x12 < x11 then (if 0 ≤ x12 then (if x12 < (x10.length : Int) then ((some (([(wrap64 (((J5 x10 x12).f0) - 1)) % 256] : List Int) : List Int)).bind fun d30 => ((a13.f ((J5 x10 x12).f0) ((J5 x10 x12).f1) ((J5 x10 x12).f2)).bind fun b6E => (if d30.length + b6E.length < 140737488355328 then ((some (d30 ++ b6E : List Int)).bind fun b7e => (if x6.length < 3518437208883 then (F7.l0 k (x6 ++ [(⟨(x12) % 4294967296, 0, (b7e.length : Int) % 4294967296, b7e⟩ : S51)]) x10 x11 (wrap64 (x12 + 1))) else (none))) else (none)))) else (none)) else (none)) else ((pcap_Put.f k false false 65535 204 x6).bind fun e6Q => (some (e6Q.1, e6Q.2)))
def F7.f (k : Nat) (V4 : Int) (a01 : Int) (l1 : List (S42)) : Option (List Int × Int) := F7.l0 k ([] : List (S51)) l1 (l1.length : Int) 0
def F7.T5 : Bool × List (List Nat × List Nat) := (true, [([], []), ([0], [0]), ([1], [1]), ([2], [2]), ([3], [3]), ([], []), ([5], [5]), ([4, 6, 6], [4, 6]), ([7, 7, 0, 1, 2, 3, 4, 5, 6, 7], [7])])
def F7.B5 : List Nat := [0, 1, 3, 7, 15, 0, 32, 127, 255]
theorem F7.e9f : a3g .any (opsOf Tryd.f30 5) = F7.T5 := by kernel_rfl
theorem F7.d68 : a2I F7.T5.2 F7.B5 = true := by kernel_rfl
theorem F7.calls (k : Nat) (V4 : Int) (a01 : Int) (A1 : Option Addr) (c1 : Nat) (l1 : List (S42)) (r1 : List Int) (r2 : Int) (w : World) (hr1 : Kd.C k42 w A1 l1.length l1) (hc1 : l1.length ≤ c1) (h : F7.f k V4 a01 l1 = some (r1, r2)) :
  Calls Tryd.prog 30 #[.agg #[], .slice A1 l1.length c1] w fun e w' => ∃ v0_ : Value, e = .returned (.tuple #[v0_, .int .i64 r2]) ∧ Kd.R (Kd.int .u8) 5 w' w.heap.size (fun _ => True) v0_ r1 ∧ Below w.heap.size w w' := by
 have a8e := Tryd.underlying30
 have e7L := Tryd.underlying65
 have d3A := Tryd.underlying42
 have d3L := Tryd.underlying51
 have c7W := Tryd.underlying46
 have HR1 := a_ hr1
 have HC1 := a_ hc1
 clear hr1 hc1
 have HB := a_ (Below.refl w.heap.size w)
 have H := h
 clear h
 unfold F7.f at H
 have H' := a_ H
 clear H
 go_enter Tryd.func30, Tryd.ntmps30
 go_wp2_with (first | (refine be_ 2 #[] 65 ?_; intro d89 hg w3 hbox hb; have a3f := a_ hbox; have h1o := lb_ HB hg; replace HB := V3 HB hb; clear hb hbox hg))
 go_loopg [6, 12] k (fun kq v6 v12 w' => ∃ (a1d : List (S51)) (D5 : Int), v12 = .int .i64 D5 ∧ Aside0 (F7.l0 kq a1d l1 (l1.length : Int) D5 = some (r1, r2)) ∧ Aside0 (kq ≤ k) ∧ Aside0 (Kd.S k51 51 w' w.heap.size (fun _ => True) v6 a1d) ∧ Aside0 (w'.heap[d89]? = some (.cells #[] 65 (0, 0))) ∧ Aside0 (Below w.heap.size w w'))
 case atStart => exact ⟨([] : List (S51)), (0), (by rfl), H', ⟨Nat.le_refl _⟩, ⟨by (exact Kd.a5p _ _ _ _ _)⟩, ⟨by exact a3f.out⟩, ⟨by exact HB.out⟩⟩
 case round =>
  clear H'; obtain ⟨a1d, D5, rfl, HA, HK1, a0Y, a3f, HB⟩ := hrel
  cases gk with
  | zero => exact absurd HA.out (by simp [F7.l0])
  | succ k1 =>
   have H := HA.out; clear HA
   simp only [F7.l0] at H
   by_cases c4 : D5 < (l1.length : Int)
   ·rw [if_pos c4] at H; have a4i := dt_ c4; clear c4; have a5H := a2x H; replace H := O5 H; have a8y := a2x H; replace H := O5 H; obtain ⟨d30, d9a⟩ := is_ ((([(wrap64 (((J5 l1 D5).f0) - 1)) % 256] : List Int)) : List Int); rw [Option.bind_some, ← d9a] at H; have e6R := a_ d9a; clear d9a; obtain ⟨b6E, A7, H⟩ := bd_ H
    (try dsimp only at H); have c8 := Z4 H; replace H := O5 H; have b6u := a_ c8; clear c8; obtain ⟨b7e, d9b⟩ := is_ ((d30 ++ b6E) : List Int); rw [Option.bind_some, ← d9b] at H; have f8r := a_ d9b; clear d9b; have c9 := Z4 H; replace H := O5 H; have c8e := a_ c9; clear c9; obtain ⟨g74, d9c⟩ := is_ ((a1d ++ [(⟨(D5) % 4294967296, 0, (b7e.length : Int) % 4294967296, b7e⟩ : S51)]) : List (S51)); rw [← d9c] at H; have f8s := a_ d9c; clear d9c; have H' := a_ H; clear H; have f0U : 0 ≤ (D5 : Int) := V5; have f0V : D5 < (l1.length : Int) := V5; obtain ⟨h1p, a7w, a7x, g75, d2x, d2y, d2z, d2A, d2B⟩ := a3o HR1.out D5 f0U f0V
    cases g75
    replace d2x := cb_ HB d2x; replace d2y := cb_ HB d2y; replace d2z := cb_ HB d2z; have d2C := a_ d2B; have d2D := a_ d2A; clear d2B d2A; replace f0U := eq_true f0U; replace f0V := eq_true f0V
    try go_wp2_with (first | (refine be_ 8 #[.int .i64 0, .int .i64 0, .slice none 0 0] 42 ?_; intro a3N hg w10 hbox hb; have a1n := a_ hbox; have f8t := lb_ HB hg; obtain ⟨b3v, d31⟩ := nn_ a3f hg; replace a0Y := sb_ a0Y hb; replace a3f := X3 a3f hb; replace HB := V3 HB hb; clear hb hbox hg; have h1q := d31.out; have h1s := b3v.out; obtain ⟨d1L, d1M, e3s, d1N, d1O, e3t⟩ := a1Z a1n.out))
    have n0_ : Aside0 (Kd.S k51 51 (((w10.setCell ⟨a3N, 0, none⟩ (.int .i64 ((J5 l1 D5).f0))).setCell ⟨a3N, 1, none⟩ (.int .i64 ((J5 l1 D5).f1))).setCell ⟨a3N, 2, none⟩ (.slice a7w ((J5 l1 D5).f2).length a7x)) w.heap.size (fun _ => True) u6 a1d) := ⟨by exact Kd.N7 (Kd.V9 (p := ⟨a3N, 2, none⟩) (Kd.V9 (p := ⟨a3N, 1, none⟩) (Kd.V9 (p := ⟨a3N, 0, none⟩) (Kd.a1S a0Y.out a1n.out (by decide)) (fun _ hk => hk.2) (.int .i64 ((J5 l1 D5).f0))) (fun _ hk => hk.2) (.int .i64 ((J5 l1 D5).f1))) (fun _ hk => hk.2) (.slice a7w ((J5 l1 D5).f2).length a7x)) (fun _ hk => trivial)⟩; have n1_ : Aside0 ((((w10.setCell ⟨a3N, 0, none⟩ (.int .i64 ((J5 l1 D5).f0))).setCell ⟨a3N, 1, none⟩ (.int .i64 ((J5 l1 D5).f1))).setCell ⟨a3N, 2, none⟩ (.slice a7w ((J5 l1 D5).f2).length a7x)).heap[d89]? = some (.cells #[] 65 (0, 0))) := ⟨o8 (o8 (o8 a3f.out b3v.out _) b3v.out _) b3v.out _⟩; have n2_ : Aside0 ((((w10.setCell ⟨a3N, 0, none⟩ (.int .i64 ((J5 l1 D5).f0))).setCell ⟨a3N, 1, none⟩ (.int .i64 ((J5 l1 D5).f1))).setCell ⟨a3N, 2, none⟩ (.slice a7w ((J5 l1 D5).f2).length a7x)).heap[a3N]? = some (.cells #[.int .i64 ((J5 l1 D5).f0), .int .i64 ((J5 l1 D5).f1), .slice a7w ((J5 l1 D5).f2).length a7x] 42 (0, 0))) := ⟨l9 (l9 (l9 a1n.out 0 _ rfl) 1 _ rfl) 2 _ rfl⟩; have n3_ : Aside0 (Below w.heap.size w (((w10.setCell ⟨a3N, 0, none⟩ (.int .i64 ((J5 l1 D5).f0))).setCell ⟨a3N, 1, none⟩ (.int .i64 ((J5 l1 D5).f1))).setCell ⟨a3N, 2, none⟩ (.slice a7w ((J5 l1 D5).f2).length a7x))) := ⟨by repeat (with_reducible first | exact HB.out | refine o7 ?_ f8t.out)⟩
    (try clear a0Y)
    (try clear a3f)
    (try clear a1n)
    (try clear HB)
    generalize (((w10.setCell ⟨a3N, 0, none⟩ (.int .i64 ((J5 l1 D5).f0))).setCell ⟨a3N, 1, none⟩ (.int .i64 ((J5 l1 D5).f1))).setCell ⟨a3N, 2, none⟩ (.slice a7w ((J5 l1 D5).f2).length a7x)) = w13 at n0_ n1_ n2_ n3_ ⊢; have a0Y := n0_; have a3f := n1_; have a1n := n2_; have HB := n3_; clear n0_ n1_ n2_ n3_; replace a0Y := a_ (Kd.b39 a0Y.out); replace a3f := a_ (G9 a3f.out); replace a1n := a_ (G9 a1n.out); replace HB := a_ (Y4 HB.out); refine a2E (n := 9) (S := fun w' => w'.cell? ⟨a3N, 0, none⟩ = some (.int .i64 ((J5 l1 D5).f0)) ∧ w'.cell? ⟨a3N, 1, none⟩ = some (.int .i64 ((J5 l1 D5).f1)) ∧ w'.cell? ⟨a3N, 2, none⟩ = some (.slice a7w ((J5 l1 D5).f2).length a7x)) (ds := []) (bo_ 9 0) (by kernel_rfl) rfl rfl ⟨bc0 a1n, bc1 a1n, bc2 a1n⟩ (fun hHeld => ?_); refine a2J F7.e9f F7.d68 (fun Z8 HW_ => ?_); generalize w13.drew = w14 at a0Y a3f a1n HB hHeld ⊢; refine pu_ 0 (some 17) Z8 ?_; refine a1H (i := 1) (N := some 18) (v := ?_) (a' := ?_) (bo_ 9 3) rfl rfl (a1I Z8.out HW_.out (by kernel_rfl)) (fun _ _ _ h => h) (Or.inl ⟨by rfl, ?_⟩) hHeld ?_ ?_
    rotate_left
    ·rintro w' ⟨s0, s1, s2⟩
     go_simp
     with_reducible rfl
    rotate_left
    ·simp only [Act.put, List.setIfInBounds_toArray, List.set_cons_zero, List.set_cons_succ, a0J, a2b]
     rfl
    refine pu_ 2 (some 19) Z8 ?_; refine pu_ 3 (some 20) Z8 ?_; refine a1H (i := 5) (N := some 22) (v := ?_) (a' := ?_) (bo_ 9 47) rfl rfl (a1I Z8.out HW_.out (by kernel_rfl)) (fun _ _ _ h => h) (Or.inl ⟨by rfl, ?_⟩) hHeld ?_ ?_
    rotate_left
    ·rintro w' ⟨s0, s1, s2⟩
     go_simp
     with_reducible rfl
    rotate_left
    ·simp only [Act.put, List.setIfInBounds_toArray, List.set_cons_zero, List.set_cons_succ, a0J, a2b]
     rfl
    refine c4I (σ := Value × Value) 2 (bo_ 9 127) (fun s_ => [(21, s_.1), (23, s_.2)]) (fun s_ w' => (w'.cell? ⟨a3N, 0, none⟩ = some (.int .i64 ((J5 l1 D5).f0)) ∧ w'.cell? ⟨a3N, 1, none⟩ = some (.int .i64 ((J5 l1 D5).f1)) ∧ w'.cell? ⟨a3N, 2, none⟩ = some (.slice a7w ((J5 l1 D5).f2).length a7x)) ∧ (Kd.R (Kd.int .u8) 5 w' w.heap.size (fun k_ => some k_ ≠ (s_.2 : Value).ownBlock) s_.1 d30) ∧ (Kd.R (Kd.int .u8) 5 w' w.heap.size (fun k_ => some k_ ≠ (s_.1 : Value).ownBlock) s_.2 b6E) ∧ (Kd.S k51 51 w' w.heap.size (fun k_ => some k_ ≠ (s_.1 : Value).ownBlock ∧ some k_ ≠ (s_.2 : Value).ownBlock) u6 a1d) ∧ (w'.heap[d89]? = some (.cells #[] 65 (0, 0))) ∧ (w'.heap[a3N]? = some (.cells #[.int .i64 ((J5 l1 D5).f0), .int .i64 ((J5 l1 D5).f1), .slice a7w ((J5 l1 D5).f2).length a7x] 42 (0, 0))) ∧ (Below w.heap.size w w')) ?_ ?_
    rotate_left
    ·intro a9z; refine d4v (i := 4) (j := 6) (Ni := some 21) (Nj := some 23) (bo_ 9 63) (bo_ 9 111) rfl rfl rfl rfl (b8e Z8.out (by kernel_rfl)) (by decide) (by decide) (fun K hK => ?_) (fun K hK => ?_)
     ·skip
      refine Kd.a7k (Kd.int .u8) _ 5 ?hg (N := 21) ?hd (xs := ([(wrap64 (((J5 l1 D5).f0) - 1)) % 256] : List Int)) (inner := [.int .u8 ((wrap64 (((J5 l1 D5).f0) - 1)) % 256)]) (ok := fun _ => True) (okp := fun _ => True) ?hr ?hp (fun _ hk => hk) trivial (Below.refl _ _) (Nat.le_refl _) (by simp) ?_; (case hd => rfl); (case hg => rfl); (case hr => (go_simp; rfl)); (case hp => exact (N8.one (show Kd.M (Kd.int .u8) _ _ _ ((wrap64 (((J5 l1 D5).f0) - 1)) % 256) [.int .u8 ((wrap64 (((J5 l1 D5).f0) - 1)) % 256)] from rfl) (N8.none _ _))); intro d9d w15 c6x hb hg_ a1P; clear hg_ a1P; rw [← e6R.out] at c6x; have b2E := rl_ c6x HB; replace a0Y := rS_ a0Y c6x hb; replace a3f := X3 a3f hb; replace a1n := X3 a1n hb; replace HB := V3 HB hb; clear hb c6x; refine hK.out _ _ ⟨bc0 a1n, bc1 a1n, bc2 a1n⟩ (fun hHeld => ?_); clear hK K; refine nm_ (some 21) ?_; refine a6o (i := 6) (N := some 23) (bo_ 9 127) rfl rfl (a1U Z8.out (by kernel_rfl)) (by decide) (fun K hK => ?_); refine a5o Tryd.func51 (by kernel_rfl) rfl #[.agg #[.int .i64 ((J5 l1 D5).f0), .int .i64 ((J5 l1 D5).f1), .slice a7w ((J5 l1 D5).f2).length a7x]] (by rfl) rfl rfl (by (try simp only [List.map_toArray, List.map_cons, List.map_nil]); (rfl)) ?_
      with_reducible refine (a13.calls ((J5 l1 D5).f0) ((J5 l1 D5).f1) _ _ ((J5 l1 D5).f2) b6E _ ?P9 ?P6 A7.out).mono ?_
      (case P9 => exact (Kd.y9 d2C.out HB.out))
      (case P6 => exact d2D.out)
      rintro e w17 ⟨e3Y, rfl, ho0, hb⟩; refine ⟨_, rfl, ?_⟩; have a9q := rn_ ho0 b2E HB; replace a0Y := rS_ a0Y ho0 hb; replace b2E := rR_ b2E ho0 hb; replace a3f := X3 a3f hb; replace a1n := X3 a1n hb; replace HB := V3 HB hb
      (try clear hb)
      (try clear ho0)
      refine hK.out _ _ ⟨bc0 a1n, bc1 a1n, bc2 a1n⟩ (fun hHeld => ?_); clear hK K; refine nm_ (some 23) ?_; exact a8i (by simp only [a4S, Act.put, List.setIfInBounds_toArray, List.set_cons_zero, List.set_cons_succ]) (a9z (d9d, e3Y) _ ⟨hHeld, (by exact Kd.D7 b2E.out (fun _ hk => hk.2)), (by exact Kd.D7 a9q.out (fun _ hk => hk.2)), (by exact Kd.N7 a0Y.out (fun _ hk => ⟨hk.1.2, hk.2⟩)), a3f.out, a1n.out, HB.out⟩)
     ·skip
      refine a5o Tryd.func51 (by kernel_rfl) rfl #[.agg #[.int .i64 ((J5 l1 D5).f0), .int .i64 ((J5 l1 D5).f1), .slice a7w ((J5 l1 D5).f2).length a7x]] (by rfl) rfl rfl (by (try simp only [List.map_toArray, List.map_cons, List.map_nil]); (rfl)) ?_
      with_reducible refine (a13.calls ((J5 l1 D5).f0) ((J5 l1 D5).f1) _ _ ((J5 l1 D5).f2) b6E _ ?P9 ?P6 A7.out).mono ?_
      (case P9 => exact (Kd.y9 d2C.out HB.out))
      (case P6 => exact d2D.out)
      rintro e w15 ⟨e3Y, rfl, ho0, hb⟩; refine ⟨_, rfl, ?_⟩; have a9q := rl_ ho0 HB; replace a0Y := rS_ a0Y ho0 hb; replace a3f := X3 a3f hb; replace a1n := X3 a1n hb; replace HB := V3 HB hb
      (try clear hb)
      (try clear ho0)
      refine hK.out _ _ ⟨bc0 a1n, bc1 a1n, bc2 a1n⟩ (fun hHeld => ?_); clear hK K; refine nm_ (some 23) ?_; refine a6o (i := 4) (N := some 21) (bo_ 9 127) rfl rfl (a1U Z8.out (by kernel_rfl)) (by decide) (fun K hK => ?_); refine Kd.a7k (Kd.int .u8) _ 5 ?hg (N := 21) ?hd (xs := ([(wrap64 (((J5 l1 D5).f0) - 1)) % 256] : List Int)) (inner := [.int .u8 ((wrap64 (((J5 l1 D5).f0) - 1)) % 256)]) (ok := fun _ => True) (okp := fun _ => True) ?hr ?hp (fun _ hk => hk) trivial (Below.refl _ _) (Nat.le_refl _) (by simp) ?_; (case hd => rfl); (case hg => rfl); (case hr => (go_simp; rfl)); (case hp => exact (N8.one (show Kd.M (Kd.int .u8) _ _ _ ((wrap64 (((J5 l1 D5).f0) - 1)) % 256) [.int .u8 ((wrap64 (((J5 l1 D5).f0) - 1)) % 256)] from rfl) (N8.none _ _))); intro d9d w16 c4u hb hg_ a1P; clear hg_ a1P; rw [← e6R.out] at c4u; have b2E := rn_ c4u a9q HB; replace a0Y := rS_ a0Y c4u hb; replace a9q := rR_ a9q c4u hb; replace a3f := X3 a3f hb; replace a1n := X3 a1n hb; replace HB := V3 HB hb; clear hb c4u; refine hK.out _ _ ⟨bc0 a1n, bc1 a1n, bc2 a1n⟩ (fun hHeld => ?_); clear hK K; refine nm_ (some 21) ?_; exact a8i (by simp only [a4S, Act.put, List.setIfInBounds_toArray, List.set_cons_zero, List.set_cons_succ]) (a9z (d9d, e3Y) _ ⟨hHeld, (by exact Kd.D7 b2E.out (fun _ hk => hk.2)), (by exact Kd.D7 a9q.out (fun _ hk => hk.2)), (by exact Kd.N7 a0Y.out (fun _ hk => ⟨hk.2, hk.1.2⟩)), a3f.out, a1n.out, HB.out⟩)
    rintro ⟨d9d, e3Y⟩ w18 ⟨hS_, h0_, h1_, h2_, h3_, h4_, h5_⟩; have n0_ := a_ h0_; have n1_ := a_ h1_; have n2_ := a_ h2_; have n3_ := a_ h3_; have n4_ := a_ h4_; have n5_ := a_ h5_; clear a0Y a3f a1n HB h0_ h1_ h2_ h3_ h4_ h5_; have b2E := n0_; have a9q := n1_; have a0Y := n2_; have a3f := n3_; have a1n := n4_; have HB := n5_; clear n0_ n1_ n2_ n3_ n4_ n5_; have hHeld : w18.cell? ⟨a3N, 0, none⟩ = some (.int .i64 ((J5 l1 D5).f0)) ∧ w18.cell? ⟨a3N, 1, none⟩ = some (.int .i64 ((J5 l1 D5).f1)) ∧ w18.cell? ⟨a3N, 2, none⟩ = some (.slice a7w ((J5 l1 D5).f2).length a7x) := hS_; obtain ⟨a5I, a4V, b84⟩ := Kd.G7 a9q.out; subst b84; refine a8i (a' := ?_) ?_ ?_
    rotate_left
    ·simp only [a4S, Act.put, List.setIfInBounds_toArray, List.set_cons_zero, List.set_cons_succ]
     rfl
    refine a6o (i := 7) (N := some 24) (bo_ 9 255) rfl rfl (a1U Z8.out (by kernel_rfl)) (by decide) (fun K hK => ?_); refine Kd.a4q (Kd.int .u8) (w0 := w) w.heap.size (by rfl) (.tmp 21) (.tmp 23) 22 5 (.int .u8 0) 1 rfl Tryd.underlying22 info5 rfl (by decide) (by omega) d9d d30 b6E _ _ _ (fun k_ => some k_ ≠ (.slice a5I b6E.length a4V : Value).ownBlock) (fun _ => False) rfl rfl ?aO ?aR (fun _ _ h => h) (fun _ h => h.elim) ?aF ?aB ?aS ?aL ?_
    (case aR => exact (Kd.D9 a9q.out).2.2)
    (case aB => exact HB.out)
    (case aF => exact (fun k_ hk => Kd.fresh' (Kd.a0i a9q.out) k_ hk))
    (case aO => exact b2E.out)
    (case aS => exact (y5 HB.out))
    (case aL => have := b6u.out; omega)
    intro h5B w19 ho hb hg hat; rw [← f8r.out] at ho; have d2E := a_ ho; replace a0Y := a_ (Kd.b0V (ok := (fun k_ => some k_ ≠ (.slice a5I b6E.length a4V : Value).ownBlock)) (by exact Kd.N7 a0Y.out (fun _ hk => ⟨hk.2, hk.1⟩)) hg hat); replace a3f := a_ (J7 a3f.out hg (Kd.a6B b2E.out a3f.out (by decide))); replace a1n := a_ (J7 a1n.out hg (Kd.a6B b2E.out a1n.out (by decide))); replace a9q := a_ (Kd.a0T (ok := (fun _ => True)) (by exact Kd.D7 a9q.out (fun _ hk => ⟨trivial, hk⟩)) hg hat); replace HB := a_ hb; clear b2E ho hb hg hat; refine hK.out _ _ ⟨bc0 a1n, bc1 a1n, bc2 a1n⟩ (fun hHeld => ?_); clear hK K; refine nm_ (some 24) ?_; refine pu_ 8 (some 9) Z8 ?_; refine a4D (a5D Z8.out (by kernel_rfl)) ?_; obtain ⟨b81, b82, c3j⟩ := Kd.G7 d2E.out; subst c3j
    try go_wp2_with (first | ((with_reducible refine E8 (b := .append) (xs := #[.tmp 25, .tmp 33]) rfl ?_); at_builtin; refine Kd.a7I k51 (w0 := w) w.heap.size rfl (.tmp 25) (.tmp 33) 47 51 (.agg #[(.int .u32 0), (.int .u32 0), (.int .u32 0), (.slice none 0 0)]) 40 rfl Tryd.underlying47 info51 rfl (by decide) (by omega) u6 a1d (⟨(D5) % 4294967296, 0, (b7e.length : Int) % 4294967296, b7e⟩ : S51) [.int .u32 ((D5) % 4294967296), .int .u32 0, .int .u32 ((b7e.length : Int) % 4294967296), .slice b81 b7e.length b82] (fun k_ => some k_ ≠ (.slice a5I b6E.length a4V : Value).ownBlock) (fun k_ => some k_ = (.slice b81 b7e.length b82 : Value).ownBlock) rfl rfl ?aP (fun k_ hk_ => ((Kd.D7 (ok' := fun k_ => (fun k_ => some k_ ≠ (.slice a5I b6E.length a4V : Value).ownBlock) k_ ∧ some k_ ≠ (u6 : Value).ownBlock) (Kd.X5 (d2E.out) (Kd.a2A a0Y.out) (by decide)) (fun k_ hk => ⟨hk.1, hk.2⟩))).1 k_ hk_.symm) ?aF ?aO ?aB ?aS ?aL ?_; (case aP => exact c1u _ _ _ (⟨(D5) % 4294967296, 0, (b7e.length : Int) % 4294967296, b7e⟩ : S51) (Kd.D7 (Kd.a3v rfl (Kd.D7 (ok' := fun k_ => (fun k_ => some k_ ≠ (.slice a5I b6E.length a4V : Value).ownBlock) k_ ∧ some k_ ≠ (u6 : Value).ownBlock) (Kd.X5 (d2E.out) (Kd.a2A a0Y.out) (by decide)) (fun k_ hk => ⟨hk.1, hk.2⟩))) (fun _ h_ => h_))); (case aB => exact HB.out); (case aF => exact (fun k_ hk => Kd.fresh' (Kd.a0i a9q.out) k_ hk)); (case aO => exact (by exact Kd.N7 a0Y.out (fun k_ hk => ⟨hk.1, fun e_ => hk.2 e_⟩))); (case aS => exact (y5 HB.out)); (case aL => have := c8e.out; omega); intro h5C w22 ho hb hg hat; rw [← f8s.out] at ho; have f8u := a_ ho; replace a3f := a_ (J7 a3f.out hg (Kd.b8f a0Y.out a3f.out (by decide))); replace a1n := a_ (J7 a1n.out hg (Kd.b8f a0Y.out a1n.out (by decide))); replace a9q := a_ (Kd.b2R a9q.out (Kd.a2A a0Y.out) (by decide) hg); replace HB := a_ hb; clear a0Y d2E ho hb hg hat))
    go_roundg k1
    case measure => have := HK1.out; omega
    case rel => exact ⟨(g74), (wrap64 (D5 + 1)), (by rfl), H', ⟨by have := HK1.out; omega⟩, ⟨by exact Kd.N7 f8u.out (fun _ hk => trivial)⟩, ⟨by exact a3f.out⟩, ⟨by exact HB.out⟩⟩
   ·rw [if_neg c4] at H; have a4i := df_ c4; clear c4; obtain ⟨⟨g76, g77⟩, A23, H⟩ := bd_ H
    (try dsimp only at H); obtain ⟨rfl, rfl⟩ := s2_ H; obtain ⟨c2o, c2p, c7G⟩ := Kd.a6m a0Y.out; subst c7G
    go_wp2_with (first | (refine gl_ (some 38) Tryd.func54 #[.agg #[.bool false, .bool false, .int .u32 65535, .int .u32 204], .slice c2o a1d.length c2p] ?_; (with_reducible refine (pcap_Put.calls k1 false false 65535 204 _ _ a1d g76 g77 _ ((Kd.a1J a0Y.out).2.2) ((Kd.a1J a0Y.out).2.1) A23.out).mono ?_); rintro e w25 ⟨h5E, rfl, ho0, hb⟩; refine ⟨_, rfl, ?_⟩; have f8v := rl_ ho0 HB; replace a0Y := rS_ a0Y ho0 hb; replace a3f := X3 a3f hb; replace HB := V3 HB hb; (try clear hb); (try clear ho0)))
    go_ret2
    exact ⟨_, by (rfl), by exact f8v.out, by exact HB.out⟩
end Go.Proofs.YtgnonglkibhnhaaDoor.Print
