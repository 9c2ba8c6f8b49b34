import Derived.Test.YtgnonglkibhnhaaDoorZ
import Derived.Test.YtgnonglkibhnhaaDoorM4
import Derived.Test.YtgnonglkibhnhaaDoorF54
namespace Go.Proofs.YtgnonglkibhnhaaDoor.Print
open Go.RowKit Go.Proofs.YtgnonglkibhnhaaDoorW.PrintWords Go.Proofs.YtgnonglkibhnhaaDoorW.PrintLast Go.Proofs.YtgnonglkibhnhaaDoorW.PrintMore
attribute [local go_sem] a0u a0v a1m a1n Y7 Y8 a0w a0x
set_option linter.unusedVariables false
set_option linter.unusedSimpArgs false

/-! ### capture_records_write: function 30 -/
def capture_records_write.l0 : Nat → List (S51) → List (S42) → Int → Int → Option (List Int × Int)
 | 0, _, _, _, _ => none
 | k + 1, x6, x10, x11, x12 => if x12 < x11 then (if 0 ≤ x12 then (if x12 < (x10.length : Int) then ((some (([(wrap64 (((F7 x10 x12).f0) - 1)) % 256] : List Int) : List Int)).bind fun c7J => ((a1E.f ((F7 x10 x12).f0) ((F7 x10 x12).f1) ((F7 x10 x12).f2)).bind fun b4B => (if c7J.length + b4B.length < 140737488355328 then ((some (c7J ++ b4B : List Int)).bind fun b6I => (if x6.length < 3518437208883 then (capture_records_write.l0 k (x6 ++ [(⟨(x12) % 4294967296, 0, (b6I.length : Int) % 4294967296, b6I⟩ : S51)]) x10 x11 (wrap64 (x12 + 1))) else (none))) else (none)))) else (none)) else (none)) else ((pcap_Put.f k false false 65535 204 x6).bind fun e5i => (some (e5i.1, e5i.2)))
def capture_records_write.f (k : Nat) (N7 : Int) (a0b : Int) (l1 : List (S42)) : Option (List Int × Int) := capture_records_write.l0 k ([] : List (S51)) l1 (l1.length : Int) 0
def capture_records_write.T5 : Bool × List (List Nat × List Nat) := (true, [([], []), ([0], [0]), ([1], [1]), ([2], [2]), ([3], [3]), ([], []), ([5], [5]), ([4, 6, 6], [4, 6]), ([7, 7, 0, 1, 2, 3, 4, 5, 6, 7], [7])])
def capture_records_write.B5 : List Nat := [0, 1, 3, 7, 15, 0, 32, 127, 255]
theorem capture_records_write.g8W : a2N .any (opsOf Tryd.f30 5) = capture_records_write.T5 := by kernel_rfl
theorem capture_records_write.f7O : a2t capture_records_write.T5.2 capture_records_write.B5 = true := by kernel_rfl
set_option maxHeartbeats 8000000 in
set_option maxRecDepth 100000 in
theorem capture_records_write.calls (k : Nat) (N7 : Int) (a0b : Int) (A1 : Option Addr) (c1 : Nat) (l1 : List (S42)) (r1 : List Int) (r2 : Int) (w : World) (hr1 : Kd.C k42 w A1 l1.length l1) (hc1 : l1.length ≤ c1) (h : capture_records_write.f k N7 a0b l1 = some (r1, r2)) :
  Calls Tryd.prog 30 #[.agg #[], .slice A1 l1.length c1] w fun e w' => ∃ v0_ : Value, e = .returned (.tuple #[v0_, .int .i64 r2]) ∧ Kd.R (Kd.int .u8) 5 w' w.heap.size (fun _ => True) v0_ r1 ∧ Below w.heap.size w w' := by
 have b2w := Tryd.underlying30
 have e7m := Tryd.underlying65
 have d48 := Tryd.underlying42
 have d4I := Tryd.underlying51
 have c39 := Tryd.underlying46
 have HR1 := a_ hr1
 have HC1 := a_ hc1
 clear hr1 hc1
 have HB := a_ (Below.refl w.heap.size w)
 have H := h
 clear h
 unfold capture_records_write.f at H
 have H' := a_ H
 clear H
 go_enter Tryd.func30, Tryd.ntmps30
 go_wp2_with (first | (refine be_ 2 #[] 65 ?_; intro d0V hg w3 hbox hb; have a2D := a_ hbox; have h4c := lb_ HB hg; replace HB := W9 HB hb; clear hb hbox hg))
 go_loopg [6, 12] k (fun kq v6 v12 w' => ∃ (a2u : List (S51)) (y8 : Int), v12 = .int .i64 y8 ∧ Aside0 (capture_records_write.l0 kq a2u l1 (l1.length : Int) y8 = some (r1, r2)) ∧ Aside0 (kq ≤ k) ∧ Aside0 (Kd.S k51 51 w' w.heap.size (fun _ => True) v6 a2u) ∧ Aside0 (w'.heap[d0V]? = some (.cells #[] 65 (0, 0))) ∧ Aside0 (Below w.heap.size w w'))
 case atStart => exact ⟨([] : List (S51)), (0), (by rfl), H', ⟨Nat.le_refl _⟩, ⟨by (exact Kd.a6k _ _ _ _ _)⟩, ⟨by exact a2D.out⟩, ⟨by exact HB.out⟩⟩
 case round =>
  clear H'
  obtain ⟨a2u, y8, rfl, HA, HK1, a2d, a2D, HB⟩ := hrel
  cases gk with
  | zero => exact absurd HA.out (by simp [capture_records_write.l0])
  | succ k1 =>
   have H := HA.out
   clear HA
   simp only [capture_records_write.l0] at H
   by_cases c4 : y8 < (l1.length : Int)
   ·rw [if_pos c4] at H
    have a6r := decide_eq_true c4
    clear c4
    have a9g := a4w H
    replace H := U9 H
    have a9K := a4w H
    replace H := U9 H
    obtain ⟨c7J, d6M⟩ := is_ ((([(wrap64 (((F7 l1 y8).f0) - 1)) % 256] : List Int)) : List Int)
    rw [Option.bind_some, ← d6M] at H
    have e5j := a_ d6M
    clear d6M
    replace H := Option.bind_eq_some_iff.mp H
    obtain ⟨b4B, A70, H⟩ := H
    try dsimp only at H
    have A7 := a_ A70
    clear A70
    have c8 := a0o H
    replace H := U9 H
    have c7e := a_ c8
    clear c8
    obtain ⟨b6I, d6N⟩ := is_ ((c7J ++ b4B) : List Int)
    rw [Option.bind_some, ← d6N] at H
    have f7P := a_ d6N
    clear d6N
    have c9 := a0o H
    replace H := U9 H
    have e8d := a_ c9
    clear c9
    obtain ⟨g8X, d6O⟩ := is_ ((a2u ++ [(⟨(y8) % 4294967296, 0, (b6I.length : Int) % 4294967296, b6I⟩ : S51)]) : List (S51))
    rw [← d6O] at H
    have f7Q := a_ d6O
    clear d6O
    have H' := a_ H
    clear H
    have e9h : 0 ≤ (y8 : Int) := Y9
    have e9i : y8 < (l1.length : Int) := Y9
    obtain ⟨h4d, a6R, a6S, g8Y, d0W, d0X, d0Y, d0Z, d00⟩ := a2P HR1.out y8 e9h e9i
    cases g8Y
    replace d0W := cb_ HB d0W
    replace d0X := cb_ HB d0X
    replace d0Y := cb_ HB d0Y
    have d01 := a_ d00
    have d02 := a_ d0Z
    clear d00 d0Z
    replace e9h := eq_true e9h
    replace e9i := eq_true e9i
    try go_wp2_with (first | (refine be_ 8 #[.int .i64 0, .int .i64 0, .slice none 0 0] 42 ?_; intro a3b hg w10 hbox hb; have a1g := a_ hbox; have f7R := lb_ HB hg; obtain ⟨b2p, d2g⟩ := nn_ a2D hg; replace a2d := sb_ a2d hb; replace a2D := U5 a2D hb; replace HB := W9 HB hb; clear hb hbox hg; have h4e := d2g.out; have h4f := b2p.out; obtain ⟨e2d, e2e, e2f, e2g, e2h, e2i⟩ := a2G a1g.out))
    have n0_ : Aside0 (Kd.S k51 51 (((w10.setCell ⟨a3b, 0, none⟩ (.int .i64 ((F7 l1 y8).f0))).setCell ⟨a3b, 1, none⟩ (.int .i64 ((F7 l1 y8).f1))).setCell ⟨a3b, 2, none⟩ (.slice a6R ((F7 l1 y8).f2).length a6S)) w.heap.size (fun _ => True) u6 a2u) := ⟨by exact Kd.V6 (Kd.Y6 (p := ⟨a3b, 2, none⟩) (Kd.Y6 (p := ⟨a3b, 1, none⟩) (Kd.Y6 (p := ⟨a3b, 0, none⟩) (Kd.a3K a2d.out a1g.out (by decide)) (fun _ hk => hk.2) (.int .i64 ((F7 l1 y8).f0))) (fun _ hk => hk.2) (.int .i64 ((F7 l1 y8).f1))) (fun _ hk => hk.2) (.slice a6R ((F7 l1 y8).f2).length a6S)) (fun _ hk => trivial)⟩
    have n1_ : Aside0 ((((w10.setCell ⟨a3b, 0, none⟩ (.int .i64 ((F7 l1 y8).f0))).setCell ⟨a3b, 1, none⟩ (.int .i64 ((F7 l1 y8).f1))).setCell ⟨a3b, 2, none⟩ (.slice a6R ((F7 l1 y8).f2).length a6S)).heap[d0V]? = some (.cells #[] 65 (0, 0))) := ⟨by refine o9 ?_ b2p.out _; refine o9 ?_ b2p.out _; refine o9 ?_ b2p.out _; exact a2D.out⟩
    have n2_ : Aside0 ((((w10.setCell ⟨a3b, 0, none⟩ (.int .i64 ((F7 l1 y8).f0))).setCell ⟨a3b, 1, none⟩ (.int .i64 ((F7 l1 y8).f1))).setCell ⟨a3b, 2, none⟩ (.slice a6R ((F7 l1 y8).f2).length a6S)).heap[a3b]? = some (.cells #[.int .i64 ((F7 l1 y8).f0), .int .i64 ((F7 l1 y8).f1), .slice a6R ((F7 l1 y8).f2).length a6S] 42 (0, 0))) := ⟨by refine l9 (cs := #[.int .i64 ((F7 l1 y8).f0), .int .i64 ((F7 l1 y8).f1), .slice none 0 0]) ?_ 2 _ rfl; refine l9 (cs := #[.int .i64 ((F7 l1 y8).f0), .int .i64 0, .slice none 0 0]) ?_ 1 _ rfl; refine l9 (cs := #[.int .i64 0, .int .i64 0, .slice none 0 0]) ?_ 0 _ rfl; exact a1g.out⟩
    have n3_ : Aside0 (Below w.heap.size w (((w10.setCell ⟨a3b, 0, none⟩ (.int .i64 ((F7 l1 y8).f0))).setCell ⟨a3b, 1, none⟩ (.int .i64 ((F7 l1 y8).f1))).setCell ⟨a3b, 2, none⟩ (.slice a6R ((F7 l1 y8).f2).length a6S))) := ⟨by repeat (with_reducible first | exact HB.out | refine o8 ?_ f7R.out)⟩
    (try clear a2d)
    (try clear a2D)
    (try clear a1g)
    (try clear HB)
    generalize (((w10.setCell ⟨a3b, 0, none⟩ (.int .i64 ((F7 l1 y8).f0))).setCell ⟨a3b, 1, none⟩ (.int .i64 ((F7 l1 y8).f1))).setCell ⟨a3b, 2, none⟩ (.slice a6R ((F7 l1 y8).f2).length a6S)) = w13 at n0_ n1_ n2_ n3_ ⊢
    have a2d := n0_
    have a2D := n1_
    have a1g := n2_
    have HB := n3_
    clear n0_ n1_ n2_ n3_
    replace a2d := a_ (Kd.b8c a2d.out)
    replace a2D := a_ (L9 a2D.out)
    replace a1g := a_ (L9 a1g.out)
    replace HB := a_ (D7 HB.out)
    refine a4n (n := 9) (S := fun w' => w'.cell? ⟨a3b, 0, none⟩ = some (.int .i64 ((F7 l1 y8).f0)) ∧ w'.cell? ⟨a3b, 1, none⟩ = some (.int .i64 ((F7 l1 y8).f1)) ∧ w'.cell? ⟨a3b, 2, none⟩ = some (.slice a6R ((F7 l1 y8).f2).length a6S)) (ds := []) (bo_ 9 0) (by kernel_rfl) rfl rfl ⟨bc0 a1g, bc1 a1g, bc2 a1g⟩ (fun hHeld => ?_); refine a3g capture_records_write.g8W capture_records_write.f7O (fun X5 HW_ => ?_)
    generalize w13.drew = w14 at a2d a2D a1g HB hHeld ⊢
    refine pu_ 0 (some 17) X5 ?_
    refine a1G (i := 1) (N := some 18) (v := ?_) (a' := ?_) (bo_ 9 3) rfl rfl (a0S X5.out HW_.out (by kernel_rfl)) (fun _ _ _ h => h) (Or.inl ⟨by rfl, ?_⟩) hHeld ?_ ?_
    rotate_left
    ·rintro w' ⟨s0, s1, s2⟩
     go_simp
     with_reducible rfl
    rotate_left
    ·simp only [Act.put, List.setIfInBounds_toArray, List.set_cons_zero, List.set_cons_succ, a6w, a9Y]
     rfl
    refine pu_ 2 (some 19) X5 ?_
    refine pu_ 3 (some 20) X5 ?_
    refine a1G (i := 5) (N := some 22) (v := ?_) (a' := ?_) (bo_ 9 47) rfl rfl (a0S X5.out HW_.out (by kernel_rfl)) (fun _ _ _ h => h) (Or.inl ⟨by rfl, ?_⟩) hHeld ?_ ?_
    rotate_left
    ·rintro w' ⟨s0, s1, s2⟩
     go_simp
     with_reducible rfl
    rotate_left
    ·simp only [Act.put, List.setIfInBounds_toArray, List.set_cons_zero, List.set_cons_succ, a6w, a9Y]
     rfl
    refine c4A (σ := Value × Value) 2 (bo_ 9 127) (fun s_ => [(21, s_.1), (23, s_.2)]) (fun s_ w' => (w'.cell? ⟨a3b, 0, none⟩ = some (.int .i64 ((F7 l1 y8).f0)) ∧ w'.cell? ⟨a3b, 1, none⟩ = some (.int .i64 ((F7 l1 y8).f1)) ∧ w'.cell? ⟨a3b, 2, none⟩ = some (.slice a6R ((F7 l1 y8).f2).length a6S)) ∧ (Kd.R (Kd.int .u8) 5 w' w.heap.size (fun k_ => some k_ ≠ (s_.2 : Value).ownBlock) s_.1 c7J) ∧ (Kd.R (Kd.int .u8) 5 w' w.heap.size (fun k_ => some k_ ≠ (s_.1 : Value).ownBlock) s_.2 b4B) ∧ (Kd.S k51 51 w' w.heap.size (fun k_ => some k_ ≠ (s_.1 : Value).ownBlock ∧ some k_ ≠ (s_.2 : Value).ownBlock) u6 a2u) ∧ (w'.heap[d0V]? = some (.cells #[] 65 (0, 0))) ∧ (w'.heap[a3b]? = some (.cells #[.int .i64 ((F7 l1 y8).f0), .int .i64 ((F7 l1 y8).f1), .slice a6R ((F7 l1 y8).f2).length a6S] 42 (0, 0))) ∧ (Below w.heap.size w w')) ?_ ?_
    rotate_left
    ·intro a9m
     refine d39 (i := 4) (j := 6) (Ni := some 21) (Nj := some 23) (bo_ 9 63) (bo_ 9 111) rfl rfl rfl rfl (b8b X5.out (by kernel_rfl)) (by decide) (by decide) (fun K hK => ?_) (fun K hK => ?_)
     ·skip
      refine Kd.a7p (Kd.int .u8) _ 5 ?hg (N := 21) ?hd (xs := ([(wrap64 (((F7 l1 y8).f0) - 1)) % 256] : List Int)) (inner := [.int .u8 ((wrap64 (((F7 l1 y8).f0) - 1)) % 256)]) (ok := fun _ => True) (okp := fun _ => True) ?hr ?hp (fun _ hk => hk) trivial (Below.refl _ _) (Nat.le_refl _) (by simp) ?_; (case hd => rfl); (case hg => rfl); (case hr => (go_simp; rfl)); (case hp => exact (N9.one (show Kd.M (Kd.int .u8) _ _ _ ((wrap64 (((F7 l1 y8).f0) - 1)) % 256) [.int .u8 ((wrap64 (((F7 l1 y8).f0) - 1)) % 256)] from rfl) (N9.none _ _)))
      intro c5K w15 e2r hb hg_ a1q
      clear hg_ a1q
      rw [← e5j.out] at e2r
      have b1F := rl_ e2r HB
      replace a2d := rS_ a2d e2r hb
      replace a2D := U5 a2D hb
      replace a1g := U5 a1g hb
      replace HB := W9 HB hb
      clear hb e2r
      refine hK.out _ _ ⟨bc0 a1g, bc1 a1g, bc2 a1g⟩ (fun hHeld => ?_)
      clear hK K
      refine nm_ (some 21) ?_
      refine a6V (i := 6) (N := some 23) (bo_ 9 127) rfl rfl (a2c X5.out (by kernel_rfl)) (by decide) (fun K hK => ?_)
      refine a4y Tryd.func51 (by kernel_rfl) rfl #[.agg #[.int .i64 ((F7 l1 y8).f0), .int .i64 ((F7 l1 y8).f1), .slice a6R ((F7 l1 y8).f2).length a6S]] (by rfl) rfl rfl (by (try simp only [List.map_toArray, List.map_cons, List.map_nil]); (rfl)) ?_
      with_reducible refine (a1E.calls ((F7 l1 y8).f0) ((F7 l1 y8).f1) _ _ ((F7 l1 y8).f2) b4B _ ?Q5 ?Q7 A7.out).mono ?_
      (case Q5 => exact (Kd.D6 d01.out HB.out))
      (case Q7 => exact d02.out)
      rintro e w17 ⟨c7K, rfl, ho0, hb⟩
      refine ⟨_, rfl, ?_⟩
      have a8V := rn_ ho0 b1F HB
      replace a2d := rS_ a2d ho0 hb
      replace b1F := rR_ b1F ho0 hb
      replace a2D := U5 a2D hb
      replace a1g := U5 a1g hb
      replace HB := W9 HB hb
      (try clear hb)
      (try clear ho0)
      refine hK.out _ _ ⟨bc0 a1g, bc1 a1g, bc2 a1g⟩ (fun hHeld => ?_)
      clear hK K
      refine nm_ (some 23) ?_
      exact a8i (by simp only [a4M, Act.put, List.setIfInBounds_toArray, List.set_cons_zero, List.set_cons_succ]) (a9m (c5K, c7K) _ ⟨hHeld, (by exact Kd.D8 b1F.out (fun _ hk => hk.2)), (by exact Kd.D8 a8V.out (fun _ hk => hk.2)), (by exact Kd.V6 a2d.out (fun _ hk => ⟨hk.1.2, hk.2⟩)), a2D.out, a1g.out, HB.out⟩)
     ·skip
      refine a4y Tryd.func51 (by kernel_rfl) rfl #[.agg #[.int .i64 ((F7 l1 y8).f0), .int .i64 ((F7 l1 y8).f1), .slice a6R ((F7 l1 y8).f2).length a6S]] (by rfl) rfl rfl (by (try simp only [List.map_toArray, List.map_cons, List.map_nil]); (rfl)) ?_
      with_reducible refine (a1E.calls ((F7 l1 y8).f0) ((F7 l1 y8).f1) _ _ ((F7 l1 y8).f2) b4B _ ?Q5 ?Q7 A7.out).mono ?_
      (case Q5 => exact (Kd.D6 d01.out HB.out))
      (case Q7 => exact d02.out)
      rintro e w15 ⟨c7K, rfl, ho0, hb⟩
      refine ⟨_, rfl, ?_⟩
      have a8V := rl_ ho0 HB
      replace a2d := rS_ a2d ho0 hb
      replace a2D := U5 a2D hb
      replace a1g := U5 a1g hb
      replace HB := W9 HB hb
      (try clear hb)
      (try clear ho0)
      refine hK.out _ _ ⟨bc0 a1g, bc1 a1g, bc2 a1g⟩ (fun hHeld => ?_)
      clear hK K
      refine nm_ (some 23) ?_
      refine a6V (i := 4) (N := some 21) (bo_ 9 127) rfl rfl (a2c X5.out (by kernel_rfl)) (by decide) (fun K hK => ?_)
      refine Kd.a7p (Kd.int .u8) _ 5 ?hg (N := 21) ?hd (xs := ([(wrap64 (((F7 l1 y8).f0) - 1)) % 256] : List Int)) (inner := [.int .u8 ((wrap64 (((F7 l1 y8).f0) - 1)) % 256)]) (ok := fun _ => True) (okp := fun _ => True) ?hr ?hp (fun _ hk => hk) trivial (Below.refl _ _) (Nat.le_refl _) (by simp) ?_; (case hd => rfl); (case hg => rfl); (case hr => (go_simp; rfl)); (case hp => exact (N9.one (show Kd.M (Kd.int .u8) _ _ _ ((wrap64 (((F7 l1 y8).f0) - 1)) % 256) [.int .u8 ((wrap64 (((F7 l1 y8).f0) - 1)) % 256)] from rfl) (N9.none _ _)))
      intro c5K w16 d6P hb hg_ a1q
      clear hg_ a1q
      rw [← e5j.out] at d6P
      have b1F := rn_ d6P a8V HB
      replace a2d := rS_ a2d d6P hb
      replace a8V := rR_ a8V d6P hb
      replace a2D := U5 a2D hb
      replace a1g := U5 a1g hb
      replace HB := W9 HB hb
      clear hb d6P
      refine hK.out _ _ ⟨bc0 a1g, bc1 a1g, bc2 a1g⟩ (fun hHeld => ?_)
      clear hK K
      refine nm_ (some 21) ?_
      exact a8i (by simp only [a4M, Act.put, List.setIfInBounds_toArray, List.set_cons_zero, List.set_cons_succ]) (a9m (c5K, c7K) _ ⟨hHeld, (by exact Kd.D8 b1F.out (fun _ hk => hk.2)), (by exact Kd.D8 a8V.out (fun _ hk => hk.2)), (by exact Kd.V6 a2d.out (fun _ hk => ⟨hk.2, hk.1.2⟩)), a2D.out, a1g.out, HB.out⟩)
    rintro ⟨c5K, c7K⟩ w18 ⟨hS_, h0_, h1_, h2_, h3_, h4_, h5_⟩
    have n0_ : Aside0 (Kd.R (Kd.int .u8) 5 w18 w.heap.size (fun k_ => some k_ ≠ (c7K : Value).ownBlock) c5K c7J) := ⟨h0_⟩
    have n1_ : Aside0 (Kd.R (Kd.int .u8) 5 w18 w.heap.size (fun k_ => some k_ ≠ (c5K : Value).ownBlock) c7K b4B) := ⟨h1_⟩
    have n2_ : Aside0 (Kd.S k51 51 w18 w.heap.size (fun k_ => some k_ ≠ (c5K : Value).ownBlock ∧ some k_ ≠ (c7K : Value).ownBlock) u6 a2u) := ⟨h2_⟩
    have n3_ : Aside0 (w18.heap[d0V]? = some (.cells #[] 65 (0, 0))) := ⟨h3_⟩
    have n4_ : Aside0 (w18.heap[a3b]? = some (.cells #[.int .i64 ((F7 l1 y8).f0), .int .i64 ((F7 l1 y8).f1), .slice a6R ((F7 l1 y8).f2).length a6S] 42 (0, 0))) := ⟨h4_⟩
    have n5_ : Aside0 (Below w.heap.size w w18) := ⟨h5_⟩
    clear a2d
    clear a2D
    clear a1g
    clear HB
    clear h0_ h1_ h2_ h3_ h4_ h5_
    have b1F := n0_
    have a8V := n1_
    have a2d := n2_
    have a2D := n3_
    have a1g := n4_
    have HB := n5_
    clear n0_ n1_ n2_ n3_ n4_ n5_
    have hHeld : w18.cell? ⟨a3b, 0, none⟩ = some (.int .i64 ((F7 l1 y8).f0)) ∧ w18.cell? ⟨a3b, 1, none⟩ = some (.int .i64 ((F7 l1 y8).f1)) ∧ w18.cell? ⟨a3b, 2, none⟩ = some (.slice a6R ((F7 l1 y8).f2).length a6S) := hS_
    obtain ⟨b5r, b5s, d5k⟩ := Kd.J4 a8V.out
    subst d5k
    refine a8i (a' := ?_) ?_ ?_
    rotate_left
    ·simp only [a4M, Act.put, List.setIfInBounds_toArray, List.set_cons_zero, List.set_cons_succ]
     rfl
    refine a6V (i := 7) (N := some 24) (bo_ 9 255) rfl rfl (a2c X5.out (by kernel_rfl)) (by decide) (fun K hK => ?_)
    refine Kd.a8I (Kd.int .u8) (w0 := w) w.heap.size (by rfl) (.tmp 21) (.tmp 23) 22 5 (.int .u8 0) 1 rfl Tryd.underlying22 info5 rfl (by decide) (by omega) c5K c7J b4B _ _ _ (fun k_ => some k_ ≠ (.slice b5r b4B.length b5s : Value).ownBlock) (fun _ => False) rfl rfl ?aO ?aR (fun _ _ h => h) (fun _ h => h.elim) ?aF ?aB ?aS ?aL ?_
    (case aR => exact (Kd.G5 a8V.out).2.2)
    (case aB => exact HB.out)
    (case aF => exact (fun k_ hk => Kd.fresh' (Kd.a0h a8V.out) k_ hk))
    (case aO => exact b1F.out)
    (case aS => exact (y5 HB.out))
    (case aL => have := c7e.out; omega)
    intro h7k w19 ho hb hg hat
    rw [← f7P.out] at ho
    have d03 := a_ ho
    replace a2d := a_ (Kd.c9h (ok := (fun k_ => some k_ ≠ (.slice b5r b4B.length b5s : Value).ownBlock)) (by exact Kd.V6 a2d.out (fun _ hk => ⟨hk.2, hk.1⟩)) hg hat)
    replace a2D := a_ (F9 a2D.out hg (Kd.a6B b1F.out a2D.out (by decide)))
    replace a1g := a_ (F9 a1g.out hg (Kd.a6B b1F.out a1g.out (by decide)))
    replace a8V := a_ (Kd.a1f (ok := (fun _ => True)) (by exact Kd.D8 a8V.out (fun _ hk => ⟨trivial, hk⟩)) hg hat)
    replace HB := a_ hb
    clear b1F
    clear ho hb hg hat
    refine hK.out _ _ ⟨bc0 a1g, bc1 a1g, bc2 a1g⟩ (fun hHeld => ?_)
    clear hK K
    refine nm_ (some 24) ?_
    refine pu_ 8 (some 9) X5 ?_
    refine a7d (a6D X5.out (by kernel_rfl)) ?_
    obtain ⟨b5t, b5u, c7i⟩ := Kd.J4 d03.out
    subst c7i
    try go_wp2_with (first | ((with_reducible refine G7 (b := .append) (xs := #[.tmp 25, .tmp 33]) rfl ?_); at_builtin; refine Kd.a90 k51 (w0 := w) w.heap.size rfl (.tmp 25) (.tmp 33) 47 51 (.agg #[(.int .u32 0), (.int .u32 0), (.int .u32 0), (.slice none 0 0)]) 40 rfl Tryd.underlying47 info51 rfl (by decide) (by omega) u6 a2u (⟨(y8) % 4294967296, 0, (b6I.length : Int) % 4294967296, b6I⟩ : S51) [.int .u32 ((y8) % 4294967296), .int .u32 0, .int .u32 ((b6I.length : Int) % 4294967296), .slice b5t b6I.length b5u] (fun k_ => some k_ ≠ (.slice b5r b4B.length b5s : Value).ownBlock) (fun k_ => some k_ = (.slice b5t b6I.length b5u : Value).ownBlock) rfl rfl ?aP (fun k_ hk_ => ((Kd.D8 (ok' := fun k_ => (fun k_ => some k_ ≠ (.slice b5r b4B.length b5s : Value).ownBlock) k_ ∧ some k_ ≠ (u6 : Value).ownBlock) (Kd.a0g (d03.out) (Kd.a5q a2d.out) (by decide)) (fun k_ hk => ⟨hk.1, hk.2⟩))).1 k_ hk_.symm) ?aF ?aO ?aB ?aS ?aL ?_; (case aP => exact c1w _ _ _ (⟨(y8) % 4294967296, 0, (b6I.length : Int) % 4294967296, b6I⟩ : S51) (Kd.D8 (Kd.a2i rfl (Kd.D8 (ok' := fun k_ => (fun k_ => some k_ ≠ (.slice b5r b4B.length b5s : Value).ownBlock) k_ ∧ some k_ ≠ (u6 : Value).ownBlock) (Kd.a0g (d03.out) (Kd.a5q a2d.out) (by decide)) (fun k_ hk => ⟨hk.1, hk.2⟩))) (fun _ h_ => h_))); (case aB => exact HB.out); (case aF => exact (fun k_ hk => Kd.fresh' (Kd.a0h a8V.out) k_ hk)); (case aO => exact (by exact Kd.V6 a2d.out (fun k_ hk => ⟨hk.1, fun e_ => hk.2 e_⟩))); (case aS => exact (y5 HB.out)); (case aL => have := e8d.out; omega); intro h7l w22 ho hb hg hat; rw [← f7Q.out] at ho; have f7S := a_ ho; replace a2D := a_ (F9 a2D.out hg (Kd.b9Y a2d.out a2D.out (by decide))); replace a1g := a_ (F9 a1g.out hg (Kd.b9Y a2d.out a1g.out (by decide))); replace a8V := a_ (Kd.b63 a8V.out (Kd.a5q a2d.out) (by decide) hg); replace HB := a_ hb; clear a2d; clear d03; clear ho hb hg hat))
    go_roundg k1
    case measure => have := HK1.out; omega
    case rel => exact ⟨(g8X), (wrap64 (y8 + 1)), (by rfl), H', ⟨by have := HK1.out; omega⟩, ⟨by exact Kd.V6 f7S.out (fun _ hk => trivial)⟩, ⟨by exact a2D.out⟩, ⟨by exact HB.out⟩⟩
   ·rw [if_neg c4] at H
    have a6r := decide_eq_false c4
    clear c4
    replace H := Option.bind_eq_some_iff.mp H
    obtain ⟨⟨g8Z, g80⟩, f7T, H⟩ := H
    try dsimp only at H
    have A23 := a_ f7T
    clear f7T
    obtain ⟨rfl, rfl⟩ := s2_ H
    obtain ⟨b6q, b6r, c08⟩ := Kd.b0B a2d.out
    subst c08
    go_wp2_with (first | (refine gl_ (some 38) Tryd.func54 #[.agg #[.bool false, .bool false, .int .u32 65535, .int .u32 204], .slice b6q a2u.length b6r] ?_; (with_reducible refine (pcap_Put.calls k1 false false 65535 204 _ _ a2u g8Z g80 _ ((Kd.a5V a2d.out).2.2) ((Kd.a5V a2d.out).2.1) A23.out).mono ?_); rintro e w25 ⟨h7n, rfl, ho0, hb⟩; refine ⟨_, rfl, ?_⟩; have f7U := rl_ ho0 HB; replace a2d := rS_ a2d ho0 hb; replace a2D := U5 a2D hb; replace HB := W9 HB hb; (try clear hb); (try clear ho0)))
    go_ret2
    exact ⟨_, by (rfl), by exact f7U.out, by exact HB.out⟩

end Go.Proofs.YtgnonglkibhnhaaDoor.Print
