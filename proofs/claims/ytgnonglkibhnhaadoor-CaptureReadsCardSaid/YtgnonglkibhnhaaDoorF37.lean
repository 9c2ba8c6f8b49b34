import Derived.Test.YtgnonglkibhnhaaDoorM3
namespace Go.Proofs.YtgnonglkibhnhaaDoor.Print
open Go.RowKit Go.Proofs.YtgnonglkibhnhaaDoorW.PrintWords Go.Proofs.YtgnonglkibhnhaaDoorW.PrintLast Go.Proofs.YtgnonglkibhnhaaDoorW.PrintMore
attribute [local go_sem] a0n a0o a0P a0Q Y4 Y5 a0p a0q
set_option linter.unusedVariables false
set_option linter.unusedSimpArgs false

/-! ### umpireref09_Header: function 37 -/
def umpireref09_Header.j0 : Nat → Int → Bool → Bool → Int → Int → Option (List Int)
 | 0, _, _, _, _, _ => none
 | k + 1, x3, b41, f8P, e1t, e1u => (a0B.f k ([] : List Int) x3 b41).bind fun d2u => ((Q5.f k 2 2 b41).bind fun b1b => (if d2u.length + b1b.length < 140737488355328 then ((some (d2u ++ b1b : List Int)).bind fun d5H => ((Q5.f k 4 2 b41).bind fun b1P => (if d5H.length + b1P.length < 140737488355328 then ((some (d5H ++ b1P : List Int)).bind fun d5I => ((some (([0, 0, 0, 0, 0, 0, 0, 0] : List Int) : List Int)).bind fun b42 => (if d5I.length + b42.length < 140737488355328 then ((a0B.f k (d5I ++ b42) e1t b41).bind fun c66 => ((a0B.f k c66 e1u b41).bind fun e7n => (some e7n))) else (none)))) else (none)))) else (none)))
def umpireref09_Header.f (k : Nat) (V4 : Bool) (a0X : Bool) (a4C : Int) (a4D : Int) : Option (List Int) := if a0X = true then (umpireref09_Header.j0 k 2712812621 V4 a0X a4C a4D) else (umpireref09_Header.j0 k 2712847316 V4 a0X a4C a4D)
def umpireref09_Header.T8 : Bool × List (List Nat × List Nat) := (true, [([], []), ([], []), ([1], [1]), ([], []), ([3], [3]), ([0, 2, 4], [0, 2, 4]), ([], []), ([6], [6]), ([], []), ([8], [8]), ([5, 7, 9, 5], [5, 7, 9]), ([10, 10, 0, 1, 2, 3, 4, 5, 6, 7, 8, 9, 10], [10])])
def umpireref09_Header.B8 : List Nat := [0, 0, 2, 0, 8, 31, 0, 64, 0, 256, 1023, 2047]
theorem umpireref09_Header.g2B : a3b .any (opsOf Tryd.f37 8) = umpireref09_Header.T8 := by kernel_rfl
theorem umpireref09_Header.f2Y : a2C umpireref09_Header.T8.2 umpireref09_Header.B8 = true := by kernel_rfl
set_option maxHeartbeats 8000000 in
set_option maxRecDepth 100000 in
theorem umpireref09_Header.calls (k : Nat) (V4 : Bool) (a0X : Bool) (a4C : Int) (a4D : Int) (r : List Int) (w : World) (h : umpireref09_Header.f k V4 a0X a4C a4D = some r) :
  Calls Tryd.prog 37 #[.agg #[.bool V4, .bool a0X, .int .u32 a4C, .int .u32 a4D]] w fun e w' => ∃ v0_ : Value, e = .returned (v0_) ∧ Kd.R (Kd.int .u8) 5 w' w.heap.size (fun _ => True) v0_ r ∧ Below w.heap.size w w' := by
 have c6Q := Tryd.underlying46
 have HB := a_ (Below.refl w.heap.size w)
 have H := h
 clear h
 unfold umpireref09_Header.f at H
 have HC2 := a_ H
 clear H
 go_enter Tryd.func37, Tryd.ntmps37
 go_upto_if 6 with (first | (refine be_ 1 #[.bool V4, .bool a0X, .int .u32 a4C, .int .u32 a4D] 46 ?_; intro c47 hg w3 hbox hb; have a1d := a_ hbox; have g7s := lb_ HB hg; replace HB := U9 HB hb; clear hb hbox hg; obtain ⟨c67, c68, c69, e7o, c7a, c7b, c7c, e7p⟩ := blk4 a1d.out))
 go_cut [3] (fun v3 wc => ∃ (kq : Nat) (a5c : Int), v3 = .int .u32 a5c ∧ Aside0 (umpireref09_Header.j0 kq a5c V4 a0X a4C a4D = some r) ∧ Aside0 (kq ≤ k) ∧ Aside0 (wc.heap[c47]? = some (.cells #[.bool V4, .bool a0X, .int .u32 a4C, .int .u32 a4D] 46 (0, 0))) ∧ Aside0 (Below w.heap.size w wc))
 case first =>
  have H := HC2.out; clear HC2
  by_cases c5 : a0X = true
  ·subst c5; rw [if_pos rfl] at H; have H' := a_ H; clear H
   go_wp2
   go_meet
   case rel => exact ⟨_, (2712812621), (by rfl), H', ⟨by (omega)⟩, ⟨by exact a1d.out⟩, ⟨by exact HB.out⟩⟩
  ·cases nt_ c5
   rw [if_neg a3S] at H; have H' := a_ H; clear H
   go_wp2
   go_meet
   case rel => exact ⟨_, (2712847316), (by rfl), H', ⟨by (omega)⟩, ⟨by exact a1d.out⟩, ⟨by exact HB.out⟩⟩
 case rest =>
  clear HC2
  try clear c67
  try clear c68
  try clear c69
  try clear e7o
  try clear c7a
  try clear c7b
  try clear c7c
  try clear e7p
  obtain ⟨kq, a5c, rfl, HA, HJ1, a1d, HB⟩ := hcut
  cases kq with
  | zero => exact absurd HA.out (by simp [umpireref09_Header.j0])
  | succ kj1 =>
   have H := HA.out; clear HA
   simp only [umpireref09_Header.j0] at H
   obtain ⟨d2u, A6, H⟩ := bd_ H
   (try dsimp only at H); obtain ⟨b1b, A7, H⟩ := bd_ H
   (try dsimp only at H); have c8 := Z7 H; replace H := O5 H; have b5T := a_ c8; clear c8; obtain ⟨d5H, d5J⟩ := is_ ((d2u ++ b1b) : List Int); rw [Option.bind_some, ← d5J] at H; have f2Z := a_ d5J; clear d5J; obtain ⟨b1P, A9, H⟩ := bd_ H
   (try dsimp only at H); have c10 := Z7 H; replace H := O5 H; have c48 := a_ c10; clear c10; obtain ⟨d5I, d5K⟩ := is_ ((d5H ++ b1P) : List Int); rw [Option.bind_some, ← d5K] at H; have f3a := a_ d5K; clear d5K; obtain ⟨b42, d5L⟩ := is_ ([0, 0, 0, 0, 0, 0, 0, 0] : List Int); rw [Option.bind_some, ← d5L] at H; have f3b := a_ d5L; clear d5L; have c11 := Z7 H; replace H := O5 H; have d5M := a_ c11; clear c11; obtain ⟨e1v, d5N⟩ := is_ ((d5I ++ b42) : List Int); rw [← d5N] at H; have f3c := a_ d5N; clear d5N; obtain ⟨c66, A12, H⟩ := bd_ H
   (try dsimp only at H); obtain ⟨e7n, A13, H⟩ := bd_ H
   (try dsimp only at H); obtain rfl := oj_ H; obtain ⟨e1g, e1h, f8Q, f8R, e1i, e1j, f8S, f8T⟩ := blk4 a1d.out
   try go_wp2_with (first | (refine gl_ (some 10) Tryd.func38 #[.slice none 0 0, .int .u32 a5c, .bool V4] ?_; (refine (a0B.calls kj1 (fun k_ => some k_ = (.slice none 0 0 : Value).ownBlock) (.slice none 0 0) ([] : List Int) a5c V4 d2u w _ ?P5 ?P6 A6.out).mono ?_); (case P5 => exact HB.out); (case P6 => exact Kd.Y1 _ _ _ _ _); rintro e w15 ⟨g2C, rfl, ho0, hb, hkp⟩; refine ⟨_, rfl, ?_⟩; have c0k := a_ (Kd.D7 (ok' := fun k_ => True) ho0 (fun k_ hk_ => trivial)); replace a1d := a_ (b4k a1d.out hkp (fun hs_ => (fun e_ => by simp [Value.ownBlock] at e_) hs_)); replace HB := a_ hb; (try clear hb); (try clear hkp); (try clear ho0); obtain ⟨c1N, c1O, d0o, f8U, c1P, c1Q, d0p, f8V⟩ := blk4 a1d.out) | (refine gl_ (some 14) Tryd.func60 #[.int .u64 2, .int .i64 2, .bool V4] ?_; (with_reducible refine (Q5.calls kj1 2 2 V4 b1b _ A7.out).mono ?_); rintro e w17 ⟨h0K, rfl, ho0, hb⟩; refine ⟨_, rfl, ?_⟩; have a3R := rn_ ho0 c0k HB; replace c0k := rR_ c0k ho0 hb; replace a1d := X4 a1d hb; replace HB := U9 HB hb; (try clear hb); (try clear ho0); obtain ⟨b0I, b0J, c6Y⟩ := Kd.G7 a3R.out; subst c6Y) | ((with_reducible refine E5 (b := .append) (xs := #[.tmp 11, .tmp 14]) rfl ?_); at_builtin; refine Kd.P8 (Kd.int .u8) (w0 := w) w.heap.size rfl (.tmp 11) (.tmp 14) 22 5 (.int .u8 0) 1 rfl Tryd.underlying22 info5 rfl (by decide) (by omega) g2C d2u b1b _ _ _ (fun k_ => some k_ ≠ (.slice b0I b1b.length b0J : Value).ownBlock) (fun _ => False) rfl rfl ?aO ?aR (fun _ _ h => h) (fun _ h => h.elim) ?aF ?aB ?aS ?aL ?_; (case aR => exact (Kd.E8 a3R.out).2.2); (case aB => exact HB.out); (case aF => exact (fun k_ hk => Kd.fresh' (Kd.a0m a3R.out) k_ hk)); (case aO => exact (by exact Kd.D7 c0k.out (fun _ hk => hk.2))); (case aS => exact (y5 HB.out)); (case aL => have := b5T.out; omega); intro g2D w18 ho hb hg hat; rw [← f2Z.out] at ho; have c0l := a_ ho; replace a1d := a_ (N7 a1d.out hg (Kd.a8b c0k.out a1d.out (by decide))); replace a3R := a_ (Kd.a0R (ok := (fun _ => True)) a3R.out hg hat); replace HB := a_ hb; clear c0k ho hb hg hat; obtain ⟨c8U, c8V, c8W, f8W, c8X, c8Y, c8Z, f8X⟩ := blk4 a1d.out) | (refine gl_ (some 19) Tryd.func60 #[.int .u64 4, .int .i64 2, .bool V4] ?_; (with_reducible refine (Q5.calls kj1 4 2 V4 b1P _ A9.out).mono ?_); rintro e w21 ⟨h0L, rfl, ho0, hb⟩; refine ⟨_, rfl, ?_⟩; have a5J := a_ (Kd.a0e (Kd.a1H (Kd.a1H ho0 (Kd.a0m a3R.out)) (Kd.a0m c0l.out)) (y5 HB.out)); replace a3R := rR_ a3R ho0 hb; replace c0l := rR_ c0l ho0 hb; replace a1d := X4 a1d hb; replace HB := U9 HB hb; (try clear hb); (try clear ho0); obtain ⟨b1c, b1d, c7d⟩ := Kd.G7 a5J.out; subst c7d) | ((with_reducible refine E5 (b := .append) (xs := #[.tmp 16, .tmp 19]) rfl ?_); at_builtin; refine Kd.P8 (Kd.int .u8) (w0 := w) w.heap.size rfl (.tmp 16) (.tmp 19) 22 5 (.int .u8 0) 1 rfl Tryd.underlying22 info5 rfl (by decide) (by omega) g2D d5H b1P _ _ _ (fun k_ => some k_ ≠ (.slice b0I b1b.length b0J : Value).ownBlock ∧ some k_ ≠ (.slice b1c b1P.length b1d : Value).ownBlock) (fun _ => False) rfl rfl ?aO ?aR (fun _ _ h => h) (fun _ h => h.elim) ?aF ?aB ?aS ?aL ?_; (case aR => exact (Kd.E8 a5J.out).2.2); (case aB => exact HB.out); (case aF => exact (fun k_ hk => ⟨Kd.fresh' (Kd.a0m a3R.out) k_ hk, Kd.fresh' (Kd.a0m a5J.out) k_ hk⟩)); (case aO => exact c0l.out); (case aS => exact (y5 HB.out)); (case aL => have := c48.out; omega); intro g2E w22 ho hb hg hat; rw [← f3a.out] at ho; have c0n := a_ ho; replace a1d := a_ (N7 a1d.out hg (Kd.a8b c0l.out a1d.out (by decide))); replace a3R := a_ (Kd.a0R (ok := (fun k_ => some k_ ≠ (.slice b1c b1P.length b1d : Value).ownBlock)) (by exact Kd.D7 a3R.out (fun _ hk => ⟨hk.2, hk.1.2⟩)) hg hat); replace a5J := a_ (Kd.a0R (ok := (fun k_ => some k_ ≠ (.slice b0I b1b.length b0J : Value).ownBlock)) (by exact Kd.D7 a5J.out (fun _ hk => ⟨hk.1.2, hk.2⟩)) hg hat); replace HB := a_ hb; clear c0l ho hb hg hat) | ((with_reducible refine X0 (N := 22) rfl ?_); refine Kd.a9I (Kd.int .u8) _ 5 ?hg (N := 22) ?hd (xs := ([0, 0, 0, 0, 0, 0, 0, 0] : List Int)) (inner := [.int .u8 0, .int .u8 0, .int .u8 0, .int .u8 0, .int .u8 0, .int .u8 0, .int .u8 0, .int .u8 0]) (ok := fun _ => True) (okp := fun _ => True) ?hr ?hp (fun _ hk => hk) trivial (Below.refl _ _) (Nat.le_refl _) (by simp) ?_; (case hd => rfl); (case hg => rfl); (case hr => (go_simp; done)); (case hp => exact (L8.one (show Kd.M (Kd.int .u8) _ _ _ 0 [.int .u8 0] from rfl) (L8.one (show Kd.M (Kd.int .u8) _ _ _ 0 [.int .u8 0] from rfl) (L8.one (show Kd.M (Kd.int .u8) _ _ _ 0 [.int .u8 0] from rfl) (L8.one (show Kd.M (Kd.int .u8) _ _ _ 0 [.int .u8 0] from rfl) (L8.one (show Kd.M (Kd.int .u8) _ _ _ 0 [.int .u8 0] from rfl) (L8.one (show Kd.M (Kd.int .u8) _ _ _ 0 [.int .u8 0] from rfl) (L8.one (show Kd.M (Kd.int .u8) _ _ _ 0 [.int .u8 0] from rfl) (L8.one (show Kd.M (Kd.int .u8) _ _ _ 0 [.int .u8 0] from rfl) (L8.none _ _)))))))))); intro h0M w24 d2v hb hg_ a1B; clear hg_ a1B; (rw [← f3b.out] at d2v); have a7Y := a_ (Kd.a0e (Kd.a1H (Kd.a1H (Kd.a1H d2v (Kd.a0m a3R.out)) (Kd.a0m a5J.out)) (Kd.a0m c0n.out)) (y5 HB.out)); replace a3R := rR_ a3R d2v hb; replace a5J := rR_ a5J d2v hb; replace c0n := rR_ c0n d2v hb; replace a1d := X4 a1d hb; replace HB := U9 HB hb; clear hb d2v; obtain ⟨a8P, a8Q, c1m⟩ := Kd.G7 a7Y.out; subst c1m) | ((with_reducible refine E5 (b := .append) (xs := #[.tmp 21, .tmp 22]) rfl ?_); at_builtin; refine Kd.P8 (Kd.int .u8) (w0 := w) w.heap.size rfl (.tmp 21) (.tmp 22) 22 5 (.int .u8 0) 1 rfl Tryd.underlying22 info5 rfl (by decide) (by omega) g2E d5I b42 _ _ _ (fun k_ => some k_ ≠ (.slice b0I b1b.length b0J : Value).ownBlock ∧ some k_ ≠ (.slice b1c b1P.length b1d : Value).ownBlock ∧ some k_ ≠ (.slice a8P b42.length a8Q : Value).ownBlock) (fun _ => False) rfl rfl ?aO ?aR (fun _ _ h => h) (fun _ h => h.elim) ?aF ?aB ?aS ?aL ?_; (case aR => exact (Kd.E8 a7Y.out).2.2); (case aB => exact HB.out); (case aF => exact (fun k_ hk => ⟨Kd.fresh' (Kd.a0m a3R.out) k_ hk, Kd.fresh' (Kd.a0m a5J.out) k_ hk, Kd.fresh' (Kd.a0m a7Y.out) k_ hk⟩)); (case aO => exact (by exact Kd.D7 c0n.out (fun _ hk => ⟨hk.1.1, ⟨hk.1.2, hk.2⟩⟩))); (case aS => exact (y5 HB.out)); (case aL => have := d5M.out; omega); intro h0N w26 ho hb hg hat; rw [← f3c.out] at ho; have b8D := a_ ho; replace a1d := a_ (N7 a1d.out hg (Kd.a8b c0n.out a1d.out (by decide))); replace a3R := a_ (Kd.a0R (ok := (fun k_ => some k_ ≠ (.slice b1c b1P.length b1d : Value).ownBlock ∧ some k_ ≠ (.slice a8P b42.length a8Q : Value).ownBlock)) (by exact Kd.D7 a3R.out (fun _ hk => ⟨⟨hk.1.1, hk.2⟩, hk.1.2⟩)) hg hat); replace a5J := a_ (Kd.a0R (ok := (fun k_ => some k_ ≠ (.slice b0I b1b.length b0J : Value).ownBlock ∧ some k_ ≠ (.slice a8P b42.length a8Q : Value).ownBlock)) (by exact Kd.D7 a5J.out (fun _ hk => ⟨⟨hk.1.1, hk.2⟩, hk.1.2⟩)) hg hat); replace a7Y := a_ (Kd.a0R (ok := (fun k_ => some k_ ≠ (.slice b0I b1b.length b0J : Value).ownBlock ∧ some k_ ≠ (.slice b1c b1P.length b1d : Value).ownBlock)) (by exact Kd.D7 a7Y.out (fun _ hk => ⟨⟨hk.1.1.2, hk.1.2⟩, hk.2⟩)) hg hat); replace HB := a_ hb; clear c0n ho hb hg hat))
   replace a3R := a_ (Kd.b7u a3R.out); replace a5J := a_ (Kd.b7u a5J.out); replace a7Y := a_ (Kd.b7u a7Y.out); replace b8D := a_ (Kd.b7u b8D.out); replace a1d := a_ (G8 a1d.out); replace HB := a_ (Y3 HB.out); obtain ⟨b8E, b6B, d5O⟩ := Kd.G7 b8D.out; subst d5O; refine a2x (n := 12) (S := fun w' => w'.cell? ⟨c47, 0, none⟩ = some (.bool V4) ∧ w'.cell? ⟨c47, 1, none⟩ = some (.bool a0X) ∧ w'.cell? ⟨c47, 2, none⟩ = some (.int .u32 a4C) ∧ w'.cell? ⟨c47, 3, none⟩ = some (.int .u32 a4D)) (ds := []) (bo_ 12 0) (by kernel_rfl) rfl rfl ⟨bc0 a1d, bc1 a1d, bc2 a1d, bc3 a1d⟩ (fun hHeld => ?_); refine a2D umpireref09_Header.g2B umpireref09_Header.f2Y (fun Z8 HW_ => ?_); generalize w26.drew = w28 at a3R a5J a7Y b8D a1d HB hHeld ⊢; refine pu_ 0 (some 24) Z8 ?_; refine pu_ 1 (some 25) Z8 ?_; refine pu_ 3 (some 27) Z8 ?_; refine pu_ 6 (some 30) Z8 ?_; refine pu_ 8 (some 32) Z8 ?_; refine a1w (i := 2) (N := some 26) (v := ?_) (a' := ?_) (bo_ 12 335) rfl rfl (a1x Z8.out HW_.out (by kernel_rfl)) (fun _ _ _ h => h) (Or.inl ⟨by rfl, ?_⟩) hHeld ?_ ?_
   rotate_left
   ·rintro w' ⟨s0, s1, s2, s3⟩
    go_simp
    with_reducible rfl
   rotate_left
   ·simp only [Act.put, List.setIfInBounds_toArray, List.set_cons_zero, List.set_cons_succ, a0I, a1W]
    rfl
   refine a1w (i := 4) (N := some 28) (v := ?_) (a' := ?_) (bo_ 12 351) rfl rfl (a1x Z8.out HW_.out (by kernel_rfl)) (fun _ _ _ h => h) (Or.inl ⟨by rfl, ?_⟩) hHeld ?_ ?_
   rotate_left
   ·rintro w' ⟨s0, s1, s2, s3⟩
    go_simp
    with_reducible rfl
   rotate_left
   ·simp only [Act.put, List.setIfInBounds_toArray, List.set_cons_zero, List.set_cons_succ, a0I, a1W]
    rfl
   refine a1w (i := 7) (N := some 31) (v := ?_) (a' := ?_) (bo_ 12 479) rfl rfl (a1x Z8.out HW_.out (by kernel_rfl)) (fun _ _ _ h => h) (Or.inl ⟨by rfl, ?_⟩) hHeld ?_ ?_
   rotate_left
   ·rintro w' ⟨s0, s1, s2, s3⟩
    go_simp
    with_reducible rfl
   rotate_left
   ·simp only [Act.put, List.setIfInBounds_toArray, List.set_cons_zero, List.set_cons_succ, a0I, a1W]
    rfl
   refine a1w (i := 9) (N := some 33) (v := ?_) (a' := ?_) (bo_ 12 991) rfl rfl (a1x Z8.out HW_.out (by kernel_rfl)) (fun _ _ _ h => h) (Or.inl ⟨by rfl, ?_⟩) hHeld ?_ ?_
   rotate_left
   ·rintro w' ⟨s0, s1, s2, s3⟩
    go_simp
    with_reducible rfl
   rotate_left
   ·simp only [Act.put, List.setIfInBounds_toArray, List.set_cons_zero, List.set_cons_succ, a0I, a1W]
    rfl
   refine a6e (i := 5) (N := some 29) (bo_ 12 1023) rfl rfl (a1I Z8.out (by kernel_rfl)) (by decide) (fun K hK => ?_); refine a5g Tryd.func38 (by kernel_rfl) rfl #[.slice b8E e1v.length b6B, .int .u32 a4C, .bool V4] (by rfl) rfl rfl (by (try simp only [List.map_toArray, List.map_cons, List.map_nil]); (rfl)) ?_
   with_reducible refine (a0B.calls kj1 (fun k_ => some k_ = (.slice b8E e1v.length b6B : Value).ownBlock) (.slice b8E e1v.length b6B) e1v a4C V4 c66 w _ ?P5 ?P6 A12.out).mono ?_
   (case P5 => exact HB.out)
   (case P6 => exact Kd.a3r rfl b8D.out)
   rintro e w30 ⟨e7q, rfl, ho0, hb, hkp⟩; refine ⟨_, rfl, ?_⟩; have d0q := a_ (Kd.D7 (ok' := fun k_ => some k_ ≠ (.slice b0I b1b.length b0J : Value).ownBlock ∧ some k_ ≠ (.slice b1c b1P.length b1d : Value).ownBlock ∧ some k_ ≠ (.slice a8P b42.length a8Q : Value).ownBlock) ho0 (fun k_ hk_ => ⟨Or.elim hk_ (fun hs_ => fun e_ => (((a3R.out).1 k_ e_.symm).2) hs_) (fun hn_ => (Kd.fresh' (Kd.a0m a3R.out) k_ hn_)), Or.elim hk_ (fun hs_ => fun e_ => (((a5J.out).1 k_ e_.symm).2) hs_) (fun hn_ => (Kd.fresh' (Kd.a0m a5J.out) k_ hn_)), Or.elim hk_ (fun hs_ => fun e_ => (((a7Y.out).1 k_ e_.symm).2) hs_) (fun hn_ => (Kd.fresh' (Kd.a0m a7Y.out) k_ hn_))⟩)); replace a1d := a_ (b4k a1d.out hkp (fun hs_ => (fun e_ => (Kd.a8b b8D.out a1d.out (by decide)) e_) hs_)); replace a3R := a_ (Kd.D7 (ok' := fun k_ => some k_ ≠ (.slice b1c b1P.length b1d : Value).ownBlock ∧ some k_ ≠ (.slice a8P b42.length a8Q : Value).ownBlock ∧ some k_ ≠ (e7q : Value).ownBlock) (Kd.b2i (a3R.out) hkp (fun k_ hk_ hs_ => (hk_.2) hs_)) (fun k_ hk_ => ⟨hk_.1.1.1, hk_.1.1.2, fun e_ => Or.elim (ho0.1 k_ e_.symm) (fun hs_ => hk_.2.1 hs_) (fun hn_ => Nat.not_le.2 hk_.2.2 hn_)⟩)); replace a5J := a_ (Kd.D7 (ok' := fun k_ => some k_ ≠ (.slice b0I b1b.length b0J : Value).ownBlock ∧ some k_ ≠ (.slice a8P b42.length a8Q : Value).ownBlock ∧ some k_ ≠ (e7q : Value).ownBlock) (Kd.b2i (a5J.out) hkp (fun k_ hk_ hs_ => (hk_.2) hs_)) (fun k_ hk_ => ⟨hk_.1.1.1, hk_.1.1.2, fun e_ => Or.elim (ho0.1 k_ e_.symm) (fun hs_ => hk_.2.1 hs_) (fun hn_ => Nat.not_le.2 hk_.2.2 hn_)⟩)); replace a7Y := a_ (Kd.D7 (ok' := fun k_ => some k_ ≠ (.slice b0I b1b.length b0J : Value).ownBlock ∧ some k_ ≠ (.slice b1c b1P.length b1d : Value).ownBlock ∧ some k_ ≠ (e7q : Value).ownBlock) (Kd.b2i (a7Y.out) hkp (fun k_ hk_ hs_ => (hk_.2) hs_)) (fun k_ hk_ => ⟨hk_.1.1.1, hk_.1.1.2, fun e_ => Or.elim (ho0.1 k_ e_.symm) (fun hs_ => hk_.2.1 hs_) (fun hn_ => Nat.not_le.2 hk_.2.2 hn_)⟩)); replace HB := a_ hb; clear b8D
   (try clear hb)
   (try clear hkp)
   (try clear ho0)
   obtain ⟨e7r, e7s, g2F⟩ := Kd.G7 d0q.out; subst g2F; refine hK.out _ _ ⟨bc0 a1d, bc1 a1d, bc2 a1d, bc3 a1d⟩ (fun hHeld => ?_); clear hK K; refine nm_ (some 29) ?_; refine a6e (i := 10) (N := some 34) (bo_ 12 2047) rfl rfl (a1I Z8.out (by kernel_rfl)) (by decide) (fun K hK => ?_); refine a5g Tryd.func38 (by kernel_rfl) rfl #[.slice e7r c66.length e7s, .int .u32 a4D, .bool V4] (by rfl) rfl rfl (by (try simp only [List.map_toArray, List.map_cons, List.map_nil]); (rfl)) ?_
   with_reducible refine (a0B.calls kj1 (fun k_ => some k_ = (.slice e7r c66.length e7s : Value).ownBlock) (.slice e7r c66.length e7s) c66 a4D V4 e7n w _ ?P5 ?P6 A13.out).mono ?_
   (case P5 => exact HB.out)
   (case P6 => exact Kd.a3r rfl d0q.out)
   rintro e w32 ⟨e7t, rfl, ho0, hb, hkp⟩; refine ⟨_, rfl, ?_⟩; have f3d := a_ (Kd.D7 (ok' := fun k_ => some k_ ≠ (.slice b0I b1b.length b0J : Value).ownBlock ∧ some k_ ≠ (.slice b1c b1P.length b1d : Value).ownBlock ∧ some k_ ≠ (.slice a8P b42.length a8Q : Value).ownBlock) ho0 (fun k_ hk_ => ⟨Or.elim hk_ (fun hs_ => fun e_ => (((a3R.out).1 k_ e_.symm).2.2) hs_) (fun hn_ => (Kd.fresh' (Kd.a0m a3R.out) k_ hn_)), Or.elim hk_ (fun hs_ => fun e_ => (((a5J.out).1 k_ e_.symm).2.2) hs_) (fun hn_ => (Kd.fresh' (Kd.a0m a5J.out) k_ hn_)), Or.elim hk_ (fun hs_ => fun e_ => (((a7Y.out).1 k_ e_.symm).2.2) hs_) (fun hn_ => (Kd.fresh' (Kd.a0m a7Y.out) k_ hn_))⟩)); replace a1d := a_ (b4k a1d.out hkp (fun hs_ => (fun e_ => (Kd.a8b d0q.out a1d.out (by decide)) e_) hs_)); replace a3R := a_ (Kd.D7 (ok' := fun k_ => some k_ ≠ (.slice b1c b1P.length b1d : Value).ownBlock ∧ some k_ ≠ (.slice a8P b42.length a8Q : Value).ownBlock ∧ some k_ ≠ (e7t : Value).ownBlock) (Kd.b2i (a3R.out) hkp (fun k_ hk_ hs_ => (hk_.2.2) hs_)) (fun k_ hk_ => ⟨hk_.1.1, hk_.1.2.1, fun e_ => Or.elim (ho0.1 k_ e_.symm) (fun hs_ => hk_.2.1 hs_) (fun hn_ => Nat.not_le.2 hk_.2.2 hn_)⟩)); replace a5J := a_ (Kd.D7 (ok' := fun k_ => some k_ ≠ (.slice b0I b1b.length b0J : Value).ownBlock ∧ some k_ ≠ (.slice a8P b42.length a8Q : Value).ownBlock ∧ some k_ ≠ (e7t : Value).ownBlock) (Kd.b2i (a5J.out) hkp (fun k_ hk_ hs_ => (hk_.2.2) hs_)) (fun k_ hk_ => ⟨hk_.1.1, hk_.1.2.1, fun e_ => Or.elim (ho0.1 k_ e_.symm) (fun hs_ => hk_.2.1 hs_) (fun hn_ => Nat.not_le.2 hk_.2.2 hn_)⟩)); replace a7Y := a_ (Kd.D7 (ok' := fun k_ => some k_ ≠ (.slice b0I b1b.length b0J : Value).ownBlock ∧ some k_ ≠ (.slice b1c b1P.length b1d : Value).ownBlock ∧ some k_ ≠ (e7t : Value).ownBlock) (Kd.b2i (a7Y.out) hkp (fun k_ hk_ hs_ => (hk_.2.2) hs_)) (fun k_ hk_ => ⟨hk_.1.1, hk_.1.2.1, fun e_ => Or.elim (ho0.1 k_ e_.symm) (fun hs_ => hk_.2.1 hs_) (fun hn_ => Nat.not_le.2 hk_.2.2 hn_)⟩)); replace HB := a_ hb; clear d0q
   (try clear hb)
   (try clear hkp)
   (try clear ho0)
   refine hK.out _ _ ⟨bc0 a1d, bc1 a1d, bc2 a1d, bc3 a1d⟩ (fun hHeld => ?_); clear hK K; refine nm_ (some 34) ?_; refine pu_ 11 (some 2) Z8 ?_; refine a4y (a5v Z8.out (by kernel_rfl)) ?_
   try go_wp2
   go_ret
   exact ⟨_, by (rfl), by exact Kd.D7 f3d.out (fun _ hk => trivial), by exact HB.out⟩

end Go.Proofs.YtgnonglkibhnhaaDoor.Print
