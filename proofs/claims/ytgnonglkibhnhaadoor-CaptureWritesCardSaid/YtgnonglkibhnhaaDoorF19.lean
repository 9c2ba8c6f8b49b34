import Derived.Test.YtgnonglkibhnhaaDoorF37
namespace Go.Proofs.YtgnonglkibhnhaaDoor.Print
open Go.RowKit Go.Proofs.YtgnonglkibhnhaaDoorW.PrintWords Go.Proofs.YtgnonglkibhnhaaDoorW.PrintLast Go.Proofs.YtgnonglkibhnhaaDoorW.PrintMore
attribute [local go_sem] a0d a0e a0V a0W X5 X6 a0f a0g
set_option linter.unusedVariables false
set_option linter.unusedSimpArgs false

/-! ### umpireref09_Put: function 19 -/
def umpireref09_Put.l0 : Nat → List (S51) → List Int → Int → Bool → Bool → Int → Int → Option (List Int × Int)
 | 0, _, _, _, _, _, _, _ => none
 | k + 1, x1, x6, x7, b3m, d9w, d9x, d9y => if x7 < (x1.length : Int) then (if 0 ≤ x7 then (if (((H9 x1 x7).f3).length : Int) > 131072 then (some (([] : List Int), 4)) else ((N9.f k x6 ((H9 x1 x7).f0) b3m).bind fun c4F => ((N9.f k c4F ((H9 x1 x7).f1) b3m).bind fun c4G => ((N9.f k c4G (((((H9 x1 x7).f3).length : Int)) % 4294967296) b3m).bind fun c4H => ((N9.f k c4H ((H9 x1 x7).f2) b3m).bind fun c9R => (if c9R.length + ((H9 x1 x7).f3).length < 140737488355328 then (umpireref09_Put.l0 k x1 (c9R ++ ((H9 x1 x7).f3)) (wrap64 (x7 + 1)) b3m d9w d9x d9y) else (none))))))) else (none)) else (some (x6, 0))
def umpireref09_Put.f (k : Nat) (G8 : Bool) (O9 : Bool) (a2f : Int) (a2g : Int) (l1 : List (S51)) : Option (List Int × Int) := (umpireref09_Header.f k G8 O9 a2f a2g).bind fun d9z => (umpireref09_Put.l0 k l1 d9z 0 G8 O9 a2f a2g)
def umpireref09_Put.T7 : Bool × List (List Nat × List Nat) := (true, [([], []), ([], []), ([], []), ([1, 2], [1, 2]), ([3], [3]), ([4], [4]), ([], []), ([6], [6]), ([0, 5, 7], [0, 5, 7]), ([], []), ([], []), ([9, 10], [9, 10]), ([11], [11]), ([12], [12]), ([], []), ([14], [14]), ([8, 13, 15, 8], [8, 13, 15]), ([16, 16, 0, 1, 2, 3, 4, 5, 6, 7, 8, 9, 10, 11, 12, 13, 14, 15, 16], [0, 16])])
def umpireref09_Put.B7 : List Nat := [0, 0, 0, 6, 14, 30, 0, 64, 255, 0, 0, 1536, 3584, 7680, 0, 16384, 65535, 131071]
theorem umpireref09_Put.d7d : a2l .any (opsOf Tryd.f19 7) = umpireref09_Put.T7 := by kernel_rfl
theorem umpireref09_Put.c5E : a1R umpireref09_Put.T7.2 umpireref09_Put.B7 = true := by kernel_rfl
def umpireref09_Put.T8 : Bool × List (List Nat × List Nat) := (true, [([], []), ([], []), ([], []), ([1, 2], [1, 2]), ([3], [3]), ([4], [4]), ([5], [5]), ([6], [6]), ([], []), ([8], [8]), ([0, 7, 9], [0, 7, 9]), ([], []), ([], []), ([11, 12], [11, 12]), ([13], [13]), ([14], [14]), ([], []), ([16], [16]), ([10, 15, 17, 10], [10, 15, 17]), ([18, 18, 0, 1, 2, 3, 4, 5, 6, 7, 8, 9, 10, 11, 12, 13, 14, 15, 16, 17, 18], [0, 18])])
def umpireref09_Put.B8 : List Nat := [0, 0, 0, 6, 14, 30, 62, 126, 0, 256, 1023, 0, 0, 6144, 14336, 30720, 0, 65536, 262143, 524287]
theorem umpireref09_Put.d5S : a2l .any (opsOf Tryd.f19 8) = umpireref09_Put.T8 := by kernel_rfl
theorem umpireref09_Put.c2w : a1R umpireref09_Put.T8.2 umpireref09_Put.B8 = true := by kernel_rfl
set_option maxHeartbeats 8000000 in
set_option maxRecDepth 100000 in
theorem umpireref09_Put.calls (k : Nat) (G8 : Bool) (O9 : Bool) (a2f : Int) (a2g : Int) (A1 : Option Addr) (c1 : Nat) (l1 : List (S51)) (r1 : List Int) (r2 : Int) (w : World) (hr1 : Kd.C k51 w A1 l1.length l1) (hc1 : l1.length ≤ c1) (h : umpireref09_Put.f k G8 O9 a2f a2g l1 = some (r1, r2)) :
  Calls Tryd.prog 19 #[.agg #[.bool G8, .bool O9, .int .u32 a2f, .int .u32 a2g], .slice A1 l1.length c1] w fun e w' => ∃ v0_ : Value, e = .returned (.tuple #[v0_, .int .i64 r2]) ∧ Kd.R (Kd.int .u8) 5 w' w.heap.size (fun _ => True) v0_ r1 ∧ Below w.heap.size w w' := by
 have c3q := Tryd.underlying46
 have HR1 := a_ hr1
 have HC1 := a_ hc1
 clear hr1 hc1
 have HB := a_ (Below.refl w.heap.size w)
 have H := h
 clear h
 unfold umpireref09_Put.f at H
 obtain ⟨d9z, A3, H⟩ := bd_ H
 try dsimp only at H
 have H' := a_ H
 clear H
 go_enter Tryd.func19, Tryd.ntmps19
 go_wp2_with (first | (refine be_ 2 #[.bool G8, .bool O9, .int .u32 a2f, .int .u32 a2g] 46 ?_; intro b3n hg w4 hbox hb; have a0n := a_ hbox; have g69 := lb_ HB hg; replace HB := Q8 HB hb; clear hb hbox hg; obtain ⟨b1x, b1y, b1z, c3K, b1A, b1B, b1C, c3M⟩ := blk4 a0n.out) | (refine gl_ (some 9) Tryd.func37 #[.agg #[.bool G8, .bool O9, .int .u32 a2f, .int .u32 a2g]] ?_; (with_reducible refine (umpireref09_Header.calls k G8 O9 a2f a2g d9z _ A3.out).mono ?_); rintro e w6 ⟨h0Z, rfl, ho0, hb⟩; refine ⟨_, rfl, ?_⟩; have f2F := rl_ ho0 HB; replace a0n := X8 a0n hb; replace HB := Q8 HB hb; (try clear hb); (try clear ho0)))
 go_loopg [6, 7] k (fun kq v6 v7 w' => ∃ (a0w : List Int) (P9 : Int), v7 = .int .i64 P9 ∧ Aside0 (umpireref09_Put.l0 kq l1 a0w P9 G8 O9 a2f a2g = some (r1, r2)) ∧ Aside0 (kq ≤ k) ∧ Aside0 (Kd.R (Kd.int .u8) 5 w' w.heap.size (fun _ => True) v6 a0w) ∧ Aside0 (w'.heap[b3n]? = some (.cells #[.bool G8, .bool O9, .int .u32 a2f, .int .u32 a2g] 46 (0, 0))) ∧ Aside0 (Below w.heap.size w w'))
 case atStart => exact ⟨(d9z), (0), (by rfl), H', ⟨Nat.le_refl _⟩, ⟨by exact f2F.out⟩, ⟨by exact a0n.out⟩, ⟨by exact HB.out⟩⟩
 case round =>
  clear H'
  try clear b1x
  try clear b1y
  try clear b1z
  try clear c3K
  try clear b1A
  try clear b1B
  try clear b1C
  try clear c3M
  obtain ⟨a0w, P9, rfl, HA, HK1, a1X, a0n, HB⟩ := hrel
  cases gk with
  | zero => exact absurd HA.out (by simp [umpireref09_Put.l0])
  | succ k1 =>
   have H := HA.out; clear HA
   simp only [umpireref09_Put.l0] at H
   by_cases c7 : P9 < (l1.length : Int)
   ·rw [if_pos c7] at H; have a5H := dt_ c7; clear c7; have a9G := a2Q H; replace H := O6 H
    by_cases c9 : (((H9 l1 P9).f3).length : Int) > 131072
    ·rw [if_pos c9] at H; have a6P : decide (131072 < (((H9 l1 P9).f3).length : Int)) = true := dt_ c9; have b1o : decide (131072 < ((H9 l1 P9).f3).length) = true := dt_ (by omega); clear c9; obtain ⟨rfl, rfl⟩ := s2_ H; have c4I : 0 ≤ (P9 : Int) := U9; have c4J : P9 < (l1.length : Int) := U9; obtain ⟨a19, e5P, e5Q, e5R, b3o, b3p, b3q, b3r, b3s, b3t⟩ := a7H HR1.out P9 c4I c4J
     cases e5R
     replace b3o := J9 HB b3o; replace b3p := J9 HB b3p; replace b3q := J9 HB b3q; replace b3r := J9 HB b3r; have d9A := a_ b3t; have d9B := a_ b3s; clear b3t b3s; replace c4I := eq_true c4I; replace c4J := eq_true c4J
     go_wp2
     go_ret2
     exact ⟨_, by (rfl), by (exact Kd.Y4 _ _ _ _ _), by exact HB.out⟩
    ·rw [if_neg c9] at H; have a6P : decide (131072 < (((H9 l1 P9).f3).length : Int)) = false := df_ c9; have b1o : decide (131072 < ((H9 l1 P9).f3).length) = false := df_ (by omega); clear c9; obtain ⟨c4F, A10, H⟩ := bd_ H
     (try dsimp only at H); obtain ⟨c4G, A11, H⟩ := bd_ H
     (try dsimp only at H); obtain ⟨c4H, A12, H⟩ := bd_ H
     (try dsimp only at H); obtain ⟨c9R, A13, H⟩ := bd_ H
     (try dsimp only at H); have c14 := X4 H; replace H := O6 H; have c2f := a_ c14; clear c14; obtain ⟨g3H, d5T⟩ := is_ ((c9R ++ ((H9 l1 P9).f3)) : List Int); rw [← d5T] at H; have f2G := a_ d5T; clear d5T; have H' := a_ H; clear H; have c4I : 0 ≤ (P9 : Int) := U9; have c4J : P9 < (l1.length : Int) := U9; obtain ⟨a19, e5P, e5Q, e5R, b3o, b3p, b3q, b3r, b3s, b3t⟩ := a7H HR1.out P9 c4I c4J
     cases e5R
     replace b3o := J9 HB b3o; replace b3p := J9 HB b3p; replace b3q := J9 HB b3q; replace b3r := J9 HB b3r; have d9A := a_ b3t; have d9B := a_ b3s; clear b3t b3s; replace c4I := eq_true c4I; replace c4J := eq_true c4J
     try go_wp2
     replace a1X := a_ (Kd.a8p a1X.out); replace a0n := a_ (P6 a0n.out); replace HB := a_ (Z8 HB.out); have e5S : 0 ≤ (P9 : Int) := U9; have e5T : P9 < (l1.length : Int) := U9; obtain ⟨f2H, d5U, d5V, g3I, b5I, b5J, b5K, b3u, c77, c78⟩ := a7H HR1.out P9 e5S e5T; have b91 := b3u; have b92 := b5K; have b93 := b5J; have b94 := b5I; obtain rfl : a19 = f2H := (by injection g3I); replace b5I := J9 HB b5I; replace b5J := J9 HB b5J; replace b5K := J9 HB b5K; replace b3u := J9 HB b3u; have d9C := a_ c78; have f7j := a_ c77; clear c78 c77; replace e5S := eq_true e5S; replace e5T := eq_true e5T; have e5U : 0 ≤ (P9 : Int) := U9; have e5V : P9 < (l1.length : Int) := U9; obtain ⟨f2I, g3J, g3K, g3L, b5L, b5M, b5N, b3v, c79, c8a⟩ := a7H HR1.out P9 e5U e5V; have b95 := b3v; have b96 := b5N; have b97 := b5M; have b98 := b5L; obtain rfl : a19 = f2I := (by injection g3L); replace b5L := J9 HB b5L; replace b5M := J9 HB b5M; replace b5N := J9 HB b5N; replace b3v := J9 HB b3v; have d9D := a_ c8a; have f7k := a_ c79; clear c8a c79; replace e5U := eq_true e5U; replace e5V := eq_true e5V; have ea_ := oj_ (b3u.symm.trans b3v); injection ea_ with ea_ en_ ec_
     subst ea_; subst ec_; clear en_; obtain ⟨e5W, d3i, e3F⟩ := Kd.H6 a1X.out; subst e3F; refine a2U (n := 18) (S := fun w' => w'.cell? ⟨b3n, 0, none⟩ = some (.bool G8) ∧ w'.cell? ⟨b3n, 1, none⟩ = some (.bool O9) ∧ w'.cell? ⟨b3n, 2, none⟩ = some (.int .u32 a2f) ∧ w'.cell? ⟨b3n, 3, none⟩ = some (.int .u32 a2g) ∧ w'.cell? (a19.add ((P9).toNat * 4)) = some (.int .u32 ((H9 l1 P9).f0)) ∧ w'.cell? ⟨(a19.add ((P9).toNat * 4)).block, (a19.add ((P9).toNat * 4)).off + 1, none⟩ = some (.int .u32 ((H9 l1 P9).f1)) ∧ w'.cell? ⟨(a19.add ((P9).toNat * 4)).block, (a19.add ((P9).toNat * 4)).off + 2, none⟩ = some (.int .u32 ((H9 l1 P9).f2)) ∧ w'.cell? ⟨(a19.add ((P9).toNat * 4)).block, (a19.add ((P9).toNat * 4)).off + 3, none⟩ = some (.slice d5U ((H9 l1 P9).f3).length d5V) ∧ w'.cell? (a19.add ((P9).toNat * 4)) = some (.int .u32 ((H9 l1 P9).f0)) ∧ w'.cell? ⟨(a19.add ((P9).toNat * 4)).block, (a19.add ((P9).toNat * 4)).off + 1, none⟩ = some (.int .u32 ((H9 l1 P9).f1)) ∧ w'.cell? ⟨(a19.add ((P9).toNat * 4)).block, (a19.add ((P9).toNat * 4)).off + 2, none⟩ = some (.int .u32 ((H9 l1 P9).f2)) ∧ w'.cell? ⟨(a19.add ((P9).toNat * 4)).block, (a19.add ((P9).toNat * 4)).off + 3, none⟩ = some (.slice d5U ((H9 l1 P9).f3).length d5V)) (ds := []) (bo_ 18 0) (by kernel_rfl) rfl rfl ⟨bc0 a0n, bc1 a0n, bc2 a0n, bc3 a0n, (J9 HB b94), (J9 HB b93), (J9 HB b92), (J9 HB b91), (J9 HB b98), (J9 HB b97), (J9 HB b96), (J9 HB b95)⟩ (fun hHeld => ?_); refine a1Z umpireref09_Put.d7d umpireref09_Put.c5E (fun U6 HW_ => ?_); generalize wr.drew = w15 at a1X a0n HB d9C d9D b5I b5J b5K b3u b5L b5M b5N b3v hHeld ⊢; refine pu_ 0 (some 23) U6 ?_; refine pu_ 1 (some 24) U6 ?_; refine pu_ 2 (some 25) U6 ?_; refine pu_ 3 (some 26) U6 ?_; refine pu_ 4 (some 27) U6 ?_; refine pu_ 6 (some 29) U6 ?_; refine pu_ 9 (some 32) U6 ?_; refine pu_ 10 (some 33) U6 ?_; refine pu_ 11 (some 34) U6 ?_; refine pu_ 12 (some 35) U6 ?_; refine pu_ 14 (some 37) U6 ?_; refine a0Y (i := 5) (N := some 28) (v := ?_) (a' := ?_) (bo_ 18 24191) rfl rfl (Y9 U6.out HW_.out (by kernel_rfl)) (fun _ _ _ h => h) (Or.inl ⟨by rfl, ?_⟩) hHeld ?_ ?_
     rotate_left
     ·rintro w' ⟨s0, s1, s2, s3, s4, s5, s6, s7, s8, s9, s10, s11⟩
      go_simp
      with_reducible rfl
     rotate_left
     ·simp only [Act.put, List.setIfInBounds_toArray, List.set_cons_zero, List.set_cons_succ, a0D, a1b]
      rfl
     refine a0Y (i := 7) (N := some 30) (v := ?_) (a' := ?_) (bo_ 18 24319) rfl rfl (Y9 U6.out HW_.out (by kernel_rfl)) (fun _ _ _ h => h) (Or.inl ⟨by rfl, ?_⟩) hHeld ?_ ?_
     rotate_left
     ·rintro w' ⟨s0, s1, s2, s3, s4, s5, s6, s7, s8, s9, s10, s11⟩
      go_simp
      with_reducible rfl
     rotate_left
     ·simp only [Act.put, List.setIfInBounds_toArray, List.set_cons_zero, List.set_cons_succ, a0D, a1b]
      rfl
     refine a0Y (i := 13) (N := some 36) (v := ?_) (a' := ?_) (bo_ 18 32511) rfl rfl (Y9 U6.out HW_.out (by kernel_rfl)) (fun _ _ _ h => h) (Or.inl ⟨by rfl, ?_⟩) hHeld ?_ ?_
     rotate_left
     ·rintro w' ⟨s0, s1, s2, s3, s4, s5, s6, s7, s8, s9, s10, s11⟩
      go_simp
      with_reducible rfl
     rotate_left
     ·simp only [Act.put, List.setIfInBounds_toArray, List.set_cons_zero, List.set_cons_succ, a0D, a1b]
      rfl
     refine a0Y (i := 15) (N := some 38) (v := ?_) (a' := ?_) (bo_ 18 65279) rfl rfl (Y9 U6.out HW_.out (by kernel_rfl)) (fun _ _ _ h => h) (Or.inl ⟨by rfl, ?_⟩) hHeld ?_ ?_
     rotate_left
     ·rintro w' ⟨s0, s1, s2, s3, s4, s5, s6, s7, s8, s9, s10, s11⟩
      go_simp
      with_reducible rfl
     rotate_left
     ·simp only [Act.put, List.setIfInBounds_toArray, List.set_cons_zero, List.set_cons_succ, a0D, a1b]
      rfl
     refine a4p (i := 8) (N := some 31) (bo_ 18 65535) rfl rfl (a1l U6.out (by kernel_rfl)) (by decide) (fun K hK => ?_); refine a3c Tryd.func38 (by kernel_rfl) rfl #[.slice e5W a0w.length d3i, .int .u32 ((H9 l1 P9).f0), .bool G8] (by rfl) rfl rfl (by (try simp only [List.map_toArray, List.map_cons, List.map_nil]); (rfl)) ?_
     with_reducible refine (N9.calls k1 (fun k_ => some k_ = (.slice e5W a0w.length d3i : Value).ownBlock) (.slice e5W a0w.length d3i) a0w ((H9 l1 P9).f0) G8 c4F w _ ?U1 ?U2 A10.out).mono ?_
     (case U1 => exact HB.out)
     (case U2 => exact Kd.a2m rfl a1X.out)
     rintro e w17 ⟨h08, rfl, ho0, hb, hkp⟩; refine ⟨_, rfl, ?_⟩; have c8b := a_ (Kd.y9 (ok' := fun k_ => True) ho0 (fun k_ hk_ => trivial)); replace a0n := a_ (a5T a0n.out hkp (fun hs_ => (fun e_ => (Kd.a3L a1X.out a0n.out (by decide)) e_) hs_)); replace HB := a_ hb; clear a1X
     (try clear hb)
     (try clear hkp)
     (try clear ho0)
     obtain ⟨b35, b36, d2K⟩ := Kd.H6 c8b.out; subst d2K; refine hK.out _ _ ⟨bc0 a0n, bc1 a0n, bc2 a0n, bc3 a0n, (J9 HB b94), (J9 HB b93), (J9 HB b92), (J9 HB b91), (J9 HB b98), (J9 HB b97), (J9 HB b96), (J9 HB b95)⟩ (fun hHeld => ?_); clear hK K; refine nm_ (some 31) ?_; refine a4p (i := 16) (N := some 39) (bo_ 18 131071) rfl rfl (a1l U6.out (by kernel_rfl)) (by decide) (fun K hK => ?_); refine a3c Tryd.func38 (by kernel_rfl) rfl #[.slice b35 c4F.length b36, .int .u32 ((H9 l1 P9).f1), .bool G8] (by rfl) rfl rfl (by (try simp only [List.map_toArray, List.map_cons, List.map_nil]); (rfl)) ?_
     with_reducible refine (N9.calls k1 (fun k_ => some k_ = (.slice b35 c4F.length b36 : Value).ownBlock) (.slice b35 c4F.length b36) c4F ((H9 l1 P9).f1) G8 c4G w _ ?U1 ?U2 A11.out).mono ?_
     (case U1 => exact HB.out)
     (case U2 => exact Kd.a2m rfl c8b.out)
     rintro e w19 ⟨h1e, rfl, ho0, hb, hkp⟩; refine ⟨_, rfl, ?_⟩; have b7o := a_ (Kd.y9 (ok' := fun k_ => True) ho0 (fun k_ hk_ => trivial)); replace a0n := a_ (a5T a0n.out hkp (fun hs_ => (fun e_ => (Kd.a3L c8b.out a0n.out (by decide)) e_) hs_)); replace HB := a_ hb; clear c8b
     (try clear hb)
     (try clear hkp)
     (try clear ho0)
     refine hK.out _ _ ⟨bc0 a0n, bc1 a0n, bc2 a0n, bc3 a0n, (J9 HB b94), (J9 HB b93), (J9 HB b92), (J9 HB b91), (J9 HB b98), (J9 HB b97), (J9 HB b96), (J9 HB b95)⟩ (fun hHeld => ?_); clear hK K; refine nm_ (some 39) ?_; refine pu_ 17 (some 6) U6 ?_; refine a4J (a4b U6.out (by kernel_rfl)) ?_
     try go_wp2
     replace b7o := a_ (Kd.a8p b7o.out); replace a0n := a_ (P6 a0n.out); replace HB := a_ (Z8 HB.out); have e5X : 0 ≤ (P9 : Int) := U9; have e5Y : P9 < (l1.length : Int) := U9; obtain ⟨f2J, d5W, d5X, g3M, b5O, b5P, b5Q, b3w, c8c, c8d⟩ := a7H HR1.out P9 e5X e5Y; have b99 := b3w; have c0c := b5Q; have c0d := b5P; have c0e := b5O; obtain rfl : a19 = f2J := (by injection g3M); replace b5O := J9 HB b5O; replace b5P := J9 HB b5P; replace b5Q := J9 HB b5Q; replace b3w := J9 HB b3w; have d9E := a_ c8d; have f7l := a_ c8c; clear c8d c8c; replace e5X := eq_true e5X; replace e5Y := eq_true e5Y; have e5Z : 0 ≤ (P9 : Int) := U9; have e6a : P9 < (l1.length : Int) := U9; obtain ⟨f2K, g3N, g3O, g3P, b5R, b5S, b5T, b3x, c8e, c8f⟩ := a7H HR1.out P9 e5Z e6a; have c0f := b3x; have c0g := b5T; have c0h := b5S; have c0i := b5R; obtain rfl : a19 = f2K := (by injection g3P); replace b5R := J9 HB b5R; replace b5S := J9 HB b5S; replace b5T := J9 HB b5T; replace b3x := J9 HB b3x; have c8g := a_ c8f; have f7m := a_ c8e; clear c8f c8e; replace e5Z := eq_true e5Z; replace e6a := eq_true e6a; have ea_ := oj_ (b3w.symm.trans b3x); injection ea_ with ea_ en_ ec_
     subst ea_; subst ec_; clear en_; obtain ⟨b33, b34, c3B⟩ := Kd.H6 b7o.out; subst c3B; refine a2U (n := 20) (S := fun w' => w'.cell? ⟨b3n, 0, none⟩ = some (.bool G8) ∧ w'.cell? ⟨b3n, 1, none⟩ = some (.bool O9) ∧ w'.cell? ⟨b3n, 2, none⟩ = some (.int .u32 a2f) ∧ w'.cell? ⟨b3n, 3, none⟩ = some (.int .u32 a2g) ∧ w'.cell? (a19.add ((P9).toNat * 4)) = some (.int .u32 ((H9 l1 P9).f0)) ∧ w'.cell? ⟨(a19.add ((P9).toNat * 4)).block, (a19.add ((P9).toNat * 4)).off + 1, none⟩ = some (.int .u32 ((H9 l1 P9).f1)) ∧ w'.cell? ⟨(a19.add ((P9).toNat * 4)).block, (a19.add ((P9).toNat * 4)).off + 2, none⟩ = some (.int .u32 ((H9 l1 P9).f2)) ∧ w'.cell? ⟨(a19.add ((P9).toNat * 4)).block, (a19.add ((P9).toNat * 4)).off + 3, none⟩ = some (.slice d5W ((H9 l1 P9).f3).length d5X) ∧ w'.cell? (a19.add ((P9).toNat * 4)) = some (.int .u32 ((H9 l1 P9).f0)) ∧ w'.cell? ⟨(a19.add ((P9).toNat * 4)).block, (a19.add ((P9).toNat * 4)).off + 1, none⟩ = some (.int .u32 ((H9 l1 P9).f1)) ∧ w'.cell? ⟨(a19.add ((P9).toNat * 4)).block, (a19.add ((P9).toNat * 4)).off + 2, none⟩ = some (.int .u32 ((H9 l1 P9).f2)) ∧ w'.cell? ⟨(a19.add ((P9).toNat * 4)).block, (a19.add ((P9).toNat * 4)).off + 3, none⟩ = some (.slice d5W ((H9 l1 P9).f3).length d5X)) (ds := []) (bo_ 20 0) (by kernel_rfl) rfl rfl ⟨bc0 a0n, bc1 a0n, bc2 a0n, bc3 a0n, (J9 HB c0e), (J9 HB c0d), (J9 HB c0c), (J9 HB b99), (J9 HB c0i), (J9 HB c0h), (J9 HB c0g), (J9 HB c0f)⟩ (fun hHeld => ?_); refine a1Z umpireref09_Put.d5S umpireref09_Put.c2w (fun U6 HW_ => ?_); generalize w19.drew = w20 at b7o a0n HB d9E c8g b5O b5P b5Q b3w b5R b5S b5T b3x hHeld ⊢; refine pu_ 0 (some 40) U6 ?_; refine pu_ 1 (some 41) U6 ?_; refine pu_ 2 (some 42) U6 ?_; refine pu_ 3 (some 43) U6 ?_; refine pu_ 4 (some 44) U6 ?_; refine pu_ 8 (some 48) U6 ?_; refine pu_ 11 (some 51) U6 ?_; refine pu_ 12 (some 52) U6 ?_; refine pu_ 13 (some 53) U6 ?_; refine pu_ 14 (some 54) U6 ?_; refine pu_ 16 (some 56) U6 ?_; refine a0Y (i := 5) (N := some 45) (v := ?_) (a' := ?_) (bo_ 20 96575) rfl rfl (Y9 U6.out HW_.out (by kernel_rfl)) (fun _ _ _ h => h) (Or.inl ⟨by rfl, ?_⟩) hHeld ?_ ?_
     rotate_left
     ·rintro w' ⟨s0, s1, s2, s3, s4, s5, s6, s7, s8, s9, s10, s11⟩
      go_simp
      with_reducible rfl
     rotate_left
     ·simp only [Act.put, List.setIfInBounds_toArray, List.set_cons_zero, List.set_cons_succ, a0D, a1b]
      rfl
     refine pu_ 6 (some 46) U6 ?_; refine pu_ 7 (some 47) U6 ?_; refine a0Y (i := 9) (N := some 49) (v := ?_) (a' := ?_) (bo_ 20 97279) rfl rfl (Y9 U6.out HW_.out (by kernel_rfl)) (fun _ _ _ h => h) (Or.inl ⟨by rfl, ?_⟩) hHeld ?_ ?_
     rotate_left
     ·rintro w' ⟨s0, s1, s2, s3, s4, s5, s6, s7, s8, s9, s10, s11⟩
      go_simp
      with_reducible rfl
     rotate_left
     ·simp only [Act.put, List.setIfInBounds_toArray, List.set_cons_zero, List.set_cons_succ, a0D, a1b]
      rfl
     refine a0Y (i := 15) (N := some 55) (v := ?_) (a' := ?_) (bo_ 20 130047) rfl rfl (Y9 U6.out HW_.out (by kernel_rfl)) (fun _ _ _ h => h) (Or.inl ⟨by rfl, ?_⟩) hHeld ?_ ?_
     rotate_left
     ·rintro w' ⟨s0, s1, s2, s3, s4, s5, s6, s7, s8, s9, s10, s11⟩
      go_simp
      with_reducible rfl
     rotate_left
     ·simp only [Act.put, List.setIfInBounds_toArray, List.set_cons_zero, List.set_cons_succ, a0D, a1b]
      rfl
     refine a0Y (i := 17) (N := some 57) (v := ?_) (a' := ?_) (bo_ 20 261119) rfl rfl (Y9 U6.out HW_.out (by kernel_rfl)) (fun _ _ _ h => h) (Or.inl ⟨by rfl, ?_⟩) hHeld ?_ ?_
     rotate_left
     ·rintro w' ⟨s0, s1, s2, s3, s4, s5, s6, s7, s8, s9, s10, s11⟩
      go_simp
      with_reducible rfl
     rotate_left
     ·simp only [Act.put, List.setIfInBounds_toArray, List.set_cons_zero, List.set_cons_succ, a0D, a1b]
      rfl
     refine a4p (i := 10) (N := some 50) (bo_ 20 262143) rfl rfl (a1l U6.out (by kernel_rfl)) (by decide) (fun K hK => ?_); refine a3c Tryd.func38 (by kernel_rfl) rfl #[.slice b33 c4G.length b34, .int .u32 (((((H9 l1 P9).f3).length : Int)) % 4294967296), .bool G8] (by rfl) rfl rfl (by (try simp only [List.map_toArray, List.map_cons, List.map_nil]); (rfl)) ?_
     with_reducible refine (N9.calls k1 (fun k_ => some k_ = (.slice b33 c4G.length b34 : Value).ownBlock) (.slice b33 c4G.length b34) c4G (((((H9 l1 P9).f3).length : Int)) % 4294967296) G8 c4H w _ ?U1 ?U2 A12.out).mono ?_
     (case U1 => exact HB.out)
     (case U2 => exact Kd.a2m rfl b7o.out)
     rintro e w22 ⟨h1g, rfl, ho0, hb, hkp⟩; refine ⟨_, rfl, ?_⟩; have c8h := a_ (Kd.y9 (ok' := fun k_ => True) ho0 (fun k_ hk_ => trivial)); replace a0n := a_ (a5T a0n.out hkp (fun hs_ => (fun e_ => (Kd.a3L b7o.out a0n.out (by decide)) e_) hs_)); replace HB := a_ hb; clear b7o
     (try clear hb)
     (try clear hkp)
     (try clear ho0)
     obtain ⟨a5g, a5h, b9e⟩ := Kd.H6 c8h.out; subst b9e; refine hK.out _ _ ⟨bc0 a0n, bc1 a0n, bc2 a0n, bc3 a0n, (J9 HB c0e), (J9 HB c0d), (J9 HB c0c), (J9 HB b99), (J9 HB c0i), (J9 HB c0h), (J9 HB c0g), (J9 HB c0f)⟩ (fun hHeld => ?_); clear hK K; refine nm_ (some 50) ?_; refine a4p (i := 18) (N := some 58) (bo_ 20 524287) rfl rfl (a1l U6.out (by kernel_rfl)) (by decide) (fun K hK => ?_); refine a3c Tryd.func38 (by kernel_rfl) rfl #[.slice a5g c4H.length a5h, .int .u32 ((H9 l1 P9).f2), .bool G8] (by rfl) rfl rfl (by (try simp only [List.map_toArray, List.map_cons, List.map_nil]); (rfl)) ?_
     with_reducible refine (N9.calls k1 (fun k_ => some k_ = (.slice a5g c4H.length a5h : Value).ownBlock) (.slice a5g c4H.length a5h) c4H ((H9 l1 P9).f2) G8 c9R w _ ?U1 ?U2 A13.out).mono ?_
     (case U1 => exact HB.out)
     (case U2 => exact Kd.a2m rfl c8h.out)
     rintro e w24 ⟨g3Q, rfl, ho0, hb, hkp⟩; refine ⟨_, rfl, ?_⟩; have d5Y := a_ (Kd.y9 (ok' := fun k_ => True) ho0 (fun k_ hk_ => trivial)); replace a0n := a_ (a5T a0n.out hkp (fun hs_ => (fun e_ => (Kd.a3L c8h.out a0n.out (by decide)) e_) hs_)); replace HB := a_ hb; clear c8h
     (try clear hb)
     (try clear hkp)
     (try clear ho0)
     refine hK.out _ _ ⟨bc0 a0n, bc1 a0n, bc2 a0n, bc3 a0n, (J9 HB c0e), (J9 HB c0d), (J9 HB c0c), (J9 HB b99), (J9 HB c0i), (J9 HB c0h), (J9 HB c0g), (J9 HB c0f)⟩ (fun hHeld => ?_); clear hK K; refine nm_ (some 58) ?_; refine pu_ 19 (some 6) U6 ?_; refine a4J (a4b U6.out (by kernel_rfl)) ?_; have e6b : 0 ≤ (P9 : Int) := U9; have e6c : P9 < (l1.length : Int) := U9; obtain ⟨f2L, g3R, g3S, g3T, c8i, c8j, c8k, c8l, c8m, c8n⟩ := a7H HR1.out P9 e6b e6c; obtain rfl : a19 = f2L := (by injection g3T); replace c8i := J9 HB c8i; replace c8j := J9 HB c8j; replace c8k := J9 HB c8k; replace c8l := J9 HB c8l; have f7n := a_ c8n; have f7o := a_ c8m; clear c8n c8m; replace e6b := eq_true e6b; replace e6c := eq_true e6c
     try go_wp2_with (first | ((with_reducible refine D6 (b := .append) (xs := #[.tmp 59, .tmp 64]) rfl ?_); at_builtin; refine Kd.G9 (Kd.int .u8) (w0 := w) w.heap.size rfl (.tmp 59) (.tmp 64) 22 5 (.int .u8 0) 1 rfl Tryd.underlying22 info5 rfl (by decide) (by omega) g3Q c9R ((H9 l1 P9).f3) _ _ _ (fun _ => True) (fun _ => False) rfl rfl ?aO ?aR (fun _ _ h => h) (fun _ h => h.elim) ?aF ?aB ?aS ?aL ?_; (case aR => exact (Kd.E8 c8g.out HB.out)); (case aB => exact HB.out); (case aF => exact (fun _ _ => trivial)); (case aO => exact d5Y.out); (case aS => exact (o9 HB.out)); (case aL => have := c2f.out; omega); intro h1h w25 ho hb hg hat; rw [← f2G.out] at ho; have f2M := a_ ho; replace a0n := a_ (L9 a0n.out hg (Kd.a3L d5Y.out a0n.out (by decide))); replace HB := a_ hb; clear d5Y ho hb hg hat))
     go_roundg k1
     case measure => have := HK1.out; omega
     case rel => exact ⟨(g3H), (wrap64 (P9 + 1)), (by rfl), H', ⟨by have := HK1.out; omega⟩, ⟨by exact f2M.out⟩, ⟨by exact a0n.out⟩, ⟨by exact HB.out⟩⟩
   ·rw [if_neg c7] at H; have a5H := df_ c7; clear c7; obtain ⟨rfl, rfl⟩ := s2_ H
    go_wp2
    go_ret2
    exact ⟨_, by (rfl), by exact a1X.out, by exact HB.out⟩

end Go.Proofs.YtgnonglkibhnhaaDoor.Print
