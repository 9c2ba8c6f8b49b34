import Derived.Test.YtgnonglkibhnhaaDoorZ
import Derived.Test.YtgnonglkibhnhaaDoorF37
import Derived.Test.YtgnonglkibhnhaaDoorM4
namespace Go.Proofs.YtgnonglkibhnhaaDoor.Print
open Go.RowKit Go.Proofs.YtgnonglkibhnhaaDoorW.PrintWords Go.Proofs.YtgnonglkibhnhaaDoorW.PrintLast Go.Proofs.YtgnonglkibhnhaaDoorW.PrintMore
attribute [local go_sem] a0u a0v a1m a1n Y7 Y8 a0w a0x
set_option linter.unusedVariables false
set_option linter.unusedSimpArgs false

/-! ### umpireref09_Put: function 19 -/
def umpireref09_Put.l0 : Nat → List (S51) → List Int → Int → Bool → Bool → Int → Int → Option (List Int × Int)
 | 0, _, _, _, _, _, _, _ => none
 | k + 1, x1, x6, x7, b4N, e2C, e2D, e2E => if x7 < (x1.length : Int) then (if 0 ≤ x7 then (if (((y9 x1 x7).f3).length : Int) > 131072 then (some (([] : List Int), 4)) else ((O7.f k x6 ((y9 x1 x7).f0) b4N).bind fun c7S => ((O7.f k c7S ((y9 x1 x7).f1) b4N).bind fun c7T => ((O7.f k c7T (((((y9 x1 x7).f3).length : Int)) % 4294967296) b4N).bind fun c7U => ((O7.f k c7U ((y9 x1 x7).f2) b4N).bind fun d2k => (if d2k.length + ((y9 x1 x7).f3).length < 140737488355328 then (umpireref09_Put.l0 k x1 (d2k ++ ((y9 x1 x7).f3)) (wrap64 (x7 + 1)) b4N e2C e2D e2E) else (none))))))) else (none)) else (some (x6, 0))
def umpireref09_Put.f (k : Nat) (N7 : Bool) (a0b : Bool) (a2p : Int) (a2q : Int) (l1 : List (S51)) : Option (List Int × Int) := (umpireref09_Header.f k N7 a0b a2p a2q).bind fun e2F => (umpireref09_Put.l0 k l1 e2F 0 N7 a0b a2p a2q)
def umpireref09_Put.T7 : Bool × List (List Nat × List Nat) := (true, [([], []), ([], []), ([], []), ([1, 2], [1, 2]), ([3], [3]), ([4], [4]), ([], []), ([6], [6]), ([0, 5, 7], [0, 5, 7]), ([], []), ([], []), ([9, 10], [9, 10]), ([11], [11]), ([12], [12]), ([], []), ([14], [14]), ([8, 13, 15, 8], [8, 13, 15]), ([16, 16, 0, 1, 2, 3, 4, 5, 6, 7, 8, 9, 10, 11, 12, 13, 14, 15, 16], [0, 16])])
def umpireref09_Put.B7 : List Nat := [0, 0, 0, 6, 14, 30, 0, 64, 255, 0, 0, 1536, 3584, 7680, 0, 16384, 65535, 131071]
theorem umpireref09_Put.c65 : a2N .any (opsOf Tryd.f19 7) = umpireref09_Put.T7 := by kernel_rfl
theorem umpireref09_Put.b8K : a2t umpireref09_Put.T7.2 umpireref09_Put.B7 = true := by kernel_rfl
def umpireref09_Put.T8 : Bool × List (List Nat × List Nat) := (true, [([], []), ([], []), ([], []), ([1, 2], [1, 2]), ([3], [3]), ([4], [4]), ([5], [5]), ([6], [6]), ([], []), ([8], [8]), ([0, 7, 9], [0, 7, 9]), ([], []), ([], []), ([11, 12], [11, 12]), ([13], [13]), ([14], [14]), ([], []), ([16], [16]), ([10, 15, 17, 10], [10, 15, 17]), ([18, 18, 0, 1, 2, 3, 4, 5, 6, 7, 8, 9, 10, 11, 12, 13, 14, 15, 16, 17, 18], [0, 18])])
def umpireref09_Put.B8 : List Nat := [0, 0, 0, 6, 14, 30, 62, 126, 0, 256, 1023, 0, 0, 6144, 14336, 30720, 0, 65536, 262143, 524287]
theorem umpireref09_Put.e9Q : a2N .any (opsOf Tryd.f19 8) = umpireref09_Put.T8 := by kernel_rfl
theorem umpireref09_Put.d69 : a2t umpireref09_Put.T8.2 umpireref09_Put.B8 = true := by kernel_rfl
set_option maxHeartbeats 8000000 in
set_option maxRecDepth 100000 in
theorem umpireref09_Put.calls (k : Nat) (N7 : Bool) (a0b : Bool) (a2p : Int) (a2q : Int) (A1 : Option Addr) (c1 : Nat) (l1 : List (S51)) (r1 : List Int) (r2 : Int) (w : World) (hr1 : Kd.C k51 w A1 l1.length l1) (hc1 : l1.length ≤ c1) (h : umpireref09_Put.f k N7 a0b a2p a2q l1 = some (r1, r2)) :
  Calls Tryd.prog 19 #[.agg #[.bool N7, .bool a0b, .int .u32 a2p, .int .u32 a2q], .slice A1 l1.length c1] w fun e w' => ∃ v0_ : Value, e = .returned (.tuple #[v0_, .int .i64 r2]) ∧ Kd.R (Kd.int .u8) 5 w' w.heap.size (fun _ => True) v0_ r1 ∧ Below w.heap.size w w' := by
 have c39 := Tryd.underlying46
 have HR1 := a_ hr1
 have HC1 := a_ hc1
 clear hr1 hc1
 have HB := a_ (Below.refl w.heap.size w)
 have H := h
 clear h
 unfold umpireref09_Put.f at H
 replace H := Option.bind_eq_some_iff.mp H
 obtain ⟨e2F, A30, H⟩ := H
 try dsimp only at H
 have A3 := a_ A30
 clear A30
 have H' := a_ H
 clear H
 go_enter Tryd.func19, Tryd.ntmps19
 go_wp2_with (first | (refine be_ 2 #[.bool N7, .bool a0b, .int .u32 a2p, .int .u32 a2q] 46 ?_; intro b4O hg w4 hbox hb; have a0A := a_ hbox; have h4o := lb_ HB hg; replace HB := W9 HB hb; clear hb hbox hg; obtain ⟨b5x, b5y, b5z, c2O, b5A, b5B, b5C, c2P⟩ := blk4 a0A.out) | (refine gl_ (some 9) Tryd.func37 #[.agg #[.bool N7, .bool a0b, .int .u32 a2p, .int .u32 a2q]] ?_; (with_reducible refine (umpireref09_Header.calls k N7 a0b a2p a2q e2F _ A3.out).mono ?_); rintro e w6 ⟨h7F, rfl, ho0, hb⟩; refine ⟨_, rfl, ?_⟩; have f8F := rl_ ho0 HB; replace a0A := U5 a0A hb; replace HB := W9 HB hb; (try clear hb); (try clear ho0)))
 go_loopg [6, 7] k (fun kq v6 v7 w' => ∃ (a2u : List Int) (S9 : Int), v7 = .int .i64 S9 ∧ Aside0 (umpireref09_Put.l0 kq l1 a2u S9 N7 a0b a2p a2q = some (r1, r2)) ∧ Aside0 (kq ≤ k) ∧ Aside0 (Kd.R (Kd.int .u8) 5 w' w.heap.size (fun _ => True) v6 a2u) ∧ Aside0 (w'.heap[b4O]? = some (.cells #[.bool N7, .bool a0b, .int .u32 a2p, .int .u32 a2q] 46 (0, 0))) ∧ Aside0 (Below w.heap.size w w'))
 case atStart => exact ⟨(e2F), (0), (by rfl), H', ⟨Nat.le_refl _⟩, ⟨by exact f8F.out⟩, ⟨by exact a0A.out⟩, ⟨by exact HB.out⟩⟩
 case round =>
  clear H'
  try clear b5x
  try clear b5y
  try clear b5z
  try clear c2O
  try clear b5A
  try clear b5B
  try clear b5C
  try clear c2P
  obtain ⟨a2u, S9, rfl, HA, HK1, a2d, a0A, HB⟩ := hrel
  cases gk with
  | zero => exact absurd HA.out (by simp [umpireref09_Put.l0])
  | succ k1 =>
   have H := HA.out
   clear HA
   simp only [umpireref09_Put.l0] at H
   by_cases c7 : S9 < (l1.length : Int)
   ·rw [if_pos c7] at H
    have a9h := decide_eq_true c7
    clear c7
    have b8l := a4w H
    replace H := U9 H
    by_cases c9 : (((y9 l1 S9).f3).length : Int) > 131072
    ·rw [if_pos c9] at H
     have b5i := decide_eq_true c9
     have c1O : decide (131072 < ((y9 l1 S9).f3).length) = true := decide_eq_true (by omega)
     clear c9
     obtain ⟨rfl, rfl⟩ := s2_ H
     have c7V : 0 ≤ (S9 : Int) := Y9
     have c7W : S9 < (l1.length : Int) := Y9
     obtain ⟨a2m, e9X, e9Y, e9Z, b4P, b4Q, b4R, b4S, b4T, b4U⟩ := a7Z HR1.out S9 c7V c7W
     cases e9Z
     replace b4P := cb_ HB b4P
     replace b4Q := cb_ HB b4Q
     replace b4R := cb_ HB b4R
     replace b4S := cb_ HB b4S
     have e2G := a_ b4U
     have e2H := a_ b4T
     clear b4U b4T
     replace c7V := eq_true c7V
     replace c7W := eq_true c7W
     go_wp2
     go_ret2
     exact ⟨_, by (rfl), by (exact Kd.a0I _ _ _ _ _), by exact HB.out⟩
    ·rw [if_neg c9] at H
     have b5i := decide_eq_false c9
     have c1O : decide (131072 < ((y9 l1 S9).f3).length) = false := decide_eq_false (by omega)
     clear c9
     replace H := Option.bind_eq_some_iff.mp H
     obtain ⟨c7S, b7N, H⟩ := H
     try dsimp only at H
     have A10 := a_ b7N
     clear b7N
     replace H := Option.bind_eq_some_iff.mp H
     obtain ⟨c7T, b35, H⟩ := H
     try dsimp only at H
     have A11 := a_ b35
     clear b35
     replace H := Option.bind_eq_some_iff.mp H
     obtain ⟨c7U, b8X, H⟩ := H
     try dsimp only at H
     have A12 := a_ b8X
     clear b8X
     replace H := Option.bind_eq_some_iff.mp H
     obtain ⟨d2k, b8Y, H⟩ := H
     try dsimp only at H
     have A13 := a_ b8Y
     clear b8Y
     have c14 := a0o H
     replace H := U9 H
     have f8G := a_ c14
     clear c14
     obtain ⟨g9D, d7e⟩ := is_ ((d2k ++ ((y9 l1 S9).f3)))
     rw [← d7e] at H
     have f8H := a_ d7e
     clear d7e
     have H' := a_ H
     clear H
     have c7V : 0 ≤ (S9 : Int) := Y9
     have c7W : S9 < (l1.length : Int) := Y9
     obtain ⟨a2m, e9X, e9Y, e9Z, b4P, b4Q, b4R, b4S, b4T, b4U⟩ := a7Z HR1.out S9 c7V c7W
     cases e9Z
     replace b4P := cb_ HB b4P
     replace b4Q := cb_ HB b4Q
     replace b4R := cb_ HB b4R
     replace b4S := cb_ HB b4S
     have e2G := a_ b4U
     have e2H := a_ b4T
     clear b4U b4T
     replace c7V := eq_true c7V
     replace c7W := eq_true c7W
     try go_wp2
     replace a2d := a_ (Kd.a4k a2d.out)
     replace a0A := a_ (L9 a0A.out)
     replace HB := a_ (D7 HB.out)
     have e90 : 0 ≤ (S9 : Int) := Y9
     have e91 : S9 < (l1.length : Int) := Y9
     obtain ⟨f8I, d7f, d7g, g9E, b7x, b7y, b7z, b4V, d1a, d1b⟩ := a7Z HR1.out S9 e90 e91
     have c2Z := b4V
     have c27 := b7z
     have c3a := b7y
     have c3c := b7x
     obtain rfl : a2m = f8I := (by injection g9E)
     replace b7x := cb_ HB b7x
     replace b7y := cb_ HB b7y
     replace b7z := cb_ HB b7z
     replace b4V := cb_ HB b4V
     have e2I := a_ d1b
     have g2O := a_ d1a
     clear d1b d1a
     replace e90 := eq_true e90
     replace e91 := eq_true e91
     have e92 : 0 ≤ (S9 : Int) := Y9
     have e93 : S9 < (l1.length : Int) := Y9
     obtain ⟨f8J, g9F, g9G, g9H, b7A, b7B, b7C, b4W, d1c, d1d⟩ := a7Z HR1.out S9 e92 e93
     have c3d := b4W
     have c3e := b7C
     have c3f := b7B
     have c3g := b7A
     obtain rfl : a2m = f8J := (by injection g9H)
     replace b7A := cb_ HB b7A
     replace b7B := cb_ HB b7B
     replace b7C := cb_ HB b7C
     replace b4W := cb_ HB b4W
     have e2J := a_ d1d
     have g2P := a_ d1c
     clear d1d d1c
     replace e92 := eq_true e92
     replace e93 := eq_true e93
     have ea_ := Option.some.inj (b4V.symm.trans b4W)
     injection ea_ with ea_ en_ ec_
     subst ea_
     subst ec_
     clear en_
     obtain ⟨e94, d6b, e8V⟩ := Kd.J4 a2d.out
     subst e8V
     refine a4n (n := 18) (S := fun w' => w'.cell? ⟨b4O, 0, none⟩ = some (.bool N7) ∧ w'.cell? ⟨b4O, 1, none⟩ = some (.bool a0b) ∧ w'.cell? ⟨b4O, 2, none⟩ = some (.int .u32 a2p) ∧ w'.cell? ⟨b4O, 3, none⟩ = some (.int .u32 a2q) ∧ w'.cell? (a2m.add ((S9).toNat * 4)) = some (.int .u32 ((y9 l1 S9).f0)) ∧ w'.cell? ⟨(a2m.add ((S9).toNat * 4)).block, (a2m.add ((S9).toNat * 4)).off + 1, none⟩ = some (.int .u32 ((y9 l1 S9).f1)) ∧ w'.cell? ⟨(a2m.add ((S9).toNat * 4)).block, (a2m.add ((S9).toNat * 4)).off + 2, none⟩ = some (.int .u32 ((y9 l1 S9).f2)) ∧ w'.cell? ⟨(a2m.add ((S9).toNat * 4)).block, (a2m.add ((S9).toNat * 4)).off + 3, none⟩ = some (.slice d7f ((y9 l1 S9).f3).length d7g) ∧ w'.cell? (a2m.add ((S9).toNat * 4)) = some (.int .u32 ((y9 l1 S9).f0)) ∧ w'.cell? ⟨(a2m.add ((S9).toNat * 4)).block, (a2m.add ((S9).toNat * 4)).off + 1, none⟩ = some (.int .u32 ((y9 l1 S9).f1)) ∧ w'.cell? ⟨(a2m.add ((S9).toNat * 4)).block, (a2m.add ((S9).toNat * 4)).off + 2, none⟩ = some (.int .u32 ((y9 l1 S9).f2)) ∧ w'.cell? ⟨(a2m.add ((S9).toNat * 4)).block, (a2m.add ((S9).toNat * 4)).off + 3, none⟩ = some (.slice d7f ((y9 l1 S9).f3).length d7g)) (ds := []) (bo_ 18 0) (by kernel_rfl) rfl rfl ⟨bc0 a0A, bc1 a0A, bc2 a0A, bc3 a0A, (cb_ HB c3c), (cb_ HB c3a), (cb_ HB c27), (cb_ HB c2Z), (cb_ HB c3g), (cb_ HB c3f), (cb_ HB c3e), (cb_ HB c3d)⟩ (fun hHeld => ?_); refine a3g umpireref09_Put.c65 umpireref09_Put.b8K (fun X5 HW_ => ?_)
     generalize wr.drew = w15 at a2d a0A HB e2I e2J b7x b7y b7z b4V b7A b7B b7C b4W hHeld ⊢
     refine pu_ 0 (some 23) X5 ?_
     refine pu_ 1 (some 24) X5 ?_
     refine pu_ 2 (some 25) X5 ?_
     refine pu_ 3 (some 26) X5 ?_
     refine pu_ 4 (some 27) X5 ?_
     refine pu_ 6 (some 29) X5 ?_
     refine pu_ 9 (some 32) X5 ?_
     refine pu_ 10 (some 33) X5 ?_
     refine pu_ 11 (some 34) X5 ?_
     refine pu_ 12 (some 35) X5 ?_
     refine pu_ 14 (some 37) X5 ?_
     refine a1G (i := 5) (N := some 28) (v := ?_) (a' := ?_) (bo_ 18 24191) rfl rfl (a0S X5.out HW_.out (by kernel_rfl)) (fun _ _ _ h => h) (Or.inl ⟨by rfl, ?_⟩) hHeld ?_ ?_
     rotate_left
     ·rintro w' ⟨s0, s1, s2, s3, s4, s5, s6, s7, s8, s9, s10, s11⟩
      go_simp
      with_reducible rfl
     rotate_left
     ·go_simp
      rfl
     refine a1G (i := 7) (N := some 30) (v := ?_) (a' := ?_) (bo_ 18 24319) rfl rfl (a0S X5.out HW_.out (by kernel_rfl)) (fun _ _ _ h => h) (Or.inl ⟨by rfl, ?_⟩) hHeld ?_ ?_
     rotate_left
     ·rintro w' ⟨s0, s1, s2, s3, s4, s5, s6, s7, s8, s9, s10, s11⟩
      go_simp
      with_reducible rfl
     rotate_left
     ·go_simp
      rfl
     refine a1G (i := 13) (N := some 36) (v := ?_) (a' := ?_) (bo_ 18 32511) rfl rfl (a0S X5.out HW_.out (by kernel_rfl)) (fun _ _ _ h => h) (Or.inl ⟨by rfl, ?_⟩) hHeld ?_ ?_
     rotate_left
     ·rintro w' ⟨s0, s1, s2, s3, s4, s5, s6, s7, s8, s9, s10, s11⟩
      go_simp
      with_reducible rfl
     rotate_left
     ·go_simp
      rfl
     refine a1G (i := 15) (N := some 38) (v := ?_) (a' := ?_) (bo_ 18 65279) rfl rfl (a0S X5.out HW_.out (by kernel_rfl)) (fun _ _ _ h => h) (Or.inl ⟨by rfl, ?_⟩) hHeld ?_ ?_
     rotate_left
     ·rintro w' ⟨s0, s1, s2, s3, s4, s5, s6, s7, s8, s9, s10, s11⟩
      go_simp
      with_reducible rfl
     rotate_left
     ·go_simp
      rfl
     refine a6V (i := 8) (N := some 31) (bo_ 18 65535) rfl rfl (a2c X5.out (by kernel_rfl)) (by decide) (fun K hK => ?_)
     refine a4y Tryd.func38 (by kernel_rfl) rfl #[.slice e94 a2u.length d6b, .int .u32 ((y9 l1 S9).f0), .bool N7] (by rfl) rfl rfl (by (try simp only [List.map_toArray, List.map_cons, List.map_nil]); (rfl)) ?_
     with_reducible refine (O7.calls k1 (fun k_ => some k_ = (.slice e94 a2u.length d6b : Value).ownBlock) (.slice e94 a2u.length d6b) a2u ((y9 l1 S9).f0) N7 c7S w _ ?Q5 ?Q7 A10.out).mono ?_
     (case Q5 => exact HB.out)
     (case Q7 => exact Kd.a2i rfl a2d.out)
     rintro e w17 ⟨h7G, rfl, ho0, hb, hkp⟩
     refine ⟨_, rfl, ?_⟩
     have d1e := a_ (Kd.D8 (ok' := fun k_ => True) ho0 (fun k_ hk_ => trivial))
     replace a0A := a_ (a7P a0A.out hkp (fun hs_ => (fun e_ => (Kd.a6B a2d.out a0A.out (by decide)) e_) hs_))
     replace HB := a_ hb
     clear a2d
     (try clear hb)
     (try clear hkp)
     (try clear ho0)
     obtain ⟨e95, e96, g9I⟩ := Kd.J4 d1e.out
     subst g9I
     refine hK.out _ _ ⟨bc0 a0A, bc1 a0A, bc2 a0A, bc3 a0A, (cb_ HB c3c), (cb_ HB c3a), (cb_ HB c27), (cb_ HB c2Z), (cb_ HB c3g), (cb_ HB c3f), (cb_ HB c3e), (cb_ HB c3d)⟩ (fun hHeld => ?_)
     clear hK K
     refine nm_ (some 31) ?_
     refine a6V (i := 16) (N := some 39) (bo_ 18 131071) rfl rfl (a2c X5.out (by kernel_rfl)) (by decide) (fun K hK => ?_)
     refine a4y Tryd.func38 (by kernel_rfl) rfl #[.slice e95 c7S.length e96, .int .u32 ((y9 l1 S9).f1), .bool N7] (by rfl) rfl rfl (by (try simp only [List.map_toArray, List.map_cons, List.map_nil]); (rfl)) ?_
     with_reducible refine (O7.calls k1 (fun k_ => some k_ = (.slice e95 c7S.length e96 : Value).ownBlock) (.slice e95 c7S.length e96) c7S ((y9 l1 S9).f1) N7 c7T w _ ?Q5 ?Q7 A11.out).mono ?_
     (case Q5 => exact HB.out)
     (case Q7 => exact Kd.a2i rfl d1e.out)
     rintro e w19 ⟨h7H, rfl, ho0, hb, hkp⟩
     refine ⟨_, rfl, ?_⟩
     have b9j := a_ (Kd.D8 (ok' := fun k_ => True) ho0 (fun k_ hk_ => trivial))
     replace a0A := a_ (a7P a0A.out hkp (fun hs_ => (fun e_ => (Kd.a6B d1e.out a0A.out (by decide)) e_) hs_))
     replace HB := a_ hb
     clear d1e
     (try clear hb)
     (try clear hkp)
     (try clear ho0)
     refine hK.out _ _ ⟨bc0 a0A, bc1 a0A, bc2 a0A, bc3 a0A, (cb_ HB c3c), (cb_ HB c3a), (cb_ HB c27), (cb_ HB c2Z), (cb_ HB c3g), (cb_ HB c3f), (cb_ HB c3e), (cb_ HB c3d)⟩ (fun hHeld => ?_)
     clear hK K
     refine nm_ (some 39) ?_
     refine pu_ 17 (some 6) X5 ?_
     refine a7d (a6D X5.out (by kernel_rfl)) ?_
     try go_wp2
     replace b9j := a_ (Kd.a4k b9j.out)
     replace a0A := a_ (L9 a0A.out)
     replace HB := a_ (D7 HB.out)
     have e97 : 0 ≤ (S9 : Int) := Y9
     have e98 : S9 < (l1.length : Int) := Y9
     obtain ⟨f8K, d7h, d7i, g9J, b7D, b7E, b7F, b4X, d1f, d1g⟩ := a7Z HR1.out S9 e97 e98
     have c3h := b4X
     have c3i := b7F
     have c3j := b7E
     have c3k := b7D
     obtain rfl : a2m = f8K := (by injection g9J)
     replace b7D := cb_ HB b7D
     replace b7E := cb_ HB b7E
     replace b7F := cb_ HB b7F
     replace b4X := cb_ HB b4X
     have e2K := a_ d1g
     have g2Q := a_ d1f
     clear d1g d1f
     replace e97 := eq_true e97
     replace e98 := eq_true e98
     have f0b : 0 ≤ (S9 : Int) := Y9
     have f0c : S9 < (l1.length : Int) := Y9
     obtain ⟨f8L, g9K, g9L, g9M, b7G, b7H, b7I, b4Y, d1h, d1i⟩ := a7Z HR1.out S9 f0b f0c
     have c3l := b4Y
     have c3n := b7I
     have c3o := b7H
     have c3p := b7G
     obtain rfl : a2m = f8L := (by injection g9M)
     replace b7G := cb_ HB b7G
     replace b7H := cb_ HB b7H
     replace b7I := cb_ HB b7I
     replace b4Y := cb_ HB b4Y
     have d1j := a_ d1i
     have g2R := a_ d1h
     clear d1i d1h
     replace f0b := eq_true f0b
     replace f0c := eq_true f0c
     have ea_ := Option.some.inj (b4X.symm.trans b4Y)
     injection ea_ with ea_ en_ ec_
     subst ea_
     subst ec_
     clear en_
     obtain ⟨b5t, b5u, c7i⟩ := Kd.J4 b9j.out
     subst c7i
     refine a4n (n := 20) (S := fun w' => w'.cell? ⟨b4O, 0, none⟩ = some (.bool N7) ∧ w'.cell? ⟨b4O, 1, none⟩ = some (.bool a0b) ∧ w'.cell? ⟨b4O, 2, none⟩ = some (.int .u32 a2p) ∧ w'.cell? ⟨b4O, 3, none⟩ = some (.int .u32 a2q) ∧ w'.cell? (a2m.add ((S9).toNat * 4)) = some (.int .u32 ((y9 l1 S9).f0)) ∧ w'.cell? ⟨(a2m.add ((S9).toNat * 4)).block, (a2m.add ((S9).toNat * 4)).off + 1, none⟩ = some (.int .u32 ((y9 l1 S9).f1)) ∧ w'.cell? ⟨(a2m.add ((S9).toNat * 4)).block, (a2m.add ((S9).toNat * 4)).off + 2, none⟩ = some (.int .u32 ((y9 l1 S9).f2)) ∧ w'.cell? ⟨(a2m.add ((S9).toNat * 4)).block, (a2m.add ((S9).toNat * 4)).off + 3, none⟩ = some (.slice d7h ((y9 l1 S9).f3).length d7i) ∧ w'.cell? (a2m.add ((S9).toNat * 4)) = some (.int .u32 ((y9 l1 S9).f0)) ∧ w'.cell? ⟨(a2m.add ((S9).toNat * 4)).block, (a2m.add ((S9).toNat * 4)).off + 1, none⟩ = some (.int .u32 ((y9 l1 S9).f1)) ∧ w'.cell? ⟨(a2m.add ((S9).toNat * 4)).block, (a2m.add ((S9).toNat * 4)).off + 2, none⟩ = some (.int .u32 ((y9 l1 S9).f2)) ∧ w'.cell? ⟨(a2m.add ((S9).toNat * 4)).block, (a2m.add ((S9).toNat * 4)).off + 3, none⟩ = some (.slice d7h ((y9 l1 S9).f3).length d7i)) (ds := []) (bo_ 20 0) (by kernel_rfl) rfl rfl ⟨bc0 a0A, bc1 a0A, bc2 a0A, bc3 a0A, (cb_ HB c3k), (cb_ HB c3j), (cb_ HB c3i), (cb_ HB c3h), (cb_ HB c3p), (cb_ HB c3o), (cb_ HB c3n), (cb_ HB c3l)⟩ (fun hHeld => ?_); refine a3g umpireref09_Put.e9Q umpireref09_Put.d69 (fun X5 HW_ => ?_)
     generalize w19.drew = w20 at b9j a0A HB e2K d1j b7D b7E b7F b4X b7G b7H b7I b4Y hHeld ⊢
     refine pu_ 0 (some 40) X5 ?_
     refine pu_ 1 (some 41) X5 ?_
     refine pu_ 2 (some 42) X5 ?_
     refine pu_ 3 (some 43) X5 ?_
     refine pu_ 4 (some 44) X5 ?_
     refine pu_ 8 (some 48) X5 ?_
     refine pu_ 11 (some 51) X5 ?_
     refine pu_ 12 (some 52) X5 ?_
     refine pu_ 13 (some 53) X5 ?_
     refine pu_ 14 (some 54) X5 ?_
     refine pu_ 16 (some 56) X5 ?_
     refine a1G (i := 5) (N := some 45) (v := ?_) (a' := ?_) (bo_ 20 96575) rfl rfl (a0S X5.out HW_.out (by kernel_rfl)) (fun _ _ _ h => h) (Or.inl ⟨by rfl, ?_⟩) hHeld ?_ ?_
     rotate_left
     ·rintro w' ⟨s0, s1, s2, s3, s4, s5, s6, s7, s8, s9, s10, s11⟩
      go_simp
      with_reducible rfl
     rotate_left
     ·go_simp
      rfl
     refine pu_ 6 (some 46) X5 ?_
     refine pu_ 7 (some 47) X5 ?_
     refine a1G (i := 9) (N := some 49) (v := ?_) (a' := ?_) (bo_ 20 97279) rfl rfl (a0S X5.out HW_.out (by kernel_rfl)) (fun _ _ _ h => h) (Or.inl ⟨by rfl, ?_⟩) hHeld ?_ ?_
     rotate_left
     ·rintro w' ⟨s0, s1, s2, s3, s4, s5, s6, s7, s8, s9, s10, s11⟩
      go_simp
      with_reducible rfl
     rotate_left
     ·go_simp
      rfl
     refine a1G (i := 15) (N := some 55) (v := ?_) (a' := ?_) (bo_ 20 130047) rfl rfl (a0S X5.out HW_.out (by kernel_rfl)) (fun _ _ _ h => h) (Or.inl ⟨by rfl, ?_⟩) hHeld ?_ ?_
     rotate_left
     ·rintro w' ⟨s0, s1, s2, s3, s4, s5, s6, s7, s8, s9, s10, s11⟩
      go_simp
      with_reducible rfl
     rotate_left
     ·go_simp
      rfl
     refine a1G (i := 17) (N := some 57) (v := ?_) (a' := ?_) (bo_ 20 261119) rfl rfl (a0S X5.out HW_.out (by kernel_rfl)) (fun _ _ _ h => h) (Or.inl ⟨by rfl, ?_⟩) hHeld ?_ ?_
     rotate_left
     ·rintro w' ⟨s0, s1, s2, s3, s4, s5, s6, s7, s8, s9, s10, s11⟩
      go_simp
      with_reducible rfl
     rotate_left
     ·go_simp
      rfl
     refine a6V (i := 10) (N := some 50) (bo_ 20 262143) rfl rfl (a2c X5.out (by kernel_rfl)) (by decide) (fun K hK => ?_)
     refine a4y Tryd.func38 (by kernel_rfl) rfl #[.slice b5t c7T.length b5u, .int .u32 (((((y9 l1 S9).f3).length : Int)) % 4294967296), .bool N7] (by rfl) rfl rfl (by (try simp only [List.map_toArray, List.map_cons, List.map_nil]); (rfl)) ?_
     with_reducible refine (O7.calls k1 (fun k_ => some k_ = (.slice b5t c7T.length b5u : Value).ownBlock) (.slice b5t c7T.length b5u) c7T (((((y9 l1 S9).f3).length : Int)) % 4294967296) N7 c7U w _ ?Q5 ?Q7 A12.out).mono ?_
     (case Q5 => exact HB.out)
     (case Q7 => exact Kd.a2i rfl b9j.out)
     rintro e w22 ⟨h7I, rfl, ho0, hb, hkp⟩
     refine ⟨_, rfl, ?_⟩
     have d1k := a_ (Kd.D8 (ok' := fun k_ => True) ho0 (fun k_ hk_ => trivial))
     replace a0A := a_ (a7P a0A.out hkp (fun hs_ => (fun e_ => (Kd.a6B b9j.out a0A.out (by decide)) e_) hs_))
     replace HB := a_ hb
     clear b9j
     (try clear hb)
     (try clear hkp)
     (try clear ho0)
     obtain ⟨b0c, b0d, c7f⟩ := Kd.J4 d1k.out
     subst c7f
     refine hK.out _ _ ⟨bc0 a0A, bc1 a0A, bc2 a0A, bc3 a0A, (cb_ HB c3k), (cb_ HB c3j), (cb_ HB c3i), (cb_ HB c3h), (cb_ HB c3p), (cb_ HB c3o), (cb_ HB c3n), (cb_ HB c3l)⟩ (fun hHeld => ?_)
     clear hK K
     refine nm_ (some 50) ?_
     refine a6V (i := 18) (N := some 58) (bo_ 20 524287) rfl rfl (a2c X5.out (by kernel_rfl)) (by decide) (fun K hK => ?_)
     refine a4y Tryd.func38 (by kernel_rfl) rfl #[.slice b0c c7U.length b0d, .int .u32 ((y9 l1 S9).f2), .bool N7] (by rfl) rfl rfl (by (try simp only [List.map_toArray, List.map_cons, List.map_nil]); (rfl)) ?_
     with_reducible refine (O7.calls k1 (fun k_ => some k_ = (.slice b0c c7U.length b0d : Value).ownBlock) (.slice b0c c7U.length b0d) c7U ((y9 l1 S9).f2) N7 d2k w _ ?Q5 ?Q7 A13.out).mono ?_
     (case Q5 => exact HB.out)
     (case Q7 => exact Kd.a2i rfl d1k.out)
     rintro e w24 ⟨g9N, rfl, ho0, hb, hkp⟩
     refine ⟨_, rfl, ?_⟩
     have d7j := a_ (Kd.D8 (ok' := fun k_ => True) ho0 (fun k_ hk_ => trivial))
     replace a0A := a_ (a7P a0A.out hkp (fun hs_ => (fun e_ => (Kd.a6B d1k.out a0A.out (by decide)) e_) hs_))
     replace HB := a_ hb
     clear d1k
     (try clear hb)
     (try clear hkp)
     (try clear ho0)
     refine hK.out _ _ ⟨bc0 a0A, bc1 a0A, bc2 a0A, bc3 a0A, (cb_ HB c3k), (cb_ HB c3j), (cb_ HB c3i), (cb_ HB c3h), (cb_ HB c3p), (cb_ HB c3o), (cb_ HB c3n), (cb_ HB c3l)⟩ (fun hHeld => ?_)
     clear hK K
     refine nm_ (some 58) ?_
     refine pu_ 19 (some 6) X5 ?_
     refine a7d (a6D X5.out (by kernel_rfl)) ?_
     have f0d : 0 ≤ (S9 : Int) := Y9
     have f0e : S9 < (l1.length : Int) := Y9
     obtain ⟨f8M, g9O, g9P, g9Q, d1l, d1m, d1n, d1o, d1p, d1q⟩ := a7Z HR1.out S9 f0d f0e
     obtain rfl : a2m = f8M := (by injection g9Q)
     replace d1l := cb_ HB d1l
     replace d1m := cb_ HB d1m
     replace d1n := cb_ HB d1n
     replace d1o := cb_ HB d1o
     have g2S := a_ d1q
     have g2T := a_ d1p
     clear d1q d1p
     replace f0d := eq_true f0d
     replace f0e := eq_true f0e
     try go_wp2_with (first | ((with_reducible refine G7 (b := .append) (xs := #[.tmp 59, .tmp 64]) rfl ?_); at_builtin; refine Kd.Q8 (Kd.int .u8) (w0 := w) w.heap.size rfl (.tmp 59) (.tmp 64) 22 5 (.int .u8 0) 1 rfl Tryd.underlying22 info5 rfl (by decide) (by omega) g9N d2k ((y9 l1 S9).f3) _ _ _ (fun _ => True) (fun _ => False) rfl rfl ?aO ?aR (fun _ _ h => h) (fun _ h => h.elim) ?aF ?aB ?aS ?aL ?_; (case aR => exact (Kd.D6 d1j.out HB.out)); (case aB => exact HB.out); (case aF => exact (fun _ _ => trivial)); (case aO => exact d7j.out); (case aS => exact (y5 HB.out)); (case aL => have := f8G.out; omega); intro h7J w25 ho hb hg hat; rw [← f8H.out] at ho; have f8N := a_ ho; replace a0A := a_ (F9 a0A.out hg (Kd.a6B d7j.out a0A.out (by decide))); replace HB := a_ hb; clear d7j; clear ho hb hg hat))
     go_roundg k1
     case measure => have := HK1.out; omega
     case rel => exact ⟨(g9D), (wrap64 (S9 + 1)), (by rfl), H', ⟨by have := HK1.out; omega⟩, ⟨by exact f8N.out⟩, ⟨by exact a0A.out⟩, ⟨by exact HB.out⟩⟩
   ·rw [if_neg c7] at H
    have a9h := decide_eq_false c7
    clear c7
    obtain ⟨rfl, rfl⟩ := s2_ H
    go_wp2
    go_ret2
    exact ⟨_, by (rfl), by exact a2d.out, by exact HB.out⟩

end Go.Proofs.YtgnonglkibhnhaaDoor.Print
