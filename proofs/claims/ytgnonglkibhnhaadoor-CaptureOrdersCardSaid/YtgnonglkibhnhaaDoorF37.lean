import Derived.Test.YtgnonglkibhnhaaDoorZ
import Derived.Test.YtgnonglkibhnhaaDoorM4
namespace Go.Proofs.YtgnonglkibhnhaaDoor.Print
open Go.RowKit Go.Proofs.YtgnonglkibhnhaaDoorW.PrintWords Go.Proofs.YtgnonglkibhnhaaDoorW.PrintLast Go.Proofs.YtgnonglkibhnhaaDoorW.PrintMore
attribute [local go_sem] a0u a0v a1m a1n Y7 Y8 a0w a0x
set_option linter.unusedVariables false
set_option linter.unusedSimpArgs false

/-! ### umpireref09_Header: function 37 -/
def umpireref09_Header.j0 : Nat → Int → Bool → Bool → Int → Int → Option (List Int)
 | 0, _, _, _, _, _ => none
 | k + 1, x3, b4L, g2B, e2z, e2A => (O7.f k ([] : List Int) x3 b4L).bind fun d2i => ((O5.f k 2 2 b4L).bind fun b1k => (if d2i.length + b1k.length < 140737488355328 then ((some (d2i ++ b1k : List Int)).bind fun d67 => ((O5.f k 4 2 b4L).bind fun b1K => (if d67.length + b1K.length < 140737488355328 then ((some (d67 ++ b1K : List Int)).bind fun d68 => ((some (([0, 0, 0, 0, 0, 0, 0, 0] : List Int) : List Int)).bind fun b4M => (if d68.length + b4M.length < 140737488355328 then ((O7.f k (d68 ++ b4M) e2z b4L).bind fun c7R => ((O7.f k c7R e2A b4L).bind fun e9P => (some e9P))) else (none)))) else (none)))) else (none)))
def umpireref09_Header.f (k : Nat) (N7 : Bool) (a0b : Bool) (a2p : Int) (a2q : Int) : Option (List Int) := if a0b = true then (umpireref09_Header.j0 k 2712812621 N7 a0b a2p a2q) else (umpireref09_Header.j0 k 2712847316 N7 a0b a2p a2q)
def umpireref09_Header.T8 : Bool × List (List Nat × List Nat) := (true, [([], []), ([], []), ([1], [1]), ([], []), ([3], [3]), ([0, 2, 4], [0, 2, 4]), ([], []), ([6], [6]), ([], []), ([8], [8]), ([5, 7, 9, 5], [5, 7, 9]), ([10, 10, 0, 1, 2, 3, 4, 5, 6, 7, 8, 9, 10], [10])])
def umpireref09_Header.B8 : List Nat := [0, 0, 2, 0, 8, 31, 0, 64, 0, 256, 1023, 2047]
theorem umpireref09_Header.e9Q : a2N .any (opsOf Tryd.f37 8) = umpireref09_Header.T8 := by kernel_rfl
theorem umpireref09_Header.d69 : a2t umpireref09_Header.T8.2 umpireref09_Header.B8 = true := by kernel_rfl
set_option maxHeartbeats 8000000 in
set_option maxRecDepth 100000 in
theorem umpireref09_Header.calls (k : Nat) (N7 : Bool) (a0b : Bool) (a2p : Int) (a2q : Int) (r : List Int) (w : World) (h : umpireref09_Header.f k N7 a0b a2p a2q = some r) :
  Calls Tryd.prog 37 #[.agg #[.bool N7, .bool a0b, .int .u32 a2p, .int .u32 a2q]] w fun e w' => ∃ v0_ : Value, e = .returned (v0_) ∧ Kd.R (Kd.int .u8) 5 w' w.heap.size (fun _ => True) v0_ r ∧ Below w.heap.size w w' := by
 have c39 := Tryd.underlying46
 have HB := a_ (Below.refl w.heap.size w)
 have H := h
 clear h
 unfold umpireref09_Header.f at H
 have HC2 := a_ H
 clear H
 go_enter Tryd.func37, Tryd.ntmps37
 go_upto_if 6 with (first | (refine be_ 1 #[.bool N7, .bool a0b, .int .u32 a2p, .int .u32 a2q] 46 ?_; intro c5T hg w3 hbox hb; have a09 := a_ hbox; have h4n := lb_ HB hg; replace HB := W9 HB hb; clear hb hbox hg; obtain ⟨d5x, d5y, d5z, e9R, d5A, d5B, d5C, e9S⟩ := blk4 a09.out))
 go_cut [3] (fun v3 wc => ∃ (kq : Nat) (a6Z : Int), v3 = .int .u32 a6Z ∧ Aside0 (umpireref09_Header.j0 kq a6Z N7 a0b a2p a2q = some r) ∧ Aside0 (kq ≤ k) ∧ Aside0 (wc.heap[c5T]? = some (.cells #[.bool N7, .bool a0b, .int .u32 a2p, .int .u32 a2q] 46 (0, 0))) ∧ Aside0 (Below w.heap.size w wc))
 case first =>
  have H := HC2.out
  clear HC2
  by_cases c5 : a0b = true
  ·subst c5
   rw [if_pos rfl] at H
   have H' := a_ H
   clear H
   go_wp2
   go_meet
   case rel => exact ⟨_, (2712812621), (by rfl), H', ⟨by (omega)⟩, ⟨by exact a09.out⟩, ⟨by exact HB.out⟩⟩
  ·cases nt_ c5
   rw [if_neg a5a] at H
   have H' := a_ H
   clear H
   go_wp2
   go_meet
   case rel => exact ⟨_, (2712847316), (by rfl), H', ⟨by (omega)⟩, ⟨by exact a09.out⟩, ⟨by exact HB.out⟩⟩
 case rest =>
  clear HC2
  try clear d5x
  try clear d5y
  try clear d5z
  try clear e9R
  try clear d5A
  try clear d5B
  try clear d5C
  try clear e9S
  obtain ⟨kq, a6Z, rfl, HA, HJ1, a09, HB⟩ := hcut
  cases kq with
  | zero => exact absurd HA.out (by simp [umpireref09_Header.j0])
  | succ kj1 =>
   have H := HA.out
   clear HA
   simp only [umpireref09_Header.j0] at H
   replace H := Option.bind_eq_some_iff.mp H
   obtain ⟨d2i, A60, H⟩ := H
   try dsimp only at H
   have A6 := a_ A60
   clear A60
   replace H := Option.bind_eq_some_iff.mp H
   obtain ⟨b1k, A70, H⟩ := H
   try dsimp only at H
   have A7 := a_ A70
   clear A70
   have c8 := a0o H
   replace H := U9 H
   have c7e := a_ c8
   clear c8
   obtain ⟨d67, d7a⟩ := is_ ((d2i ++ b1k))
   rw [Option.bind_some, ← d7a] at H
   have f8A := a_ d7a
   clear d7a
   replace H := Option.bind_eq_some_iff.mp H
   obtain ⟨b1K, A90, H⟩ := H
   try dsimp only at H
   have A9 := a_ A90
   clear A90
   have c10 := a0o H
   replace H := U9 H
   have c5q := a_ c10
   clear c10
   obtain ⟨d68, d7b⟩ := is_ ((d67 ++ b1K))
   rw [Option.bind_some, ← d7b] at H
   have f8B := a_ d7b
   clear d7b
   obtain ⟨b4M, d7c⟩ := is_ (([0, 0, 0, 0, 0, 0, 0, 0] : List Int))
   rw [Option.bind_some, ← d7c] at H
   have f8C := a_ d7c
   clear d7c
   have c11 := a0o H
   replace H := U9 H
   have d6g := a_ c11
   clear c11
   obtain ⟨e2B, d7d⟩ := is_ ((d68 ++ b4M))
   rw [← d7d] at H
   have f8D := a_ d7d
   clear d7d
   replace H := Option.bind_eq_some_iff.mp H
   obtain ⟨c7R, b8X, H⟩ := H
   try dsimp only at H
   have A12 := a_ b8X
   clear b8X
   replace H := Option.bind_eq_some_iff.mp H
   obtain ⟨e9P, b8Y, H⟩ := H
   try dsimp only at H
   have A13 := a_ b8Y
   clear b8Y
   obtain rfl := Option.some.inj H
   obtain ⟨g2C, g2D, g2E, g2F, g2G, g2H, g2I, g2J⟩ := blk4 a09.out
   try go_wp2_with (first | (refine gl_ (some 10) Tryd.func38 #[.slice none 0 0, .int .u32 a6Z, .bool N7] ?_; (refine (O7.calls kj1 (fun k_ => some k_ = (.slice none 0 0 : Value).ownBlock) (.slice none 0 0) ([] : List Int) a6Z N7 d2i w _ ?Q5 ?Q7 A6.out).mono ?_); (case Q5 => exact HB.out); (case Q7 => exact Kd.a0I _ _ _ _ _); rintro e w15 ⟨g9z, rfl, ho0, hb, hkp⟩; refine ⟨_, rfl, ?_⟩; have c0E := a_ (Kd.D8 (ok' := fun k_ => True) ho0 (fun k_ hk_ => trivial)); replace a09 := a_ (a7P a09.out hkp (fun hs_ => (fun e_ => by simp [Value.ownBlock] at e_) hs_)); replace HB := a_ hb; (try clear hb); (try clear hkp); (try clear ho0); obtain ⟨c96, c98, e0N, g2K, d0a, d0b, e0O, g2L⟩ := blk4 a09.out) | (refine gl_ (some 14) Tryd.func60 #[.int .u64 2, .int .i64 2, .bool N7] ?_; (with_reducible refine (O5.calls kj1 2 2 N7 b1k _ A7.out).mono ?_); rintro e w17 ⟨h7B, rfl, ho0, hb⟩; refine ⟨_, rfl, ?_⟩; have a3y := rn_ ho0 c0E HB; replace c0E := rR_ c0E ho0 hb; replace a09 := U5 a09 hb; replace HB := W9 HB hb; (try clear hb); (try clear ho0); obtain ⟨b1g, b1h, d5j⟩ := Kd.J4 a3y.out; subst d5j) | ((with_reducible refine G7 (b := .append) (xs := #[.tmp 11, .tmp 14]) rfl ?_); at_builtin; refine Kd.Q8 (Kd.int .u8) (w0 := w) w.heap.size rfl (.tmp 11) (.tmp 14) 22 5 (.int .u8 0) 1 rfl Tryd.underlying22 info5 rfl (by decide) (by omega) g9z d2i b1k _ _ _ (fun k_ => some k_ ≠ (.slice b1g b1k.length b1h : Value).ownBlock) (fun _ => False) rfl rfl ?aO ?aR (fun _ _ h => h) (fun _ h => h.elim) ?aF ?aB ?aS ?aL ?_; (case aR => exact (Kd.G5 a3y.out).2.2); (case aB => exact HB.out); (case aF => exact (fun k_ hk => Kd.fresh' (Kd.a0h a3y.out) k_ hk)); (case aO => exact (by exact Kd.D8 c0E.out (fun _ hk => hk.2))); (case aS => exact (y5 HB.out)); (case aL => have := c7e.out; omega); intro g9A w18 ho hb hg hat; rw [← f8A.out] at ho; have c0F := a_ ho; replace a09 := a_ (F9 a09.out hg (Kd.a6B c0E.out a09.out (by decide))); replace a3y := a_ (Kd.a1f (ok := (fun _ => True)) a3y.out hg hat); replace HB := a_ hb; clear c0E; clear ho hb hg hat; obtain ⟨d0L, d0M, d0N, g2M, d0O, d0P, d0Q, g2N⟩ := blk4 a09.out) | (refine gl_ (some 19) Tryd.func60 #[.int .u64 4, .int .i64 2, .bool N7] ?_; (with_reducible refine (O5.calls kj1 4 2 N7 b1K _ A9.out).mono ?_); rintro e w21 ⟨h7C, rfl, ho0, hb⟩; refine ⟨_, rfl, ?_⟩; have a5K := a_ (Kd.X4 (Kd.a2n (Kd.a2n ho0 (Kd.a0h a3y.out)) (Kd.a0h c0F.out)) (y5 HB.out)); replace a3y := rR_ a3y ho0 hb; replace c0F := rR_ c0F ho0 hb; replace a09 := U5 a09 hb; replace HB := W9 HB hb; (try clear hb); (try clear ho0); obtain ⟨b0c, b0d, c7f⟩ := Kd.J4 a5K.out; subst c7f) | ((with_reducible refine G7 (b := .append) (xs := #[.tmp 16, .tmp 19]) rfl ?_); at_builtin; refine Kd.Q8 (Kd.int .u8) (w0 := w) w.heap.size rfl (.tmp 16) (.tmp 19) 22 5 (.int .u8 0) 1 rfl Tryd.underlying22 info5 rfl (by decide) (by omega) g9A d67 b1K _ _ _ (fun k_ => some k_ ≠ (.slice b1g b1k.length b1h : Value).ownBlock ∧ some k_ ≠ (.slice b0c b1K.length b0d : Value).ownBlock) (fun _ => False) rfl rfl ?aO ?aR (fun _ _ h => h) (fun _ h => h.elim) ?aF ?aB ?aS ?aL ?_; (case aR => exact (Kd.G5 a5K.out).2.2); (case aB => exact HB.out); (case aF => exact (fun k_ hk => ⟨Kd.fresh' (Kd.a0h a3y.out) k_ hk, Kd.fresh' (Kd.a0h a5K.out) k_ hk⟩)); (case aO => exact c0F.out); (case aS => exact (y5 HB.out)); (case aL => have := c5q.out; omega); intro g9B w22 ho hb hg hat; rw [← f8B.out] at ho; have c0G := a_ ho; replace a09 := a_ (F9 a09.out hg (Kd.a6B c0F.out a09.out (by decide))); replace a3y := a_ (Kd.a1f (ok := (fun k_ => some k_ ≠ (.slice b0c b1K.length b0d : Value).ownBlock)) (by exact Kd.D8 a3y.out (fun _ hk => ⟨hk.2, hk.1.2⟩)) hg hat); replace a5K := a_ (Kd.a1f (ok := (fun k_ => some k_ ≠ (.slice b1g b1k.length b1h : Value).ownBlock)) (by exact Kd.D8 a5K.out (fun _ hk => ⟨hk.1.2, hk.2⟩)) hg hat); replace HB := a_ hb; clear c0F; clear ho hb hg hat) | ((with_reducible refine P9 (N := 22) rfl ?_); refine Kd.b03 (Kd.int .u8) _ 5 ?hg (N := 22) ?hd (xs := ([0, 0, 0, 0, 0, 0, 0, 0] : List Int)) (inner := [.int .u8 0, .int .u8 0, .int .u8 0, .int .u8 0, .int .u8 0, .int .u8 0, .int .u8 0, .int .u8 0]) (ok := fun _ => True) (okp := fun _ => True) ?hr ?hp (fun _ hk => hk) trivial (Below.refl _ _) (Nat.le_refl _) (by simp) ?_; (case hd => rfl); (case hg => rfl); (case hr => (go_simp; done)); (case hp => exact (N9.one (show Kd.M (Kd.int .u8) _ _ _ 0 [.int .u8 0] from rfl) (N9.one (show Kd.M (Kd.int .u8) _ _ _ 0 [.int .u8 0] from rfl) (N9.one (show Kd.M (Kd.int .u8) _ _ _ 0 [.int .u8 0] from rfl) (N9.one (show Kd.M (Kd.int .u8) _ _ _ 0 [.int .u8 0] from rfl) (N9.one (show Kd.M (Kd.int .u8) _ _ _ 0 [.int .u8 0] from rfl) (N9.one (show Kd.M (Kd.int .u8) _ _ _ 0 [.int .u8 0] from rfl) (N9.one (show Kd.M (Kd.int .u8) _ _ _ 0 [.int .u8 0] from rfl) (N9.one (show Kd.M (Kd.int .u8) _ _ _ 0 [.int .u8 0] from rfl) (N9.none _ _)))))))))); intro h7D w24 d2j hb hg_ a1q; clear hg_ a1q; (rw [← f8C.out] at d2j); have a8k := a_ (Kd.X4 (Kd.a2n (Kd.a2n (Kd.a2n d2j (Kd.a0h a3y.out)) (Kd.a0h a5K.out)) (Kd.a0h c0G.out)) (y5 HB.out)); replace a3y := rR_ a3y d2j hb; replace a5K := rR_ a5K d2j hb; replace c0G := rR_ c0G d2j hb; replace a09 := U5 a09 hb; replace HB := W9 HB hb; clear hb d2j; obtain ⟨a9M, a9N, c7C⟩ := Kd.J4 a8k.out; subst c7C) | ((with_reducible refine G7 (b := .append) (xs := #[.tmp 21, .tmp 22]) rfl ?_); at_builtin; refine Kd.Q8 (Kd.int .u8) (w0 := w) w.heap.size rfl (.tmp 21) (.tmp 22) 22 5 (.int .u8 0) 1 rfl Tryd.underlying22 info5 rfl (by decide) (by omega) g9B d68 b4M _ _ _ (fun k_ => some k_ ≠ (.slice b1g b1k.length b1h : Value).ownBlock ∧ some k_ ≠ (.slice b0c b1K.length b0d : Value).ownBlock ∧ some k_ ≠ (.slice a9M b4M.length a9N : Value).ownBlock) (fun _ => False) rfl rfl ?aO ?aR (fun _ _ h => h) (fun _ h => h.elim) ?aF ?aB ?aS ?aL ?_; (case aR => exact (Kd.G5 a8k.out).2.2); (case aB => exact HB.out); (case aF => exact (fun k_ hk => ⟨Kd.fresh' (Kd.a0h a3y.out) k_ hk, Kd.fresh' (Kd.a0h a5K.out) k_ hk, Kd.fresh' (Kd.a0h a8k.out) k_ hk⟩)); (case aO => exact (by exact Kd.D8 c0G.out (fun _ hk => ⟨hk.1.1, ⟨hk.1.2, hk.2⟩⟩))); (case aS => exact (y5 HB.out)); (case aL => have := d6g.out; omega); intro h7E w26 ho hb hg hat; rw [← f8D.out] at ho; have b9h := a_ ho; replace a09 := a_ (F9 a09.out hg (Kd.a6B c0G.out a09.out (by decide))); replace a3y := a_ (Kd.a1f (ok := (fun k_ => some k_ ≠ (.slice b0c b1K.length b0d : Value).ownBlock ∧ some k_ ≠ (.slice a9M b4M.length a9N : Value).ownBlock)) (by exact Kd.D8 a3y.out (fun _ hk => ⟨⟨hk.1.1, hk.2⟩, hk.1.2⟩)) hg hat); replace a5K := a_ (Kd.a1f (ok := (fun k_ => some k_ ≠ (.slice b1g b1k.length b1h : Value).ownBlock ∧ some k_ ≠ (.slice a9M b4M.length a9N : Value).ownBlock)) (by exact Kd.D8 a5K.out (fun _ hk => ⟨⟨hk.1.1, hk.2⟩, hk.1.2⟩)) hg hat); replace a8k := a_ (Kd.a1f (ok := (fun k_ => some k_ ≠ (.slice b1g b1k.length b1h : Value).ownBlock ∧ some k_ ≠ (.slice b0c b1K.length b0d : Value).ownBlock)) (by exact Kd.D8 a8k.out (fun _ hk => ⟨⟨hk.1.1.2, hk.1.2⟩, hk.2⟩)) hg hat); replace HB := a_ hb; clear c0G; clear ho hb hg hat))
   replace a3y := a_ (Kd.a4k a3y.out)
   replace a5K := a_ (Kd.a4k a5K.out)
   replace a8k := a_ (Kd.a4k a8k.out)
   replace b9h := a_ (Kd.a4k b9h.out)
   replace a09 := a_ (L9 a09.out)
   replace HB := a_ (D7 HB.out)
   obtain ⟨c5C, c5E, e9b⟩ := Kd.J4 b9h.out
   subst e9b
   refine a4n (n := 12) (S := fun w' => w'.cell? ⟨c5T, 0, none⟩ = some (.bool N7) ∧ w'.cell? ⟨c5T, 1, none⟩ = some (.bool a0b) ∧ w'.cell? ⟨c5T, 2, none⟩ = some (.int .u32 a2p) ∧ w'.cell? ⟨c5T, 3, none⟩ = some (.int .u32 a2q)) (ds := []) (bo_ 12 0) (by kernel_rfl) rfl rfl ⟨bc0 a09, bc1 a09, bc2 a09, bc3 a09⟩ (fun hHeld => ?_); refine a3g umpireref09_Header.e9Q umpireref09_Header.d69 (fun X5 HW_ => ?_)
   generalize w26.drew = w28 at a3y a5K a8k b9h a09 HB hHeld ⊢
   refine pu_ 0 (some 24) X5 ?_
   refine pu_ 1 (some 25) X5 ?_
   refine pu_ 3 (some 27) X5 ?_
   refine pu_ 6 (some 30) X5 ?_
   refine pu_ 8 (some 32) X5 ?_
   refine a1G (i := 2) (N := some 26) (v := ?_) (a' := ?_) (bo_ 12 335) rfl rfl (a0S X5.out HW_.out (by kernel_rfl)) (fun _ _ _ h => h) (Or.inl ⟨by rfl, ?_⟩) hHeld ?_ ?_
   rotate_left
   ·rintro w' ⟨s0, s1, s2, s3⟩
    go_simp
    with_reducible rfl
   rotate_left
   ·go_simp
    rfl
   refine a1G (i := 4) (N := some 28) (v := ?_) (a' := ?_) (bo_ 12 351) rfl rfl (a0S X5.out HW_.out (by kernel_rfl)) (fun _ _ _ h => h) (Or.inl ⟨by rfl, ?_⟩) hHeld ?_ ?_
   rotate_left
   ·rintro w' ⟨s0, s1, s2, s3⟩
    go_simp
    with_reducible rfl
   rotate_left
   ·go_simp
    rfl
   refine a1G (i := 7) (N := some 31) (v := ?_) (a' := ?_) (bo_ 12 479) rfl rfl (a0S X5.out HW_.out (by kernel_rfl)) (fun _ _ _ h => h) (Or.inl ⟨by rfl, ?_⟩) hHeld ?_ ?_
   rotate_left
   ·rintro w' ⟨s0, s1, s2, s3⟩
    go_simp
    with_reducible rfl
   rotate_left
   ·go_simp
    rfl
   refine a1G (i := 9) (N := some 33) (v := ?_) (a' := ?_) (bo_ 12 991) rfl rfl (a0S X5.out HW_.out (by kernel_rfl)) (fun _ _ _ h => h) (Or.inl ⟨by rfl, ?_⟩) hHeld ?_ ?_
   rotate_left
   ·rintro w' ⟨s0, s1, s2, s3⟩
    go_simp
    with_reducible rfl
   rotate_left
   ·go_simp
    rfl
   refine a6V (i := 5) (N := some 29) (bo_ 12 1023) rfl rfl (a2c X5.out (by kernel_rfl)) (by decide) (fun K hK => ?_)
   refine a4y Tryd.func38 (by kernel_rfl) rfl #[.slice c5C e2B.length c5E, .int .u32 a2p, .bool N7] (by rfl) rfl rfl (by (try simp only [List.map_toArray, List.map_cons, List.map_nil]); (rfl)) ?_
   with_reducible refine (O7.calls kj1 (fun k_ => some k_ = (.slice c5C e2B.length c5E : Value).ownBlock) (.slice c5C e2B.length c5E) e2B a2p N7 c7R w _ ?Q5 ?Q7 A12.out).mono ?_
   (case Q5 => exact HB.out)
   (case Q7 => exact Kd.a2i rfl b9h.out)
   rintro e w30 ⟨e9T, rfl, ho0, hb, hkp⟩
   refine ⟨_, rfl, ?_⟩
   have d09 := a_ (Kd.D8 (ok' := fun k_ => some k_ ≠ (.slice b1g b1k.length b1h : Value).ownBlock ∧ some k_ ≠ (.slice b0c b1K.length b0d : Value).ownBlock ∧ some k_ ≠ (.slice a9M b4M.length a9N : Value).ownBlock) ho0 (fun k_ hk_ => ⟨Or.elim hk_ (fun hs_ => fun e_ => (((a3y.out).1 k_ e_.symm).2) hs_) (fun hn_ => (Kd.fresh' (Kd.a0h a3y.out) k_ hn_)), Or.elim hk_ (fun hs_ => fun e_ => (((a5K.out).1 k_ e_.symm).2) hs_) (fun hn_ => (Kd.fresh' (Kd.a0h a5K.out) k_ hn_)), Or.elim hk_ (fun hs_ => fun e_ => (((a8k.out).1 k_ e_.symm).2) hs_) (fun hn_ => (Kd.fresh' (Kd.a0h a8k.out) k_ hn_))⟩))
   replace a09 := a_ (a7P a09.out hkp (fun hs_ => (fun e_ => (Kd.a6B b9h.out a09.out (by decide)) e_) hs_))
   replace a3y := a_ (Kd.D8 (ok' := fun k_ => some k_ ≠ (.slice b0c b1K.length b0d : Value).ownBlock ∧ some k_ ≠ (.slice a9M b4M.length a9N : Value).ownBlock ∧ some k_ ≠ (e9T : Value).ownBlock) (Kd.b2i (a3y.out) hkp (fun k_ hk_ hs_ => (hk_.2) hs_)) (fun k_ hk_ => ⟨hk_.1.1.1, hk_.1.1.2, fun e_ => Or.elim (ho0.1 k_ e_.symm) (fun hs_ => hk_.2.1 hs_) (fun hn_ => Nat.not_le.2 hk_.2.2 hn_)⟩))
   replace a5K := a_ (Kd.D8 (ok' := fun k_ => some k_ ≠ (.slice b1g b1k.length b1h : Value).ownBlock ∧ some k_ ≠ (.slice a9M b4M.length a9N : Value).ownBlock ∧ some k_ ≠ (e9T : Value).ownBlock) (Kd.b2i (a5K.out) hkp (fun k_ hk_ hs_ => (hk_.2) hs_)) (fun k_ hk_ => ⟨hk_.1.1.1, hk_.1.1.2, fun e_ => Or.elim (ho0.1 k_ e_.symm) (fun hs_ => hk_.2.1 hs_) (fun hn_ => Nat.not_le.2 hk_.2.2 hn_)⟩))
   replace a8k := a_ (Kd.D8 (ok' := fun k_ => some k_ ≠ (.slice b1g b1k.length b1h : Value).ownBlock ∧ some k_ ≠ (.slice b0c b1K.length b0d : Value).ownBlock ∧ some k_ ≠ (e9T : Value).ownBlock) (Kd.b2i (a8k.out) hkp (fun k_ hk_ hs_ => (hk_.2) hs_)) (fun k_ hk_ => ⟨hk_.1.1.1, hk_.1.1.2, fun e_ => Or.elim (ho0.1 k_ e_.symm) (fun hs_ => hk_.2.1 hs_) (fun hn_ => Nat.not_le.2 hk_.2.2 hn_)⟩))
   replace HB := a_ hb
   clear b9h
   (try clear hb)
   (try clear hkp)
   (try clear ho0)
   obtain ⟨e9U, e9V, g9C⟩ := Kd.J4 d09.out
   subst g9C
   refine hK.out _ _ ⟨bc0 a09, bc1 a09, bc2 a09, bc3 a09⟩ (fun hHeld => ?_)
   clear hK K
   refine nm_ (some 29) ?_
   refine a6V (i := 10) (N := some 34) (bo_ 12 2047) rfl rfl (a2c X5.out (by kernel_rfl)) (by decide) (fun K hK => ?_)
   refine a4y Tryd.func38 (by kernel_rfl) rfl #[.slice e9U c7R.length e9V, .int .u32 a2q, .bool N7] (by rfl) rfl rfl (by (try simp only [List.map_toArray, List.map_cons, List.map_nil]); (rfl)) ?_
   with_reducible refine (O7.calls kj1 (fun k_ => some k_ = (.slice e9U c7R.length e9V : Value).ownBlock) (.slice e9U c7R.length e9V) c7R a2q N7 e9P w _ ?Q5 ?Q7 A13.out).mono ?_
   (case Q5 => exact HB.out)
   (case Q7 => exact Kd.a2i rfl d09.out)
   rintro e w32 ⟨e9W, rfl, ho0, hb, hkp⟩
   refine ⟨_, rfl, ?_⟩
   have f8E := a_ (Kd.D8 (ok' := fun k_ => some k_ ≠ (.slice b1g b1k.length b1h : Value).ownBlock ∧ some k_ ≠ (.slice b0c b1K.length b0d : Value).ownBlock ∧ some k_ ≠ (.slice a9M b4M.length a9N : Value).ownBlock) ho0 (fun k_ hk_ => ⟨Or.elim hk_ (fun hs_ => fun e_ => (((a3y.out).1 k_ e_.symm).2.2) hs_) (fun hn_ => (Kd.fresh' (Kd.a0h a3y.out) k_ hn_)), Or.elim hk_ (fun hs_ => fun e_ => (((a5K.out).1 k_ e_.symm).2.2) hs_) (fun hn_ => (Kd.fresh' (Kd.a0h a5K.out) k_ hn_)), Or.elim hk_ (fun hs_ => fun e_ => (((a8k.out).1 k_ e_.symm).2.2) hs_) (fun hn_ => (Kd.fresh' (Kd.a0h a8k.out) k_ hn_))⟩))
   replace a09 := a_ (a7P a09.out hkp (fun hs_ => (fun e_ => (Kd.a6B d09.out a09.out (by decide)) e_) hs_))
   replace a3y := a_ (Kd.D8 (ok' := fun k_ => some k_ ≠ (.slice b0c b1K.length b0d : Value).ownBlock ∧ some k_ ≠ (.slice a9M b4M.length a9N : Value).ownBlock ∧ some k_ ≠ (e9W : Value).ownBlock) (Kd.b2i (a3y.out) hkp (fun k_ hk_ hs_ => (hk_.2.2) hs_)) (fun k_ hk_ => ⟨hk_.1.1, hk_.1.2.1, fun e_ => Or.elim (ho0.1 k_ e_.symm) (fun hs_ => hk_.2.1 hs_) (fun hn_ => Nat.not_le.2 hk_.2.2 hn_)⟩))
   replace a5K := a_ (Kd.D8 (ok' := fun k_ => some k_ ≠ (.slice b1g b1k.length b1h : Value).ownBlock ∧ some k_ ≠ (.slice a9M b4M.length a9N : Value).ownBlock ∧ some k_ ≠ (e9W : Value).ownBlock) (Kd.b2i (a5K.out) hkp (fun k_ hk_ hs_ => (hk_.2.2) hs_)) (fun k_ hk_ => ⟨hk_.1.1, hk_.1.2.1, fun e_ => Or.elim (ho0.1 k_ e_.symm) (fun hs_ => hk_.2.1 hs_) (fun hn_ => Nat.not_le.2 hk_.2.2 hn_)⟩))
   replace a8k := a_ (Kd.D8 (ok' := fun k_ => some k_ ≠ (.slice b1g b1k.length b1h : Value).ownBlock ∧ some k_ ≠ (.slice b0c b1K.length b0d : Value).ownBlock ∧ some k_ ≠ (e9W : Value).ownBlock) (Kd.b2i (a8k.out) hkp (fun k_ hk_ hs_ => (hk_.2.2) hs_)) (fun k_ hk_ => ⟨hk_.1.1, hk_.1.2.1, fun e_ => Or.elim (ho0.1 k_ e_.symm) (fun hs_ => hk_.2.1 hs_) (fun hn_ => Nat.not_le.2 hk_.2.2 hn_)⟩))
   replace HB := a_ hb
   clear d09
   (try clear hb)
   (try clear hkp)
   (try clear ho0)
   refine hK.out _ _ ⟨bc0 a09, bc1 a09, bc2 a09, bc3 a09⟩ (fun hHeld => ?_)
   clear hK K
   refine nm_ (some 34) ?_
   refine pu_ 11 (some 2) X5 ?_
   refine a7d (a6D X5.out (by kernel_rfl)) ?_
   try go_wp2
   go_ret
   exact ⟨_, by (rfl), by exact Kd.D8 f8E.out (fun _ hk => trivial), by exact HB.out⟩

end Go.Proofs.YtgnonglkibhnhaaDoor.Print
