import Derived.Test.YtgnonglkibhnhaaDoorM3
namespace Go.Proofs.YtgnonglkibhnhaaDoor.Print
open Go.RowKit Go.Proofs.YtgnonglkibhnhaaDoorW.PrintWords Go.Proofs.YtgnonglkibhnhaaDoorW.PrintLast Go.Proofs.YtgnonglkibhnhaaDoorW.PrintMore
attribute [local go_sem] a0o a0p a0R a0S Y5 Y6 a0q a0r
set_option linter.unusedVariables false
set_option linter.unusedSimpArgs false

/-! ### umpireref09_Header: function 37 -/
def umpireref09_Header.j0 : Nat → Int → Bool → Bool → Int → Int → Option (List Int)
 | 0, _, _, _, _, _ => none
 | k + 1, x3, b5D, g08, e3j, e3k => (a0D.f k ([] : List Int) x3 b5D).bind fun d3S => ((Q9.f k 2 2 b5D).bind fun b1G => (if d3S.length + b1G.length < 140737488355328 then ((some (d3S ++ b1G : List Int)).bind fun d7b => ((Q9.f k 4 2 b5D).bind fun b2x => (if d7b.length + b2x.length < 140737488355328 then ((some (d7b ++ b2x : List Int)).bind fun d7c => ((some (([0, 0, 0, 0, 0, 0, 0, 0] : List Int) : List Int)).bind fun b5E => (if d7c.length + b5E.length < 140737488355328 then ((a0D.f k (d7c ++ b5E) e3j b5D).bind fun c8f => ((a0D.f k c8f e3k b5D).bind fun e9h => (some e9h))) else (none)))) else (none)))) else (none)))
def umpireref09_Header.f (k : Nat) (V4 : Bool) (a01 : Bool) (a4H : Int) (a4I : Int) : Option (List Int) := if a01 = true then (umpireref09_Header.j0 k 2712812621 V4 a01 a4H a4I) else (umpireref09_Header.j0 k 2712847316 V4 a01 a4H a4I)
def umpireref09_Header.T8 : Bool × List (List Nat × List Nat) := (true, [([], []), ([], []), ([1], [1]), ([], []), ([3], [3]), ([0, 2, 4], [0, 2, 4]), ([], []), ([6], [6]), ([], []), ([8], [8]), ([5, 7, 9, 5], [5, 7, 9]), ([10, 10, 0, 1, 2, 3, 4, 5, 6, 7, 8, 9, 10], [10])])
def umpireref09_Header.B8 : List Nat := [0, 0, 2, 0, 8, 31, 0, 64, 0, 256, 1023, 2047]
theorem umpireref09_Header.g4J : a3g .any (opsOf Tryd.f37 8) = umpireref09_Header.T8 := by kernel_rfl
theorem umpireref09_Header.f5u : a2I umpireref09_Header.T8.2 umpireref09_Header.B8 = true := by kernel_rfl
set_option maxHeartbeats 8000000 in
set_option maxRecDepth 100000 in
theorem umpireref09_Header.calls (k : Nat) (V4 : Bool) (a01 : Bool) (a4H : Int) (a4I : Int) (r : List Int) (w : World) (h : umpireref09_Header.f k V4 a01 a4H a4I = some r) :
  Calls Tryd.prog 37 #[.agg #[.bool V4, .bool a01, .int .u32 a4H, .int .u32 a4I]] w fun e w' => ∃ v0_ : Value, e = .returned (v0_) ∧ Kd.R (Kd.int .u8) 5 w' w.heap.size (fun _ => True) v0_ r ∧ Below w.heap.size w w' := by
 have c7W := Tryd.underlying46
 have HB := a_ (Below.refl w.heap.size w)
 have H := h
 clear h
 unfold umpireref09_Header.f at H
 have HC2 := a_ H
 clear H
 go_enter Tryd.func37, Tryd.ntmps37
 go_upto_if 6 with (first | (refine be_ 1 #[.bool V4, .bool a01, .int .u32 a4H, .int .u32 a4I] 46 ?_; intro c6e hg w3 hbox hb; have a1j := a_ hbox; have g9N := lb_ HB hg; replace HB := V3 HB hb; clear hb hbox hg; obtain ⟨c8g, c8h, c8i, e9i, c8j, c8k, c8l, e9j⟩ := blk4 a1j.out))
 go_cut [3] (fun v3 wc => ∃ (kq : Nat) (a5j : Int), v3 = .int .u32 a5j ∧ Aside0 (umpireref09_Header.j0 kq a5j V4 a01 a4H a4I = some r) ∧ Aside0 (kq ≤ k) ∧ Aside0 (wc.heap[c6e]? = some (.cells #[.bool V4, .bool a01, .int .u32 a4H, .int .u32 a4I] 46 (0, 0))) ∧ Aside0 (Below w.heap.size w wc))
 case first =>
  have H := HC2.out; clear HC2
  by_cases c5 : a01 = true
  ·subst c5; rw [if_pos rfl] at H; have H' := a_ H; clear H
   go_wp2
   go_meet
   case rel => exact ⟨_, (2712812621), (by rfl), H', ⟨by (omega)⟩, ⟨by exact a1j.out⟩, ⟨by exact HB.out⟩⟩
  ·cases nt_ c5
   rw [if_neg a3X] at H; have H' := a_ H; clear H
   go_wp2
   go_meet
   case rel => exact ⟨_, (2712847316), (by rfl), H', ⟨by (omega)⟩, ⟨by exact a1j.out⟩, ⟨by exact HB.out⟩⟩
 case rest =>
  clear HC2
  try clear c8g
  try clear c8h
  try clear c8i
  try clear e9i
  try clear c8j
  try clear c8k
  try clear c8l
  try clear e9j
  obtain ⟨kq, a5j, rfl, HA, HJ1, a1j, HB⟩ := hcut
  cases kq with
  | zero => exact absurd HA.out (by simp [umpireref09_Header.j0])
  | succ kj1 =>
   have H := HA.out; clear HA
   simp only [umpireref09_Header.j0] at H
   obtain ⟨d3S, A6, H⟩ := bd_ H
   (try dsimp only at H); obtain ⟨b1G, A7, H⟩ := bd_ H
   (try dsimp only at H); have c8 := Z4 H; replace H := O5 H; have b6u := a_ c8; clear c8; obtain ⟨d7b, d7d⟩ := is_ ((d3S ++ b1G) : List Int); rw [Option.bind_some, ← d7d] at H; have f5v := a_ d7d; clear d7d; obtain ⟨b2x, A9, H⟩ := bd_ H
   (try dsimp only at H); have c10 := Z4 H; replace H := O5 H; have c6f := a_ c10; clear c10; obtain ⟨d7c, d7e⟩ := is_ ((d7b ++ b2x) : List Int); rw [Option.bind_some, ← d7e] at H; have f5w := a_ d7e; clear d7e; obtain ⟨b5E, d7f⟩ := is_ ([0, 0, 0, 0, 0, 0, 0, 0] : List Int); rw [Option.bind_some, ← d7f] at H; have f5x := a_ d7f; clear d7f; have c11 := Z4 H; replace H := O5 H; have d7g := a_ c11; clear c11; obtain ⟨e3l, d7h⟩ := is_ ((d7c ++ b5E) : List Int); rw [← d7h] at H; have f5y := a_ d7h; clear d7h; obtain ⟨c8f, A12, H⟩ := bd_ H
   (try dsimp only at H); obtain ⟨e9h, A13, H⟩ := bd_ H
   (try dsimp only at H); obtain rfl := oj_ H; obtain ⟨e2Z, e3a, g09, g1a, e3c, e3d, g1b, g1c⟩ := blk4 a1j.out
   try go_wp2_with (first | (refine gl_ (some 10) Tryd.func38 #[.slice none 0 0, .int .u32 a5j, .bool V4] ?_; (refine (a0D.calls kj1 (fun k_ => some k_ = (.slice none 0 0 : Value).ownBlock) (.slice none 0 0) ([] : List Int) a5j V4 d3S w _ ?P9 ?P6 A6.out).mono ?_); (case P9 => exact HB.out); (case P6 => exact Kd.Y2 _ _ _ _ _); rintro e w15 ⟨g4K, rfl, ho0, hb, hkp⟩; refine ⟨_, rfl, ?_⟩; have c08 := a_ (Kd.D7 (ok' := fun k_ => True) ho0 (fun k_ hk_ => trivial)); replace a1j := a_ (b4X a1j.out hkp (fun hs_ => (fun e_ => by simp [Value.ownBlock] at e_) hs_)); replace HB := a_ hb; (try clear hb); (try clear hkp); (try clear ho0); obtain ⟨c2W, c2X, d1P, g1d, c2Y, c2Z, d1Q, g1e⟩ := blk4 a1j.out) | (refine gl_ (some 14) Tryd.func60 #[.int .u64 2, .int .i64 2, .bool V4] ?_; (with_reducible refine (Q9.calls kj1 2 2 V4 b1G _ A7.out).mono ?_); rintro e w17 ⟨h3W, rfl, ho0, hb⟩; refine ⟨_, rfl, ?_⟩; have a3W := rn_ ho0 c08 HB; replace c08 := rR_ c08 ho0 hb; replace a1j := X3 a1j hb; replace HB := V3 HB hb; (try clear hb); (try clear ho0); obtain ⟨b1g, b1h, c78⟩ := Kd.G7 a3W.out; subst c78) | ((with_reducible refine E8 (b := .append) (xs := #[.tmp 11, .tmp 14]) rfl ?_); at_builtin; refine Kd.P7 (Kd.int .u8) (w0 := w) w.heap.size rfl (.tmp 11) (.tmp 14) 22 5 (.int .u8 0) 1 rfl Tryd.underlying22 info5 rfl (by decide) (by omega) g4K d3S b1G _ _ _ (fun k_ => some k_ ≠ (.slice b1g b1G.length b1h : Value).ownBlock) (fun _ => False) rfl rfl ?aO ?aR (fun _ _ h => h) (fun _ h => h.elim) ?aF ?aB ?aS ?aL ?_; (case aR => exact (Kd.D9 a3W.out).2.2); (case aB => exact HB.out); (case aF => exact (fun k_ hk => Kd.fresh' (Kd.a0i a3W.out) k_ hk)); (case aO => exact (by exact Kd.D7 c08.out (fun _ hk => hk.2))); (case aS => exact (y5 HB.out)); (case aL => have := b6u.out; omega); intro g4L w18 ho hb hg hat; rw [← f5v.out] at ho; have c09 := a_ ho; replace a1j := a_ (J7 a1j.out hg (Kd.a6B c08.out a1j.out (by decide))); replace a3W := a_ (Kd.a0T (ok := (fun _ => True)) a3W.out hg hat); replace HB := a_ hb; clear c08 ho hb hg hat; obtain ⟨d0e, d0f, d0g, g1f, d0h, d0i, d0j, g1g⟩ := blk4 a1j.out) | (refine gl_ (some 19) Tryd.func60 #[.int .u64 4, .int .i64 2, .bool V4] ?_; (with_reducible refine (Q9.calls kj1 4 2 V4 b2x _ A9.out).mono ?_); rintro e w21 ⟨h3X, rfl, ho0, hb⟩; refine ⟨_, rfl, ?_⟩; have a5U := a_ (Kd.Z9 (Kd.a1D (Kd.a1D ho0 (Kd.a0i a3W.out)) (Kd.a0i c09.out)) (y5 HB.out)); replace a3W := rR_ a3W ho0 hb; replace c09 := rR_ c09 ho0 hb; replace a1j := X3 a1j hb; replace HB := V3 HB hb; (try clear hb); (try clear ho0); obtain ⟨b1H, b1I, c8m⟩ := Kd.G7 a5U.out; subst c8m) | ((with_reducible refine E8 (b := .append) (xs := #[.tmp 16, .tmp 19]) rfl ?_); at_builtin; refine Kd.P7 (Kd.int .u8) (w0 := w) w.heap.size rfl (.tmp 16) (.tmp 19) 22 5 (.int .u8 0) 1 rfl Tryd.underlying22 info5 rfl (by decide) (by omega) g4L d7b b2x _ _ _ (fun k_ => some k_ ≠ (.slice b1g b1G.length b1h : Value).ownBlock ∧ some k_ ≠ (.slice b1H b2x.length b1I : Value).ownBlock) (fun _ => False) rfl rfl ?aO ?aR (fun _ _ h => h) (fun _ h => h.elim) ?aF ?aB ?aS ?aL ?_; (case aR => exact (Kd.D9 a5U.out).2.2); (case aB => exact HB.out); (case aF => exact (fun k_ hk => ⟨Kd.fresh' (Kd.a0i a3W.out) k_ hk, Kd.fresh' (Kd.a0i a5U.out) k_ hk⟩)); (case aO => exact c09.out); (case aS => exact (y5 HB.out)); (case aL => have := c6f.out; omega); intro g4M w22 ho hb hg hat; rw [← f5w.out] at ho; have c1c := a_ ho; replace a1j := a_ (J7 a1j.out hg (Kd.a6B c09.out a1j.out (by decide))); replace a3W := a_ (Kd.a0T (ok := (fun k_ => some k_ ≠ (.slice b1H b2x.length b1I : Value).ownBlock)) (by exact Kd.D7 a3W.out (fun _ hk => ⟨hk.2, hk.1.2⟩)) hg hat); replace a5U := a_ (Kd.a0T (ok := (fun k_ => some k_ ≠ (.slice b1g b1G.length b1h : Value).ownBlock)) (by exact Kd.D7 a5U.out (fun _ hk => ⟨hk.1.2, hk.2⟩)) hg hat); replace HB := a_ hb; clear c09 ho hb hg hat) | ((with_reducible refine X0 (N := 22) rfl ?_); refine Kd.a96 (Kd.int .u8) _ 5 ?hg (N := 22) ?hd (xs := ([0, 0, 0, 0, 0, 0, 0, 0] : List Int)) (inner := [.int .u8 0, .int .u8 0, .int .u8 0, .int .u8 0, .int .u8 0, .int .u8 0, .int .u8 0, .int .u8 0]) (ok := fun _ => True) (okp := fun _ => True) ?hr ?hp (fun _ hk => hk) trivial (Below.refl _ _) (Nat.le_refl _) (by simp) ?_; (case hd => rfl); (case hg => rfl); (case hr => (go_simp; done)); (case hp => exact (N8.one (show Kd.M (Kd.int .u8) _ _ _ 0 [.int .u8 0] from rfl) (N8.one (show Kd.M (Kd.int .u8) _ _ _ 0 [.int .u8 0] from rfl) (N8.one (show Kd.M (Kd.int .u8) _ _ _ 0 [.int .u8 0] from rfl) (N8.one (show Kd.M (Kd.int .u8) _ _ _ 0 [.int .u8 0] from rfl) (N8.one (show Kd.M (Kd.int .u8) _ _ _ 0 [.int .u8 0] from rfl) (N8.one (show Kd.M (Kd.int .u8) _ _ _ 0 [.int .u8 0] from rfl) (N8.one (show Kd.M (Kd.int .u8) _ _ _ 0 [.int .u8 0] from rfl) (N8.one (show Kd.M (Kd.int .u8) _ _ _ 0 [.int .u8 0] from rfl) (N8.none _ _)))))))))); intro h3Y w24 d3T hb hg_ a1P; clear hg_ a1P; (rw [← f5x.out] at d3T); have a8m := a_ (Kd.Z9 (Kd.a1D (Kd.a1D (Kd.a1D d3T (Kd.a0i a3W.out)) (Kd.a0i a5U.out)) (Kd.a0i c1c.out)) (y5 HB.out)); replace a3W := rR_ a3W d3T hb; replace a5U := rR_ a5U d3T hb; replace c1c := rR_ c1c d3T hb; replace a1j := X3 a1j hb; replace HB := V3 HB hb; clear hb d3T; obtain ⟨a9e, a9f, c2r⟩ := Kd.G7 a8m.out; subst c2r) | ((with_reducible refine E8 (b := .append) (xs := #[.tmp 21, .tmp 22]) rfl ?_); at_builtin; refine Kd.P7 (Kd.int .u8) (w0 := w) w.heap.size rfl (.tmp 21) (.tmp 22) 22 5 (.int .u8 0) 1 rfl Tryd.underlying22 info5 rfl (by decide) (by omega) g4M d7c b5E _ _ _ (fun k_ => some k_ ≠ (.slice b1g b1G.length b1h : Value).ownBlock ∧ some k_ ≠ (.slice b1H b2x.length b1I : Value).ownBlock ∧ some k_ ≠ (.slice a9e b5E.length a9f : Value).ownBlock) (fun _ => False) rfl rfl ?aO ?aR (fun _ _ h => h) (fun _ h => h.elim) ?aF ?aB ?aS ?aL ?_; (case aR => exact (Kd.D9 a8m.out).2.2); (case aB => exact HB.out); (case aF => exact (fun k_ hk => ⟨Kd.fresh' (Kd.a0i a3W.out) k_ hk, Kd.fresh' (Kd.a0i a5U.out) k_ hk, Kd.fresh' (Kd.a0i a8m.out) k_ hk⟩)); (case aO => exact (by exact Kd.D7 c1c.out (fun _ hk => ⟨hk.1.1, ⟨hk.1.2, hk.2⟩⟩))); (case aS => exact (y5 HB.out)); (case aL => have := d7g.out; omega); intro h3Z w26 ho hb hg hat; rw [← f5y.out] at ho; have b9j := a_ ho; replace a1j := a_ (J7 a1j.out hg (Kd.a6B c1c.out a1j.out (by decide))); replace a3W := a_ (Kd.a0T (ok := (fun k_ => some k_ ≠ (.slice b1H b2x.length b1I : Value).ownBlock ∧ some k_ ≠ (.slice a9e b5E.length a9f : Value).ownBlock)) (by exact Kd.D7 a3W.out (fun _ hk => ⟨⟨hk.1.1, hk.2⟩, hk.1.2⟩)) hg hat); replace a5U := a_ (Kd.a0T (ok := (fun k_ => some k_ ≠ (.slice b1g b1G.length b1h : Value).ownBlock ∧ some k_ ≠ (.slice a9e b5E.length a9f : Value).ownBlock)) (by exact Kd.D7 a5U.out (fun _ hk => ⟨⟨hk.1.1, hk.2⟩, hk.1.2⟩)) hg hat); replace a8m := a_ (Kd.a0T (ok := (fun k_ => some k_ ≠ (.slice b1g b1G.length b1h : Value).ownBlock ∧ some k_ ≠ (.slice b1H b2x.length b1I : Value).ownBlock)) (by exact Kd.D7 a8m.out (fun _ hk => ⟨⟨hk.1.1.2, hk.1.2⟩, hk.2⟩)) hg hat); replace HB := a_ hb; clear c1c ho hb hg hat))
   replace a3W := a_ (Kd.b76 a3W.out); replace a5U := a_ (Kd.b76 a5U.out); replace a8m := a_ (Kd.b76 a8m.out); replace b9j := a_ (Kd.b76 b9j.out); replace a1j := a_ (G9 a1j.out); replace HB := a_ (Y4 HB.out); obtain ⟨c6g, c6h, e9k⟩ := Kd.G7 b9j.out; subst e9k; refine a2E (n := 12) (S := fun w' => w'.cell? ⟨c6e, 0, none⟩ = some (.bool V4) ∧ w'.cell? ⟨c6e, 1, none⟩ = some (.bool a01) ∧ w'.cell? ⟨c6e, 2, none⟩ = some (.int .u32 a4H) ∧ w'.cell? ⟨c6e, 3, none⟩ = some (.int .u32 a4I)) (ds := []) (bo_ 12 0) (by kernel_rfl) rfl rfl ⟨bc0 a1j, bc1 a1j, bc2 a1j, bc3 a1j⟩ (fun hHeld => ?_); refine a2J umpireref09_Header.g4J umpireref09_Header.f5u (fun Z8 HW_ => ?_); generalize w26.drew = w28 at a3W a5U a8m b9j a1j HB hHeld ⊢; refine pu_ 0 (some 24) Z8 ?_; refine pu_ 1 (some 25) Z8 ?_; refine pu_ 3 (some 27) Z8 ?_; refine pu_ 6 (some 30) Z8 ?_; refine pu_ 8 (some 32) Z8 ?_; refine a1H (i := 2) (N := some 26) (v := ?_) (a' := ?_) (bo_ 12 335) rfl rfl (a1I Z8.out HW_.out (by kernel_rfl)) (fun _ _ _ h => h) (Or.inl ⟨by rfl, ?_⟩) hHeld ?_ ?_
   rotate_left
   ·rintro w' ⟨s0, s1, s2, s3⟩
    go_simp
    with_reducible rfl
   rotate_left
   ·simp only [Act.put, List.setIfInBounds_toArray, List.set_cons_zero, List.set_cons_succ, a0J, a2b]
    rfl
   refine a1H (i := 4) (N := some 28) (v := ?_) (a' := ?_) (bo_ 12 351) rfl rfl (a1I Z8.out HW_.out (by kernel_rfl)) (fun _ _ _ h => h) (Or.inl ⟨by rfl, ?_⟩) hHeld ?_ ?_
   rotate_left
   ·rintro w' ⟨s0, s1, s2, s3⟩
    go_simp
    with_reducible rfl
   rotate_left
   ·simp only [Act.put, List.setIfInBounds_toArray, List.set_cons_zero, List.set_cons_succ, a0J, a2b]
    rfl
   refine a1H (i := 7) (N := some 31) (v := ?_) (a' := ?_) (bo_ 12 479) rfl rfl (a1I Z8.out HW_.out (by kernel_rfl)) (fun _ _ _ h => h) (Or.inl ⟨by rfl, ?_⟩) hHeld ?_ ?_
   rotate_left
   ·rintro w' ⟨s0, s1, s2, s3⟩
    go_simp
    with_reducible rfl
   rotate_left
   ·simp only [Act.put, List.setIfInBounds_toArray, List.set_cons_zero, List.set_cons_succ, a0J, a2b]
    rfl
   refine a1H (i := 9) (N := some 33) (v := ?_) (a' := ?_) (bo_ 12 991) rfl rfl (a1I Z8.out HW_.out (by kernel_rfl)) (fun _ _ _ h => h) (Or.inl ⟨by rfl, ?_⟩) hHeld ?_ ?_
   rotate_left
   ·rintro w' ⟨s0, s1, s2, s3⟩
    go_simp
    with_reducible rfl
   rotate_left
   ·simp only [Act.put, List.setIfInBounds_toArray, List.set_cons_zero, List.set_cons_succ, a0J, a2b]
    rfl
   refine a6o (i := 5) (N := some 29) (bo_ 12 1023) rfl rfl (a1U Z8.out (by kernel_rfl)) (by decide) (fun K hK => ?_); refine a5o Tryd.func38 (by kernel_rfl) rfl #[.slice c6g e3l.length c6h, .int .u32 a4H, .bool V4] (by rfl) rfl rfl (by (try simp only [List.map_toArray, List.map_cons, List.map_nil]); (rfl)) ?_
   with_reducible refine (a0D.calls kj1 (fun k_ => some k_ = (.slice c6g e3l.length c6h : Value).ownBlock) (.slice c6g e3l.length c6h) e3l a4H V4 c8f w _ ?P9 ?P6 A12.out).mono ?_
   (case P9 => exact HB.out)
   (case P6 => exact Kd.a3v rfl b9j.out)
   rintro e w30 ⟨e9l, rfl, ho0, hb, hkp⟩; refine ⟨_, rfl, ?_⟩; have d1R := a_ (Kd.D7 (ok' := fun k_ => some k_ ≠ (.slice b1g b1G.length b1h : Value).ownBlock ∧ some k_ ≠ (.slice b1H b2x.length b1I : Value).ownBlock ∧ some k_ ≠ (.slice a9e b5E.length a9f : Value).ownBlock) ho0 (fun k_ hk_ => ⟨Or.elim hk_ (fun hs_ => fun e_ => (((a3W.out).1 k_ e_.symm).2) hs_) (fun hn_ => (Kd.fresh' (Kd.a0i a3W.out) k_ hn_)), Or.elim hk_ (fun hs_ => fun e_ => (((a5U.out).1 k_ e_.symm).2) hs_) (fun hn_ => (Kd.fresh' (Kd.a0i a5U.out) k_ hn_)), Or.elim hk_ (fun hs_ => fun e_ => (((a8m.out).1 k_ e_.symm).2) hs_) (fun hn_ => (Kd.fresh' (Kd.a0i a8m.out) k_ hn_))⟩)); replace a1j := a_ (b4X a1j.out hkp (fun hs_ => (fun e_ => (Kd.a6B b9j.out a1j.out (by decide)) e_) hs_)); replace a3W := a_ (Kd.D7 (ok' := fun k_ => some k_ ≠ (.slice b1H b2x.length b1I : Value).ownBlock ∧ some k_ ≠ (.slice a9e b5E.length a9f : Value).ownBlock ∧ some k_ ≠ (e9l : Value).ownBlock) (Kd.b2W (a3W.out) hkp (fun k_ hk_ hs_ => (hk_.2) hs_)) (fun k_ hk_ => ⟨hk_.1.1.1, hk_.1.1.2, fun e_ => Or.elim (ho0.1 k_ e_.symm) (fun hs_ => hk_.2.1 hs_) (fun hn_ => Nat.not_le.2 hk_.2.2 hn_)⟩)); replace a5U := a_ (Kd.D7 (ok' := fun k_ => some k_ ≠ (.slice b1g b1G.length b1h : Value).ownBlock ∧ some k_ ≠ (.slice a9e b5E.length a9f : Value).ownBlock ∧ some k_ ≠ (e9l : Value).ownBlock) (Kd.b2W (a5U.out) hkp (fun k_ hk_ hs_ => (hk_.2) hs_)) (fun k_ hk_ => ⟨hk_.1.1.1, hk_.1.1.2, fun e_ => Or.elim (ho0.1 k_ e_.symm) (fun hs_ => hk_.2.1 hs_) (fun hn_ => Nat.not_le.2 hk_.2.2 hn_)⟩)); replace a8m := a_ (Kd.D7 (ok' := fun k_ => some k_ ≠ (.slice b1g b1G.length b1h : Value).ownBlock ∧ some k_ ≠ (.slice b1H b2x.length b1I : Value).ownBlock ∧ some k_ ≠ (e9l : Value).ownBlock) (Kd.b2W (a8m.out) hkp (fun k_ hk_ hs_ => (hk_.2) hs_)) (fun k_ hk_ => ⟨hk_.1.1.1, hk_.1.1.2, fun e_ => Or.elim (ho0.1 k_ e_.symm) (fun hs_ => hk_.2.1 hs_) (fun hn_ => Nat.not_le.2 hk_.2.2 hn_)⟩)); replace HB := a_ hb; clear b9j
   (try clear hb)
   (try clear hkp)
   (try clear ho0)
   obtain ⟨e9m, e3m, e9n⟩ := Kd.G7 d1R.out; subst e9n; refine hK.out _ _ ⟨bc0 a1j, bc1 a1j, bc2 a1j, bc3 a1j⟩ (fun hHeld => ?_); clear hK K; refine nm_ (some 29) ?_; refine a6o (i := 10) (N := some 34) (bo_ 12 2047) rfl rfl (a1U Z8.out (by kernel_rfl)) (by decide) (fun K hK => ?_); refine a5o Tryd.func38 (by kernel_rfl) rfl #[.slice e9m c8f.length e3m, .int .u32 a4I, .bool V4] (by rfl) rfl rfl (by (try simp only [List.map_toArray, List.map_cons, List.map_nil]); (rfl)) ?_
   with_reducible refine (a0D.calls kj1 (fun k_ => some k_ = (.slice e9m c8f.length e3m : Value).ownBlock) (.slice e9m c8f.length e3m) c8f a4I V4 e9h w _ ?P9 ?P6 A13.out).mono ?_
   (case P9 => exact HB.out)
   (case P6 => exact Kd.a3v rfl d1R.out)
   rintro e w32 ⟨e9o, rfl, ho0, hb, hkp⟩; refine ⟨_, rfl, ?_⟩; have f5z := a_ (Kd.D7 (ok' := fun k_ => some k_ ≠ (.slice b1g b1G.length b1h : Value).ownBlock ∧ some k_ ≠ (.slice b1H b2x.length b1I : Value).ownBlock ∧ some k_ ≠ (.slice a9e b5E.length a9f : Value).ownBlock) ho0 (fun k_ hk_ => ⟨Or.elim hk_ (fun hs_ => fun e_ => (((a3W.out).1 k_ e_.symm).2.2) hs_) (fun hn_ => (Kd.fresh' (Kd.a0i a3W.out) k_ hn_)), Or.elim hk_ (fun hs_ => fun e_ => (((a5U.out).1 k_ e_.symm).2.2) hs_) (fun hn_ => (Kd.fresh' (Kd.a0i a5U.out) k_ hn_)), Or.elim hk_ (fun hs_ => fun e_ => (((a8m.out).1 k_ e_.symm).2.2) hs_) (fun hn_ => (Kd.fresh' (Kd.a0i a8m.out) k_ hn_))⟩)); replace a1j := a_ (b4X a1j.out hkp (fun hs_ => (fun e_ => (Kd.a6B d1R.out a1j.out (by decide)) e_) hs_)); replace a3W := a_ (Kd.D7 (ok' := fun k_ => some k_ ≠ (.slice b1H b2x.length b1I : Value).ownBlock ∧ some k_ ≠ (.slice a9e b5E.length a9f : Value).ownBlock ∧ some k_ ≠ (e9o : Value).ownBlock) (Kd.b2W (a3W.out) hkp (fun k_ hk_ hs_ => (hk_.2.2) hs_)) (fun k_ hk_ => ⟨hk_.1.1, hk_.1.2.1, fun e_ => Or.elim (ho0.1 k_ e_.symm) (fun hs_ => hk_.2.1 hs_) (fun hn_ => Nat.not_le.2 hk_.2.2 hn_)⟩)); replace a5U := a_ (Kd.D7 (ok' := fun k_ => some k_ ≠ (.slice b1g b1G.length b1h : Value).ownBlock ∧ some k_ ≠ (.slice a9e b5E.length a9f : Value).ownBlock ∧ some k_ ≠ (e9o : Value).ownBlock) (Kd.b2W (a5U.out) hkp (fun k_ hk_ hs_ => (hk_.2.2) hs_)) (fun k_ hk_ => ⟨hk_.1.1, hk_.1.2.1, fun e_ => Or.elim (ho0.1 k_ e_.symm) (fun hs_ => hk_.2.1 hs_) (fun hn_ => Nat.not_le.2 hk_.2.2 hn_)⟩)); replace a8m := a_ (Kd.D7 (ok' := fun k_ => some k_ ≠ (.slice b1g b1G.length b1h : Value).ownBlock ∧ some k_ ≠ (.slice b1H b2x.length b1I : Value).ownBlock ∧ some k_ ≠ (e9o : Value).ownBlock) (Kd.b2W (a8m.out) hkp (fun k_ hk_ hs_ => (hk_.2.2) hs_)) (fun k_ hk_ => ⟨hk_.1.1, hk_.1.2.1, fun e_ => Or.elim (ho0.1 k_ e_.symm) (fun hs_ => hk_.2.1 hs_) (fun hn_ => Nat.not_le.2 hk_.2.2 hn_)⟩)); replace HB := a_ hb; clear d1R
   (try clear hb)
   (try clear hkp)
   (try clear ho0)
   refine hK.out _ _ ⟨bc0 a1j, bc1 a1j, bc2 a1j, bc3 a1j⟩ (fun hHeld => ?_); clear hK K; refine nm_ (some 34) ?_; refine pu_ 11 (some 2) Z8 ?_; refine a4D (a5D Z8.out (by kernel_rfl)) ?_
   try go_wp2
   go_ret
   exact ⟨_, by (rfl), by exact Kd.D7 f5z.out (fun _ hk => trivial), by exact HB.out⟩

end Go.Proofs.YtgnonglkibhnhaaDoor.Print
