import Derived.Test.YtgnonglkibhnhaaDoorM3
namespace Go.Proofs.YtgnonglkibhnhaaDoor.Print
open Go.RowKit Go.Proofs.YtgnonglkibhnhaaDoorW.PrintWords Go.Proofs.YtgnonglkibhnhaaDoorW.PrintLast Go.Proofs.YtgnonglkibhnhaaDoorW.PrintMore
attribute [local go_sem] a0d a0e a0V a0W X5 X6 a0f a0g
set_option linter.unusedVariables false
set_option linter.unusedSimpArgs false

/-! ### umpireref09_Header: function 37 -/
def umpireref09_Header.j0 : Nat → Int → Bool → Bool → Int → Int → Option (List Int)
 | 0, _, _, _, _, _ => none
 | k + 1, x3, b3y, f7p, d9F, d9G => (N9.f k ([] : List Int) x3 b3y).bind fun c9S => ((J6.f k 2 2 b3y).bind fun a9p => (if c9S.length + a9p.length < 140737488355328 then ((some (c9S ++ a9p : List Int)).bind fun d5Z => ((J6.f k 4 2 b3y).bind fun a97 => (if d5Z.length + a97.length < 140737488355328 then ((some (d5Z ++ a97 : List Int)).bind fun d50 => ((some (([0, 0, 0, 0, 0, 0, 0, 0] : List Int) : List Int)).bind fun b3z => (if d50.length + b3z.length < 140737488355328 then ((N9.f k (d50 ++ b3z) d9F b3y).bind fun c4K => ((N9.f k c4K d9G b3y).bind fun e6d => (some e6d))) else (none)))) else (none)))) else (none)))
def umpireref09_Header.f (k : Nat) (G8 : Bool) (O9 : Bool) (a2f : Int) (a2g : Int) : Option (List Int) := if O9 = true then (umpireref09_Header.j0 k 2712812621 G8 O9 a2f a2g) else (umpireref09_Header.j0 k 2712847316 G8 O9 a2f a2g)
def umpireref09_Header.T8 : Bool × List (List Nat × List Nat) := (true, [([], []), ([], []), ([1], [1]), ([], []), ([3], [3]), ([0, 2, 4], [0, 2, 4]), ([], []), ([6], [6]), ([], []), ([8], [8]), ([5, 7, 9, 5], [5, 7, 9]), ([10, 10, 0, 1, 2, 3, 4, 5, 6, 7, 8, 9, 10], [10])])
def umpireref09_Header.B8 : List Nat := [0, 0, 2, 0, 8, 31, 0, 64, 0, 256, 1023, 2047]
theorem umpireref09_Header.d5S : a2l .any (opsOf Tryd.f37 8) = umpireref09_Header.T8 := by kernel_rfl
theorem umpireref09_Header.c2w : a1R umpireref09_Header.T8.2 umpireref09_Header.B8 = true := by kernel_rfl
set_option maxHeartbeats 8000000 in
set_option maxRecDepth 100000 in
theorem umpireref09_Header.calls (k : Nat) (G8 : Bool) (O9 : Bool) (a2f : Int) (a2g : Int) (r : List Int) (w : World) (h : umpireref09_Header.f k G8 O9 a2f a2g = some r) :
  Calls Tryd.prog 37 #[.agg #[.bool G8, .bool O9, .int .u32 a2f, .int .u32 a2g]] w fun e w' => ∃ v0_ : Value, e = .returned (v0_) ∧ Kd.R (Kd.int .u8) 5 w' w.heap.size (fun _ => True) v0_ r ∧ Below w.heap.size w w' := by
 have c3q := Tryd.underlying46
 have HB := a_ (Below.refl w.heap.size w)
 have H := h
 clear h
 unfold umpireref09_Header.f at H
 have HC2 := a_ H
 clear H
 go_enter Tryd.func37, Tryd.ntmps37
 go_upto_if 6 with (first | (refine be_ 1 #[.bool G8, .bool O9, .int .u32 a2f, .int .u32 a2g] 46 ?_; intro c2x hg w3 hbox hb; have a0T := a_ hbox; have g7a := lb_ HB hg; replace HB := Q8 HB hb; clear hb hbox hg; obtain ⟨d46, d47, d48, e6e, d49, d5a, d5b, e6f⟩ := blk4 a0T.out))
 go_cut [3] (fun v3 wc => ∃ (kq : Nat) (a5C : Int), v3 = .int .u32 a5C ∧ Aside0 (umpireref09_Header.j0 kq a5C G8 O9 a2f a2g = some r) ∧ Aside0 (kq ≤ k) ∧ Aside0 (wc.heap[c2x]? = some (.cells #[.bool G8, .bool O9, .int .u32 a2f, .int .u32 a2g] 46 (0, 0))) ∧ Aside0 (Below w.heap.size w wc))
 case first =>
  have H := HC2.out; clear HC2
  by_cases c5 : O9 = true
  ·subst c5; rw [if_pos rfl] at H; have H' := a_ H; clear H
   go_wp2
   go_meet
   case rel => exact ⟨_, (2712812621), (by rfl), H', ⟨by (omega)⟩, ⟨by exact a0T.out⟩, ⟨by exact HB.out⟩⟩
  ·cases nt_ c5
   rw [if_neg a2O] at H; have H' := a_ H; clear H
   go_wp2
   go_meet
   case rel => exact ⟨_, (2712847316), (by rfl), H', ⟨by (omega)⟩, ⟨by exact a0T.out⟩, ⟨by exact HB.out⟩⟩
 case rest =>
  clear HC2
  try clear d46
  try clear d47
  try clear d48
  try clear e6e
  try clear d49
  try clear d5a
  try clear d5b
  try clear e6f
  obtain ⟨kq, a5C, rfl, HA, HJ1, a0T, HB⟩ := hcut
  cases kq with
  | zero => exact absurd HA.out (by simp [umpireref09_Header.j0])
  | succ kj1 =>
   have H := HA.out; clear HA
   simp only [umpireref09_Header.j0] at H
   obtain ⟨c9S, A6, H⟩ := bd_ H
   (try dsimp only at H); obtain ⟨a9p, A7, H⟩ := bd_ H
   (try dsimp only at H); have c8 := X4 H; replace H := O6 H; have b6V := a_ c8; clear c8; obtain ⟨d5Z, d51⟩ := is_ ((c9S ++ a9p) : List Int); rw [Option.bind_some, ← d51] at H; have f2N := a_ d51; clear d51; obtain ⟨a97, A9, H⟩ := bd_ H
   (try dsimp only at H); have c10 := X4 H; replace H := O6 H; have c1J := a_ c10; clear c10; obtain ⟨d50, d52⟩ := is_ ((d5Z ++ a97) : List Int); rw [Option.bind_some, ← d52] at H; have f2O := a_ d52; clear d52; obtain ⟨b3z, d53⟩ := is_ ([0, 0, 0, 0, 0, 0, 0, 0] : List Int); rw [Option.bind_some, ← d53] at H; have f2P := a_ d53; clear d53; have c11 := X4 H; replace H := O6 H; have d3t := a_ c11; clear c11; obtain ⟨d9H, d54⟩ := is_ ((d50 ++ b3z) : List Int); rw [← d54] at H; have f2Q := a_ d54; clear d54; obtain ⟨c4K, A12, H⟩ := bd_ H
   (try dsimp only at H); obtain ⟨e6d, A13, H⟩ := bd_ H
   (try dsimp only at H); obtain rfl := oj_ H; obtain ⟨c6G, c6H, c6I, f7q, c6J, c6K, c6L, f7r⟩ := blk4 a0T.out
   try go_wp2_with (first | (refine gl_ (some 10) Tryd.func38 #[.slice none 0 0, .int .u32 a5C, .bool G8] ?_; (refine (N9.calls kj1 (fun k_ => some k_ = (.slice none 0 0 : Value).ownBlock) (.slice none 0 0) ([] : List Int) a5C G8 c9S w _ ?U1 ?U2 A6.out).mono ?_); (case U1 => exact HB.out); (case U2 => exact Kd.Y4 _ _ _ _ _); rintro e w15 ⟨g3U, rfl, ho0, hb, hkp⟩; refine ⟨_, rfl, ?_⟩; have b8n := a_ (Kd.y9 (ok' := fun k_ => True) ho0 (fun k_ hk_ => trivial)); replace a0T := a_ (a5T a0T.out hkp (fun hs_ => (fun e_ => by simp [Value.ownBlock] at e_) hs_)); replace HB := a_ hb; (try clear hb); (try clear hkp); (try clear ho0); obtain ⟨b9l, b9m, c6M, f7s, b9n, b9o, c6N, f7t⟩ := blk4 a0T.out) | (refine gl_ (some 14) Tryd.func60 #[.int .u64 2, .int .i64 2, .bool G8] ?_; (with_reducible refine (J6.calls kj1 2 2 G8 a9p _ A7.out).mono ?_); rintro e w17 ⟨h1j, rfl, ho0, hb⟩; refine ⟨_, rfl, ?_⟩; have a2W := rn_ ho0 b8n HB; replace b8n := rR_ b8n ho0 hb; replace a0T := X8 a0T hb; replace HB := Q8 HB hb; (try clear hb); (try clear ho0); obtain ⟨a9j, a9k, d2T⟩ := Kd.H6 a2W.out; subst d2T) | ((with_reducible refine D6 (b := .append) (xs := #[.tmp 11, .tmp 14]) rfl ?_); at_builtin; refine Kd.G9 (Kd.int .u8) (w0 := w) w.heap.size rfl (.tmp 11) (.tmp 14) 22 5 (.int .u8 0) 1 rfl Tryd.underlying22 info5 rfl (by decide) (by omega) g3U c9S a9p _ _ _ (fun k_ => some k_ ≠ (.slice a9j a9p.length a9k : Value).ownBlock) (fun _ => False) rfl rfl ?aO ?aR (fun _ _ h => h) (fun _ h => h.elim) ?aF ?aB ?aS ?aL ?_; (case aR => exact (Kd.F9 a2W.out).2.2); (case aB => exact HB.out); (case aF => exact (fun k_ hk => Kd.fresh' (Kd.U8 a2W.out) k_ hk)); (case aO => exact (by exact Kd.y9 b8n.out (fun _ hk => hk.2))); (case aS => exact (o9 HB.out)); (case aL => have := b6V.out; omega); intro g3V w18 ho hb hg hat; rw [← f2N.out] at ho; have b8o := a_ ho; replace a0T := a_ (L9 a0T.out hg (Kd.a3L b8n.out a0T.out (by decide))); replace a2W := a_ (Kd.Q7 (ok := (fun _ => True)) a2W.out hg hat); replace HB := a_ hb; clear b8n ho hb hg hat; obtain ⟨b9p, b9q, b9r, f7u, b9s, b9t, b9u, f7v⟩ := blk4 a0T.out) | (refine gl_ (some 19) Tryd.func60 #[.int .u64 4, .int .i64 2, .bool G8] ?_; (with_reducible refine (J6.calls kj1 4 2 G8 a97 _ A9.out).mono ?_); rintro e w21 ⟨h1l, rfl, ho0, hb⟩; refine ⟨_, rfl, ?_⟩; have a4o := a_ (Kd.X3 (Kd.a03 (Kd.a03 ho0 (Kd.U8 a2W.out)) (Kd.U8 b8o.out)) (o9 HB.out)); replace a2W := rR_ a2W ho0 hb; replace b8o := rR_ b8o ho0 hb; replace a0T := X8 a0T hb; replace HB := Q8 HB hb; (try clear hb); (try clear ho0); obtain ⟨a5g, a5h, b9e⟩ := Kd.H6 a4o.out; subst b9e) | ((with_reducible refine D6 (b := .append) (xs := #[.tmp 16, .tmp 19]) rfl ?_); at_builtin; refine Kd.G9 (Kd.int .u8) (w0 := w) w.heap.size rfl (.tmp 16) (.tmp 19) 22 5 (.int .u8 0) 1 rfl Tryd.underlying22 info5 rfl (by decide) (by omega) g3V d5Z a97 _ _ _ (fun k_ => some k_ ≠ (.slice a9j a9p.length a9k : Value).ownBlock ∧ some k_ ≠ (.slice a5g a97.length a5h : Value).ownBlock) (fun _ => False) rfl rfl ?aO ?aR (fun _ _ h => h) (fun _ h => h.elim) ?aF ?aB ?aS ?aL ?_; (case aR => exact (Kd.F9 a4o.out).2.2); (case aB => exact HB.out); (case aF => exact (fun k_ hk => ⟨Kd.fresh' (Kd.U8 a2W.out) k_ hk, Kd.fresh' (Kd.U8 a4o.out) k_ hk⟩)); (case aO => exact b8o.out); (case aS => exact (o9 HB.out)); (case aL => have := c1J.out; omega); intro g3W w22 ho hb hg hat; rw [← f2O.out] at ho; have b8p := a_ ho; replace a0T := a_ (L9 a0T.out hg (Kd.a3L b8o.out a0T.out (by decide))); replace a2W := a_ (Kd.Q7 (ok := (fun k_ => some k_ ≠ (.slice a5g a97.length a5h : Value).ownBlock)) (by exact Kd.y9 a2W.out (fun _ hk => ⟨hk.2, hk.1.2⟩)) hg hat); replace a4o := a_ (Kd.Q7 (ok := (fun k_ => some k_ ≠ (.slice a9j a9p.length a9k : Value).ownBlock)) (by exact Kd.y9 a4o.out (fun _ hk => ⟨hk.1.2, hk.2⟩)) hg hat); replace HB := a_ hb; clear b8o ho hb hg hat) | ((with_reducible refine N7 (N := 22) rfl ?_); refine Kd.a4l (Kd.int .u8) _ 5 ?hg (N := 22) ?hd (xs := ([0, 0, 0, 0, 0, 0, 0, 0] : List Int)) (inner := [.int .u8 0, .int .u8 0, .int .u8 0, .int .u8 0, .int .u8 0, .int .u8 0, .int .u8 0, .int .u8 0]) (ok := fun _ => True) (okp := fun _ => True) ?hr ?hp (fun _ hk => hk) trivial (Below.refl _ _) (Nat.le_refl _) (by simp) ?_; (case hd => rfl); (case hg => rfl); (case hr => (go_simp; done)); (case hp => exact (J3.one (show Kd.M (Kd.int .u8) _ _ _ 0 [.int .u8 0] from rfl) (J3.one (show Kd.M (Kd.int .u8) _ _ _ 0 [.int .u8 0] from rfl) (J3.one (show Kd.M (Kd.int .u8) _ _ _ 0 [.int .u8 0] from rfl) (J3.one (show Kd.M (Kd.int .u8) _ _ _ 0 [.int .u8 0] from rfl) (J3.one (show Kd.M (Kd.int .u8) _ _ _ 0 [.int .u8 0] from rfl) (J3.one (show Kd.M (Kd.int .u8) _ _ _ 0 [.int .u8 0] from rfl) (J3.one (show Kd.M (Kd.int .u8) _ _ _ 0 [.int .u8 0] from rfl) (J3.one (show Kd.M (Kd.int .u8) _ _ _ 0 [.int .u8 0] from rfl) (J3.none _ _)))))))))); intro h1m w24 b7F hb hg_ V8; clear hg_ V8; (rw [← f2P.out] at b7F); have a6l := a_ (Kd.X3 (Kd.a03 (Kd.a03 (Kd.a03 b7F (Kd.U8 a2W.out)) (Kd.U8 a4o.out)) (Kd.U8 b8p.out)) (o9 HB.out)); replace a2W := rR_ a2W b7F hb; replace a4o := rR_ a4o b7F hb; replace b8p := rR_ b8p b7F hb; replace a0T := X8 a0T hb; replace HB := Q8 HB hb; clear hb b7F; obtain ⟨a7e, a7f, c3n⟩ := Kd.H6 a6l.out; subst c3n) | ((with_reducible refine D6 (b := .append) (xs := #[.tmp 21, .tmp 22]) rfl ?_); at_builtin; refine Kd.G9 (Kd.int .u8) (w0 := w) w.heap.size rfl (.tmp 21) (.tmp 22) 22 5 (.int .u8 0) 1 rfl Tryd.underlying22 info5 rfl (by decide) (by omega) g3W d50 b3z _ _ _ (fun k_ => some k_ ≠ (.slice a9j a9p.length a9k : Value).ownBlock ∧ some k_ ≠ (.slice a5g a97.length a5h : Value).ownBlock ∧ some k_ ≠ (.slice a7e b3z.length a7f : Value).ownBlock) (fun _ => False) rfl rfl ?aO ?aR (fun _ _ h => h) (fun _ h => h.elim) ?aF ?aB ?aS ?aL ?_; (case aR => exact (Kd.F9 a6l.out).2.2); (case aB => exact HB.out); (case aF => exact (fun k_ hk => ⟨Kd.fresh' (Kd.U8 a2W.out) k_ hk, Kd.fresh' (Kd.U8 a4o.out) k_ hk, Kd.fresh' (Kd.U8 a6l.out) k_ hk⟩)); (case aO => exact (by exact Kd.y9 b8p.out (fun _ hk => ⟨hk.1.1, ⟨hk.1.2, hk.2⟩⟩))); (case aS => exact (o9 HB.out)); (case aL => have := d3t.out; omega); intro h1o w26 ho hb hg hat; rw [← f2Q.out] at ho; have b7p := a_ ho; replace a0T := a_ (L9 a0T.out hg (Kd.a3L b8p.out a0T.out (by decide))); replace a2W := a_ (Kd.Q7 (ok := (fun k_ => some k_ ≠ (.slice a5g a97.length a5h : Value).ownBlock ∧ some k_ ≠ (.slice a7e b3z.length a7f : Value).ownBlock)) (by exact Kd.y9 a2W.out (fun _ hk => ⟨⟨hk.1.1, hk.2⟩, hk.1.2⟩)) hg hat); replace a4o := a_ (Kd.Q7 (ok := (fun k_ => some k_ ≠ (.slice a9j a9p.length a9k : Value).ownBlock ∧ some k_ ≠ (.slice a7e b3z.length a7f : Value).ownBlock)) (by exact Kd.y9 a4o.out (fun _ hk => ⟨⟨hk.1.1, hk.2⟩, hk.1.2⟩)) hg hat); replace a6l := a_ (Kd.Q7 (ok := (fun k_ => some k_ ≠ (.slice a9j a9p.length a9k : Value).ownBlock ∧ some k_ ≠ (.slice a5g a97.length a5h : Value).ownBlock)) (by exact Kd.y9 a6l.out (fun _ hk => ⟨⟨hk.1.1.2, hk.1.2⟩, hk.2⟩)) hg hat); replace HB := a_ hb; clear b8p ho hb hg hat))
   replace a2W := a_ (Kd.a8p a2W.out); replace a4o := a_ (Kd.a8p a4o.out); replace a6l := a_ (Kd.a8p a6l.out); replace b7p := a_ (Kd.a8p b7p.out); replace a0T := a_ (P6 a0T.out); replace HB := a_ (Z8 HB.out); obtain ⟨c1M, c1N, e4c⟩ := Kd.H6 b7p.out; subst e4c; refine a2U (n := 12) (S := fun w' => w'.cell? ⟨c2x, 0, none⟩ = some (.bool G8) ∧ w'.cell? ⟨c2x, 1, none⟩ = some (.bool O9) ∧ w'.cell? ⟨c2x, 2, none⟩ = some (.int .u32 a2f) ∧ w'.cell? ⟨c2x, 3, none⟩ = some (.int .u32 a2g)) (ds := []) (bo_ 12 0) (by kernel_rfl) rfl rfl ⟨bc0 a0T, bc1 a0T, bc2 a0T, bc3 a0T⟩ (fun hHeld => ?_); refine a1Z umpireref09_Header.d5S umpireref09_Header.c2w (fun U6 HW_ => ?_); generalize w26.drew = w28 at a2W a4o a6l b7p a0T HB hHeld ⊢; refine pu_ 0 (some 24) U6 ?_; refine pu_ 1 (some 25) U6 ?_; refine pu_ 3 (some 27) U6 ?_; refine pu_ 6 (some 30) U6 ?_; refine pu_ 8 (some 32) U6 ?_; refine a0Y (i := 2) (N := some 26) (v := ?_) (a' := ?_) (bo_ 12 335) rfl rfl (Y9 U6.out HW_.out (by kernel_rfl)) (fun _ _ _ h => h) (Or.inl ⟨by rfl, ?_⟩) hHeld ?_ ?_
   rotate_left
   ·rintro w' ⟨s0, s1, s2, s3⟩
    go_simp
    with_reducible rfl
   rotate_left
   ·simp only [Act.put, List.setIfInBounds_toArray, List.set_cons_zero, List.set_cons_succ, a0D, a1b]
    rfl
   refine a0Y (i := 4) (N := some 28) (v := ?_) (a' := ?_) (bo_ 12 351) rfl rfl (Y9 U6.out HW_.out (by kernel_rfl)) (fun _ _ _ h => h) (Or.inl ⟨by rfl, ?_⟩) hHeld ?_ ?_
   rotate_left
   ·rintro w' ⟨s0, s1, s2, s3⟩
    go_simp
    with_reducible rfl
   rotate_left
   ·simp only [Act.put, List.setIfInBounds_toArray, List.set_cons_zero, List.set_cons_succ, a0D, a1b]
    rfl
   refine a0Y (i := 7) (N := some 31) (v := ?_) (a' := ?_) (bo_ 12 479) rfl rfl (Y9 U6.out HW_.out (by kernel_rfl)) (fun _ _ _ h => h) (Or.inl ⟨by rfl, ?_⟩) hHeld ?_ ?_
   rotate_left
   ·rintro w' ⟨s0, s1, s2, s3⟩
    go_simp
    with_reducible rfl
   rotate_left
   ·simp only [Act.put, List.setIfInBounds_toArray, List.set_cons_zero, List.set_cons_succ, a0D, a1b]
    rfl
   refine a0Y (i := 9) (N := some 33) (v := ?_) (a' := ?_) (bo_ 12 991) rfl rfl (Y9 U6.out HW_.out (by kernel_rfl)) (fun _ _ _ h => h) (Or.inl ⟨by rfl, ?_⟩) hHeld ?_ ?_
   rotate_left
   ·rintro w' ⟨s0, s1, s2, s3⟩
    go_simp
    with_reducible rfl
   rotate_left
   ·simp only [Act.put, List.setIfInBounds_toArray, List.set_cons_zero, List.set_cons_succ, a0D, a1b]
    rfl
   refine a4p (i := 5) (N := some 29) (bo_ 12 1023) rfl rfl (a1l U6.out (by kernel_rfl)) (by decide) (fun K hK => ?_); refine a3c Tryd.func38 (by kernel_rfl) rfl #[.slice c1M d9H.length c1N, .int .u32 a2f, .bool G8] (by rfl) rfl rfl (by (try simp only [List.map_toArray, List.map_cons, List.map_nil]); (rfl)) ?_
   with_reducible refine (N9.calls kj1 (fun k_ => some k_ = (.slice c1M d9H.length c1N : Value).ownBlock) (.slice c1M d9H.length c1N) d9H a2f G8 c4K w _ ?U1 ?U2 A12.out).mono ?_
   (case U1 => exact HB.out)
   (case U2 => exact Kd.a2m rfl b7p.out)
   rintro e w30 ⟨e6g, rfl, ho0, hb, hkp⟩; refine ⟨_, rfl, ?_⟩; have c8o := a_ (Kd.y9 (ok' := fun k_ => some k_ ≠ (.slice a9j a9p.length a9k : Value).ownBlock ∧ some k_ ≠ (.slice a5g a97.length a5h : Value).ownBlock ∧ some k_ ≠ (.slice a7e b3z.length a7f : Value).ownBlock) ho0 (fun k_ hk_ => ⟨Or.elim hk_ (fun hs_ => fun e_ => (((a2W.out).1 k_ e_.symm).2) hs_) (fun hn_ => (Kd.fresh' (Kd.U8 a2W.out) k_ hn_)), Or.elim hk_ (fun hs_ => fun e_ => (((a4o.out).1 k_ e_.symm).2) hs_) (fun hn_ => (Kd.fresh' (Kd.U8 a4o.out) k_ hn_)), Or.elim hk_ (fun hs_ => fun e_ => (((a6l.out).1 k_ e_.symm).2) hs_) (fun hn_ => (Kd.fresh' (Kd.U8 a6l.out) k_ hn_))⟩)); replace a0T := a_ (a5T a0T.out hkp (fun hs_ => (fun e_ => (Kd.a3L b7p.out a0T.out (by decide)) e_) hs_)); replace a2W := a_ (Kd.y9 (ok' := fun k_ => some k_ ≠ (.slice a5g a97.length a5h : Value).ownBlock ∧ some k_ ≠ (.slice a7e b3z.length a7f : Value).ownBlock ∧ some k_ ≠ (e6g : Value).ownBlock) (Kd.b0e (a2W.out) hkp (fun k_ hk_ hs_ => (hk_.2) hs_)) (fun k_ hk_ => ⟨hk_.1.1.1, hk_.1.1.2, fun e_ => Or.elim (ho0.1 k_ e_.symm) (fun hs_ => hk_.2.1 hs_) (fun hn_ => Nat.not_le.2 hk_.2.2 hn_)⟩)); replace a4o := a_ (Kd.y9 (ok' := fun k_ => some k_ ≠ (.slice a9j a9p.length a9k : Value).ownBlock ∧ some k_ ≠ (.slice a7e b3z.length a7f : Value).ownBlock ∧ some k_ ≠ (e6g : Value).ownBlock) (Kd.b0e (a4o.out) hkp (fun k_ hk_ hs_ => (hk_.2) hs_)) (fun k_ hk_ => ⟨hk_.1.1.1, hk_.1.1.2, fun e_ => Or.elim (ho0.1 k_ e_.symm) (fun hs_ => hk_.2.1 hs_) (fun hn_ => Nat.not_le.2 hk_.2.2 hn_)⟩)); replace a6l := a_ (Kd.y9 (ok' := fun k_ => some k_ ≠ (.slice a9j a9p.length a9k : Value).ownBlock ∧ some k_ ≠ (.slice a5g a97.length a5h : Value).ownBlock ∧ some k_ ≠ (e6g : Value).ownBlock) (Kd.b0e (a6l.out) hkp (fun k_ hk_ hs_ => (hk_.2) hs_)) (fun k_ hk_ => ⟨hk_.1.1.1, hk_.1.1.2, fun e_ => Or.elim (ho0.1 k_ e_.symm) (fun hs_ => hk_.2.1 hs_) (fun hn_ => Nat.not_le.2 hk_.2.2 hn_)⟩)); replace HB := a_ hb; clear b7p
   (try clear hb)
   (try clear hkp)
   (try clear ho0)
   obtain ⟨c9J, c9K, e4I⟩ := Kd.H6 c8o.out; subst e4I; refine hK.out _ _ ⟨bc0 a0T, bc1 a0T, bc2 a0T, bc3 a0T⟩ (fun hHeld => ?_); clear hK K; refine nm_ (some 29) ?_; refine a4p (i := 10) (N := some 34) (bo_ 12 2047) rfl rfl (a1l U6.out (by kernel_rfl)) (by decide) (fun K hK => ?_); refine a3c Tryd.func38 (by kernel_rfl) rfl #[.slice c9J c4K.length c9K, .int .u32 a2g, .bool G8] (by rfl) rfl rfl (by (try simp only [List.map_toArray, List.map_cons, List.map_nil]); (rfl)) ?_
   with_reducible refine (N9.calls kj1 (fun k_ => some k_ = (.slice c9J c4K.length c9K : Value).ownBlock) (.slice c9J c4K.length c9K) c4K a2g G8 e6d w _ ?U1 ?U2 A13.out).mono ?_
   (case U1 => exact HB.out)
   (case U2 => exact Kd.a2m rfl c8o.out)
   rintro e w32 ⟨e6h, rfl, ho0, hb, hkp⟩; refine ⟨_, rfl, ?_⟩; have f2R := a_ (Kd.y9 (ok' := fun k_ => some k_ ≠ (.slice a9j a9p.length a9k : Value).ownBlock ∧ some k_ ≠ (.slice a5g a97.length a5h : Value).ownBlock ∧ some k_ ≠ (.slice a7e b3z.length a7f : Value).ownBlock) ho0 (fun k_ hk_ => ⟨Or.elim hk_ (fun hs_ => fun e_ => (((a2W.out).1 k_ e_.symm).2.2) hs_) (fun hn_ => (Kd.fresh' (Kd.U8 a2W.out) k_ hn_)), Or.elim hk_ (fun hs_ => fun e_ => (((a4o.out).1 k_ e_.symm).2.2) hs_) (fun hn_ => (Kd.fresh' (Kd.U8 a4o.out) k_ hn_)), Or.elim hk_ (fun hs_ => fun e_ => (((a6l.out).1 k_ e_.symm).2.2) hs_) (fun hn_ => (Kd.fresh' (Kd.U8 a6l.out) k_ hn_))⟩)); replace a0T := a_ (a5T a0T.out hkp (fun hs_ => (fun e_ => (Kd.a3L c8o.out a0T.out (by decide)) e_) hs_)); replace a2W := a_ (Kd.y9 (ok' := fun k_ => some k_ ≠ (.slice a5g a97.length a5h : Value).ownBlock ∧ some k_ ≠ (.slice a7e b3z.length a7f : Value).ownBlock ∧ some k_ ≠ (e6h : Value).ownBlock) (Kd.b0e (a2W.out) hkp (fun k_ hk_ hs_ => (hk_.2.2) hs_)) (fun k_ hk_ => ⟨hk_.1.1, hk_.1.2.1, fun e_ => Or.elim (ho0.1 k_ e_.symm) (fun hs_ => hk_.2.1 hs_) (fun hn_ => Nat.not_le.2 hk_.2.2 hn_)⟩)); replace a4o := a_ (Kd.y9 (ok' := fun k_ => some k_ ≠ (.slice a9j a9p.length a9k : Value).ownBlock ∧ some k_ ≠ (.slice a7e b3z.length a7f : Value).ownBlock ∧ some k_ ≠ (e6h : Value).ownBlock) (Kd.b0e (a4o.out) hkp (fun k_ hk_ hs_ => (hk_.2.2) hs_)) (fun k_ hk_ => ⟨hk_.1.1, hk_.1.2.1, fun e_ => Or.elim (ho0.1 k_ e_.symm) (fun hs_ => hk_.2.1 hs_) (fun hn_ => Nat.not_le.2 hk_.2.2 hn_)⟩)); replace a6l := a_ (Kd.y9 (ok' := fun k_ => some k_ ≠ (.slice a9j a9p.length a9k : Value).ownBlock ∧ some k_ ≠ (.slice a5g a97.length a5h : Value).ownBlock ∧ some k_ ≠ (e6h : Value).ownBlock) (Kd.b0e (a6l.out) hkp (fun k_ hk_ hs_ => (hk_.2.2) hs_)) (fun k_ hk_ => ⟨hk_.1.1, hk_.1.2.1, fun e_ => Or.elim (ho0.1 k_ e_.symm) (fun hs_ => hk_.2.1 hs_) (fun hn_ => Nat.not_le.2 hk_.2.2 hn_)⟩)); replace HB := a_ hb; clear c8o
   (try clear hb)
   (try clear hkp)
   (try clear ho0)
   refine hK.out _ _ ⟨bc0 a0T, bc1 a0T, bc2 a0T, bc3 a0T⟩ (fun hHeld => ?_); clear hK K; refine nm_ (some 34) ?_; refine pu_ 11 (some 2) U6 ?_; refine a4J (a4b U6.out (by kernel_rfl)) ?_
   try go_wp2
   go_ret
   exact ⟨_, by (rfl), by exact Kd.y9 f2R.out (fun _ hk => trivial), by exact HB.out⟩

end Go.Proofs.YtgnonglkibhnhaaDoor.Print
