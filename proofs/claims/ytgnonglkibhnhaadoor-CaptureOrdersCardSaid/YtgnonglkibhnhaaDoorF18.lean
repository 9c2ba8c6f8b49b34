import Derived.Test.YtgnonglkibhnhaaDoorZ
import Derived.Test.YtgnonglkibhnhaaDoorF35
import Derived.Test.YtgnonglkibhnhaaDoorM4
namespace Go.Proofs.YtgnonglkibhnhaaDoor.Print
open Go.RowKit Go.Proofs.YtgnonglkibhnhaaDoorW.PrintWords Go.Proofs.YtgnonglkibhnhaaDoorW.PrintLast Go.Proofs.YtgnonglkibhnhaaDoorW.PrintMore
attribute [local go_sem] a0u a0v a1m a1n Y7 Y8 a0w a0x
set_option linter.unusedVariables false
set_option linter.unusedSimpArgs false

/-! ### umpireref09_Read: function 18 -/
def umpireref09_Read.l0 : Nat → List Int → List (S51) → Int → Bool → Bool → Int → Int → Option (Bool × Bool × Int × Int × (List (S51)) × Int × Int)
 | 0, _, _, _, _, _, _, _ => none
 | k + 1, x0, x7, x8, b7w, c2W, c2X, c2Y => if x8 < (x0.length : Int) then (if 0 ≤ x8 then (if x8 ≤ (x0.length : Int) then ((O8.f k (x0.drop (x8 : Int).toNat) b7w).bind fun b9d => (if b9d.2.2.2.2.2 = 0 then (if x7.length < 3518437208883 then (umpireref09_Read.l0 k x0 (x7 ++ [(⟨b9d.1, b9d.2.1, b9d.2.2.1, b9d.2.2.2.1⟩ : S51)]) (wrap64 (x8 + b9d.2.2.2.2.1)) b7w c2W c2X c2Y) else (none)) else (some (b7w, c2W, c2X, c2Y, x7, x8, b9d.2.2.2.2.2)))) else (none)) else (none)) else (some (b7w, c2W, c2X, c2Y, x7, 0, 0))
def umpireref09_Read.f (k : Nat) (l0 : List Int) : Option (Bool × Bool × Int × Int × (List (S51)) × Int × Int) := (umpireref09_Head.f k l0).bind fun c0D => (if c0D.2.2.2.2 = 0 then (umpireref09_Read.l0 k l0 ([] : List (S51)) 24 c0D.1 c0D.2.1 c0D.2.2.1 c0D.2.2.2.1) else (some (false, false, 0, 0, ([] : List (S51)), 0, c0D.2.2.2.2)))
def umpireref09_Read.T7 : Bool × List (List Nat × List Nat) := (true, [([], []), ([], []), ([0, 1], [0, 1]), ([], []), ([3], [3]), ([2, 4], [2, 4]), ([5], [5]), ([6], [6]), ([6], [6]), ([6], [6]), ([], []), ([10, 7, 5, 0, 1, 2, 3, 4, 5, 6, 7, 10], [7, 10]), ([8, 11, 0, 1, 2, 3, 4, 5, 6, 7, 8, 10, 11], [8]), ([9, 12, 0, 1, 2, 3, 4, 5, 6, 7, 8, 9, 10, 11, 12], [9])])
def umpireref09_Read.B7 : List Nat := [0, 0, 3, 0, 8, 31, 63, 127, 127, 127, 0, 1279, 3583, 8191]
theorem umpireref09_Read.c65 : a2N .any (opsOf Tryd.f18 7) = umpireref09_Read.T7 := by kernel_rfl
theorem umpireref09_Read.b8K : a2t umpireref09_Read.T7.2 umpireref09_Read.B7 = true := by kernel_rfl
set_option maxHeartbeats 8000000 in
set_option maxRecDepth 100000 in
theorem umpireref09_Read.calls (k : Nat) (A0 : Option Addr) (c0 : Nat) (l0 : List Int) (r1 : Bool) (r2 : Bool) (r3 : Int) (r4 : Int) (r5 : List (S51)) (r6 : Int) (r7 : Int) (w : World) (hr0 : Kd.C (Kd.int .u8) w A0 l0.length l0) (hc0 : l0.length ≤ c0) (h : umpireref09_Read.f k l0 = some (r1, r2, r3, r4, r5, r6, r7)) :
  Calls Tryd.prog 18 #[.slice A0 l0.length c0] w fun e w' => ∃ v4_ : Value, e = .returned (.tuple #[.agg #[.bool r1, .bool r2, .int .u32 r3, .int .u32 r4], v4_, .agg #[.int .i64 r6, .int .i64 r7]]) ∧ Kd.S k51 51 w' w.heap.size (fun _ => True) v4_ r5 ∧ Below w.heap.size w w' := by
 have c39 := Tryd.underlying46
 have b2w := Tryd.underlying30
 have d4I := Tryd.underlying51
 have HR0 := a_ hr0
 have HC0 := a_ hc0
 clear hr0 hc0
 have HB := a_ (Below.refl w.heap.size w)
 have H := h
 clear h
 unfold umpireref09_Read.f at H
 replace H := Option.bind_eq_some_iff.mp H
 obtain ⟨⟨a4W, a8e, a9i, b0P, e2y⟩, A20, H⟩ := H
 try dsimp only at H
 have A2 := a_ A20
 clear A20
 by_cases c3 : e2y = 0
 ·rw [if_pos c3] at H
  obtain ⟨a5g, b1b⟩ := bt_ c3
  clear c3
  have H' := a_ H
  clear H
  go_enter Tryd.func18, Tryd.ntmps18
  go_wp2_with (first | (refine be_ 2 #[.bool false, .bool false, .int .u32 0, .int .u32 0] 46 ?_; intro a4b hg w4 hbox hb; have X3 := a_ hbox; have f8p := lb_ HB hg; have d07 := lb_ HB hg; replace HB := W9 HB hb; clear hb hbox hg) | (refine be_ 4 #[.int .i64 0, .int .i64 0] 30 ?_; intro a5J hg w5 hbox hb; have Y2 := a_ hbox; have f8q := lb_ HB hg; have d08 := lb_ HB hg; obtain ⟨a4J, a1V⟩ := nn_ X3 hg; replace X3 := U5 X3 hb; replace HB := W9 HB hb; clear hb hbox hg) | (refine gl_ (some 14) Tryd.func35 #[.slice A0 l0.length c0] ?_; (with_reducible refine (umpireref09_Head.calls k _ _ l0 a4W a8e a9i b0P e2y _ (Kd.D6 HR0.out HB.out) HC0.out A2.out).mono ?_); rintro e w6 ⟨rfl, hb⟩; refine ⟨_, rfl, ?_⟩; replace X3 := U5 X3 hb; replace Y2 := U5 Y2 hb; replace HB := W9 HB hb; (try clear hb)) | (refine be_ 5 #[.bool false, .bool false, .int .u32 0, .int .u32 0] 46 ?_; intro a1O hg w7 hbox hb; have P6 := a_ hbox; have f8r := lb_ HB hg; have d65 := lb_ HB hg; obtain ⟨a2L, b0k⟩ := nn_ X3 hg; obtain ⟨a2M, b0l⟩ := nn_ Y2 hg; replace X3 := U5 X3 hb; replace Y2 := U5 Y2 hb; replace HB := W9 HB hb; clear hb hbox hg; have g5J := b0k.out; have g5K := a2L.out; have f4i := b0l.out; have f4j := a2M.out; obtain ⟨b4c, b4d, b4e, c1T, b4f, b4g, b4h, c1V⟩ := blk4 P6.out))
  go_loopg [7, 8] k (fun kq v7 v8 w' => ∃ (S9 : List (S51)) (Z7 : Int) (a4K : Bool) (a3j : Bool) (a2l : Int) (a1W : Int) (a4L : Int) (a3k : Int), v8 = .int .i64 Z7 ∧ Aside0 (umpireref09_Read.l0 kq l0 S9 Z7 a4W a8e a9i b0P = some (r1, r2, r3, r4, r5, r6, r7)) ∧ Aside0 (kq ≤ k) ∧ Aside0 (Kd.S k51 51 w' w.heap.size (fun _ => True) v7 S9) ∧ Aside0 (w'.heap[a4b]? = some (.cells #[.bool a4K, .bool a3j, .int .u32 a2l, .int .u32 a1W] 46 (0, 0))) ∧ Aside0 (w'.heap[a5J]? = some (.cells #[.int .i64 a4L, .int .i64 a3k] 30 (0, 0))) ∧ Aside0 (w'.heap[a1O]? = some (.cells #[.bool a4W, .bool a8e, .int .u32 a9i, .int .u32 b0P] 46 (0, 0))) ∧ Aside0 (Below w.heap.size w w'))
  case atStart => exact ⟨([] : List (S51)), (24), (false), (false), (0), (0), (0), (0), (by rfl), H', ⟨Nat.le_refl _⟩, ⟨by (exact Kd.a6k _ _ _ _ _)⟩, ⟨by refine o9 ?_ a2L.out _; refine o9 ?_ a2L.out _; refine o9 ?_ a2L.out _; refine o9 ?_ a2L.out _; exact X3.out⟩, ⟨by refine o9 ?_ a2M.out _; refine o9 ?_ a2M.out _; refine o9 ?_ a2M.out _; refine o9 ?_ a2M.out _; exact Y2.out⟩, ⟨by refine l9 (cs := #[.bool a4W, .bool a8e, .int .u32 a9i, .int .u32 0]) ?_ 3 _ rfl; refine l9 (cs := #[.bool a4W, .bool a8e, .int .u32 0, .int .u32 0]) ?_ 2 _ rfl; refine l9 (cs := #[.bool a4W, .bool false, .int .u32 0, .int .u32 0]) ?_ 1 _ rfl; refine l9 (cs := #[.bool false, .bool false, .int .u32 0, .int .u32 0]) ?_ 0 _ rfl; exact P6.out⟩, ⟨by repeat (with_reducible first | exact HB.out | refine o8 ?_ d65.out)⟩⟩
  case round =>
   clear H'
   try clear a5g
   try clear b1b
   try clear b4c
   try clear b4d
   try clear b4e
   try clear c1T
   try clear b4f
   try clear b4g
   try clear b4h
   try clear c1V
   obtain ⟨S9, Z7, a4K, a3j, a2l, a1W, a4L, a3k, rfl, HA, HK1, U1, X3, Y2, P6, HB⟩ := hrel
   cases gk with
   | zero => exact absurd HA.out (by simp [umpireref09_Read.l0])
   | succ k1 =>
    have H := HA.out
    clear HA
    simp only [umpireref09_Read.l0] at H
    by_cases c11 : Z7 < (l0.length : Int)
    ·rw [if_pos c11] at H
     have c0o := decide_eq_true c11
     clear c11
     have c12 := a0o H
     replace H := U9 H
     have b8m := eq_true c12
     have c0s := decide_eq_true c12
     clear c12
     have c13 := a0o H
     replace H := U9 H
     have c9w := eq_true c13
     have d4L := decide_eq_true c13
     clear c13
     replace H := Option.bind_eq_some_iff.mp H
     obtain ⟨⟨a6T, a7b, a7w, a7c, b9e, b5H⟩, b8M, H⟩ := H
     try dsimp only at H
     have A14 := a_ b8M
     clear b8M
     by_cases c15 : b5H = 0
     ·rw [if_pos c15] at H
      obtain ⟨c9x, d4M⟩ := bt_ c15
      clear c15
      have c16 := a0o H
      replace H := U9 H
      have c44 := a_ c16
      clear c16
      obtain ⟨g85, d66⟩ := is_ ((S9 ++ [(⟨a6T, a7b, a7w, a7c⟩ : S51)]) : List (S51))
      rw [← d66] at H
      have f8s := a_ d66
      clear d66
      have H' := a_ H
      clear H
      try go_wp2
      replace U1 := a_ (Kd.b8c U1.out)
      replace X3 := a_ (L9 X3.out)
      replace Y2 := a_ (L9 Y2.out)
      replace P6 := a_ (L9 P6.out)
      replace HB := a_ (D7 HB.out)
      obtain ⟨f4l, b57, _, b58, _⟩ := info_parts info5
      obtain ⟨A18, d4O, c47, c5a⟩ := a1D (P := Tryd.prog) (Value.int .u8) 0 22 5 .i64 Tryd.underlying22 b57 b58 A0 c0 l0 Z7 (Y9) (Y9) HC0.out
      have b9f := ci_ (Kd.a0K (h1 := fun _ => rfl) (c47 _ (Kd.a0p HR0.out)))
      have c5Q := a_ c5a
      clear c47 c5a b57 b58
      refine a4n (n := 14) (S := fun w' => w'.cell? ⟨a1O, 0, none⟩ = some (.bool a4W) ∧ w'.cell? ⟨a1O, 1, none⟩ = some (.bool a8e) ∧ w'.cell? ⟨a1O, 2, none⟩ = some (.int .u32 a9i) ∧ w'.cell? ⟨a1O, 3, none⟩ = some (.int .u32 b0P)) (ds := []) (bo_ 14 0) (by kernel_rfl) rfl rfl ⟨bc0 P6, bc1 P6, bc2 P6, bc3 P6⟩ (fun hHeld => ?_); refine a3g umpireref09_Read.c65 umpireref09_Read.b8K (fun X5 HW_ => ?_)
      generalize wr.drew = w17 at U1 X3 Y2 P6 HB b9f hHeld ⊢
      refine pu_ 0 (some 27) X5 ?_
      refine pu_ 1 (some 28) X5 ?_
      refine pu_ 2 (some 29) X5 ?_
      refine pu_ 3 (some 30) X5 ?_
      refine a1G (i := 4) (N := some 31) (v := ?_) (a' := ?_) (bo_ 14 31) rfl rfl (a0S X5.out HW_.out (by kernel_rfl)) (fun _ _ _ h => h) (Or.inl ⟨by rfl, ?_⟩) hHeld ?_ ?_
      rotate_left
      ·rintro w' ⟨s0, s1, s2, s3⟩
       go_simp
       with_reducible rfl
      rotate_left
      ·simp only [Act.put, List.setIfInBounds_toArray, List.set_cons_zero, List.set_cons_succ, a6w, a9Y]
       rfl
      refine c4A (σ := Value × Nat) 3 (bo_ 14 2047) (fun s_ => [(32, .tuple #[.agg #[.int .u32 a6T, .int .u32 a7b, .int .u32 a7w, s_.1], .int .i64 b9e, .int .i64 b5H]), (9, .pointer (some ⟨s_.2, 0, none⟩)), (26, .tuple #[.agg #[.int .u32 a6T, .int .u32 a7b, .int .u32 a7w, s_.1], .int .i64 b9e, .int .i64 b5H]), (33, .agg #[.int .u32 a6T, .int .u32 a7b, .int .u32 a7w, s_.1]), (34, .int .i64 b9e), (35, .int .i64 b5H)]) (fun s_ w' => (w'.cell? ⟨a1O, 0, none⟩ = some (.bool a4W) ∧ w'.cell? ⟨a1O, 1, none⟩ = some (.bool a8e) ∧ w'.cell? ⟨a1O, 2, none⟩ = some (.int .u32 a9i) ∧ w'.cell? ⟨a1O, 3, none⟩ = some (.int .u32 b0P)) ∧ (Kd.R (Kd.int .u8) 5 w' w.heap.size (fun _ => True) s_.1 a7c) ∧ (Kd.S k51 51 w' w.heap.size (fun k_ => some k_ ≠ (s_.1 : Value).ownBlock ∧ k_ ≠ s_.2) u7 S9) ∧ (w'.heap[a4b]? = some (.cells #[.bool a4K, .bool a3j, .int .u32 a2l, .int .u32 a1W] 46 (0, 0))) ∧ (w'.heap[a5J]? = some (.cells #[.int .i64 a4L, .int .i64 a3k] 30 (0, 0))) ∧ (w'.heap[a1O]? = some (.cells #[.bool a4W, .bool a8e, .int .u32 a9i, .int .u32 b0P] 46 (0, 0))) ∧ (w'.heap[s_.2]? = some (.cells #[.int .u32 0, .int .u32 0, .int .u32 0, .slice none 0 0] 51 (0, 0))) ∧ (w.heap.size ≤ s_.2) ∧ (w.heap.size ≤ s_.2) ∧ (a4b ≠ s_.2) ∧ (s_.2 ≠ a4b) ∧ (a5J ≠ s_.2) ∧ (s_.2 ≠ a5J) ∧ (a1O ≠ s_.2) ∧ (s_.2 ≠ a1O) ∧ (Below w.heap.size w w')) ?_ ?_
      rotate_left
      ·intro a9m
       refine d39 (i := 5) (j := 10) (Ni := some 32) (Nj := some 9) (bo_ 14 63) (bo_ 14 1055) rfl rfl rfl rfl (b8b X5.out (by kernel_rfl)) (by decide) (by decide) (fun K hK => ?_) (fun K hK => ?_)
       ·skip
        refine a4y Tryd.func36 (by kernel_rfl) rfl #[.slice A18 (l0.drop (Z7 : Int).toNat).length (c0 - Z7.toNat), .bool a4W] (by rfl) rfl rfl (by (try simp only [List.map_toArray, List.map_cons, List.map_nil]); (rw [show (l0.drop (Z7 : Int).toNat).length = (l0.length - Z7.toNat) from List.length_drop] <;> rfl)) ?_
        with_reducible refine (O8.calls k1 _ _ (l0.drop (Z7 : Int).toNat) a4W a6T a7b a7w a7c b9e b5H _ ?Q5 ?Q7 A14.out).mono ?_
        (case Q5 => exact (Kd.D6 b9f.out HB.out))
        (case Q7 => exact c5Q.out)
        rintro e w19 ⟨b5I, rfl, ho0, hb⟩
        refine ⟨_, rfl, ?_⟩
        have a6a := rl_ ho0 HB
        replace U1 := rS_ U1 ho0 hb
        replace X3 := U5 X3 hb
        replace Y2 := U5 Y2 hb
        replace P6 := U5 P6 hb
        replace HB := W9 HB hb
        (try clear hb)
        (try clear ho0)
        refine hK.out _ _ ⟨bc0 P6, bc1 P6, bc2 P6, bc3 P6⟩ (fun hHeld => ?_)
        clear hK K
        refine nm_ (some 32) ?_
        refine pu_ 6 (some 26) X5 ?_
        refine pu_ 7 (some 33) X5 ?_
        refine pu_ 8 (some 34) X5 ?_
        refine pu_ 9 (some 35) X5 ?_
        refine a6V (i := 10) (N := some 9) (bo_ 14 2047) rfl rfl (a2c X5.out (by kernel_rfl)) (by decide) (fun K hK => ?_)
        refine c4v 9 #[.int .u32 0, .int .u32 0, .int .u32 0, .slice none 0 0] 51 ?_
        intro J8 hg w20 hbox hb
        have a1P := a_ hbox
        have b4K := lb_ HB hg
        have b1I := lb_ HB hg
        obtain ⟨X9, a03⟩ := nn_ X3 hg
        obtain ⟨Y0, a04⟩ := nn_ Y2 hg
        obtain ⟨H7, a05⟩ := nn_ P6 hg
        replace U1 := se_ U1 hg hb
        replace a6a := rb_ a6a hb
        replace X3 := U5 X3 hb
        replace Y2 := U5 Y2 hb
        replace P6 := U5 P6 hb
        replace HB := W9 HB hb
        clear hb hbox hg
        refine hK.out _ _ ⟨bc0 P6, bc1 P6, bc2 P6, bc3 P6⟩ (fun hHeld => ?_)
        clear hK K
        refine nm_ (some 9) ?_
        exact a8i (by simp only [a4M, Act.put, List.setIfInBounds_toArray, List.set_cons_zero, List.set_cons_succ]) (a9m (b5I, J8) _ ⟨hHeld, a6a.out, (by exact Kd.V6 U1.out (fun _ hk => ⟨hk.1.2, hk.2⟩)), X3.out, Y2.out, P6.out, a1P.out, b4K.out, b1I.out, X9.out, a03.out, Y0.out, a04.out, H7.out, a05.out, HB.out⟩)
       ·skip
        refine c4v 9 #[.int .u32 0, .int .u32 0, .int .u32 0, .slice none 0 0] 51 ?_
        intro J8 hg w19 hbox hb
        have a1P := a_ hbox
        have b4K := lb_ HB hg
        have b1I := lb_ HB hg
        obtain ⟨X9, a03⟩ := nn_ X3 hg
        obtain ⟨Y0, a04⟩ := nn_ Y2 hg
        obtain ⟨H7, a05⟩ := nn_ P6 hg
        replace U1 := se_ U1 hg hb
        replace X3 := U5 X3 hb
        replace Y2 := U5 Y2 hb
        replace P6 := U5 P6 hb
        replace HB := W9 HB hb
        clear hb hbox hg
        refine hK.out _ _ ⟨bc0 P6, bc1 P6, bc2 P6, bc3 P6⟩ (fun hHeld => ?_)
        clear hK K
        refine nm_ (some 9) ?_
        refine a6V (i := 5) (N := some 32) (bo_ 14 1087) rfl rfl (a2c X5.out (by kernel_rfl)) (by decide) (fun K hK => ?_)
        refine a4y Tryd.func36 (by kernel_rfl) rfl #[.slice A18 (l0.drop (Z7 : Int).toNat).length (c0 - Z7.toNat), .bool a4W] (by rfl) rfl rfl (by (try simp only [List.map_toArray, List.map_cons, List.map_nil]); (rw [show (l0.drop (Z7 : Int).toNat).length = (l0.length - Z7.toNat) from List.length_drop] <;> rfl)) ?_
        with_reducible refine (O8.calls k1 _ _ (l0.drop (Z7 : Int).toNat) a4W a6T a7b a7w a7c b9e b5H _ ?Q5 ?Q7 A14.out).mono ?_
        (case Q5 => exact (Kd.D6 b9f.out HB.out))
        (case Q7 => exact c5Q.out)
        rintro e w20 ⟨b5I, rfl, ho0, hb⟩
        refine ⟨_, rfl, ?_⟩
        have a6a := rl_ ho0 HB
        replace U1 := rS_ U1 ho0 hb
        replace X3 := U5 X3 hb
        replace Y2 := U5 Y2 hb
        replace P6 := U5 P6 hb
        replace a1P := U5 a1P hb
        replace HB := W9 HB hb
        (try clear hb)
        (try clear ho0)
        refine hK.out _ _ ⟨bc0 P6, bc1 P6, bc2 P6, bc3 P6⟩ (fun hHeld => ?_)
        clear hK K
        refine nm_ (some 32) ?_
        refine pu_ 6 (some 26) X5 ?_
        refine pu_ 7 (some 33) X5 ?_
        refine pu_ 8 (some 34) X5 ?_
        refine pu_ 9 (some 35) X5 ?_
        exact a8i (by simp only [a4M, Act.put, List.setIfInBounds_toArray, List.set_cons_zero, List.set_cons_succ]) (a9m (b5I, J8) _ ⟨hHeld, a6a.out, (by exact Kd.V6 U1.out (fun _ hk => ⟨hk.2, hk.1.2⟩)), X3.out, Y2.out, P6.out, a1P.out, b4K.out, b1I.out, X9.out, a03.out, Y0.out, a04.out, H7.out, a05.out, HB.out⟩)
      rintro ⟨b5I, J8⟩ w21 ⟨hS_, h0_, h1_, h2_, h3_, h4_, h5_, h6_, h7_, h8_, h9_, b8O, b8P, b8Q, b8R, b8S⟩
      have n0_ : Aside0 (Kd.R (Kd.int .u8) 5 w21 w.heap.size (fun _ => True) b5I a7c) := ⟨h0_⟩
      have n1_ : Aside0 (Kd.S k51 51 w21 w.heap.size (fun k_ => some k_ ≠ (b5I : Value).ownBlock ∧ k_ ≠ J8) u7 S9) := ⟨h1_⟩
      have n2_ : Aside0 (w21.heap[a4b]? = some (.cells #[.bool a4K, .bool a3j, .int .u32 a2l, .int .u32 a1W] 46 (0, 0))) := ⟨h2_⟩
      have n3_ : Aside0 (w21.heap[a5J]? = some (.cells #[.int .i64 a4L, .int .i64 a3k] 30 (0, 0))) := ⟨h3_⟩
      have n4_ : Aside0 (w21.heap[a1O]? = some (.cells #[.bool a4W, .bool a8e, .int .u32 a9i, .int .u32 b0P] 46 (0, 0))) := ⟨h4_⟩
      have n5_ : Aside0 (w21.heap[J8]? = some (.cells #[.int .u32 0, .int .u32 0, .int .u32 0, .slice none 0 0] 51 (0, 0))) := ⟨h5_⟩
      have n6_ : Aside0 (w.heap.size ≤ J8) := ⟨h6_⟩
      have n7_ : Aside0 (w.heap.size ≤ J8) := ⟨h7_⟩
      have n8_ : Aside0 (a4b ≠ J8) := ⟨h8_⟩
      have n9_ : Aside0 (J8 ≠ a4b) := ⟨h9_⟩
      have b4j : Aside0 (a5J ≠ J8) := ⟨b8O⟩
      have b4k : Aside0 (J8 ≠ a5J) := ⟨b8P⟩
      have b4l : Aside0 (a1O ≠ J8) := ⟨b8Q⟩
      have b4m : Aside0 (J8 ≠ a1O) := ⟨b8R⟩
      have b8T : Aside0 (Below w.heap.size w w21) := ⟨b8S⟩
      clear U1
      clear X3
      clear Y2
      clear P6
      clear HB
      clear h0_ h1_ h2_ h3_ h4_ h5_ h6_ h7_ h8_ h9_ b8O b8P b8Q b8R b8S
      have a6a := n0_
      have U1 := n1_
      have X3 := n2_
      have Y2 := n3_
      have P6 := n4_
      have a1P := n5_
      have b4K := n6_
      have b1I := n7_
      have X9 := n8_
      have a03 := n9_
      have Y0 := b4j
      have a04 := b4k
      have H7 := b4l
      have a05 := b4m
      have HB := b8T
      clear n0_ n1_ n2_ n3_ n4_ n5_ n6_ n7_ n8_ n9_ b4j b4k b4l b4m b8T
      have hHeld : w21.cell? ⟨a1O, 0, none⟩ = some (.bool a4W) ∧ w21.cell? ⟨a1O, 1, none⟩ = some (.bool a8e) ∧ w21.cell? ⟨a1O, 2, none⟩ = some (.int .u32 a9i) ∧ w21.cell? ⟨a1O, 3, none⟩ = some (.int .u32 b0P) := hS_
      obtain ⟨a5h, a5i, d4T⟩ := Kd.J4 a6a.out
      subst d4T
      refine a8i (a' := ?_) ?_ ?_
      rotate_left
      ·simp only [a4M, Act.put, List.setIfInBounds_toArray, List.set_cons_zero, List.set_cons_succ]
       rfl
      refine a6V (i := 11) (N := none) (bo_ 14 4095) rfl rfl (a2c X5.out (by kernel_rfl)) (by decide) (fun K hK => ?_)
      have g5M := bc0 a1P
      have f4m := l7 a1P.out 0
      have d9J := X9.out
      have d9K := Y0.out
      have d9L := H7.out
      have d9M := a03.out
      have d9N := a04.out
      have d9O := a05.out
      have g5N := bc1 a1P
      have f4n := l7 a1P.out 1
      have d9P := X9.out
      have d9Q := Y0.out
      have d9R := H7.out
      have d9S := a03.out
      have d9T := a04.out
      have d9U := a05.out
      have g5O := bc2 a1P
      have f4o := l7 a1P.out 2
      have d9V := X9.out
      have d9W := Y0.out
      have d9X := H7.out
      have d9Y := a03.out
      have d9Z := a04.out
      have d90 := a05.out
      have g5P := bc3 a1P
      have f4p := l7 a1P.out 3
      have d91 := X9.out
      have d92 := Y0.out
      have d93 := H7.out
      have d94 := a03.out
      have d95 := a04.out
      have d96 := a05.out
      refine b2H (w1 := ?_) (by rfl) rfl ?_ ?_
      rotate_left
      ·go_simp
       rfl
      refine hK.out _ _ ⟨((cell_far (p := ⟨J8, _, none⟩) H7.out _).trans (((cell_far (p := ⟨J8, _, none⟩) H7.out _).trans (((cell_far (p := ⟨J8, _, none⟩) H7.out _).trans (((cell_far (p := ⟨J8, _, none⟩) H7.out _).trans (hHeld.1)))))))), ((cell_far (p := ⟨J8, _, none⟩) H7.out _).trans (((cell_far (p := ⟨J8, _, none⟩) H7.out _).trans (((cell_far (p := ⟨J8, _, none⟩) H7.out _).trans (((cell_far (p := ⟨J8, _, none⟩) H7.out _).trans (hHeld.2.1)))))))), ((cell_far (p := ⟨J8, _, none⟩) H7.out _).trans (((cell_far (p := ⟨J8, _, none⟩) H7.out _).trans (((cell_far (p := ⟨J8, _, none⟩) H7.out _).trans (((cell_far (p := ⟨J8, _, none⟩) H7.out _).trans (hHeld.2.2.1)))))))), ((cell_far (p := ⟨J8, _, none⟩) H7.out _).trans (((cell_far (p := ⟨J8, _, none⟩) H7.out _).trans (((cell_far (p := ⟨J8, _, none⟩) H7.out _).trans (((cell_far (p := ⟨J8, _, none⟩) H7.out _).trans (hHeld.2.2.2))))))))⟩ (fun hHeld => ?_)
      clear hK K
      refine pu_ 12 (some 10) X5 ?_
      refine pu_ 13 (some 11) X5 ?_
      refine a7d (a6D X5.out (by kernel_rfl)) ?_
      have n0_ : Aside0 (Kd.S k51 51 ((((w21.setCell ⟨J8, 0, none⟩ (.int .u32 a6T)).setCell ⟨J8, 1, none⟩ (.int .u32 a7b)).setCell ⟨J8, 2, none⟩ (.int .u32 a7w)).setCell ⟨J8, 3, none⟩ (.slice a5h a7c.length a5i)) w.heap.size (fun k_ => some k_ ≠ (.slice a5h a7c.length a5i : Value).ownBlock ∧ k_ ≠ J8) u7 S9) := ⟨by exact Kd.V6 (Kd.Y6 (p := ⟨J8, 3, none⟩) (Kd.Y6 (p := ⟨J8, 2, none⟩) (Kd.Y6 (p := ⟨J8, 1, none⟩) (Kd.Y6 (p := ⟨J8, 0, none⟩) (Kd.V6 U1.out (fun k_ hk => (⟨hk, hk.2⟩ : _ ∧ k_ ≠ J8))) (fun _ hk => hk.2) (.int .u32 a6T)) (fun _ hk => hk.2) (.int .u32 a7b)) (fun _ hk => hk.2) (.int .u32 a7w)) (fun _ hk => hk.2) (.slice a5h a7c.length a5i)) (fun _ hk => ⟨hk.1.1, hk.1.2⟩)⟩
      have n1_ : Aside0 (Kd.R (Kd.int .u8) 5 ((((w21.setCell ⟨J8, 0, none⟩ (.int .u32 a6T)).setCell ⟨J8, 1, none⟩ (.int .u32 a7b)).setCell ⟨J8, 2, none⟩ (.int .u32 a7w)).setCell ⟨J8, 3, none⟩ (.slice a5h a7c.length a5i)) w.heap.size (fun _ => True) (.slice a5h a7c.length a5i) a7c) := ⟨by exact Kd.D8 (Kd.U7 (p := ⟨J8, 3, none⟩) (Kd.U7 (p := ⟨J8, 2, none⟩) (Kd.U7 (p := ⟨J8, 1, none⟩) (Kd.U7 (p := ⟨J8, 0, none⟩) (Kd.V7 a6a.out a1P.out (by decide)) (fun _ hk => hk.2) (.int .u32 a6T)) (fun _ hk => hk.2) (.int .u32 a7b)) (fun _ hk => hk.2) (.int .u32 a7w)) (fun _ hk => hk.2) (.slice a5h a7c.length a5i)) (fun _ hk => trivial)⟩
      have n2_ : Aside0 (((((w21.setCell ⟨J8, 0, none⟩ (.int .u32 a6T)).setCell ⟨J8, 1, none⟩ (.int .u32 a7b)).setCell ⟨J8, 2, none⟩ (.int .u32 a7w)).setCell ⟨J8, 3, none⟩ (.slice a5h a7c.length a5i)).heap[a4b]? = some (.cells #[.bool a4K, .bool a3j, .int .u32 a2l, .int .u32 a1W] 46 (0, 0))) := ⟨by refine o9 ?_ X9.out _; refine o9 ?_ X9.out _; refine o9 ?_ X9.out _; refine o9 ?_ X9.out _; exact X3.out⟩
      have n3_ : Aside0 (((((w21.setCell ⟨J8, 0, none⟩ (.int .u32 a6T)).setCell ⟨J8, 1, none⟩ (.int .u32 a7b)).setCell ⟨J8, 2, none⟩ (.int .u32 a7w)).setCell ⟨J8, 3, none⟩ (.slice a5h a7c.length a5i)).heap[a5J]? = some (.cells #[.int .i64 a4L, .int .i64 a3k] 30 (0, 0))) := ⟨by refine o9 ?_ Y0.out _; refine o9 ?_ Y0.out _; refine o9 ?_ Y0.out _; refine o9 ?_ Y0.out _; exact Y2.out⟩
      have n4_ : Aside0 (((((w21.setCell ⟨J8, 0, none⟩ (.int .u32 a6T)).setCell ⟨J8, 1, none⟩ (.int .u32 a7b)).setCell ⟨J8, 2, none⟩ (.int .u32 a7w)).setCell ⟨J8, 3, none⟩ (.slice a5h a7c.length a5i)).heap[a1O]? = some (.cells #[.bool a4W, .bool a8e, .int .u32 a9i, .int .u32 b0P] 46 (0, 0))) := ⟨by refine o9 ?_ H7.out _; refine o9 ?_ H7.out _; refine o9 ?_ H7.out _; refine o9 ?_ H7.out _; exact P6.out⟩
      have n5_ : Aside0 (((((w21.setCell ⟨J8, 0, none⟩ (.int .u32 a6T)).setCell ⟨J8, 1, none⟩ (.int .u32 a7b)).setCell ⟨J8, 2, none⟩ (.int .u32 a7w)).setCell ⟨J8, 3, none⟩ (.slice a5h a7c.length a5i)).heap[J8]? = some (.cells #[.int .u32 a6T, .int .u32 a7b, .int .u32 a7w, .slice a5h a7c.length a5i] 51 (0, 0))) := ⟨by refine l9 (cs := #[.int .u32 a6T, .int .u32 a7b, .int .u32 a7w, .slice none 0 0]) ?_ 3 _ rfl; refine l9 (cs := #[.int .u32 a6T, .int .u32 a7b, .int .u32 0, .slice none 0 0]) ?_ 2 _ rfl; refine l9 (cs := #[.int .u32 a6T, .int .u32 0, .int .u32 0, .slice none 0 0]) ?_ 1 _ rfl; refine l9 (cs := #[.int .u32 0, .int .u32 0, .int .u32 0, .slice none 0 0]) ?_ 0 _ rfl; exact a1P.out⟩
      have n6_ : Aside0 (Below w.heap.size w ((((w21.setCell ⟨J8, 0, none⟩ (.int .u32 a6T)).setCell ⟨J8, 1, none⟩ (.int .u32 a7b)).setCell ⟨J8, 2, none⟩ (.int .u32 a7w)).setCell ⟨J8, 3, none⟩ (.slice a5h a7c.length a5i))) := ⟨by repeat (with_reducible first | exact HB.out | refine o8 ?_ b1I.out)⟩
      (try clear U1)
      (try clear a6a)
      (try clear X3)
      (try clear Y2)
      (try clear P6)
      (try clear a1P)
      (try clear HB)
      generalize ((((w21.setCell ⟨J8, 0, none⟩ (.int .u32 a6T)).setCell ⟨J8, 1, none⟩ (.int .u32 a7b)).setCell ⟨J8, 2, none⟩ (.int .u32 a7w)).setCell ⟨J8, 3, none⟩ (.slice a5h a7c.length a5i)) = w27 at n0_ n1_ n2_ n3_ n4_ n5_ n6_ ⊢
      have U1 := n0_
      have a6a := n1_
      have X3 := n2_
      have Y2 := n3_
      have P6 := n4_
      have a1P := n5_
      have HB := n6_
      clear n0_ n1_ n2_ n3_ n4_ n5_ n6_
      have e3w := a03.out
      have e3x := X9.out
      have e3y := a04.out
      have e3z := Y0.out
      have e3A := a05.out
      have e3B := H7.out
      obtain ⟨b6S, b6T, b6U, c09, b6V, b6W, b6X, c1c⟩ := blk4 a1P.out
      try go_wp2_with (first | ((with_reducible refine G7 (b := .append) (xs := #[.tmp 43, .tmp 45]) rfl ?_); at_builtin; refine Kd.a90 k51 (w0 := w) w.heap.size rfl (.tmp 43) (.tmp 45) 47 51 (.agg #[(.int .u32 0), (.int .u32 0), (.int .u32 0), (.slice none 0 0)]) 40 rfl Tryd.underlying47 info51 rfl (by decide) (by omega) u7 S9 (⟨a6T, a7b, a7w, a7c⟩ : S51) [.int .u32 a6T, .int .u32 a7b, .int .u32 a7w, .slice a5h a7c.length a5i] (fun k_ => k_ ≠ J8) (fun k_ => some k_ = (.slice a5h a7c.length a5i : Value).ownBlock) rfl rfl ?aP (fun k_ hk_ => ((Kd.D8 (ok' := fun k_ => (fun k_ => k_ ≠ J8) k_ ∧ some k_ ≠ (u7 : Value).ownBlock) (Kd.V7 (Kd.a0g (a6a.out) (Kd.a5q U1.out) (by decide)) a1P.out (by decide)) (fun k_ hk => ⟨hk.2, hk.1.2⟩))).1 k_ hk_.symm) ?aF ?aO ?aB ?aS ?aL ?_; (case aP => exact c1w _ _ _ (⟨a6T, a7b, a7w, a7c⟩ : S51) (Kd.D8 (Kd.a2i rfl (Kd.D8 (ok' := fun k_ => (fun k_ => k_ ≠ J8) k_ ∧ some k_ ≠ (u7 : Value).ownBlock) (Kd.V7 (Kd.a0g (a6a.out) (Kd.a5q U1.out) (by decide)) a1P.out (by decide)) (fun k_ hk => ⟨hk.2, hk.1.2⟩))) (fun _ h_ => h_))); (case aB => exact HB.out); (case aF => exact (fun k_ hk => Kd.a1z a1P.out k_ hk)); (case aO => exact (by exact Kd.V6 U1.out (fun k_ hk => ⟨hk.2, fun e_ => hk.1 e_⟩))); (case aS => exact (y5 HB.out)); (case aL => have := c44.out; omega); intro h7t w32 ho hb hg hat; rw [← f8s.out] at ho; have f8t := a_ ho; replace X3 := a_ (F9 X3.out hg (Kd.b9Y U1.out X3.out (by decide))); replace Y2 := a_ (F9 Y2.out hg (Kd.b9Y U1.out Y2.out (by decide))); replace P6 := a_ (F9 P6.out hg (Kd.b9Y U1.out P6.out (by decide))); replace a1P := a_ (F9 a1P.out hg (Kd.c6W U1.out (fun _ hk => hk.2))); replace HB := a_ hb; clear U1; clear a6a; clear ho hb hg hat))
      go_roundg k1
      case measure => have := HK1.out; omega
      case rel => exact ⟨(g85), (wrap64 (Z7 + b9e)), (a4K), (a3j), (a2l), (a1W), (a4L), (a3k), (by rfl), H', ⟨by have := HK1.out; omega⟩, ⟨by exact Kd.V6 f8t.out (fun _ hk => trivial)⟩, ⟨by exact X3.out⟩, ⟨by exact Y2.out⟩, ⟨by exact P6.out⟩, ⟨by exact HB.out⟩⟩
     ·rw [if_neg c15] at H
      have c9x := beq_eq_false_iff_ne.mpr c15
      have d4M := bne_iff_ne.mpr c15
      obtain ⟨rfl, rfl, rfl, rfl, rfl, rfl, rfl⟩ := s7_ H
      try go_wp2
      replace U1 := a_ (Kd.b8c U1.out)
      replace X3 := a_ (L9 X3.out)
      replace Y2 := a_ (L9 Y2.out)
      replace P6 := a_ (L9 P6.out)
      replace HB := a_ (D7 HB.out)
      obtain ⟨g5Q, c5e, _, c5f, _⟩ := info_parts info5
      obtain ⟨A34, e7D, d4U, d4V⟩ := a1D (P := Tryd.prog) (Value.int .u8) 0 22 5 .i64 Tryd.underlying22 c5e c5f A0 c0 l0 Z7 (Y9) (Y9) HC0.out
      have b9f := ci_ (Kd.a0K (h1 := fun _ => rfl) (d4U _ (Kd.a0p HR0.out)))
      have c5Q := a_ d4V
      clear d4U d4V c5e c5f
      refine a4n (n := 14) (S := fun w' => w'.cell? ⟨a1O, 0, none⟩ = some (.bool a4W) ∧ w'.cell? ⟨a1O, 1, none⟩ = some (.bool a8e) ∧ w'.cell? ⟨a1O, 2, none⟩ = some (.int .u32 a9i) ∧ w'.cell? ⟨a1O, 3, none⟩ = some (.int .u32 b0P)) (ds := []) (bo_ 14 0) (by kernel_rfl) rfl rfl ⟨bc0 P6, bc1 P6, bc2 P6, bc3 P6⟩ (fun hHeld => ?_); refine a3g umpireref09_Read.c65 umpireref09_Read.b8K (fun X5 HW_ => ?_)
      generalize wr.drew = w33 at U1 X3 Y2 P6 HB b9f hHeld ⊢
      refine pu_ 0 (some 27) X5 ?_
      refine pu_ 1 (some 28) X5 ?_
      refine pu_ 2 (some 29) X5 ?_
      refine pu_ 3 (some 30) X5 ?_
      refine a1G (i := 4) (N := some 31) (v := ?_) (a' := ?_) (bo_ 14 31) rfl rfl (a0S X5.out HW_.out (by kernel_rfl)) (fun _ _ _ h => h) (Or.inl ⟨by rfl, ?_⟩) hHeld ?_ ?_
      rotate_left
      ·rintro w' ⟨s0, s1, s2, s3⟩
       go_simp
       with_reducible rfl
      rotate_left
      ·simp only [Act.put, List.setIfInBounds_toArray, List.set_cons_zero, List.set_cons_succ, a6w, a9Y]
       rfl
      refine c4A (σ := Value × Nat) 3 (bo_ 14 2047) (fun s_ => [(32, .tuple #[.agg #[.int .u32 a6T, .int .u32 a7b, .int .u32 a7w, s_.1], .int .i64 b9e, .int .i64 b5H]), (9, .pointer (some ⟨s_.2, 0, none⟩)), (26, .tuple #[.agg #[.int .u32 a6T, .int .u32 a7b, .int .u32 a7w, s_.1], .int .i64 b9e, .int .i64 b5H]), (33, .agg #[.int .u32 a6T, .int .u32 a7b, .int .u32 a7w, s_.1]), (34, .int .i64 b9e), (35, .int .i64 b5H)]) (fun s_ w' => (w'.cell? ⟨a1O, 0, none⟩ = some (.bool a4W) ∧ w'.cell? ⟨a1O, 1, none⟩ = some (.bool a8e) ∧ w'.cell? ⟨a1O, 2, none⟩ = some (.int .u32 a9i) ∧ w'.cell? ⟨a1O, 3, none⟩ = some (.int .u32 b0P)) ∧ (Kd.R (Kd.int .u8) 5 w' w.heap.size (fun _ => True) s_.1 a7c) ∧ (Kd.S k51 51 w' w.heap.size (fun k_ => some k_ ≠ (s_.1 : Value).ownBlock ∧ k_ ≠ s_.2) u7 S9) ∧ (w'.heap[a4b]? = some (.cells #[.bool a4K, .bool a3j, .int .u32 a2l, .int .u32 a1W] 46 (0, 0))) ∧ (w'.heap[a5J]? = some (.cells #[.int .i64 a4L, .int .i64 a3k] 30 (0, 0))) ∧ (w'.heap[a1O]? = some (.cells #[.bool a4W, .bool a8e, .int .u32 a9i, .int .u32 b0P] 46 (0, 0))) ∧ (w'.heap[s_.2]? = some (.cells #[.int .u32 0, .int .u32 0, .int .u32 0, .slice none 0 0] 51 (0, 0))) ∧ (w.heap.size ≤ s_.2) ∧ (w.heap.size ≤ s_.2) ∧ (a4b ≠ s_.2) ∧ (s_.2 ≠ a4b) ∧ (a5J ≠ s_.2) ∧ (s_.2 ≠ a5J) ∧ (a1O ≠ s_.2) ∧ (s_.2 ≠ a1O) ∧ (Below w.heap.size w w')) ?_ ?_
      rotate_left
      ·intro a9m
       refine d39 (i := 5) (j := 10) (Ni := some 32) (Nj := some 9) (bo_ 14 63) (bo_ 14 1055) rfl rfl rfl rfl (b8b X5.out (by kernel_rfl)) (by decide) (by decide) (fun K hK => ?_) (fun K hK => ?_)
       ·skip
        refine a4y Tryd.func36 (by kernel_rfl) rfl #[.slice A34 (l0.drop (Z7 : Int).toNat).length (c0 - Z7.toNat), .bool a4W] (by rfl) rfl rfl (by (try simp only [List.map_toArray, List.map_cons, List.map_nil]); (rw [show (l0.drop (Z7 : Int).toNat).length = (l0.length - Z7.toNat) from List.length_drop] <;> rfl)) ?_
        with_reducible refine (O8.calls k1 _ _ (l0.drop (Z7 : Int).toNat) a4W a6T a7b a7w a7c b9e b5H _ ?Q5 ?Q7 A14.out).mono ?_
        (case Q5 => exact (Kd.D6 b9f.out HB.out))
        (case Q7 => exact c5Q.out)
        rintro e w35 ⟨b5I, rfl, ho0, hb⟩
        refine ⟨_, rfl, ?_⟩
        have a6a := rl_ ho0 HB
        replace U1 := rS_ U1 ho0 hb
        replace X3 := U5 X3 hb
        replace Y2 := U5 Y2 hb
        replace P6 := U5 P6 hb
        replace HB := W9 HB hb
        (try clear hb)
        (try clear ho0)
        refine hK.out _ _ ⟨bc0 P6, bc1 P6, bc2 P6, bc3 P6⟩ (fun hHeld => ?_)
        clear hK K
        refine nm_ (some 32) ?_
        refine pu_ 6 (some 26) X5 ?_
        refine pu_ 7 (some 33) X5 ?_
        refine pu_ 8 (some 34) X5 ?_
        refine pu_ 9 (some 35) X5 ?_
        refine a6V (i := 10) (N := some 9) (bo_ 14 2047) rfl rfl (a2c X5.out (by kernel_rfl)) (by decide) (fun K hK => ?_)
        refine c4v 9 #[.int .u32 0, .int .u32 0, .int .u32 0, .slice none 0 0] 51 ?_
        intro J8 hg w36 hbox hb
        have a1P := a_ hbox
        have b4K := lb_ HB hg
        have b1I := lb_ HB hg
        obtain ⟨X9, a03⟩ := nn_ X3 hg
        obtain ⟨Y0, a04⟩ := nn_ Y2 hg
        obtain ⟨H7, a05⟩ := nn_ P6 hg
        replace U1 := se_ U1 hg hb
        replace a6a := rb_ a6a hb
        replace X3 := U5 X3 hb
        replace Y2 := U5 Y2 hb
        replace P6 := U5 P6 hb
        replace HB := W9 HB hb
        clear hb hbox hg
        refine hK.out _ _ ⟨bc0 P6, bc1 P6, bc2 P6, bc3 P6⟩ (fun hHeld => ?_)
        clear hK K
        refine nm_ (some 9) ?_
        exact a8i (by simp only [a4M, Act.put, List.setIfInBounds_toArray, List.set_cons_zero, List.set_cons_succ]) (a9m (b5I, J8) _ ⟨hHeld, a6a.out, (by exact Kd.V6 U1.out (fun _ hk => ⟨hk.1.2, hk.2⟩)), X3.out, Y2.out, P6.out, a1P.out, b4K.out, b1I.out, X9.out, a03.out, Y0.out, a04.out, H7.out, a05.out, HB.out⟩)
       ·skip
        refine c4v 9 #[.int .u32 0, .int .u32 0, .int .u32 0, .slice none 0 0] 51 ?_
        intro J8 hg w35 hbox hb
        have a1P := a_ hbox
        have b4K := lb_ HB hg
        have b1I := lb_ HB hg
        obtain ⟨X9, a03⟩ := nn_ X3 hg
        obtain ⟨Y0, a04⟩ := nn_ Y2 hg
        obtain ⟨H7, a05⟩ := nn_ P6 hg
        replace U1 := se_ U1 hg hb
        replace X3 := U5 X3 hb
        replace Y2 := U5 Y2 hb
        replace P6 := U5 P6 hb
        replace HB := W9 HB hb
        clear hb hbox hg
        refine hK.out _ _ ⟨bc0 P6, bc1 P6, bc2 P6, bc3 P6⟩ (fun hHeld => ?_)
        clear hK K
        refine nm_ (some 9) ?_
        refine a6V (i := 5) (N := some 32) (bo_ 14 1087) rfl rfl (a2c X5.out (by kernel_rfl)) (by decide) (fun K hK => ?_)
        refine a4y Tryd.func36 (by kernel_rfl) rfl #[.slice A34 (l0.drop (Z7 : Int).toNat).length (c0 - Z7.toNat), .bool a4W] (by rfl) rfl rfl (by (try simp only [List.map_toArray, List.map_cons, List.map_nil]); (rw [show (l0.drop (Z7 : Int).toNat).length = (l0.length - Z7.toNat) from List.length_drop] <;> rfl)) ?_
        with_reducible refine (O8.calls k1 _ _ (l0.drop (Z7 : Int).toNat) a4W a6T a7b a7w a7c b9e b5H _ ?Q5 ?Q7 A14.out).mono ?_
        (case Q5 => exact (Kd.D6 b9f.out HB.out))
        (case Q7 => exact c5Q.out)
        rintro e w36 ⟨b5I, rfl, ho0, hb⟩
        refine ⟨_, rfl, ?_⟩
        have a6a := rl_ ho0 HB
        replace U1 := rS_ U1 ho0 hb
        replace X3 := U5 X3 hb
        replace Y2 := U5 Y2 hb
        replace P6 := U5 P6 hb
        replace a1P := U5 a1P hb
        replace HB := W9 HB hb
        (try clear hb)
        (try clear ho0)
        refine hK.out _ _ ⟨bc0 P6, bc1 P6, bc2 P6, bc3 P6⟩ (fun hHeld => ?_)
        clear hK K
        refine nm_ (some 32) ?_
        refine pu_ 6 (some 26) X5 ?_
        refine pu_ 7 (some 33) X5 ?_
        refine pu_ 8 (some 34) X5 ?_
        refine pu_ 9 (some 35) X5 ?_
        exact a8i (by simp only [a4M, Act.put, List.setIfInBounds_toArray, List.set_cons_zero, List.set_cons_succ]) (a9m (b5I, J8) _ ⟨hHeld, a6a.out, (by exact Kd.V6 U1.out (fun _ hk => ⟨hk.2, hk.1.2⟩)), X3.out, Y2.out, P6.out, a1P.out, b4K.out, b1I.out, X9.out, a03.out, Y0.out, a04.out, H7.out, a05.out, HB.out⟩)
      rintro ⟨b5I, J8⟩ w37 ⟨hS_, h0_, h1_, h2_, h3_, h4_, h5_, h6_, h7_, h8_, h9_, b8O, b8P, b8Q, b8R, b8S⟩
      have n0_ : Aside0 (Kd.R (Kd.int .u8) 5 w37 w.heap.size (fun _ => True) b5I a7c) := ⟨h0_⟩
      have n1_ : Aside0 (Kd.S k51 51 w37 w.heap.size (fun k_ => some k_ ≠ (b5I : Value).ownBlock ∧ k_ ≠ J8) u7 S9) := ⟨h1_⟩
      have n2_ : Aside0 (w37.heap[a4b]? = some (.cells #[.bool a4K, .bool a3j, .int .u32 a2l, .int .u32 a1W] 46 (0, 0))) := ⟨h2_⟩
      have n3_ : Aside0 (w37.heap[a5J]? = some (.cells #[.int .i64 a4L, .int .i64 a3k] 30 (0, 0))) := ⟨h3_⟩
      have n4_ : Aside0 (w37.heap[a1O]? = some (.cells #[.bool a4W, .bool a8e, .int .u32 a9i, .int .u32 b0P] 46 (0, 0))) := ⟨h4_⟩
      have n5_ : Aside0 (w37.heap[J8]? = some (.cells #[.int .u32 0, .int .u32 0, .int .u32 0, .slice none 0 0] 51 (0, 0))) := ⟨h5_⟩
      have n6_ : Aside0 (w.heap.size ≤ J8) := ⟨h6_⟩
      have n7_ : Aside0 (w.heap.size ≤ J8) := ⟨h7_⟩
      have n8_ : Aside0 (a4b ≠ J8) := ⟨h8_⟩
      have n9_ : Aside0 (J8 ≠ a4b) := ⟨h9_⟩
      have b4j : Aside0 (a5J ≠ J8) := ⟨b8O⟩
      have b4k : Aside0 (J8 ≠ a5J) := ⟨b8P⟩
      have b4l : Aside0 (a1O ≠ J8) := ⟨b8Q⟩
      have b4m : Aside0 (J8 ≠ a1O) := ⟨b8R⟩
      have b8T : Aside0 (Below w.heap.size w w37) := ⟨b8S⟩
      clear U1
      clear X3
      clear Y2
      clear P6
      clear HB
      clear h0_ h1_ h2_ h3_ h4_ h5_ h6_ h7_ h8_ h9_ b8O b8P b8Q b8R b8S
      have a6a := n0_
      have U1 := n1_
      have X3 := n2_
      have Y2 := n3_
      have P6 := n4_
      have a1P := n5_
      have b4K := n6_
      have b1I := n7_
      have X9 := n8_
      have a03 := n9_
      have Y0 := b4j
      have a04 := b4k
      have H7 := b4l
      have a05 := b4m
      have HB := b8T
      clear n0_ n1_ n2_ n3_ n4_ n5_ n6_ n7_ n8_ n9_ b4j b4k b4l b4m b8T
      have hHeld : w37.cell? ⟨a1O, 0, none⟩ = some (.bool a4W) ∧ w37.cell? ⟨a1O, 1, none⟩ = some (.bool a8e) ∧ w37.cell? ⟨a1O, 2, none⟩ = some (.int .u32 a9i) ∧ w37.cell? ⟨a1O, 3, none⟩ = some (.int .u32 b0P) := hS_
      obtain ⟨e7E, e7F, e7G⟩ := Kd.J4 a6a.out
      subst e7G
      refine a8i (a' := ?_) ?_ ?_
      rotate_left
      ·simp only [a4M, Act.put, List.setIfInBounds_toArray, List.set_cons_zero, List.set_cons_succ]
       rfl
      refine a6V (i := 11) (N := none) (bo_ 14 4095) rfl rfl (a2c X5.out (by kernel_rfl)) (by decide) (fun K hK => ?_)
      have g5R := bc0 a1P
      have f4s := l7 a1P.out 0
      have d97 := X9.out
      have d98 := Y0.out
      have d99 := H7.out
      have e0a := a03.out
      have e0b := a04.out
      have e0c := a05.out
      have g5S := bc1 a1P
      have f4t := l7 a1P.out 1
      have e0d := X9.out
      have e0e := Y0.out
      have e0f := H7.out
      have e0g := a03.out
      have e0h := a04.out
      have e0i := a05.out
      have g5T := bc2 a1P
      have f4u := l7 a1P.out 2
      have e0j := X9.out
      have e0k := Y0.out
      have e0l := H7.out
      have e0m := a03.out
      have e0n := a04.out
      have e0o := a05.out
      have g5U := bc3 a1P
      have f4v := l7 a1P.out 3
      have e0p := X9.out
      have e0q := Y0.out
      have e0r := H7.out
      have e0s := a03.out
      have e0t := a04.out
      have e0u := a05.out
      refine b2H (w1 := ?_) (by rfl) rfl ?_ ?_
      rotate_left
      ·go_simp
       rfl
      refine hK.out _ _ ⟨((cell_far (p := ⟨J8, _, none⟩) H7.out _).trans (((cell_far (p := ⟨J8, _, none⟩) H7.out _).trans (((cell_far (p := ⟨J8, _, none⟩) H7.out _).trans (((cell_far (p := ⟨J8, _, none⟩) H7.out _).trans (hHeld.1)))))))), ((cell_far (p := ⟨J8, _, none⟩) H7.out _).trans (((cell_far (p := ⟨J8, _, none⟩) H7.out _).trans (((cell_far (p := ⟨J8, _, none⟩) H7.out _).trans (((cell_far (p := ⟨J8, _, none⟩) H7.out _).trans (hHeld.2.1)))))))), ((cell_far (p := ⟨J8, _, none⟩) H7.out _).trans (((cell_far (p := ⟨J8, _, none⟩) H7.out _).trans (((cell_far (p := ⟨J8, _, none⟩) H7.out _).trans (((cell_far (p := ⟨J8, _, none⟩) H7.out _).trans (hHeld.2.2.1)))))))), ((cell_far (p := ⟨J8, _, none⟩) H7.out _).trans (((cell_far (p := ⟨J8, _, none⟩) H7.out _).trans (((cell_far (p := ⟨J8, _, none⟩) H7.out _).trans (((cell_far (p := ⟨J8, _, none⟩) H7.out _).trans (hHeld.2.2.2))))))))⟩ (fun hHeld => ?_)
      clear hK K
      refine pu_ 12 (some 10) X5 ?_
      refine pu_ 13 (some 11) X5 ?_
      refine a7d (a6D X5.out (by kernel_rfl)) ?_
      have d3k := b0k.out
      have d3l := a2L.out
      have d4W := b0l.out
      have d4X := a2M.out
      have f4w := H7.out
      have f4x := a05.out
      obtain ⟨c1W, c1X, c1Y, e0v, c1Z, c2a, c2c, e0w⟩ := blk4 P6.out
      have f4y := a4J.out
      have f4z := a1V.out
      have f4A := X9.out
      have f4B := a03.out
      obtain ⟨c9G, c9H, c9I, e0x, c9J, c9K, c9L, e0y⟩ := blk4 X3.out
      have d4Y := Y0.out
      have d4Z := a04.out
      obtain ⟨b7b, b7c, b7d, b7e⟩ := a3n Y2.out
      try go_wp2
      refine bodyPost_ret (a5p (rs := [.cell 2 46, .tmp 3, .cell 4 30]) rfl (by simp) (.cell a4b 46 #[.bool a4W, .bool a8e, .int .u32 a9i, .int .u32 b0P] (0, 0) _ rfl (by refine o9 ?_ a4J.out _; refine o9 ?_ a4J.out _; refine l9 (cs := #[.bool a4W, .bool a8e, .int .u32 a9i, .int .u32 a1W]) ?_ 3 _ rfl; refine l9 (cs := #[.bool a4W, .bool a8e, .int .u32 a2l, .int .u32 a1W]) ?_ 2 _ rfl; refine l9 (cs := #[.bool a4W, .bool a3j, .int .u32 a2l, .int .u32 a1W]) ?_ 1 _ rfl; refine l9 (cs := #[.bool a4K, .bool a3j, .int .u32 a2l, .int .u32 a1W]) ?_ 0 _ rfl; refine o9 ?_ X9.out _; refine o9 ?_ X9.out _; refine o9 ?_ X9.out _; refine o9 ?_ X9.out _; exact X3.out) Tryd.underlying46 rfl (by kernel_rfl) (.tmp (.cell a5J 30 #[.int .i64 Z7, .int .i64 b5H] (0, 0) _ rfl (by refine l9 (cs := #[.int .i64 Z7, .int .i64 a3k]) ?_ 1 _ rfl; refine l9 (cs := #[.int .i64 a4L, .int .i64 a3k]) ?_ 0 _ rfl; refine o9 ?_ a1V.out _; refine o9 ?_ a1V.out _; refine o9 ?_ a1V.out _; refine o9 ?_ a1V.out _; refine o9 ?_ Y0.out _; refine o9 ?_ Y0.out _; refine o9 ?_ Y0.out _; refine o9 ?_ Y0.out _; exact Y2.out) Tryd.underlying30 rfl (by kernel_rfl) .nil)))) rfl ?_
      exact ⟨_, by (rfl), by exact Kd.V6 (Kd.Y6 (p := ⟨a5J, 1, none⟩) (Kd.Y6 (p := ⟨a5J, 0, none⟩) (Kd.Y6 (p := ⟨a4b, 3, none⟩) (Kd.Y6 (p := ⟨a4b, 2, none⟩) (Kd.Y6 (p := ⟨a4b, 1, none⟩) (Kd.Y6 (p := ⟨a4b, 0, none⟩) (Kd.Y6 (p := ⟨J8, 3, none⟩) (Kd.Y6 (p := ⟨J8, 2, none⟩) (Kd.Y6 (p := ⟨J8, 1, none⟩) (Kd.Y6 (p := ⟨J8, 0, none⟩) (Kd.a3K (Kd.a3K (Kd.V6 U1.out (fun k_ hk => (⟨hk, hk.2⟩ : _ ∧ k_ ≠ J8))) X3.out (by decide)) Y2.out (by decide)) (fun _ hk => hk.1.1.2) (.int .u32 a6T)) (fun _ hk => hk.1.1.2) (.int .u32 a7b)) (fun _ hk => hk.1.1.2) (.int .u32 a7w)) (fun _ hk => hk.1.1.2) (.slice e7E a7c.length e7F)) (fun _ hk => hk.1.2) (.bool a4W)) (fun _ hk => hk.1.2) (.bool a8e)) (fun _ hk => hk.1.2) (.int .u32 a9i)) (fun _ hk => hk.1.2) (.int .u32 b0P)) (fun _ hk => hk.2) (.int .i64 Z7)) (fun _ hk => hk.2) (.int .i64 b5H)) (fun _ hk => trivial), by repeat (with_reducible first | exact HB.out | refine o8 ?_ d07.out | refine o8 ?_ d08.out | refine o8 ?_ b1I.out)⟩
    ·rw [if_neg c11] at H
     have c0o := decide_eq_false c11
     clear c11
     obtain ⟨rfl, rfl, rfl, rfl, rfl, rfl, rfl⟩ := s7_ H
     have f4C := b0k.out
     have f4D := a2L.out
     have f4E := b0l.out
     have f4F := a2M.out
     obtain ⟨c9M, c9N, e0z, e0A, c9O, c9P, e0B, e0C⟩ := blk4 P6.out
     have f4G := a4J.out
     have f4H := a1V.out
     obtain ⟨c2d, c2e, c9Q, e0D, c2f, c2g, c9R, e0E⟩ := blk4 X3.out
     obtain ⟨c9S, c9T, c9U, c9V⟩ := a3n Y2.out
     go_wp2
     refine bodyPost_ret (a5p (rs := [.cell 2 46, .tmp 3, .cell 4 30]) rfl (by simp) (.cell a4b 46 #[.bool a4W, .bool a8e, .int .u32 a9i, .int .u32 b0P] (0, 0) _ rfl (by refine o9 ?_ a4J.out _; refine o9 ?_ a4J.out _; refine l9 (cs := #[.bool a4W, .bool a8e, .int .u32 a9i, .int .u32 a1W]) ?_ 3 _ rfl; refine l9 (cs := #[.bool a4W, .bool a8e, .int .u32 a2l, .int .u32 a1W]) ?_ 2 _ rfl; refine l9 (cs := #[.bool a4W, .bool a3j, .int .u32 a2l, .int .u32 a1W]) ?_ 1 _ rfl; refine l9 (cs := #[.bool a4K, .bool a3j, .int .u32 a2l, .int .u32 a1W]) ?_ 0 _ rfl; exact X3.out) Tryd.underlying46 rfl (by kernel_rfl) (.tmp (.cell a5J 30 #[.int .i64 0, .int .i64 0] (0, 0) _ rfl (by refine l9 (cs := #[.int .i64 0, .int .i64 a3k]) ?_ 1 _ rfl; refine l9 (cs := #[.int .i64 a4L, .int .i64 a3k]) ?_ 0 _ rfl; refine o9 ?_ a1V.out _; refine o9 ?_ a1V.out _; refine o9 ?_ a1V.out _; refine o9 ?_ a1V.out _; exact Y2.out) Tryd.underlying30 rfl (by kernel_rfl) .nil)))) rfl ?_
     exact ⟨_, by (rfl), by exact Kd.V6 (Kd.Y6 (p := ⟨a5J, 1, none⟩) (Kd.Y6 (p := ⟨a5J, 0, none⟩) (Kd.Y6 (p := ⟨a4b, 3, none⟩) (Kd.Y6 (p := ⟨a4b, 2, none⟩) (Kd.Y6 (p := ⟨a4b, 1, none⟩) (Kd.Y6 (p := ⟨a4b, 0, none⟩) (Kd.a3K (Kd.a3K U1.out X3.out (by decide)) Y2.out (by decide)) (fun _ hk => hk.1.2) (.bool a4W)) (fun _ hk => hk.1.2) (.bool a8e)) (fun _ hk => hk.1.2) (.int .u32 a9i)) (fun _ hk => hk.1.2) (.int .u32 b0P)) (fun _ hk => hk.2) (.int .i64 0)) (fun _ hk => hk.2) (.int .i64 0)) (fun _ hk => trivial), by repeat (with_reducible first | exact HB.out | refine o8 ?_ d07.out | refine o8 ?_ d08.out)⟩
 ·rw [if_neg c3] at H
  have a5g := beq_eq_false_iff_ne.mpr c3
  have b1b := bne_iff_ne.mpr c3
  obtain ⟨rfl, rfl, rfl, rfl, rfl, rfl, rfl⟩ := s7_ H
  go_enter Tryd.func18, Tryd.ntmps18
  go_wp2_with (first | (refine be_ 2 #[.bool false, .bool false, .int .u32 0, .int .u32 0] 46 ?_; intro a4b hg w58 hbox hb; have X3 := a_ hbox; have f8p := lb_ HB hg; have d07 := lb_ HB hg; replace HB := W9 HB hb; clear hb hbox hg) | (refine be_ 4 #[.int .i64 0, .int .i64 0] 30 ?_; intro a5J hg w59 hbox hb; have Y2 := a_ hbox; have f8q := lb_ HB hg; have d08 := lb_ HB hg; obtain ⟨a4J, a1V⟩ := nn_ X3 hg; replace X3 := U5 X3 hb; replace HB := W9 HB hb; clear hb hbox hg) | (refine gl_ (some 14) Tryd.func35 #[.slice A0 l0.length c0] ?_; (with_reducible refine (umpireref09_Head.calls k _ _ l0 a4W a8e a9i b0P e2y _ (Kd.D6 HR0.out HB.out) HC0.out A2.out).mono ?_); rintro e w60 ⟨rfl, hb⟩; refine ⟨_, rfl, ?_⟩; replace X3 := U5 X3 hb; replace Y2 := U5 Y2 hb; replace HB := W9 HB hb; (try clear hb)) | (refine be_ 5 #[.bool false, .bool false, .int .u32 0, .int .u32 0] 46 ?_; intro a1O hg w61 hbox hb; have P6 := a_ hbox; have f8r := lb_ HB hg; have d65 := lb_ HB hg; obtain ⟨a2L, b0k⟩ := nn_ X3 hg; obtain ⟨a2M, b0l⟩ := nn_ Y2 hg; replace X3 := U5 X3 hb; replace Y2 := U5 Y2 hb; replace HB := W9 HB hb; clear hb hbox hg; have e4B := b0k.out; have e4C := a2L.out; have e3J := b0l.out; have e3K := a2M.out; obtain ⟨c9W, c9X, c9Y, e0F, c9Z, c90, c94, e0G⟩ := blk4 P6.out; have e3L := a4J.out; have e3M := a1V.out; obtain ⟨c1g, c1h, c1i, c1j, c1k, c1l, c1m, c1o⟩ := blk4 X3.out; obtain ⟨e0H, e0I, e0J, e0K⟩ := a3n Y2.out))
  refine bodyPost_ret (a5p (rs := [.cell 2 46, .tmp 3, .cell 4 30]) rfl (by simp) (.cell a4b 46 #[.bool false, .bool false, .int .u32 0, .int .u32 0] (0, 0) _ rfl (by refine o9 ?_ a4J.out _; refine o9 ?_ a4J.out _; refine l9 (cs := #[.bool false, .bool false, .int .u32 0, .int .u32 0]) ?_ 3 _ rfl; refine l9 (cs := #[.bool false, .bool false, .int .u32 0, .int .u32 0]) ?_ 2 _ rfl; refine l9 (cs := #[.bool false, .bool false, .int .u32 0, .int .u32 0]) ?_ 1 _ rfl; refine l9 (cs := #[.bool false, .bool false, .int .u32 0, .int .u32 0]) ?_ 0 _ rfl; refine o9 ?_ a2L.out _; refine o9 ?_ a2L.out _; refine o9 ?_ a2L.out _; refine o9 ?_ a2L.out _; exact X3.out) Tryd.underlying46 rfl (by kernel_rfl) (.tmp (.cell a5J 30 #[.int .i64 0, .int .i64 e2y] (0, 0) _ rfl (by refine l9 (cs := #[.int .i64 0, .int .i64 0]) ?_ 1 _ rfl; refine l9 (cs := #[.int .i64 0, .int .i64 0]) ?_ 0 _ rfl; refine o9 ?_ a1V.out _; refine o9 ?_ a1V.out _; refine o9 ?_ a1V.out _; refine o9 ?_ a1V.out _; refine o9 ?_ a2M.out _; refine o9 ?_ a2M.out _; refine o9 ?_ a2M.out _; refine o9 ?_ a2M.out _; exact Y2.out) Tryd.underlying30 rfl (by kernel_rfl) .nil)))) rfl ?_
  exact ⟨_, by (rfl), by (exact Kd.a6k _ _ _ _ _), by repeat (with_reducible first | exact HB.out | refine o8 ?_ d07.out | refine o8 ?_ d08.out | refine o8 ?_ d65.out)⟩

end Go.Proofs.YtgnonglkibhnhaaDoor.Print
