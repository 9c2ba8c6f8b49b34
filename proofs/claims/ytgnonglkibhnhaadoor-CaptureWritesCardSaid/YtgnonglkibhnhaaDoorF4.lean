import Derived.Test.YtgnonglkibhnhaaDoorF15
import Derived.Test.YtgnonglkibhnhaaDoorF9
namespace Go.Proofs.YtgnonglkibhnhaaDoor.Print
open Go.RowKit Go.Proofs.YtgnonglkibhnhaaDoorW.PrintWords Go.Proofs.YtgnonglkibhnhaaDoorW.PrintLast Go.Proofs.YtgnonglkibhnhaaDoorW.PrintMore
attribute [local go_sem] a0d a0e a0V a0W X5 X6 a0f a0g
set_option linter.unusedVariables false
set_option linter.unusedSimpArgs false

/-! ### umpirelaw11_CaptureWrites: function 4 -/
mutual
def umpirelaw11_CaptureWrites.j0 : Nat → List (S42) → Int → Bool → Int → Int → Int → Int → ByteArray → ByteArray → Int → Int → Bool → Option (Bool)
 | 0, _, _, _, _, _, _, _, _, _, _, _, _ => none
 | k + 1, x0, x1, x18, c8p, c8q, c8r, c8s, c8t, c8u, c8v, c8w, c8x => if x18 = true then ((umpirelaw11_awake.f k).bind fun e6i => (some e6i)) else ((capture_Write.f k x0 x1 c8p c8q c8r c8s c8t c8u c8v c8w c8x).bind fun e1w => ((umpireref11_Write.f k x0 x1 c8p c8q c8r c8s c8t c8u c8v c8w c8x).bind fun e1x => (umpirelaw11_CaptureWrites.l0 k x0 e1w.1 e1w.2 e1x.1 e1x.2 0)))
def umpirelaw11_CaptureWrites.l0 : Nat → List (S42) → List Int → Int → List Int → Int → Int → Option (Bool)
 | 0, _, _, _, _, _, _ => none
 | k + 1, x0, x7, x8, x9, x10, x11 => if x11 < (x0.length : Int) then (if 0 ≤ x11 then ((a1C.f ((y7 x0 x11).f0) ((y7 x0 x11).f1) ((y7 x0 x11).f2)).bind fun c4M => ((a0l.f ((y7 x0 x11).f0) ((y7 x0 x11).f1) ((y7 x0 x11).f2)).bind fun c4N => (if (c4M != c4N) = true then (none) else (umpirelaw11_CaptureWrites.l0 k x0 x7 x8 x9 x10 (wrap64 (x11 + 1)))))) else (none)) else (if (strOfNums x7).toList = (strOfNums x9).toList then (some (x8 == x10)) else (none))
end
def umpirelaw11_CaptureWrites.f (k : Nat) (l0 : List (S42)) (a1 : Int) (a05 : Int) (a06 : Int) (a07 : Int) (a08 : Int) (a09 : ByteArray) (a1a : ByteArray) (a0y : Int) (Y7 : Int) (Y1 : Bool) : Option (Bool) := (umpirelaw11_awake.f k).bind fun e6j => (if e6j = true then ((P8.f k l0).bind fun d9I => (umpirelaw11_CaptureWrites.j0 k l0 a1 (!d9I) a05 a06 a07 a08 a09 a1a a0y Y7 Y1)) else (umpirelaw11_CaptureWrites.j0 k l0 a1 true a05 a06 a07 a08 a09 a1a a0y Y7 Y1))
def umpirelaw11_CaptureWrites.T8 : Bool × List (List Nat × List Nat) := (true, [([], []), ([], []), ([0, 1], [0, 1]), ([2], [2]), ([3], [3]), ([], []), ([], []), ([5, 6], [5, 6]), ([7], [7]), ([8, 4], [8]), ([4, 9], [4, 9])])
def umpirelaw11_CaptureWrites.B8 : List Nat := [0, 0, 3, 7, 15, 0, 0, 96, 224, 511, 1023]
theorem umpirelaw11_CaptureWrites.d5S : a2l .any (opsOf Tryd.f4 8) = umpirelaw11_CaptureWrites.T8 := by kernel_rfl
theorem umpirelaw11_CaptureWrites.c2w : a1R umpirelaw11_CaptureWrites.T8.2 umpirelaw11_CaptureWrites.B8 = true := by kernel_rfl
set_option maxHeartbeats 8000000 in
set_option maxRecDepth 100000 in
theorem umpirelaw11_CaptureWrites.calls (k : Nat) (A0 : Option Addr) (c0 : Nat) (l0 : List (S42)) (a1 : Int) (a05 : Int) (a06 : Int) (a07 : Int) (a08 : Int) (a09 : ByteArray) (a1a : ByteArray) (a0y : Int) (Y7 : Int) (Y1 : Bool) (r : Bool) (w : World) (hG0 : Kd.C b1a w (some ⟨0, 0, none⟩) 8 G7) (hr0 : Kd.C k42 w A0 l0.length l0) (hc0 : l0.length ≤ c0) (h : umpirelaw11_CaptureWrites.f k l0 a1 a05 a06 a07 a08 a09 a1a a0y Y7 Y1 = some r) :
  Calls Tryd.prog 4 #[.slice A0 l0.length c0, .int .i64 a1, .agg #[.int .i64 a05, .int .i64 a06, .int .i64 a07, .int .i64 a08, .string a09, .string a1a, .int .i64 a0y, .int .u32 Y7, .bool Y1]] w fun e w' => e = .returned (.bool r) ∧ Below w.heap.size w w' := by
 have c3k := Tryd.underlying25
 have b8P := Tryd.underlying42
 have HR0 := a_ hr0
 have HC0 := a_ hc0
 clear hr0 hc0
 have a4w := a_ hG0
 clear hG0
 have HB := a_ (Below.refl w.heap.size w)
 have H := h
 clear h
 unfold umpirelaw11_CaptureWrites.f at H
 have HC4 := a_ H
 clear H
 go_enter Tryd.func4, Tryd.ntmps4
 go_upto_region 1 with (first | (refine be_ 5 #[.int .i64 a05, .int .i64 a06, .int .i64 a07, .int .i64 a08, .string a09, .string a1a, .int .i64 a0y, .int .u32 Y7, .bool Y1] 25 ?_; intro e1y hg w5 hbox hb; have a3k := a_ hbox; have g7b := lb_ HB hg; replace HB := Q8 HB hb; clear hb hbox hg))
 go_cut [18] (fun v18 wc => ∃ (kq : Nat) (c8y : Bool), v18 = .bool c8y ∧ Aside0 (umpirelaw11_CaptureWrites.j0 kq l0 a1 c8y a05 a06 a07 a08 a09 a1a a0y Y7 Y1 = some r) ∧ Aside0 (kq ≤ k) ∧ Aside0 (wc.heap[e1y]? = some (.cells #[.int .i64 a05, .int .i64 a06, .int .i64 a07, .int .i64 a08, .string a09, .string a1a, .int .i64 a0y, .int .u32 Y7, .bool Y1] 25 (0, 0))) ∧ Aside0 (Below w.heap.size w wc))
 case first =>
  have H := HC4.out; clear HC4; obtain ⟨e6j, A6, H⟩ := bd_ H
  try dsimp only at H
  by_cases c7 : e6j = true
  ·subst c7; rw [if_pos rfl] at H; obtain ⟨d9I, A8, H⟩ := bd_ H
   (try dsimp only at H); have H' := a_ H; clear H
   go_wp2_with (first | (refine gl_ (some 12) Tryd.func9 #[] ?_ (hargs := by (try simp only [List.map_toArray, List.map_cons, List.map_nil]); (done)); (with_reducible refine (umpirelaw11_awake.calls k  true _ (Kd.E8 a4w.out HB.out) A6.out).mono ?_); rintro e w9 ⟨rfl, hb⟩; refine ⟨_, rfl, ?_⟩; replace a3k := X8 a3k hb; replace HB := Q8 HB hb; (try clear hb)) | (go_at_call 13; (with_reducible refine (P8.calls k _ _ l0 d9I _ (Kd.E8 HR0.out HB.out) HC0.out A8.out).mono ?_); rintro e w10 ⟨rfl, hb⟩; replace a3k := X8 a3k hb; replace HB := Q8 HB hb; (try clear hb)))
   go_meet
   case rel => exact ⟨_, (!d9I), (by rfl), H', ⟨by (omega)⟩, ⟨by exact a3k.out⟩, ⟨by exact HB.out⟩⟩
  ·cases nt_ c7
   rw [if_neg a2O] at H; have H' := a_ H; clear H
   go_wp2_with (first | (refine gl_ (some 12) Tryd.func9 #[] ?_ (hargs := by (try simp only [List.map_toArray, List.map_cons, List.map_nil]); (done)); (with_reducible refine (umpirelaw11_awake.calls k  false _ (Kd.E8 a4w.out HB.out) A6.out).mono ?_); rintro e w11 ⟨rfl, hb⟩; refine ⟨_, rfl, ?_⟩; replace a3k := X8 a3k hb; replace HB := Q8 HB hb; (try clear hb)))
   go_meet
   case rel => exact ⟨_, (true), (by rfl), H', ⟨by (omega)⟩, ⟨by exact a3k.out⟩, ⟨by exact HB.out⟩⟩
 case rest =>
  clear HC4; obtain ⟨kq, c8y, rfl, HA, HJ3, a3k, HB⟩ := hcut
  cases kq with
  | zero => exact absurd HA.out (by simp [umpirelaw11_CaptureWrites.j0])
  | succ kj3 =>
   have H := HA.out; clear HA
   simp only [umpirelaw11_CaptureWrites.j0] at H
   by_cases c12 : c8y = true
   ·subst c12; rw [if_pos rfl] at H; obtain ⟨e6i, A13, H⟩ := bd_ H
    (try dsimp only at H); obtain rfl := oj_ H
    go_wp2_with (first | (refine gl_ (some 19) Tryd.func9 #[] ?_ (hargs := by (try simp only [List.map_toArray, List.map_cons, List.map_nil]); (done)); (with_reducible refine (umpirelaw11_awake.calls kj3  e6i _ (Kd.E8 a4w.out HB.out) A13.out).mono ?_); rintro e w14 ⟨rfl, hb⟩; refine ⟨_, rfl, ?_⟩; replace a3k := X8 a3k hb; replace HB := Q8 HB hb; (try clear hb)))
    go_ret
    exact ⟨by (rfl), by exact HB.out⟩
   ·cases nt_ c12
    rw [if_neg a2O] at H; obtain ⟨⟨e6k, f2S⟩, A15, H⟩ := bd_ H
    (try dsimp only at H); obtain ⟨⟨e6l, f2T⟩, A16, H⟩ := bd_ H
    (try dsimp only at H); have H' := a_ H; clear H; obtain ⟨b47, b48, b49, d9J, d9K, d9L, d9M, d9N, d9O, b5a, b5b, b5c, d9P, d9Q, d9R, d9S, d9T, d9U⟩ := e4o a3k.out
    go_wp2_with (first | (refine gl_ (some 24) Tryd.func14 #[.slice A0 l0.length c0, .int .i64 a1, .agg #[.int .i64 a05, .int .i64 a06, .int .i64 a07, .int .i64 a08, .string a09, .string a1a, .int .i64 a0y, .int .u32 Y7, .bool Y1]] ?_; (with_reducible refine (capture_Write.calls kj3 _ _ l0 a1 a05 a06 a07 a08 a09 a1a a0y Y7 Y1 e6k f2S _ (Kd.E8 a4w.out HB.out) (Kd.E8 HR0.out HB.out) HC0.out A15.out).mono ?_); rintro e w18 ⟨f2U, rfl, ho0, hb⟩; refine ⟨_, rfl, ?_⟩; have c8A := rl_ ho0 HB; replace a3k := X8 a3k hb; replace HB := Q8 HB hb; (try clear hb); (try clear ho0); obtain ⟨c7b, c7c, c7d, d9V, d9W, d9X, d9Y, d9Z, d90, c7e, c7f, c7g, d91, d92, d93, d94, d95, d96⟩ := e4o a3k.out) | (refine gl_ (some 31) Tryd.func15 #[.slice A0 l0.length c0, .int .i64 a1, .agg #[.int .i64 a05, .int .i64 a06, .int .i64 a07, .int .i64 a08, .string a09, .string a1a, .int .i64 a0y, .int .u32 Y7, .bool Y1]] ?_; (with_reducible refine (umpireref11_Write.calls kj3 _ _ l0 a1 a05 a06 a07 a08 a09 a1a a0y Y7 Y1 e6l f2T _ (Kd.E8 HR0.out HB.out) HC0.out A16.out).mono ?_); rintro e w20 ⟨f2V, rfl, ho0, hb⟩; refine ⟨_, rfl, ?_⟩; have f2W := rn_ ho0 c8A HB; replace c8A := rR_ c8A ho0 hb; replace a3k := X8 a3k hb; replace HB := Q8 HB hb; (try clear hb); (try clear ho0)))
    go_loopg [11] kj3 (fun kq v11 w' => ∃ (a1y : Int), v11 = .int .i64 a1y ∧ Aside0 (umpirelaw11_CaptureWrites.l0 kq l0 e6k f2S e6l f2T a1y = some r) ∧ Aside0 (kq ≤ kj3) ∧ Aside0 (Kd.R (Kd.int .u8) 5 w' w.heap.size (fun k_ => some k_ ≠ (f2V : Value).ownBlock) f2U e6k) ∧ Aside0 (Kd.R (Kd.int .u8) 5 w' w.heap.size (fun k_ => some k_ ≠ (f2U : Value).ownBlock) f2V e6l) ∧ Aside0 (w'.heap[e1y]? = some (.cells #[.int .i64 a05, .int .i64 a06, .int .i64 a07, .int .i64 a08, .string a09, .string a1a, .int .i64 a0y, .int .u32 Y7, .bool Y1] 25 (0, 0))) ∧ Aside0 (Below w.heap.size w w'))
    case atStart => exact ⟨(0), (by rfl), H', ⟨Nat.le_refl _⟩, ⟨by exact Kd.y9 c8A.out (fun _ hk => hk.2)⟩, ⟨by exact Kd.y9 f2W.out (fun _ hk => hk.2)⟩, ⟨by exact a3k.out⟩, ⟨by exact HB.out⟩⟩
    case round =>
     clear H'
     try clear b47
     try clear b48
     try clear b49
     try clear d9J
     try clear d9K
     try clear d9L
     try clear d9M
     try clear d9N
     try clear d9O
     try clear c7b
     try clear c7c
     try clear c7d
     try clear d9V
     try clear d9W
     try clear d9X
     try clear d9Y
     try clear d9Z
     try clear d90
     try clear b5a
     try clear b5b
     try clear b5c
     try clear d9P
     try clear d9Q
     try clear d9R
     try clear d9S
     try clear d9T
     try clear d9U
     try clear c7e
     try clear c7f
     try clear c7g
     try clear d91
     try clear d92
     try clear d93
     try clear d94
     try clear d95
     try clear d96
     obtain ⟨a1y, rfl, HA, HK2, Y5, a0a, a3k, HB⟩ := hrel
     cases gk with
     | zero => exact absurd HA.out (by simp [umpirelaw11_CaptureWrites.l0])
     | succ k2 =>
      have H := HA.out; clear HA
      simp only [umpirelaw11_CaptureWrites.l0] at H
      by_cases c21 : a1y < (l0.length : Int)
      ·rw [if_pos c21] at H; have d5d := dt_ c21; clear c21; have e09 := a2Q H; replace H := O6 H; obtain ⟨c4M, A23, H⟩ := bd_ H
       (try dsimp only at H); obtain ⟨c4N, A24, H⟩ := bd_ H
       try dsimp only at H
       by_cases c25 : (c4M != c4N) = true
       ·rw [if_pos c25] at H; exact absurd H (by simp)
       ·rw [if_neg c25] at H; have g7c : (c4M != c4N) = false := by simpa using c25
        (try (have g7d : decide (c4M = c4N) = true := by simpa using c25))
        (try (have g7e : (c4M == c4N) = true := by simpa using c25))
        clear c25; have H' := a_ H; clear H
        try go_wp2
        replace Y5 := a_ (Kd.a8p Y5.out); replace a0a := a_ (Kd.a8p a0a.out); replace a3k := a_ (P6 a3k.out); replace HB := a_ (Z8 HB.out); have e6m : 0 ≤ (a1y : Int) := U9; have e6n : a1y < (l0.length : Int) := U9; obtain ⟨a98, c0j, c0k, g3X, b5U, b5V, b3A, c8B, c8C⟩ := a0I HR0.out a1y e6m e6n; have c0l := b3A; have c0n := b5V; have c0o := b5U
        cases g3X
        replace b5U := J9 HB b5U; replace b5V := J9 HB b5V; replace b3A := J9 HB b3A; have c8D := a_ c8C; have d97 := a_ c8B; clear c8C c8B; replace e6m := eq_true e6m; replace e6n := eq_true e6n; have e6o : 0 ≤ (a1y : Int) := U9; have e6p : a1y < (l0.length : Int) := U9; obtain ⟨f2X, g3Y, g3Z, g30, b5W, b5X, b3B, c8E, c8F⟩ := a0I HR0.out a1y e6o e6p; have c0p := b3B; have c0q := b5X; have c0r := b5W; obtain rfl : a98 = f2X := (by injection g30); replace b5W := J9 HB b5W; replace b5X := J9 HB b5X; replace b3B := J9 HB b3B; have c8G := a_ c8F; have d98 := a_ c8E; clear c8F c8E; replace e6o := eq_true e6o; replace e6p := eq_true e6p; have ea_ := oj_ (b3A.symm.trans b3B); injection ea_ with ea_ en_ ec_
        subst ea_; subst ec_; clear en_; refine a2U (n := 11) (S := fun w' => w'.cell? (a98.add ((a1y).toNat * 3)) = some (.int .i64 ((y7 l0 a1y).f0)) ∧ w'.cell? ⟨(a98.add ((a1y).toNat * 3)).block, (a98.add ((a1y).toNat * 3)).off + 1, none⟩ = some (.int .i64 ((y7 l0 a1y).f1)) ∧ w'.cell? ⟨(a98.add ((a1y).toNat * 3)).block, (a98.add ((a1y).toNat * 3)).off + 2, none⟩ = some (.slice c0j ((y7 l0 a1y).f2).length c0k) ∧ w'.cell? (a98.add ((a1y).toNat * 3)) = some (.int .i64 ((y7 l0 a1y).f0)) ∧ w'.cell? ⟨(a98.add ((a1y).toNat * 3)).block, (a98.add ((a1y).toNat * 3)).off + 1, none⟩ = some (.int .i64 ((y7 l0 a1y).f1)) ∧ w'.cell? ⟨(a98.add ((a1y).toNat * 3)).block, (a98.add ((a1y).toNat * 3)).off + 2, none⟩ = some (.slice c0j ((y7 l0 a1y).f2).length c0k)) (ds := []) (bo_ 11 0) (by kernel_rfl) rfl rfl ⟨(J9 HB c0o), (J9 HB c0n), (J9 HB c0l), (J9 HB c0r), (J9 HB c0q), (J9 HB c0p)⟩ (fun hHeld => ?_); refine a1Z umpirelaw11_CaptureWrites.d5S umpirelaw11_CaptureWrites.c2w (fun U6 HW_ => ?_); generalize wr.drew = w26 at Y5 a0a a3k HB c8D c8G b5U b5V b3A b5W b5X b3B hHeld ⊢; refine pu_ 0 (some 40) U6 ?_; refine pu_ 1 (some 41) U6 ?_; refine pu_ 2 (some 42) U6 ?_; refine pu_ 5 (some 45) U6 ?_; refine pu_ 6 (some 46) U6 ?_; refine pu_ 7 (some 47) U6 ?_; refine a0Y (i := 3) (N := some 43) (v := ?_) (a' := ?_) (bo_ 11 239) rfl rfl (Y9 U6.out HW_.out (by kernel_rfl)) (fun _ _ _ h => h) (Or.inl ⟨by rfl, ?_⟩) hHeld ?_ ?_
        rotate_left
        ·rintro w' ⟨s0, s1, s2, s3, s4, s5⟩
         go_simp
         with_reducible rfl
        rotate_left
        ·simp only [Act.put, List.setIfInBounds_toArray, List.set_cons_zero, List.set_cons_succ, a0D, a1b]
         rfl
        refine a0Y (i := 8) (N := some 48) (v := ?_) (a' := ?_) (bo_ 11 495) rfl rfl (Y9 U6.out HW_.out (by kernel_rfl)) (fun _ _ _ h => h) (Or.inl ⟨by rfl, ?_⟩) hHeld ?_ ?_
        rotate_left
        ·rintro w' ⟨s0, s1, s2, s3, s4, s5⟩
         go_simp
         with_reducible rfl
        rotate_left
        ·simp only [Act.put, List.setIfInBounds_toArray, List.set_cons_zero, List.set_cons_succ, a0D, a1b]
         rfl
        refine a4p (i := 4) (N := some 44) (bo_ 11 511) rfl rfl (a1l U6.out (by kernel_rfl)) (by decide) (fun K hK => ?_); refine a3c Tryd.func16 (by kernel_rfl) rfl #[.agg #[.int .i64 ((y7 l0 a1y).f0), .int .i64 ((y7 l0 a1y).f1), .slice c0j ((y7 l0 a1y).f2).length c0k]] (by rfl) rfl rfl (by (try simp only [List.map_toArray, List.map_cons, List.map_nil]); (rfl)) ?_
        with_reducible refine (a1C.calls ((y7 l0 a1y).f0) ((y7 l0 a1y).f1) _ _ ((y7 l0 a1y).f2) c4M _ ?U1 ?U2 A23.out).mono ?_
        (case U1 => exact (Kd.E8 c8D.out HB.out))
        (case U2 => exact d97.out)
        rintro e w27 ⟨rfl, hb⟩; refine ⟨_, rfl, ?_⟩; replace Y5 := rb_ Y5 hb; replace a0a := rb_ a0a hb; replace a3k := X8 a3k hb; replace HB := Q8 HB hb
        (try clear hb)
        refine hK.out _ _ ⟨(J9 HB c0o), (J9 HB c0n), (J9 HB c0l), (J9 HB c0r), (J9 HB c0q), (J9 HB c0p)⟩ (fun hHeld => ?_); clear hK K; refine nm_ (some 44) ?_; refine a4p (i := 9) (N := some 49) (bo_ 11 1023) rfl rfl (a1l U6.out (by kernel_rfl)) (by decide) (fun K hK => ?_); refine a3c Tryd.func17 (by kernel_rfl) rfl #[.agg #[.int .i64 ((y7 l0 a1y).f0), .int .i64 ((y7 l0 a1y).f1), .slice c0j ((y7 l0 a1y).f2).length c0k]] (by rfl) rfl rfl (by (try simp only [List.map_toArray, List.map_cons, List.map_nil]); (rfl)) ?_
        with_reducible refine (a0l.calls ((y7 l0 a1y).f0) ((y7 l0 a1y).f1) _ _ ((y7 l0 a1y).f2) c4N _ ?U1 ?U2 A24.out).mono ?_
        (case U1 => exact (Kd.E8 c8G.out HB.out))
        (case U2 => exact d98.out)
        rintro e w28 ⟨rfl, hb⟩; refine ⟨_, rfl, ?_⟩; replace Y5 := rb_ Y5 hb; replace a0a := rb_ a0a hb; replace a3k := X8 a3k hb; replace HB := Q8 HB hb
        (try clear hb)
        refine hK.out _ _ ⟨(J9 HB c0o), (J9 HB c0n), (J9 HB c0l), (J9 HB c0r), (J9 HB c0q), (J9 HB c0p)⟩ (fun hHeld => ?_); clear hK K; refine nm_ (some 49) ?_; refine pu_ 10 (some 50) U6 ?_; refine a4J (a4b U6.out (by kernel_rfl)) ?_
        try go_wp2
        go_roundg k2
        case measure => have := HJ3.out; have := HK2.out; omega
        case rel => exact ⟨(wrap64 (a1y + 1)), (by rfl), H', ⟨by have := HJ3.out; have := HK2.out; omega⟩, ⟨by exact Y5.out⟩, ⟨by exact a0a.out⟩, ⟨by exact a3k.out⟩, ⟨by exact HB.out⟩⟩
      ·rw [if_neg c21] at H; have d5d := df_ c21; clear c21; have c29 := X4 H; replace H := O6 H; obtain ⟨g7f, g7g⟩ := bt_ c29; clear c29; obtain rfl := oj_ H; have g7h := fun m_ : Nat => a8m (P := Tryd.prog) Tryd.underlying22 Tryd.underlying5 Tryd.underlying9 (Kd.a7P (Kd.a1Q Y5.out m_))
       have g7i := a8m (P := Tryd.prog) Tryd.underlying22 Tryd.underlying5 Tryd.underlying9 (Kd.a7P Y5.out); have g7j := fun m_ : Nat => a8m (P := Tryd.prog) Tryd.underlying22 Tryd.underlying5 Tryd.underlying9 (Kd.a7P (Kd.a1Q a0a.out m_))
       have g7k := a8m (P := Tryd.prog) Tryd.underlying22 Tryd.underlying5 Tryd.underlying9 (Kd.a7P a0a.out)
       go_wp2
       go_ret
       exact ⟨by (rfl), by exact HB.out⟩

end Go.Proofs.YtgnonglkibhnhaaDoor.Print
