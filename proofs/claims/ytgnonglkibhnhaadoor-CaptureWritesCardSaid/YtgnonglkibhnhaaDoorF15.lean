import Derived.Test.YtgnonglkibhnhaaDoorF19
import Derived.Test.YtgnonglkibhnhaaDoorM5
namespace Go.Proofs.YtgnonglkibhnhaaDoor.Print
open Go.RowKit Go.Proofs.YtgnonglkibhnhaaDoorW.PrintWords Go.Proofs.YtgnonglkibhnhaaDoorW.PrintLast Go.Proofs.YtgnonglkibhnhaaDoorW.PrintMore
attribute [local go_sem] a0d a0e a0V a0W X5 X6 a0f a0g
set_option linter.unusedVariables false
set_option linter.unusedSimpArgs false

/-! ### umpireref11_Write: function 15 -/
mutual
def umpireref11_Write.j0 : Nat → List (S42) → Int → Bool → Int → Int → Int → Int → ByteArray → ByteArray → Int → Int → Bool → Option (List Int × Int)
 | 0, _, _, _, _, _, _, _, _, _, _, _, _ => none
 | k + 1, x0, x1, x21, a5t, a5u, a5v, a5w, a5x, a5y, a5z, a4D, a4E => if x21 = true then (some (([] : List Int), 7)) else (umpireref11_Write.l0 k x0 x1 ([] : List (S51)) ([] : List (S58)) 0 a5t a5u a5v a5w a5x a5y a5z a4D a4E)
def umpireref11_Write.l0 : Nat → List (S42) → Int → List (S51) → List (S58) → Int → Int → Int → Int → Int → ByteArray → ByteArray → Int → Int → Bool → Option (List Int × Int)
 | 0, _, _, _, _, _, _, _, _, _, _, _, _, _, _ => none
 | k + 1, x0, x1, x8, x9, x10, a5t, a5u, a5v, a5w, a5x, a5y, a5z, a4D, a4E => if x10 < (x0.length : Int) then (if 0 ≤ x10 then ((a0l.f ((y7 x0 x10).f0) ((y7 x0 x10).f1) ((y7 x0 x10).f2)).bind fun e5n => (if e5n = true then (if x1 = 1 then ((some (([(wrap64 (((y7 x0 x10).f0) - 1)) % 256] : List Int) : List Int)).bind fun c9N => ((a0b.f ((y7 x0 x10).f0) ((y7 x0 x10).f1) ((y7 x0 x10).f2)).bind fun b0E => (if c9N.length + b0E.length < 140737488355328 then ((some (c9N ++ b0E : List Int)).bind fun b4J => (if x8.length < 3518437208883 then (umpireref11_Write.l0 k x0 x1 (x8 ++ [(⟨(x10) % 4294967296, 0, (b4J.length : Int) % 4294967296, b4J⟩ : S51)]) x9 (wrap64 (x10 + 1)) a5t a5u a5v a5w a5x a5y a5z a4D a4E) else (none))) else (none)))) else (if ((y7 x0 x10).f0) = 1 then (umpireref11_Write.j2 k x0 x1 x8 x9 x10 a4D a5t a5u a5v a5w a5x a5y a5z a4D a4E) else (umpireref11_Write.j2 k x0 x1 x8 x9 x10 0 a5t a5u a5v a5w a5x a5y a5z a4D a4E))) else (some (([] : List Int), 1)))) else (none)) else (if x1 = 1 then ((umpireref09_Put.f k false false 65535 204 x8).bind fun e1i => (some (e1i.1, e1i.2))) else ((U0.f k x9).bind fun e1j => (some (e1j.1, e1j.2))))
def umpireref11_Write.j2 : Nat → List (S42) → Int → List (S51) → List (S58) → Int → Int → Int → Int → Int → Int → ByteArray → ByteArray → Int → Int → Bool → Option (List Int × Int)
 | 0, _, _, _, _, _, _, _, _, _, _, _, _, _, _, _ => none
 | k + 1, x0, x1, x8, x9, x10, x12, a5t, a5u, a5v, a5w, a5x, a5y, a5z, a4D, a4E => if 0 ≤ x10 then (if x10 < (x0.length : Int) then ((a0b.f ((y7 x0 x10).f0) ((y7 x0 x10).f1) ((y7 x0 x10).f2)).bind fun c2s => ((O7.f k ([c2s] : List (List Int)) x12 a4E).bind fun f1O => (umpireref11_Write.l1 k x0 x1 x8 x9 x10 f1O.1 a5t a5u a5v a5w a5x a5y a5z a4D a4E))) else (none)) else (none)
def umpireref11_Write.l1 : Nat → List (S42) → Int → List (S51) → List (S58) → Int → List Int → Int → Int → Int → Int → ByteArray → ByteArray → Int → Int → Bool → Option (List Int × Int)
 | 0, _, _, _, _, _, _, _, _, _, _, _, _, _, _, _ => none
 | k + 1, x0, x1, x8, x9, x10, x13, a5t, a5u, a5v, a5w, a5x, a5y, a5z, a4D, a4E => if (x13.length : Int) > 0 then (if (x13.length : Int) > 65535 then (if 0 ≤ x10 then (if x10 < (x0.length : Int) then (if 65535 ≤ (x13.length : Int) then (if x9.length < 3518437208883 then (umpireref11_Write.l1 k x0 x1 x8 (x9 ++ [(⟨wrap64 (3 - ((y7 x0 x10).f0)), 0, x13.take 65535⟩ : S58)]) x10 (x13.drop (65535 : Int).toNat) a5t a5u a5v a5w a5x a5y a5z a4D a4E) else (none)) else (none)) else (none)) else (none)) else (if 0 ≤ x10 then (if x10 < (x0.length : Int) then (if 0 ≤ (x13.length : Int) then (if (x13.length : Int) ≤ (x13.length : Int) then (if x9.length < 3518437208883 then (umpireref11_Write.l1 k x0 x1 x8 (x9 ++ [(⟨wrap64 (3 - ((y7 x0 x10).f0)), 0, x13.take ((x13.length : Int) : Int).toNat⟩ : S58)]) x10 (x13.drop ((x13.length : Int) : Int).toNat) a5t a5u a5v a5w a5x a5y a5z a4D a4E) else (none)) else (none)) else (none)) else (none)) else (none))) else (umpireref11_Write.l0 k x0 x1 x8 x9 (wrap64 (x10 + 1)) a5t a5u a5v a5w a5x a5y a5z a4D a4E)
end
def umpireref11_Write.f (k : Nat) (l0 : List (S42)) (a1 : Int) (a05 : Int) (a06 : Int) (a07 : Int) (a08 : Int) (a09 : ByteArray) (a1a : ByteArray) (a0y : Int) (Y7 : Int) (Y1 : Bool) : Option (List Int × Int) := if a1 = 1 then (umpireref11_Write.j0 k l0 a1 false a05 a06 a07 a08 a09 a1a a0y Y7 Y1) else (umpireref11_Write.j0 k l0 a1 (a1 != 2) a05 a06 a07 a08 a09 a1a a0y Y7 Y1)
def umpireref11_Write.T11 : Bool × List (List Nat × List Nat) := (true, [([], []), ([], []), ([0, 1], [0, 1]), ([2], [2]), ([3], [3]), ([4], [4]), ([5], [5]), ([6], [6]), ([], []), ([], []), ([8, 9], [8, 9]), ([10], [10]), ([11], [11]), ([7, 12, 12], [7, 12]), ([13, 13, 0, 1, 2, 3, 4, 5, 6, 7, 8, 9, 10, 11, 12, 13], [13])])
def umpireref11_Write.B11 : List Nat := [0, 0, 3, 7, 15, 31, 63, 127, 0, 0, 768, 1792, 3840, 8191, 16383]
theorem umpireref11_Write.f1P : a2l .any (opsOf Tryd.f15 11) = umpireref11_Write.T11 := by kernel_rfl
theorem umpireref11_Write.e5o : a1R umpireref11_Write.T11.2 umpireref11_Write.B11 = true := by kernel_rfl
def umpireref11_Write.T16 : Bool × List (List Nat × List Nat) := (true, [([], []), ([], []), ([0, 1], [0, 1]), ([2], [2]), ([3], [3]), ([4], [4]), ([], []), ([], []), ([7], [7]), ([5, 6, 8, 4], [5, 6, 8]), ([9], [9]), ([10], [10]), ([10], [10]), ([11, 9, 0, 1, 2, 3, 4, 5, 6, 7, 8, 9, 10, 11], [11]), ([12, 13, 0, 1, 2, 3, 4, 5, 6, 7, 8, 9, 10, 11, 12, 13], [12])])
def umpireref11_Write.B16 : List Nat := [0, 0, 3, 7, 15, 31, 0, 0, 128, 511, 1023, 2047, 2047, 4095, 16383]
theorem umpireref11_Write.f1Q : a2l .any (opsOf Tryd.f15 16) = umpireref11_Write.T16 := by kernel_rfl
theorem umpireref11_Write.e5p : a1R umpireref11_Write.T16.2 umpireref11_Write.B16 = true := by kernel_rfl
def umpireref11_Write.T21 : Bool × List (List Nat × List Nat) := (true, [([], []), ([], []), ([], []), ([1, 2], [1, 2]), ([3], [3]), ([4], [4]), ([5], [5]), ([], []), ([], []), ([7, 8], [7, 8]), ([6, 9], [6, 9]), ([10], [10]), ([0, 11], [0, 11]), ([12, 12, 0, 1, 2, 3, 4, 5, 6, 7, 8, 9, 10, 11, 12], [0, 12])])
def umpireref11_Write.B21 : List Nat := [0, 0, 0, 6, 14, 30, 62, 0, 0, 384, 1022, 2046, 4095, 8191]
theorem umpireref11_Write.e1k : a2l .any (opsOf Tryd.f15 21) = umpireref11_Write.T21 := by kernel_rfl
theorem umpireref11_Write.d5z : a1R umpireref11_Write.T21.2 umpireref11_Write.B21 = true := by kernel_rfl
theorem umpireref11_Write.d9k (A : Option Addr) (m n n' c c' : Nat) : (Value.slice (A.map (·.add m)) n c).ownBlock = (Value.slice A n' c').ownBlock := by
 cases A with
 | none => rfl
 | some a =>
  show some (a.add m).block = some a.block
  unfold Addr.add
  split <;> rfl
theorem umpireref11_Write.cut {W : World} {base gb m : Nat} {cf : Array Value} {u8 u9 : Value} {A : Option Addr} {c : Nat} {ok8 ok9 g2S : Nat → Prop} {x8 : List (S51)} {x9 : List (S58)} {b : List Int} (h8 : Kd.N k51 51 W base ok8 u8 x8) (h9 : Kd.N k58 58 W base ok9 u9 x9) (hg : W.heap[gb]? = some (.cells cf 25 (0, 0))) (h : Kd.Q (Kd.int .u8) 5 W base g2S (.slice A b.length c) b) (hm : m ≤ b.length) : Kd.F (Kd.int .u8) W (fun k_ => ((some k_ ≠ u8.ownBlock ∧ k_ ≠ gb) ∧ some k_ ≠ u9.ownBlock)) A (b.take m).length (b.take m) := by
 refine Kd.b1e (Kd.d0M (Kd.Q_F (Kd.d6G rfl h)) hm) (fun k_ hk_ => ?_)
 obtain ⟨c_, hc_⟩ := Kd.d6v h k_ hk_.symm
 have no : ∀ {q : Nat} {d_ : Array Value}, q ≠ 5 → W.heap[k_]? = some (.cells d_ q (0, 0)) → False := fun hq hd_ => by
  rw [hc_] at hd_; injection hd_ with hd_
  injection hd_ with _ hd_
  exact hq hd_.symm
 refine ⟨⟨fun e_ => ?_, fun e_ => ?_⟩, fun e_ => ?_⟩
 ·obtain ⟨d_, hd_⟩ := Kd.a13 h8 k_ e_.symm; exact no (by decide) hd_
 ·subst e_; exact no (by decide) hg
 ·obtain ⟨d_, hd_⟩ := Kd.a13 h9 k_ e_.symm; exact no (by decide) hd_
set_option maxHeartbeats 8000000 in
set_option maxRecDepth 100000 in
theorem umpireref11_Write.calls (k : Nat) (A0 : Option Addr) (c0 : Nat) (l0 : List (S42)) (a1 : Int) (a05 : Int) (a06 : Int) (a07 : Int) (a08 : Int) (a09 : ByteArray) (a1a : ByteArray) (a0y : Int) (Y7 : Int) (Y1 : Bool) (r1 : List Int) (r2 : Int) (w : World) (hr0 : Kd.C k42 w A0 l0.length l0) (hc0 : l0.length ≤ c0) (h : umpireref11_Write.f k l0 a1 a05 a06 a07 a08 a09 a1a a0y Y7 Y1 = some (r1, r2)) :
  Calls Tryd.prog 15 #[.slice A0 l0.length c0, .int .i64 a1, .agg #[.int .i64 a05, .int .i64 a06, .int .i64 a07, .int .i64 a08, .string a09, .string a1a, .int .i64 a0y, .int .u32 Y7, .bool Y1]] w fun e w' => ∃ v0_ : Value, e = .returned (.tuple #[v0_, .int .i64 r2]) ∧ Kd.R (Kd.int .u8) 5 w' w.heap.size (fun _ => True) v0_ r1 ∧ Below w.heap.size w w' := by
 have c3k := Tryd.underlying25
 have b8P := Tryd.underlying42
 have d7b := Tryd.underlying51
 have c1h := Tryd.underlying58
 have c3q := Tryd.underlying46
 have HR0 := a_ hr0
 have HC0 := a_ hc0
 clear hr0 hc0
 have HB := a_ (Below.refl w.heap.size w)
 have H := h
 clear h
 unfold umpireref11_Write.f at H
 have HC4 := a_ H
 clear H
 go_enter Tryd.func15, Tryd.ntmps15
 go_upto_region 1 with (first | (refine be_ 5 #[.int .i64 a05, .int .i64 a06, .int .i64 a07, .int .i64 a08, .string a09, .string a1a, .int .i64 a0y, .int .u32 Y7, .bool Y1] 25 ?_; intro a1c hg w5 hbox hb; have J5 := a_ hbox; have g6T := lb_ HB hg; replace HB := Q8 HB hb; clear hb hbox hg))
 go_cut [21] (fun v21 wc => ∃ (kq : Nat) (c7G : Bool), v21 = .bool c7G ∧ Aside0 (umpireref11_Write.j0 kq l0 a1 c7G a05 a06 a07 a08 a09 a1a a0y Y7 Y1 = some (r1, r2)) ∧ Aside0 (kq ≤ k) ∧ Aside0 (wc.heap[a1c]? = some (.cells #[.int .i64 a05, .int .i64 a06, .int .i64 a07, .int .i64 a08, .string a09, .string a1a, .int .i64 a0y, .int .u32 Y7, .bool Y1] 25 (0, 0))) ∧ Aside0 (Below w.heap.size w wc))
 case first =>
  have H := HC4.out; clear HC4
  by_cases c6 : a1 = 1
  ·rw [if_pos c6] at H; obtain ⟨a5Y, b2w⟩ := bt_ c6; clear c6; have H' := a_ H; clear H
   go_wp2
   go_meet
   case rel => exact ⟨_, (false), (by rfl), H', ⟨by (omega)⟩, ⟨by exact J5.out⟩, ⟨by exact HB.out⟩⟩
  ·rw [if_neg c6] at H; have a5Y := bq_ c6; have b2w := bn_ c6; have H' := a_ H; clear H
   go_wp2
   go_meet
   case rel => exact ⟨_, (a1 != 2), (by rfl), H', ⟨by (omega)⟩, ⟨by exact J5.out⟩, ⟨by exact HB.out⟩⟩
 case rest =>
  clear HC4; obtain ⟨kq, c7G, rfl, HA, HJ3, J5, HB⟩ := hcut
  cases kq with
  | zero => exact absurd HA.out (by simp [umpireref11_Write.j0])
  | succ kj3 =>
   have H := HA.out; clear HA
   simp only [umpireref11_Write.j0] at H
   by_cases c7 : c7G = true
   ·subst c7; rw [if_pos rfl] at H; obtain ⟨rfl, rfl⟩ := s2_ H
    go_wp2
    go_ret2
    exact ⟨_, by (rfl), by (exact Kd.Y4 _ _ _ _ _), by exact HB.out⟩
   ·cases nt_ c7
    rw [if_neg a2O] at H; have H' := a_ H; clear H
    go_wp2
    go_loopg [8, 9, 10] kj3 (fun kq v8 v9 v10 w' => ∃ (a9i : List (S51)) (a8J : List (S58)) (F7 : Int), v10 = .int .i64 F7 ∧ Aside0 (umpireref11_Write.l0 kq l0 a1 a9i a8J F7 a05 a06 a07 a08 a09 a1a a0y Y7 Y1 = some (r1, r2)) ∧ Aside0 (kq ≤ kj3) ∧ Aside0 (Kd.N k51 51 w' w.heap.size (fun k_ => some k_ ≠ (v9 : Value).ownBlock ∧ k_ ≠ a1c) v8 a9i) ∧ Aside0 (Kd.N k58 58 w' w.heap.size (fun k_ => some k_ ≠ (v8 : Value).ownBlock ∧ k_ ≠ a1c) v9 a8J) ∧ Aside0 (w'.heap[a1c]? = some (.cells #[.int .i64 a05, .int .i64 a06, .int .i64 a07, .int .i64 a08, .string a09, .string a1a, .int .i64 a0y, .int .u32 Y7, .bool Y1] 25 (0, 0))) ∧ Aside0 (Below w.heap.size w w'))
    case atStart => exact ⟨([] : List (S51)), ([] : List (S58)), (0), (by rfl), H', ⟨Nat.le_refl _⟩, ⟨by (exact Kd.d0F _ _ _ _ _)⟩, ⟨by (exact Kd.d0F _ _ _ _ _)⟩, ⟨by exact J5.out⟩, ⟨by exact HB.out⟩⟩
    case round =>
     clear H'; obtain ⟨a9i, a8J, F7, rfl, HA, HK2, U4, a0a, J5, HB⟩ := hrel
     cases gk with
     | zero => exact absurd HA.out (by simp [umpireref11_Write.l0])
     | succ k2 =>
      have H := HA.out; clear HA
      simp only [umpireref11_Write.l0] at H
      by_cases c8 : F7 < (l0.length : Int)
      ·rw [if_pos c8] at H; have a9G := dt_ c8; clear c8; have a6P := a2Q H; replace H := O6 H; obtain ⟨e5n, A10, H⟩ := bd_ H
       try dsimp only at H
       by_cases c11 : e5n = true
       ·subst c11; rw [if_pos rfl] at H
        by_cases c12 : a1 = 1
        ·rw [if_pos c12] at H; obtain ⟨b2r, b4n⟩ := bt_ c12; clear c12; obtain ⟨c9N, d5A⟩ := is_ ((([(wrap64 (((y7 l0 F7).f0) - 1)) % 256] : List Int)) : List Int); rw [Option.bind_some, ← d5A] at H; have e1l := a_ d5A; clear d5A; obtain ⟨b0E, A13, H⟩ := bd_ H
         (try dsimp only at H); have c14 := X4 H; replace H := O6 H; have c2f := a_ c14; clear c14; obtain ⟨b4J, d5B⟩ := is_ ((c9N ++ b0E) : List Int); rw [Option.bind_some, ← d5B] at H; have f1R := a_ d5B; clear d5B; have c15 := X4 H; replace H := O6 H; have f1S := a_ c15; clear c15; obtain ⟨g2T, d5C⟩ := is_ ((a9i ++ [(⟨(F7) % 4294967296, 0, (b4J.length : Int) % 4294967296, b4J⟩ : S51)]) : List (S51)); rw [← d5C] at H; have f1T := a_ d5C; clear d5C; have H' := a_ H; clear H; have b4K : 0 ≤ (F7 : Int) := U9; have b4L : F7 < (l0.length : Int) := U9; obtain ⟨a0h, b7k, b7l, d5D, a6x, a6y, a6z, a7F, a7G⟩ := a0I HR0.out F7 b4K b4L
         cases d5D
         replace a6x := J9 HB a6x; replace a6y := J9 HB a6y; replace a6z := J9 HB a6z; have b3f := a_ a7G; have b3g := a_ a7F; clear a7G a7F; replace b4K := eq_true b4K; replace b4L := eq_true b4L
         try go_wp2_with (first | (refine gl_ (some 32) Tryd.func17 #[.agg #[.int .i64 ((y7 l0 F7).f0), .int .i64 ((y7 l0 F7).f1), .slice b7k ((y7 l0 F7).f2).length b7l]] ?_; (with_reducible refine (a0l.calls ((y7 l0 F7).f0) ((y7 l0 F7).f1) _ _ ((y7 l0 F7).f2) true _ (Kd.E8 b3f.out HB.out) b3g.out A10.out).mono ?_); rintro e w16 ⟨rfl, hb⟩; refine ⟨_, rfl, ?_⟩; replace U4 := Nb_ U4 hb; replace a0a := Nb_ a0a hb; replace J5 := X8 J5 hb; replace HB := Q8 HB hb; (try clear hb)))
         replace U4 := a_ (Kd.a9y U4.out); replace a0a := a_ (Kd.a9y a0a.out); replace J5 := a_ (P6 J5.out); replace HB := a_ (Z8 HB.out); have e5q : 0 ≤ (F7 : Int) := U9; have e5r : F7 < (l0.length : Int) := U9; obtain ⟨f1U, a95, a96, g2U, b5p, b5q, b3h, c7H, c7I⟩ := a0I HR0.out F7 e5q e5r; have b0p := b3h; have b0q := b5q; have b0r := b5p; obtain rfl : a0h = f1U := (by injection g2U); replace b5p := J9 HB b5p; replace b5q := J9 HB b5q; replace b3h := J9 HB b3h; have d9l := a_ c7I; have f6S := a_ c7H; clear c7I c7H; replace e5q := eq_true e5q; replace e5r := eq_true e5r; have e5s : 0 ≤ (F7 : Int) := U9; have e5t : F7 < (l0.length : Int) := U9; obtain ⟨f1V, g2V, g2W, g2X, b5r, b5s, b3i, c7J, c7K⟩ := a0I HR0.out F7 e5s e5t; have b0s := b3i; have b0t := b5s; have b0u := b5r; obtain rfl : a0h = f1V := (by injection g2X); replace b5r := J9 HB b5r; replace b5s := J9 HB b5s; replace b3i := J9 HB b3i; have b9W := a_ c7K; have c7L := a_ c7J; clear c7K c7J; replace e5s := eq_true e5s; replace e5t := eq_true e5t; have ea_ := oj_ (b3h.symm.trans b3i); injection ea_ with ea_ en_ ec_
         subst ea_; subst ec_; clear en_; refine a2U (n := 15) (S := fun w' => w'.cell? (a0h.add ((F7).toNat * 3)) = some (.int .i64 ((y7 l0 F7).f0)) ∧ w'.cell? ⟨(a0h.add ((F7).toNat * 3)).block, (a0h.add ((F7).toNat * 3)).off + 1, none⟩ = some (.int .i64 ((y7 l0 F7).f1)) ∧ w'.cell? ⟨(a0h.add ((F7).toNat * 3)).block, (a0h.add ((F7).toNat * 3)).off + 2, none⟩ = some (.slice a95 ((y7 l0 F7).f2).length a96) ∧ w'.cell? (a0h.add ((F7).toNat * 3)) = some (.int .i64 ((y7 l0 F7).f0)) ∧ w'.cell? ⟨(a0h.add ((F7).toNat * 3)).block, (a0h.add ((F7).toNat * 3)).off + 1, none⟩ = some (.int .i64 ((y7 l0 F7).f1)) ∧ w'.cell? ⟨(a0h.add ((F7).toNat * 3)).block, (a0h.add ((F7).toNat * 3)).off + 2, none⟩ = some (.slice a95 ((y7 l0 F7).f2).length a96)) (ds := []) (bo_ 15 0) (by kernel_rfl) rfl rfl ⟨(J9 HB b0r), (J9 HB b0q), (J9 HB b0p), (J9 HB b0u), (J9 HB b0t), (J9 HB b0s)⟩ (fun hHeld => ?_); refine a1Z umpireref11_Write.f1P umpireref11_Write.e5o (fun U6 HW_ => ?_); generalize w16.drew = w17 at U4 a0a J5 HB d9l b9W b5p b5q b3h b5r b5s b3i hHeld ⊢; refine pu_ 0 (some 36) U6 ?_; refine pu_ 1 (some 37) U6 ?_; refine pu_ 2 (some 38) U6 ?_; refine pu_ 3 (some 39) U6 ?_; refine pu_ 8 (some 44) U6 ?_; refine pu_ 9 (some 45) U6 ?_; refine pu_ 10 (some 46) U6 ?_; refine a0Y (i := 4) (N := some 40) (v := ?_) (a' := ?_) (bo_ 15 1823) rfl rfl (Y9 U6.out HW_.out (by kernel_rfl)) (fun _ _ _ h => h) (Or.inl ⟨by rfl, ?_⟩) hHeld ?_ ?_
         rotate_left
         ·rintro w' ⟨s0, s1, s2, s3, s4, s5⟩
          go_simp
          with_reducible rfl
         rotate_left
         ·simp only [Act.put, List.setIfInBounds_toArray, List.set_cons_zero, List.set_cons_succ, a0D, a1b]
          rfl
         refine pu_ 5 (some 41) U6 ?_; refine pu_ 6 (some 42) U6 ?_; refine a0Y (i := 11) (N := some 47) (v := ?_) (a' := ?_) (bo_ 15 3967) rfl rfl (Y9 U6.out HW_.out (by kernel_rfl)) (fun _ _ _ h => h) (Or.inl ⟨by rfl, ?_⟩) hHeld ?_ ?_
         rotate_left
         ·rintro w' ⟨s0, s1, s2, s3, s4, s5⟩
          go_simp
          with_reducible rfl
         rotate_left
         ·simp only [Act.put, List.setIfInBounds_toArray, List.set_cons_zero, List.set_cons_succ, a0D, a1b]
          rfl
         refine c4X (σ := Value × Value) 2 (bo_ 15 8191) (fun s_ => [(43, s_.1), (48, s_.2)]) (fun s_ w' => (w'.cell? (a0h.add ((F7).toNat * 3)) = some (.int .i64 ((y7 l0 F7).f0)) ∧ w'.cell? ⟨(a0h.add ((F7).toNat * 3)).block, (a0h.add ((F7).toNat * 3)).off + 1, none⟩ = some (.int .i64 ((y7 l0 F7).f1)) ∧ w'.cell? ⟨(a0h.add ((F7).toNat * 3)).block, (a0h.add ((F7).toNat * 3)).off + 2, none⟩ = some (.slice a95 ((y7 l0 F7).f2).length a96) ∧ w'.cell? (a0h.add ((F7).toNat * 3)) = some (.int .i64 ((y7 l0 F7).f0)) ∧ w'.cell? ⟨(a0h.add ((F7).toNat * 3)).block, (a0h.add ((F7).toNat * 3)).off + 1, none⟩ = some (.int .i64 ((y7 l0 F7).f1)) ∧ w'.cell? ⟨(a0h.add ((F7).toNat * 3)).block, (a0h.add ((F7).toNat * 3)).off + 2, none⟩ = some (.slice a95 ((y7 l0 F7).f2).length a96)) ∧ (Kd.R (Kd.int .u8) 5 w' w.heap.size (fun k_ => some k_ ≠ (s_.2 : Value).ownBlock) s_.1 c9N) ∧ (Kd.R (Kd.int .u8) 5 w' w.heap.size (fun k_ => some k_ ≠ (s_.1 : Value).ownBlock) s_.2 b0E) ∧ (Kd.N k51 51 w' w.heap.size (fun k_ => some k_ ≠ (s_.1 : Value).ownBlock ∧ some k_ ≠ (s_.2 : Value).ownBlock ∧ some k_ ≠ (u9 : Value).ownBlock ∧ k_ ≠ a1c) u8 a9i) ∧ (Kd.N k58 58 w' w.heap.size (fun k_ => some k_ ≠ (s_.1 : Value).ownBlock ∧ some k_ ≠ (s_.2 : Value).ownBlock ∧ some k_ ≠ (u8 : Value).ownBlock ∧ k_ ≠ a1c) u9 a8J) ∧ (w'.heap[a1c]? = some (.cells #[.int .i64 a05, .int .i64 a06, .int .i64 a07, .int .i64 a08, .string a09, .string a1a, .int .i64 a0y, .int .u32 Y7, .bool Y1] 25 (0, 0))) ∧ (Below w.heap.size w w')) ?_ ?_
         rotate_left
         ·intro a9M; refine d6x (i := 7) (j := 12) (Ni := some 43) (Nj := some 48) (bo_ 15 4095) (bo_ 15 8063) rfl rfl rfl rfl (b8C U6.out (by kernel_rfl)) (by decide) (by decide) (fun K hK => ?_) (fun K hK => ?_)
          ·skip
           refine Kd.a3S (Kd.int .u8) _ 5 ?hg (N := 43) ?hd (xs := ([(wrap64 (((y7 l0 F7).f0) - 1)) % 256] : List Int)) (inner := [.int .u8 ((wrap64 (((y7 l0 F7).f0) - 1)) % 256)]) (ok := fun _ => True) (okp := fun _ => True) ?hr ?hp (fun _ hk => hk) trivial (Below.refl _ _) (Nat.le_refl _) (by simp) ?_; (case hd => rfl); (case hg => rfl); (case hr => (go_simp; rfl)); (case hp => exact (J3.one (show Kd.M (Kd.int .u8) _ _ _ ((wrap64 (((y7 l0 F7).f0) - 1)) % 256) [.int .u8 ((wrap64 (((y7 l0 F7).f0) - 1)) % 256)] from rfl) (J3.none _ _))); intro d5E w18 d5F hb hg_ V8; clear hg_ V8; rw [← e1l.out] at d5F; have b08 := rl_ d5F HB; replace U4 := rN_ U4 d5F hb; replace a0a := rN_ a0a d5F hb; replace J5 := X8 J5 hb; replace HB := Q8 HB hb; clear hb d5F; refine hK.out _ _ ⟨(J9 HB b0r), (J9 HB b0q), (J9 HB b0p), (J9 HB b0u), (J9 HB b0t), (J9 HB b0s)⟩ (fun hHeld => ?_); clear hK K; refine nm_ (some 43) ?_; refine a4p (i := 12) (N := some 48) (bo_ 15 8191) rfl rfl (a1l U6.out (by kernel_rfl)) (by decide) (fun K hK => ?_); refine a3c Tryd.func31 (by kernel_rfl) rfl #[.agg #[.int .i64 ((y7 l0 F7).f0), .int .i64 ((y7 l0 F7).f1), .slice a95 ((y7 l0 F7).f2).length a96]] (by rfl) rfl rfl (by (try simp only [List.map_toArray, List.map_cons, List.map_nil]); (rfl)) ?_
           with_reducible refine (a0b.calls ((y7 l0 F7).f0) ((y7 l0 F7).f1) _ _ ((y7 l0 F7).f2) b0E _ ?U1 ?U2 A13.out).mono ?_
           (case U1 => exact (Kd.E8 b9W.out HB.out))
           (case U2 => exact c7L.out)
           rintro e w20 ⟨d9m, rfl, ho0, hb⟩; refine ⟨_, rfl, ?_⟩; have a7c := rn_ ho0 b08 HB; replace U4 := rN_ U4 ho0 hb; replace a0a := rN_ a0a ho0 hb; replace b08 := rR_ b08 ho0 hb; replace J5 := X8 J5 hb; replace HB := Q8 HB hb
           (try clear hb)
           (try clear ho0)
           refine hK.out _ _ ⟨(J9 HB b0r), (J9 HB b0q), (J9 HB b0p), (J9 HB b0u), (J9 HB b0t), (J9 HB b0s)⟩ (fun hHeld => ?_); clear hK K; refine nm_ (some 48) ?_; exact a7Q (by simp only [a4F, Act.put, List.setIfInBounds_toArray, List.set_cons_zero, List.set_cons_succ]) (a9M (d5E, d9m) _ ⟨hHeld, (by exact Kd.y9 b08.out (fun _ hk => hk.2)), (by exact Kd.y9 a7c.out (fun _ hk => hk.2)), (by exact Kd.U3 U4.out (fun _ hk => ⟨hk.1.2, ⟨hk.2, ⟨hk.1.1.1, hk.1.1.2⟩⟩⟩)), (by exact Kd.U3 a0a.out (fun _ hk => ⟨hk.1.2, ⟨hk.2, ⟨hk.1.1.1, hk.1.1.2⟩⟩⟩)), J5.out, HB.out⟩)
          ·skip
           refine a3c Tryd.func31 (by kernel_rfl) rfl #[.agg #[.int .i64 ((y7 l0 F7).f0), .int .i64 ((y7 l0 F7).f1), .slice a95 ((y7 l0 F7).f2).length a96]] (by rfl) rfl rfl (by (try simp only [List.map_toArray, List.map_cons, List.map_nil]); (rfl)) ?_
           with_reducible refine (a0b.calls ((y7 l0 F7).f0) ((y7 l0 F7).f1) _ _ ((y7 l0 F7).f2) b0E _ ?U1 ?U2 A13.out).mono ?_
           (case U1 => exact (Kd.E8 b9W.out HB.out))
           (case U2 => exact c7L.out)
           rintro e w18 ⟨d9m, rfl, ho0, hb⟩; refine ⟨_, rfl, ?_⟩; have a7c := rl_ ho0 HB; replace U4 := rN_ U4 ho0 hb; replace a0a := rN_ a0a ho0 hb; replace J5 := X8 J5 hb; replace HB := Q8 HB hb
           (try clear hb)
           (try clear ho0)
           refine hK.out _ _ ⟨(J9 HB b0r), (J9 HB b0q), (J9 HB b0p), (J9 HB b0u), (J9 HB b0t), (J9 HB b0s)⟩ (fun hHeld => ?_); clear hK K; refine nm_ (some 48) ?_; refine a4p (i := 7) (N := some 43) (bo_ 15 8191) rfl rfl (a1l U6.out (by kernel_rfl)) (by decide) (fun K hK => ?_); refine Kd.a3S (Kd.int .u8) _ 5 ?hg (N := 43) ?hd (xs := ([(wrap64 (((y7 l0 F7).f0) - 1)) % 256] : List Int)) (inner := [.int .u8 ((wrap64 (((y7 l0 F7).f0) - 1)) % 256)]) (ok := fun _ => True) (okp := fun _ => True) ?hr ?hp (fun _ hk => hk) trivial (Below.refl _ _) (Nat.le_refl _) (by simp) ?_; (case hd => rfl); (case hg => rfl); (case hr => (go_simp; rfl)); (case hp => exact (J3.one (show Kd.M (Kd.int .u8) _ _ _ ((wrap64 (((y7 l0 F7).f0) - 1)) % 256) [.int .u8 ((wrap64 (((y7 l0 F7).f0) - 1)) % 256)] from rfl) (J3.none _ _))); intro d5E w19 b4I hb hg_ V8; clear hg_ V8; rw [← e1l.out] at b4I; have b08 := rn_ b4I a7c HB; replace U4 := rN_ U4 b4I hb; replace a0a := rN_ a0a b4I hb; replace a7c := rR_ a7c b4I hb; replace J5 := X8 J5 hb; replace HB := Q8 HB hb; clear hb b4I; refine hK.out _ _ ⟨(J9 HB b0r), (J9 HB b0q), (J9 HB b0p), (J9 HB b0u), (J9 HB b0t), (J9 HB b0s)⟩ (fun hHeld => ?_); clear hK K; refine nm_ (some 43) ?_; exact a7Q (by simp only [a4F, Act.put, List.setIfInBounds_toArray, List.set_cons_zero, List.set_cons_succ]) (a9M (d5E, d9m) _ ⟨hHeld, (by exact Kd.y9 b08.out (fun _ hk => hk.2)), (by exact Kd.y9 a7c.out (fun _ hk => hk.2)), (by exact Kd.U3 U4.out (fun _ hk => ⟨hk.2, ⟨hk.1.2, ⟨hk.1.1.1, hk.1.1.2⟩⟩⟩)), (by exact Kd.U3 a0a.out (fun _ hk => ⟨hk.2, ⟨hk.1.2, ⟨hk.1.1.1, hk.1.1.2⟩⟩⟩)), J5.out, HB.out⟩)
         rintro ⟨d5E, d9m⟩ w21 ⟨hS_, h0_, h1_, h2_, h3_, h4_, h5_⟩; have n0_ := a_ h0_; have n1_ := a_ h1_; have n2_ := a_ h2_; have n3_ := a_ h3_; have n4_ := a_ h4_; have n5_ := a_ h5_; clear U4 a0a J5 HB h0_ h1_ h2_ h3_ h4_ h5_; have b08 := n0_; have a7c := n1_; have U4 := n2_; have a0a := n3_; have J5 := n4_; have HB := n5_; clear n0_ n1_ n2_ n3_ n4_ n5_; have hHeld : w21.cell? (a0h.add ((F7).toNat * 3)) = some (.int .i64 ((y7 l0 F7).f0)) ∧ w21.cell? ⟨(a0h.add ((F7).toNat * 3)).block, (a0h.add ((F7).toNat * 3)).off + 1, none⟩ = some (.int .i64 ((y7 l0 F7).f1)) ∧ w21.cell? ⟨(a0h.add ((F7).toNat * 3)).block, (a0h.add ((F7).toNat * 3)).off + 2, none⟩ = some (.slice a95 ((y7 l0 F7).f2).length a96) ∧ w21.cell? (a0h.add ((F7).toNat * 3)) = some (.int .i64 ((y7 l0 F7).f0)) ∧ w21.cell? ⟨(a0h.add ((F7).toNat * 3)).block, (a0h.add ((F7).toNat * 3)).off + 1, none⟩ = some (.int .i64 ((y7 l0 F7).f1)) ∧ w21.cell? ⟨(a0h.add ((F7).toNat * 3)).block, (a0h.add ((F7).toNat * 3)).off + 2, none⟩ = some (.slice a95 ((y7 l0 F7).f2).length a96) := hS_; obtain ⟨a5g, a5h, b9e⟩ := Kd.H6 a7c.out; subst b9e; refine a7Q (a' := ?_) ?_ ?_
         rotate_left
         ·simp only [a4F, Act.put, List.setIfInBounds_toArray, List.set_cons_zero, List.set_cons_succ]
          rfl
         refine a4p (i := 13) (N := some 49) (bo_ 15 16383) rfl rfl (a1l U6.out (by kernel_rfl)) (by decide) (fun K hK => ?_); refine Kd.a6J (Kd.int .u8) (w0 := w) w.heap.size (by rfl) (.tmp 43) (.tmp 48) 22 5 (.int .u8 0) 1 rfl Tryd.underlying22 info5 rfl (by decide) (by omega) d5E c9N b0E _ _ _ (fun k_ => some k_ ≠ (.slice a5g b0E.length a5h : Value).ownBlock) (fun _ => False) rfl rfl ?aO ?aR (fun _ _ h => h) (fun _ h => h.elim) ?aF ?aB ?aS ?aL ?_
         (case aR => exact (Kd.F9 a7c.out).2.2)
         (case aB => exact HB.out)
         (case aF => exact (fun k_ hk => Kd.fresh' (Kd.U8 a7c.out) k_ hk))
         (case aO => exact b08.out)
         (case aS => exact (o9 HB.out))
         (case aL => have := c2f.out; omega)
         intro h0H w22 ho hb hg hat; rw [← f1R.out] at ho; have c7M := a_ ho; replace U4 := a_ (Kd.a9z (ok := (fun k_ => some k_ ≠ (u9 : Value).ownBlock ∧ some k_ ≠ (.slice a5g b0E.length a5h : Value).ownBlock ∧ k_ ≠ a1c)) (by exact Kd.U3 U4.out (fun _ hk => ⟨⟨hk.2.2.1, ⟨hk.2.1, hk.2.2.2⟩⟩, hk.1⟩)) hg hat); replace a0a := a_ (Kd.a9z (ok := (fun k_ => some k_ ≠ (u8 : Value).ownBlock ∧ some k_ ≠ (.slice a5g b0E.length a5h : Value).ownBlock ∧ k_ ≠ a1c)) (by exact Kd.U3 a0a.out (fun _ hk => ⟨⟨hk.2.2.1, ⟨hk.2.1, hk.2.2.2⟩⟩, hk.1⟩)) hg hat); replace J5 := a_ (L9 J5.out hg (Kd.a3L b08.out J5.out (by decide))); replace a7c := a_ (Kd.Q7 (ok := (fun _ => True)) (by exact Kd.y9 a7c.out (fun _ hk => ⟨trivial, hk⟩)) hg hat); replace HB := a_ hb; clear b08 ho hb hg hat; refine hK.out _ _ ⟨(J9 HB b0r), (J9 HB b0q), (J9 HB b0p), (J9 HB b0u), (J9 HB b0t), (J9 HB b0s)⟩ (fun hHeld => ?_); clear hK K; refine nm_ (some 49) ?_; refine pu_ 14 (some 11) U6 ?_; refine a4J (a4b U6.out (by kernel_rfl)) ?_; obtain ⟨b4y, b4z, b8Q⟩ := Kd.H6 c7M.out; subst b8Q
         try go_wp2_with (first | ((with_reducible refine D6 (b := .append) (xs := #[.tmp 50, .tmp 58]) rfl ?_); at_builtin; refine Kd.d0K k51 (w0 := w) w.heap.size rfl (.tmp 50) (.tmp 58) 47 51 (.agg #[(.int .u32 0), (.int .u32 0), (.int .u32 0), (.slice none 0 0)]) 40 rfl Tryd.underlying47 info51 rfl (by decide) (by omega) u8 a9i (⟨(F7) % 4294967296, 0, (b4J.length : Int) % 4294967296, b4J⟩ : S51) [.int .u32 ((F7) % 4294967296), .int .u32 0, .int .u32 ((b4J.length : Int) % 4294967296), .slice b4y b4J.length b4z] (fun k_ => some k_ ≠ (u9 : Value).ownBlock ∧ some k_ ≠ (.slice a5g b0E.length a5h : Value).ownBlock ∧ k_ ≠ a1c) (fun k_ => (fun k_ => some k_ ≠ (u9 : Value).ownBlock ∧ some k_ ≠ (.slice a5g b0E.length a5h : Value).ownBlock ∧ k_ ≠ a1c) k_ ∧ some k_ ≠ (u8 : Value).ownBlock) rfl rfl ?aP (fun _ hk => hk) ?aF ?aO ?aB ?aS ?aL ?_; (case aP => exact (d6n _ _ (⟨(F7) % 4294967296, 0, (b4J.length : Int) % 4294967296, b4J⟩ : S51) (Kd.F9 (Kd.y9 (ok' := (fun k_ => (fun k_ => some k_ ≠ (u9 : Value).ownBlock ∧ some k_ ≠ (.slice a5g b0E.length a5h : Value).ownBlock ∧ k_ ≠ a1c) k_ ∧ some k_ ≠ (u8 : Value).ownBlock)) (Kd.U7 (Kd.V6 (Kd.V6 (c7M.out) (Kd.a13 a0a.out) (by decide)) (Kd.a13 U4.out) (by decide)) J5.out (by decide)) (fun k_ hk => ⟨⟨hk.1.1.2, ⟨hk.1.1.1, hk.2⟩⟩, hk.1.2⟩))).2.1 (Kd.R_F (Kd.y9 (ok' := (fun k_ => (fun k_ => some k_ ≠ (u9 : Value).ownBlock ∧ some k_ ≠ (.slice a5g b0E.length a5h : Value).ownBlock ∧ k_ ≠ a1c) k_ ∧ some k_ ≠ (u8 : Value).ownBlock)) (Kd.U7 (Kd.V6 (Kd.V6 (c7M.out) (Kd.a13 a0a.out) (by decide)) (Kd.a13 U4.out) (by decide)) J5.out (by decide)) (fun k_ hk => ⟨⟨hk.1.1.2, ⟨hk.1.1.1, hk.2⟩⟩, hk.1.2⟩))))); (case aB => exact HB.out); (case aF => exact (fun k_ hk => ⟨Kd.fresh' (Kd.b0v a0a.out) k_ hk, Kd.fresh' (Kd.U8 a7c.out) k_ hk, Kd.a6c J5.out k_ hk⟩)); (case aO => exact (by exact Kd.U3 U4.out (fun _ hk => ⟨hk.1.1, ⟨hk.1.2.1, hk.1.2.2⟩⟩))); (case aS => exact (o9 HB.out)); (case aL => have := f1S.out; omega); intro h0I w25 ho hb hg hat; rw [← f1T.out] at ho; have f1W := a_ ho; replace a0a := a_ (Kd.a9z (ok := (fun k_ => some k_ ≠ (.slice a5g b0E.length a5h : Value).ownBlock ∧ some k_ ≠ (.slice b4y b4J.length b4z : Value).ownBlock ∧ k_ ≠ a1c)) (by exact Kd.U3 a0a.out (fun _ hk => ⟨⟨hk.1.2.1, ⟨hk.2, hk.1.2.2⟩⟩, hk.1.1⟩)) hg hat); replace J5 := a_ (L9 J5.out hg (Kd.e1X U4.out J5.out (by decide))); replace a7c := a_ (Kd.b1Y a7c.out (Kd.a13 U4.out) (by decide) hg); replace HB := a_ hb; clear U4 c7M ho hb hg hat))
         go_roundg k2
         case measure => have := HJ3.out; have := HK2.out; omega
         case rel => exact ⟨(g2T), (a8J), (wrap64 (F7 + 1)), (by rfl), H', ⟨by have := HJ3.out; have := HK2.out; omega⟩, ⟨by exact Kd.U3 f1W.out (fun _ hk => ⟨hk.1, hk.2.2⟩)⟩, ⟨by exact Kd.U3 a0a.out (fun _ hk => ⟨hk.2, hk.1.2.2⟩)⟩, ⟨by exact J5.out⟩, ⟨by exact HB.out⟩⟩
        ·rw [if_neg c12] at H; have b2r := bq_ c12; have b4n := bn_ c12; have e5u := a_ H; clear H; have b4K : 0 ≤ (F7 : Int) := U9; have b4L : F7 < (l0.length : Int) := U9; obtain ⟨a0h, b7k, b7l, d5D, a6x, a6y, a6z, a7F, a7G⟩ := a0I HR0.out F7 b4K b4L
         cases d5D
         replace a6x := J9 HB a6x; replace a6y := J9 HB a6y; replace a6z := J9 HB a6z; have b3f := a_ a7G; have b3g := a_ a7F; clear a7G a7F; replace b4K := eq_true b4K; replace b4L := eq_true b4L
         go_upto_if 65 with (first | (refine gl_ (some 32) Tryd.func17 #[.agg #[.int .i64 ((y7 l0 F7).f0), .int .i64 ((y7 l0 F7).f1), .slice b7k ((y7 l0 F7).f2).length b7l]] ?_; (with_reducible refine (a0l.calls ((y7 l0 F7).f0) ((y7 l0 F7).f1) _ _ ((y7 l0 F7).f2) true _ (Kd.E8 b3f.out HB.out) b3g.out A10.out).mono ?_); rintro e w27 ⟨rfl, hb⟩; refine ⟨_, rfl, ?_⟩; replace U4 := Nb_ U4 hb; replace a0a := Nb_ a0a hb; replace J5 := X8 J5 hb; replace HB := Q8 HB hb; (try clear hb); have d9n : 0 ≤ (F7 : Int) := U9; have d9o : F7 < (l0.length : Int) := U9; obtain ⟨f1X, g2Y, g2Z, g25, b9X, b9Y, b9Z, c7N, c7O⟩ := a0I HR0.out F7 d9n d9o; obtain rfl : a0h = f1X := (by injection g25); replace b9X := J9 HB b9X; replace b9Y := J9 HB b9Y; replace b9Z := J9 HB b9Z; have f6T := a_ c7O; have f6U := a_ c7N; clear c7O c7N; replace d9n := eq_true d9n; replace d9o := eq_true d9o))
         go_cut [12] (fun v12 wc => ∃ (kq : Nat) (b7m : Int), v12 = .int .u32 b7m ∧ Aside0 (umpireref11_Write.j2 kq l0 a1 a9i a8J F7 b7m a05 a06 a07 a08 a09 a1a a0y Y7 Y1 = some (r1, r2)) ∧ Aside0 (kq ≤ k2) ∧ Aside0 (Kd.N k51 51 wc w.heap.size (fun k_ => some k_ ≠ (u9 : Value).ownBlock ∧ k_ ≠ a1c) u8 a9i) ∧ Aside0 (Kd.N k58 58 wc w.heap.size (fun k_ => some k_ ≠ (u8 : Value).ownBlock ∧ k_ ≠ a1c) u9 a8J) ∧ Aside0 (wc.heap[a1c]? = some (.cells #[.int .i64 a05, .int .i64 a06, .int .i64 a07, .int .i64 a08, .string a09, .string a1a, .int .i64 a0y, .int .u32 Y7, .bool Y1] 25 (0, 0))) ∧ Aside0 (Below w.heap.size w wc))
         case first =>
          have H := e5u.out; clear e5u
          by_cases c28 : ((y7 l0 F7).f0) = 1
          ·rw [if_pos c28] at H; obtain ⟨d5G, f1Y⟩ := bt_ c28; clear c28; rw [d5G]; have H' := a_ H; clear H; obtain ⟨d8y, d8z, d8A, f6V, f6W, f6X, f6Y, f6Z, f7a, d8B, d8C, d8D, f7b, f7c, f7d, f7e, f7f, f7g⟩ := e4o J5.out
           go_wp2
           go_meet
           case rel => exact ⟨_, (Y7), (by rfl), H', ⟨by have := HJ3.out; have := HK2.out; (omega)⟩, ⟨by exact U4.out⟩, ⟨by exact a0a.out⟩, ⟨by exact J5.out⟩, ⟨by exact HB.out⟩⟩
          ·rw [if_neg c28] at H; have d5G := bq_ c28; have f1Y := bn_ c28; rw [d5G]; have H' := a_ H; clear H
           go_wp2
           go_meet
           case rel => exact ⟨_, (0), (by rfl), H', ⟨by have := HJ3.out; have := HK2.out; (omega)⟩, ⟨by exact U4.out⟩, ⟨by exact a0a.out⟩, ⟨by exact J5.out⟩, ⟨by exact HB.out⟩⟩
         case rest =>
          clear e5u
          try clear a9G
          try clear a6P
          try clear c12
          try clear b2r
          try clear b4n
          try clear a6x
          try clear a6y
          try clear a6z
          try clear b9X
          try clear b9Y
          try clear b9Z
          try clear b4K
          try clear d9n
          try clear b4L
          try clear d9o
          obtain ⟨kq, b7m, rfl, HA, c9O, U4, a0a, J5, HB⟩ := hcut
          cases kq with
          | zero => exact absurd HA.out (by simp [umpireref11_Write.j2])
          | succ e5v =>
           have H := HA.out; clear HA
           simp only [umpireref11_Write.j2] at H
           have d37 := a2Q H; replace H := O6 H; have f1Z := a2Q H; replace H := O6 H; obtain ⟨c2s, A32, H⟩ := bd_ H
           (try dsimp only at H); obtain ⟨f2a, d5H⟩ := is_ ([c2s] : List (List Int)); rw [← d5H] at H; have f2b := a_ d5H; clear d5H; obtain ⟨⟨f2c, g26⟩, A33, H⟩ := bd_ H
           (try dsimp only at H); have H' := a_ H; clear H
           try go_wp2
           replace U4 := a_ (Kd.a9y U4.out); replace a0a := a_ (Kd.a9y a0a.out); replace J5 := a_ (P6 J5.out); replace HB := a_ (Z8 HB.out); have d9p : 0 ≤ (F7 : Int) := U9; have d9q : F7 < (l0.length : Int) := U9; obtain ⟨f2d, d5I, d5J, g27, b3j, b3k, b3l, c7P, c7Q⟩ := a0I HR0.out F7 d9p d9q; have b5t := b3l; have b5u := b3k; have b5v := b3j; obtain rfl : a0h = f2d := (by injection g27); replace b3j := J9 HB b3j; replace b3k := J9 HB b3k; replace b3l := J9 HB b3l; have c7R := a_ c7Q; have d9r := a_ c7P; clear c7Q c7P; replace d9p := eq_true d9p; replace d9q := eq_true d9q; refine a2U (n := 15) (S := fun w' => w'.cell? ⟨a1c, 0, none⟩ = some (.int .i64 a05) ∧ w'.cell? ⟨a1c, 1, none⟩ = some (.int .i64 a06) ∧ w'.cell? ⟨a1c, 2, none⟩ = some (.int .i64 a07) ∧ w'.cell? ⟨a1c, 3, none⟩ = some (.int .i64 a08) ∧ w'.cell? ⟨a1c, 4, none⟩ = some (.string a09) ∧ w'.cell? ⟨a1c, 5, none⟩ = some (.string a1a) ∧ w'.cell? ⟨a1c, 6, none⟩ = some (.int .i64 a0y) ∧ w'.cell? ⟨a1c, 7, none⟩ = some (.int .u32 Y7) ∧ w'.cell? ⟨a1c, 8, none⟩ = some (.bool Y1) ∧ w'.cell? (a0h.add ((F7).toNat * 3)) = some (.int .i64 ((y7 l0 F7).f0)) ∧ w'.cell? ⟨(a0h.add ((F7).toNat * 3)).block, (a0h.add ((F7).toNat * 3)).off + 1, none⟩ = some (.int .i64 ((y7 l0 F7).f1)) ∧ w'.cell? ⟨(a0h.add ((F7).toNat * 3)).block, (a0h.add ((F7).toNat * 3)).off + 2, none⟩ = some (.slice d5I ((y7 l0 F7).f2).length d5J)) (ds := []) (bo_ 15 0) (by kernel_rfl) rfl rfl ⟨bc0 J5, bc1 J5, bc2 J5, bc3 J5, bc4 J5, bc5 J5, bc6 J5, bc7 J5, bc8 J5, (J9 HB b5v), (J9 HB b5u), (J9 HB b5t)⟩ (fun hHeld => ?_); refine a1Z umpireref11_Write.f1Q umpireref11_Write.e5p (fun U6 HW_ => ?_); generalize wc.drew = w34 at U4 a0a J5 HB c7R b3j b3k b3l hHeld ⊢; refine pu_ 0 (some 69) U6 ?_; refine pu_ 1 (some 70) U6 ?_; refine pu_ 2 (some 71) U6 ?_; refine pu_ 6 (some 75) U6 ?_; refine pu_ 7 (some 76) U6 ?_; refine a0Y (i := 3) (N := some 72) (v := ?_) (a' := ?_) (bo_ 15 207) rfl rfl (Y9 U6.out HW_.out (by kernel_rfl)) (fun _ _ _ h => h) (Or.inl ⟨by rfl, ?_⟩) hHeld ?_ ?_
           rotate_left
           ·rintro w' ⟨s0, s1, s2, s3, s4, s5, s6, s7, s8, s9, s10, s11⟩
            go_simp
            with_reducible rfl
           rotate_left
           ·simp only [Act.put, List.setIfInBounds_toArray, List.set_cons_zero, List.set_cons_succ, a0D, a1b]
            rfl
           refine a0Y (i := 8) (N := some 77) (v := ?_) (a' := ?_) (bo_ 15 463) rfl rfl (Y9 U6.out HW_.out (by kernel_rfl)) (fun _ _ _ h => h) (Or.inl ⟨by rfl, ?_⟩) hHeld ?_ ?_
           rotate_left
           ·rintro w' ⟨s0, s1, s2, s3, s4, s5, s6, s7, s8, s9, s10, s11⟩
            go_simp
            with_reducible rfl
           rotate_left
           ·simp only [Act.put, List.setIfInBounds_toArray, List.set_cons_zero, List.set_cons_succ, a0D, a1b]
            rfl
           refine a4p (i := 4) (N := some 73) (bo_ 15 479) rfl rfl (a1l U6.out (by kernel_rfl)) (by decide) (fun K hK => ?_); refine a3c Tryd.func31 (by kernel_rfl) rfl #[.agg #[.int .i64 ((y7 l0 F7).f0), .int .i64 ((y7 l0 F7).f1), .slice d5I ((y7 l0 F7).f2).length d5J]] (by rfl) rfl rfl (by (try simp only [List.map_toArray, List.map_cons, List.map_nil]); (rfl)) ?_
           with_reducible refine (a0b.calls ((y7 l0 F7).f0) ((y7 l0 F7).f1) _ _ ((y7 l0 F7).f2) c2s _ ?U1 ?U2 A32.out).mono ?_
           (case U1 => exact (Kd.E8 c7R.out HB.out))
           (case U2 => exact d9r.out)
           rintro e w35 ⟨h0K, rfl, ho0, hb⟩; refine ⟨_, rfl, ?_⟩; have c7S := rl_ ho0 HB; replace U4 := rN_ U4 ho0 hb; replace a0a := rN_ a0a ho0 hb; replace J5 := X8 J5 hb; replace HB := Q8 HB hb
           (try clear hb)
           (try clear ho0)
           obtain ⟨f2e, f2f, g28⟩ := Kd.H6 c7S.out; subst g28; refine hK.out _ _ ⟨bc0 J5, bc1 J5, bc2 J5, bc3 J5, bc4 J5, bc5 J5, bc6 J5, bc7 J5, bc8 J5, (J9 HB b5v), (J9 HB b5u), (J9 HB b5t)⟩ (fun hHeld => ?_); clear hK K; refine nm_ (some 73) ?_; refine a4p (i := 5) (N := some 74) (bo_ 15 511) rfl rfl (a1l U6.out (by kernel_rfl)) (by decide) (fun K hK => ?_); refine Kd.b6f (Kd.slice 5 (Kd.int .u8)) _ 22 ?hg (N' := 74) ?hd (xs := ([c2s] : List (List Int))) (inner := [.slice f2e c2s.length f2f]) (ok := (fun k_ => some k_ ≠ (u8 : Value).ownBlock ∧ some k_ ≠ (u9 : Value).ownBlock ∧ k_ ≠ a1c)) (okp := (fun k_ => some k_ ≠ (u8 : Value).ownBlock ∧ some k_ ≠ (u9 : Value).ownBlock ∧ k_ ≠ a1c)) ?hr ?hp (fun _ hk => hk) ((show ∀ k_, w35.heap.size ≤ k_ → (fun k_ => some k_ ≠ (u8 : Value).ownBlock ∧ some k_ ≠ (u9 : Value).ownBlock ∧ k_ ≠ a1c) k_ from fun k_ hk => ⟨Kd.fresh' (Kd.b0v U4.out) k_ hk, Kd.fresh' (Kd.b0v a0a.out) k_ hk, Kd.a6c J5.out k_ hk⟩) _ (Nat.le_refl _)) (Below.refl _ _) (Nat.le_refl _) (by simp) ?_; (case hd => rfl); (case hg => rfl); (case hr => (go_simp; done)); (case hp => exact (J3.one (show Kd.FK (Kd.slice 5 (Kd.int .u8)) _ _ c2s [.slice f2e c2s.length f2f] from (Kd.a3m (Kd.F9 (Kd.y9 (ok' := (fun k_ => some k_ ≠ (u8 : Value).ownBlock ∧ some k_ ≠ (u9 : Value).ownBlock ∧ k_ ≠ a1c)) (Kd.U7 (Kd.V6 (Kd.V6 (c7S.out) (Kd.a13 U4.out) (by decide)) (Kd.a13 a0a.out) (by decide)) J5.out (by decide)) (fun k_ hk => ⟨hk.1.1.2, ⟨hk.1.2, hk.2⟩⟩))).2.1 (Kd.R_F (Kd.y9 (ok' := (fun k_ => some k_ ≠ (u8 : Value).ownBlock ∧ some k_ ≠ (u9 : Value).ownBlock ∧ k_ ≠ a1c)) (Kd.U7 (Kd.V6 (Kd.V6 (c7S.out) (Kd.a13 U4.out) (by decide)) (Kd.a13 a0a.out) (by decide)) J5.out (by decide)) (fun k_ hk => ⟨hk.1.1.2, ⟨hk.1.2, hk.2⟩⟩))))) (J3.none _ _))); intro h0L w37 b9E hb hg_ V8; clear hg_ V8; rw [← f2b.out] at b9E; have c2t := a_ (Kd.a6m b9E (o9 HB.out)); replace U4 := a_ (Kd.a2i U4.out (Kd.a3q b9E) hb); replace a0a := a_ (Kd.a2i a0a.out (Kd.a3q b9E) hb); replace J5 := X8 J5 hb; replace HB := Q8 HB hb; clear c7S hb b9E; obtain ⟨g29, g3a, g3b⟩ := Kd.a4c c2t.out; subst g3b; refine hK.out _ _ ⟨bc0 J5, bc1 J5, bc2 J5, bc3 J5, bc4 J5, bc5 J5, bc6 J5, bc7 J5, bc8 J5, (J9 HB b5v), (J9 HB b5u), (J9 HB b5t)⟩ (fun hHeld => ?_); clear hK K; refine nm_ (some 74) ?_; refine a4p (i := 9) (N := some 78) (bo_ 15 1023) rfl rfl (a1l U6.out (by kernel_rfl)) (by decide) (fun K hK => ?_); refine a3c Tryd.func32 (by kernel_rfl) rfl #[.slice g29 f2a.length g3a, .int .u32 b7m, .bool Y1] (by rfl) rfl rfl (by (try simp only [List.map_toArray, List.map_cons, List.map_nil]); (rfl)) ?_
           with_reducible refine (O7.calls e5v _ _ f2a b7m Y1 f2c g26 _ ?U1 ?U2 A33.out).mono ?_
           (case U1 => exact (Kd.X9 c2t.out).2.2)
           (case U2 => exact (Kd.X9 c2t.out).2.1)
           rintro e w40 ⟨h0M, rfl, ho0, hb⟩; refine ⟨_, rfl, ?_⟩; have f2g := rl_ ho0 HB; replace U4 := rN_ U4 ho0 hb; replace a0a := rN_ a0a ho0 hb; replace c2t := rN_ c2t ho0 hb; replace J5 := X8 J5 hb; replace HB := Q8 HB hb
           (try clear hb)
           (try clear ho0)
           refine hK.out _ _ ⟨bc0 J5, bc1 J5, bc2 J5, bc3 J5, bc4 J5, bc5 J5, bc6 J5, bc7 J5, bc8 J5, (J9 HB b5v), (J9 HB b5u), (J9 HB b5t)⟩ (fun hHeld => ?_); clear hK K; refine nm_ (some 78) ?_; refine pu_ 10 (some 68) U6 ?_; refine pu_ 11 (some 79) U6 ?_; refine pu_ 12 (some 80) U6 ?_; refine pu_ 13 (some 13) U6 ?_; refine pu_ 14 (some 14) U6 ?_; refine a4J (a4b U6.out (by kernel_rfl)) ?_
           try go_wp2
           go_loopg [9, 13] e5v (fun kq v9 v13 w' => ∃ (c2u : List (S58)) (Z5 : List Int), Aside0 (umpireref11_Write.l1 kq l0 a1 a9i c2u F7 Z5 a05 a06 a07 a08 a09 a1a a0y Y7 Y1 = some (r1, r2)) ∧ Aside0 (kq ≤ e5v) ∧ Aside0 (Kd.N k51 51 w' w.heap.size (fun k_ => some k_ ≠ (v9 : Value).ownBlock ∧ some k_ ≠ (v13 : Value).ownBlock ∧ k_ ≠ a1c) u8 a9i) ∧ Aside0 (Kd.N k58 58 w' w.heap.size (fun k_ => some k_ ≠ (u8 : Value).ownBlock ∧ k_ ≠ a1c) v9 c2u) ∧ Aside0 (Kd.Q (Kd.int .u8) 5 w' w.heap.size (fun _ => True) v13 Z5) ∧ Aside0 (w'.heap[a1c]? = some (.cells #[.int .i64 a05, .int .i64 a06, .int .i64 a07, .int .i64 a08, .string a09, .string a1a, .int .i64 a0y, .int .u32 Y7, .bool Y1] 25 (0, 0))) ∧ Aside0 (Below w.heap.size w w'))
           case atStart => exact ⟨(a8J), (f2c), H', ⟨Nat.le_refl _⟩, ⟨by exact Kd.U3 U4.out (fun _ hk => ⟨hk.1.1.1.1, ⟨hk.2, hk.1.1.1.2⟩⟩)⟩, ⟨by exact Kd.U3 a0a.out (fun _ hk => ⟨hk.1.1.1.1, hk.1.1.1.2⟩)⟩, ⟨Kd.e1M f2g.out⟩, ⟨by exact J5.out⟩, ⟨by exact HB.out⟩⟩
           case round =>
            clear H'
            try clear d37
            try clear f1Z
            try clear b3j
            try clear b3k
            try clear b3l
            try clear d9p
            try clear d9q
            obtain ⟨c2u, Z5, HA, HK4, U4, a0a, a3B, J5, HB⟩ := hrel
            cases gk with
            | zero => exact absurd HA.out (by simp [umpireref11_Write.l1])
            | succ k4 =>
             have H := HA.out; clear HA
             simp only [umpireref11_Write.l1] at H
             by_cases c41 : (Z5.length : Int) > 0
             ·rw [if_pos c41] at H; have f2h : decide (0 < (Z5.length : Int)) = true := dt_ c41; have f2i : decide (0 < Z5.length) = true := dt_ (by omega); clear c41
              by_cases c42 : (Z5.length : Int) > 65535
              ·rw [if_pos c42] at H; have d38 : decide (65535 < (Z5.length : Int)) = true := dt_ c42; have f2j : decide (65535 < Z5.length) = true := dt_ (by omega); clear c42; have g6U := a2Q H; replace H := O6 H; have g6V := a2Q H; replace H := O6 H; have c45 := X4 H; replace H := O6 H; have g6W := eq_true c45; have g6X := dt_ c45; clear c45; obtain ⟨b7G, d5K⟩ := is_ ((Z5.take 65535) : List Int); rw [← d5K] at H; have c7T := a_ d5K; clear d5K; have c46 := X4 H; replace H := O6 H; have f2k := a_ c46; clear c46; obtain ⟨g3d, d5L⟩ := is_ ((c2u ++ [(⟨wrap64 (3 - ((y7 l0 F7).f0)), 0, b7G⟩ : S58)]) : List (S58)); rw [← d5L] at H; have f2l := a_ d5L; clear d5L; have g6Y := eq_true (U9 : 65535 ≤ (Z5.length : Int)); obtain ⟨c9P, d5M⟩ := is_ ((Z5.drop (65535 : Int).toNat) : List Int); rw [← d5M] at H; have e1m := a_ d5M; clear d5M; have H' := a_ H; clear H; obtain ⟨b0C, b2H, d24, _⟩ := Kd.b8y a3B.out; subst d24
               try go_wp2
               replace U4 := a_ (Kd.a9y U4.out); replace a0a := a_ (Kd.a9y a0a.out); replace a3B := a_ (Kd.d0n a3B.out); replace J5 := a_ (P6 J5.out); replace HB := a_ (Z8 HB.out); have e5w : 0 ≤ (F7 : Int) := U9; have e5x : F7 < (l0.length : Int) := U9; obtain ⟨f2m, e5y, e5z, g3e, b5w, b5x, b5y, c7U, c7V⟩ := a0I HR0.out F7 e5w e5x; have b5z := b5y; have b5A := b5x; have b5B := b5w; obtain rfl : a0h = f2m := (by injection g3e); replace b5w := J9 HB b5w; replace b5x := J9 HB b5x; replace b5y := J9 HB b5y; have d9s := a_ c7V; have f7h := a_ c7U; clear c7V c7U; replace e5w := eq_true e5w; replace e5x := eq_true e5x; have q50 : (65535 : Int) ≤ ((Z5.length : Int) : Int) := U9; obtain ⟨h0N, e1n, _, f2n, _⟩ := info_parts info5; have c7W : Z5.length ≤ b2H := (Kd.a5R a3B.out).2.1; have f2o : Kd.C (Kd.int .u8) _ b0C Z5.length Z5 := (Kd.a5R a3B.out).2.2; have e5A := d0h (P := Tryd.prog) 22 5 .i64 Tryd.underlying22 e1n b0C Z5.length b2H 65535 (by omega) q50 c7W; have e5B := Kd.b52 (m := 65535) f2o (by omega); have e5C : b7G.length = (65535 : Int).toNat := (by rw [c7T.out, List.length_take]; omega); rw [← c7T.out] at e5B; rw [← e5C] at e5A; have e1o := a_ e5B; have f2p := a_ (show b7G.length ≤ b2H from by omega); clear e5B f2o c7W e1n f2n; have h0O := a_ e5C; clear e5C; have f2r := a_ (show 65535 ≤ Z5.length from by omega); replace q50 := eq_true q50; refine a2U (n := 14) (S := fun w' => w'.cell? (a0h.add ((F7).toNat * 3)) = some (.int .i64 ((y7 l0 F7).f0)) ∧ w'.cell? ⟨(a0h.add ((F7).toNat * 3)).block, (a0h.add ((F7).toNat * 3)).off + 1, none⟩ = some (.int .i64 ((y7 l0 F7).f1)) ∧ w'.cell? ⟨(a0h.add ((F7).toNat * 3)).block, (a0h.add ((F7).toNat * 3)).off + 2, none⟩ = some (.slice e5y ((y7 l0 F7).f2).length e5z)) (ds := []) (bo_ 14 0) (by kernel_rfl) rfl rfl ⟨(J9 HB b5B), (J9 HB b5A), (J9 HB b5z)⟩ (fun hHeld => ?_); refine a1Z umpireref11_Write.e1k umpireref11_Write.d5z (fun U6 HW_ => ?_); generalize wr.drew = w49 at U4 a0a a3B J5 HB d9s e1o b5w b5x b5y hHeld ⊢; refine pu_ 0 (some 88) U6 ?_; refine pu_ 1 (some 89) U6 ?_; refine pu_ 2 (some 90) U6 ?_; refine pu_ 3 (some 91) U6 ?_; refine pu_ 4 (some 92) U6 ?_; refine pu_ 7 (some 95) U6 ?_; refine pu_ 8 (some 96) U6 ?_; refine pu_ 9 (some 97) U6 ?_; refine a0Y (i := 5) (N := some 93) (v := ?_) (a' := ?_) (bo_ 14 959) rfl rfl (Y9 U6.out HW_.out (by kernel_rfl)) (fun _ _ _ h => h) (Or.inl ⟨by rfl, ?_⟩) hHeld ?_ ?_
               rotate_left
               ·rintro w' ⟨s0, s1, s2⟩
                go_simp
                with_reducible rfl
               rotate_left
               ·simp only [Act.put, List.setIfInBounds_toArray, List.set_cons_zero, List.set_cons_succ, a0D, a1b]
                rfl
               refine pu_ 6 (some 94) U6 ?_; refine pu_ 10 (some 98) U6 ?_; refine a4p (i := 11) (N := some 99) (bo_ 14 4095) rfl rfl (a1l U6.out (by kernel_rfl)) (by decide) (fun K hK => ?_); refine a9v (w1 := ?_) (v := ?_) (by rfl) rfl ?_ ?_
               rotate_left 2
               ·go_simp
                constructor
                ·rfl
                ·rfl
               refine hK.out _ _ ⟨(World.cell?_alloc_lt _ _ _ (World.block_lt_of_cell? _ _ ((J9 HB b5B)))).trans ((J9 HB b5B)), (World.cell?_alloc_lt _ _ _ (World.block_lt_of_cell? _ _ ((J9 HB b5A)))).trans ((J9 HB b5A)), (World.cell?_alloc_lt _ _ _ (World.block_lt_of_cell? _ _ ((J9 HB b5z)))).trans ((J9 HB b5z))⟩ (fun hHeld => ?_); clear hK K; refine nm_ (some 99) ?_; refine a4p (i := 12) (N := some 100) (bo_ 14 8191) rfl rfl (a1l U6.out (by kernel_rfl)) (by decide) (fun K hK => ?_); refine Kd.b0I k58 (w0 := w) w.heap.size (by rfl) (.tmp 88) (.tmp 99) 54 58 (.agg #[(.int .i64 0), (.int .u32 0), (.slice none 0 0)]) 40 rfl Tryd.underlying54 info58 rfl (by decide) (by omega) u9 c2u (⟨wrap64 (3 - ((y7 l0 F7).f0)), 0, b7G⟩ : S58) [.int .i64 (wrap64 (3 - ((y7 l0 F7).f0))), .int .u32 0, .slice b0C b7G.length b2H] (fun k_ => some k_ ≠ (u8 : Value).ownBlock ∧ k_ ≠ a1c) (fun k_ => (fun k_ => some k_ ≠ (u8 : Value).ownBlock ∧ k_ ≠ a1c) k_ ∧ some k_ ≠ (u9 : Value).ownBlock) rfl rfl ?aP (fun _ hk => hk) ?aF ?aO ?aB ?aS ?aL ?_
               (case aP => exact (b8s _ _ (⟨wrap64 (3 - ((y7 l0 F7).f0)), 0, b7G⟩ : S58) f2p.out (show Kd.F (Kd.int .u8) _ _ b0C b7G.length b7G from by rw [c7T.out]; exact umpireref11_Write.cut U4.out a0a.out J5.out a3B.out f2r.out)))
               (case aB => exact HB.out)
               (case aF => exact (fun k_ hk => ⟨Kd.fresh' (Kd.b0v U4.out) k_ hk, Kd.a6c J5.out k_ hk⟩))
               (case aO => exact a0a.out)
               (case aS => exact (o9 HB.out))
               (case aL => have := f2k.out; omega)
               intro g3g w51 ho hb hg hat; rw [← f2l.out] at ho; have c7X := a_ ho; replace U4 := a_ (Kd.a9z (ok := (fun k_ => some k_ ≠ (.slice b0C Z5.length b2H : Value).ownBlock ∧ k_ ≠ a1c)) (by exact Kd.U3 U4.out (fun _ hk => ⟨⟨hk.2.1, hk.2.2⟩, hk.1⟩)) hg hat); replace J5 := a_ (L9 J5.out hg (Kd.e1X a0a.out J5.out (by decide))); replace HB := a_ hb; replace e1o := a_ ((show Kd.C (Kd.int .u8) w51 b0C b7G.length b7G from by rw [c7T.out]; exact Kd.b52 (m := 65535) ((Kd.a5R (Kd.b4N a3B.out (Kd.a13 a0a.out) (by decide) hg)).2.2) f2r.out)); replace a3B := a_ (Kd.b4N a3B.out (Kd.a13 a0a.out) (by decide) hg); clear a0a ho hb hg hat; refine hK.out _ _ ⟨(J9 HB b5B), (J9 HB b5A), (J9 HB b5z)⟩ (fun hHeld => ?_); clear hK K; refine nm_ (some 100) ?_; refine pu_ 13 (some 9) U6 ?_; refine a4J (a4b U6.out (by kernel_rfl)) ?_; have q52 : (65535 : Int) ≤ ((Z5.length : Int) : Int) := U9; obtain ⟨h0P, e1p, _, e1q, _⟩ := info_parts info5; have e5D := b1V (P := Tryd.prog) 22 5 .i64 Tryd.underlying22 e1p 1 e1q b0C Z5.length b2H 65535 (by omega) q52; have d5N := Kd.d0o (k := (65535 : Int).toNat) a3B.out (by omega); obtain ⟨A52, d9t⟩ : ∃ A1, A1 = (if b2H = (65535 : Int).toNat then b0C else (b0C : Option Addr).map (·.add ((65535 : Int).toNat * 1))) := ⟨_, rfl⟩; obtain ⟨c52, e5E⟩ : ∃ c1, c1 = b2H - (65535 : Int).toNat := ⟨_, rfl⟩; have e5F : c9P.length = Z5.length - (65535 : Int).toNat := (by rw [e1m.out, List.length_drop]); rw [← e1m.out] at d5N; rw [← e5F, ← d9t, ← e5E] at e5D; replace d5N : Kd.Q (Kd.int .u8) 5 w51 w.heap.size (fun _ => True) (.slice A52 c9P.length c52) c9P := (by rw [d9t, e5E, e5F]; exact d5N); have g3k : Aside0 ((Value.slice A52 c9P.length c52).ownBlock = (.slice b0C Z5.length b2H : Value).ownBlock) := ⟨by rw [d9t]; split <;> (cases (b0C : Option Addr) <;> rfl)⟩; clear e5F e1p e1q a3B d9t e5E; have f2s := a_ d5N; clear d5N; replace q52 := eq_true q52; have n_ := a_ (Kd.U3 (ok' := fun k_ => ((some k_ ≠ (.slice A52 c9P.length c52 : Value).ownBlock ∧ k_ ≠ a1c) ∧ some k_ ≠ (g3g : Value).ownBlock)) U4.out (fun k_ hk => ⟨⟨(by rw [g3k.out]; exact hk.1.1), hk.1.2⟩, hk.2⟩)); clear U4; have U4 := n_; clear n_; have n_ := a_ c7X.out; clear c7X; have c7X := n_; clear n_
               try go_wp2
               go_roundg k4
               case measure => have := HJ3.out; have := HK2.out; have := c9O.out; have := HK4.out; omega
               case rel => exact ⟨(g3d), (c9P), H', ⟨by have := HJ3.out; have := HK2.out; have := c9O.out; have := HK4.out; omega⟩, ⟨by exact Kd.U3 U4.out (fun _ hk => ⟨hk.2, ⟨hk.1.1, hk.1.2⟩⟩)⟩, ⟨by exact c7X.out⟩, ⟨by exact f2s.out⟩, ⟨by exact J5.out⟩, ⟨by exact HB.out⟩⟩
              ·rw [if_neg c42] at H; have d38 : decide (65535 < (Z5.length : Int)) = false := df_ c42; have f2j : decide (65535 < Z5.length) = false := df_ (by omega); clear c42; have g60 := a2Q H; replace H := O6 H; have g61 := a2Q H; replace H := O6 H; have c55 := X4 H; replace H := O6 H; have g62 := eq_true c55; have g63 := dt_ c55; clear c55; have c56 := X4 H; replace H := O6 H; have g64 := eq_true c56; have g65 := dt_ c56; clear c56; obtain ⟨b7H, d5O⟩ := is_ ((Z5.take ((Z5.length : Int) : Int).toNat) : List Int); rw [← d5O] at H; have c7Y := a_ d5O; clear d5O; have c57 := X4 H; replace H := O6 H; have f2t := a_ c57; clear c57; obtain ⟨g3n, d5P⟩ := is_ ((c2u ++ [(⟨wrap64 (3 - ((y7 l0 F7).f0)), 0, b7H⟩ : S58)]) : List (S58)); rw [← d5P] at H; have f2u := a_ d5P; clear d5P; have g67 := eq_true (U9 : (Z5.length : Int) ≤ (Z5.length : Int)); obtain ⟨c9Q, d5Q⟩ := is_ ((Z5.drop ((Z5.length : Int) : Int).toNat) : List Int); rw [← d5Q] at H; have e1r := a_ d5Q; clear d5Q; have H' := a_ H; clear H; obtain ⟨b7n, b90, g3o, _⟩ := Kd.b8y a3B.out; subst g3o
               try go_wp2
               replace U4 := a_ (Kd.a9y U4.out); replace a0a := a_ (Kd.a9y a0a.out); replace a3B := a_ (Kd.d0n a3B.out); replace J5 := a_ (P6 J5.out); replace HB := a_ (Z8 HB.out); have e5G : 0 ≤ (F7 : Int) := U9; have e5H : F7 < (l0.length : Int) := U9; obtain ⟨f2v, e5I, e5J, g3p, b5C, b5D, b5E, c7Z, c71⟩ := a0I HR0.out F7 e5G e5H; have b5F := b5E; have b5G := b5D; have b5H := b5C; obtain rfl : a0h = f2v := (by injection g3p); replace b5C := J9 HB b5C; replace b5D := J9 HB b5D; replace b5E := J9 HB b5E; have d9u := a_ c71; have f7i := a_ c7Z; clear c71 c7Z; replace e5G := eq_true e5G; replace e5H := eq_true e5H; have q61 : ((Z5.length : Int) : Int) ≤ ((Z5.length : Int) : Int) := U9; obtain ⟨h0Q, e1s, _, f2w, _⟩ := info_parts info5; have c73 : Z5.length ≤ b90 := (Kd.a5R a3B.out).2.1; have f2x : Kd.C (Kd.int .u8) _ b7n Z5.length Z5 := (Kd.a5R a3B.out).2.2; have e5K := d0h (P := Tryd.prog) 22 5 .i64 Tryd.underlying22 e1s b7n Z5.length b90 (Z5.length : Int) (U9) q61 c73; have e5L := Kd.b52 (m := ((Z5.length : Int) : Int).toNat) f2x (by omega); have e5M : b7H.length = ((Z5.length : Int) : Int).toNat := (by rw [c7Y.out, List.length_take]; omega); rw [← c7Y.out] at e5L; rw [← e5M] at e5K; have e1t := a_ e5L; have f2y := a_ (show b7H.length ≤ b90 from by omega); clear e5L f2x c73 e1s f2w; have h0R := a_ e5M; clear e5M; have f2z := a_ (show ((Z5.length : Int) : Int).toNat ≤ Z5.length from by omega); replace q61 := eq_true q61; refine a2U (n := 14) (S := fun w' => w'.cell? (a0h.add ((F7).toNat * 3)) = some (.int .i64 ((y7 l0 F7).f0)) ∧ w'.cell? ⟨(a0h.add ((F7).toNat * 3)).block, (a0h.add ((F7).toNat * 3)).off + 1, none⟩ = some (.int .i64 ((y7 l0 F7).f1)) ∧ w'.cell? ⟨(a0h.add ((F7).toNat * 3)).block, (a0h.add ((F7).toNat * 3)).off + 2, none⟩ = some (.slice e5I ((y7 l0 F7).f2).length e5J)) (ds := []) (bo_ 14 0) (by kernel_rfl) rfl rfl ⟨(J9 HB b5H), (J9 HB b5G), (J9 HB b5F)⟩ (fun hHeld => ?_); refine a1Z umpireref11_Write.e1k umpireref11_Write.d5z (fun U6 HW_ => ?_); generalize wr.drew = w60 at U4 a0a a3B J5 HB d9u e1t b5C b5D b5E hHeld ⊢; refine pu_ 0 (some 88) U6 ?_; refine pu_ 1 (some 89) U6 ?_; refine pu_ 2 (some 90) U6 ?_; refine pu_ 3 (some 91) U6 ?_; refine pu_ 4 (some 92) U6 ?_; refine pu_ 7 (some 95) U6 ?_; refine pu_ 8 (some 96) U6 ?_; refine pu_ 9 (some 97) U6 ?_; refine a0Y (i := 5) (N := some 93) (v := ?_) (a' := ?_) (bo_ 14 959) rfl rfl (Y9 U6.out HW_.out (by kernel_rfl)) (fun _ _ _ h => h) (Or.inl ⟨by rfl, ?_⟩) hHeld ?_ ?_
               rotate_left
               ·rintro w' ⟨s0, s1, s2⟩
                go_simp
                with_reducible rfl
               rotate_left
               ·simp only [Act.put, List.setIfInBounds_toArray, List.set_cons_zero, List.set_cons_succ, a0D, a1b]
                rfl
               refine pu_ 6 (some 94) U6 ?_; refine pu_ 10 (some 98) U6 ?_; refine a4p (i := 11) (N := some 99) (bo_ 14 4095) rfl rfl (a1l U6.out (by kernel_rfl)) (by decide) (fun K hK => ?_); refine a9v (w1 := ?_) (v := ?_) (by rfl) rfl ?_ ?_
               rotate_left 2
               ·go_simp
                constructor
                ·rfl
                ·rfl
               refine hK.out _ _ ⟨(World.cell?_alloc_lt _ _ _ (World.block_lt_of_cell? _ _ ((J9 HB b5H)))).trans ((J9 HB b5H)), (World.cell?_alloc_lt _ _ _ (World.block_lt_of_cell? _ _ ((J9 HB b5G)))).trans ((J9 HB b5G)), (World.cell?_alloc_lt _ _ _ (World.block_lt_of_cell? _ _ ((J9 HB b5F)))).trans ((J9 HB b5F))⟩ (fun hHeld => ?_); clear hK K; refine nm_ (some 99) ?_; refine a4p (i := 12) (N := some 100) (bo_ 14 8191) rfl rfl (a1l U6.out (by kernel_rfl)) (by decide) (fun K hK => ?_); refine Kd.b0I k58 (w0 := w) w.heap.size (by rfl) (.tmp 88) (.tmp 99) 54 58 (.agg #[(.int .i64 0), (.int .u32 0), (.slice none 0 0)]) 40 rfl Tryd.underlying54 info58 rfl (by decide) (by omega) u9 c2u (⟨wrap64 (3 - ((y7 l0 F7).f0)), 0, b7H⟩ : S58) [.int .i64 (wrap64 (3 - ((y7 l0 F7).f0))), .int .u32 0, .slice b7n b7H.length b90] (fun k_ => some k_ ≠ (u8 : Value).ownBlock ∧ k_ ≠ a1c) (fun k_ => (fun k_ => some k_ ≠ (u8 : Value).ownBlock ∧ k_ ≠ a1c) k_ ∧ some k_ ≠ (u9 : Value).ownBlock) rfl rfl ?aP (fun _ hk => hk) ?aF ?aO ?aB ?aS ?aL ?_
               (case aP => exact (b8s _ _ (⟨wrap64 (3 - ((y7 l0 F7).f0)), 0, b7H⟩ : S58) f2y.out (show Kd.F (Kd.int .u8) _ _ b7n b7H.length b7H from by rw [c7Y.out]; exact umpireref11_Write.cut U4.out a0a.out J5.out a3B.out f2z.out)))
               (case aB => exact HB.out)
               (case aF => exact (fun k_ hk => ⟨Kd.fresh' (Kd.b0v U4.out) k_ hk, Kd.a6c J5.out k_ hk⟩))
               (case aO => exact a0a.out)
               (case aS => exact (o9 HB.out))
               (case aL => have := f2t.out; omega)
               intro g3r w62 ho hb hg hat; rw [← f2u.out] at ho; have c74 := a_ ho; replace U4 := a_ (Kd.a9z (ok := (fun k_ => some k_ ≠ (.slice b7n Z5.length b90 : Value).ownBlock ∧ k_ ≠ a1c)) (by exact Kd.U3 U4.out (fun _ hk => ⟨⟨hk.2.1, hk.2.2⟩, hk.1⟩)) hg hat); replace J5 := a_ (L9 J5.out hg (Kd.e1X a0a.out J5.out (by decide))); replace HB := a_ hb; replace e1t := a_ ((show Kd.C (Kd.int .u8) w62 b7n b7H.length b7H from by rw [c7Y.out]; exact Kd.b52 (m := ((Z5.length : Int) : Int).toNat) ((Kd.a5R (Kd.b4N a3B.out (Kd.a13 a0a.out) (by decide) hg)).2.2) f2z.out)); replace a3B := a_ (Kd.b4N a3B.out (Kd.a13 a0a.out) (by decide) hg); clear a0a ho hb hg hat; refine hK.out _ _ ⟨(J9 HB b5H), (J9 HB b5G), (J9 HB b5F)⟩ (fun hHeld => ?_); clear hK K; refine nm_ (some 100) ?_; refine pu_ 13 (some 9) U6 ?_; refine a4J (a4b U6.out (by kernel_rfl)) ?_; have q63 : ((Z5.length : Int) : Int) ≤ ((Z5.length : Int) : Int) := U9; obtain ⟨h0S, e1u, _, e1v, _⟩ := info_parts info5; have e5N := b1V (P := Tryd.prog) 22 5 .i64 Tryd.underlying22 e1u 1 e1v b7n Z5.length b90 (Z5.length : Int) (U9) q63; have d5R := Kd.d0o (k := ((Z5.length : Int) : Int).toNat) a3B.out (by omega); obtain ⟨A63, d9v⟩ : ∃ A1, A1 = (if b90 = ((Z5.length : Int) : Int).toNat then b7n else (b7n : Option Addr).map (·.add (((Z5.length : Int) : Int).toNat * 1))) := ⟨_, rfl⟩; obtain ⟨c63, hc63⟩ : ∃ c1, c1 = b90 - ((Z5.length : Int) : Int).toNat := ⟨_, rfl⟩; have e5O : c9Q.length = Z5.length - ((Z5.length : Int) : Int).toNat := (by rw [e1r.out, List.length_drop]); rw [← e1r.out] at d5R; rw [← e5O, ← d9v, ← hc63] at e5N; replace d5R : Kd.Q (Kd.int .u8) 5 w62 w.heap.size (fun _ => True) (.slice A63 c9Q.length c63) c9Q := (by rw [d9v, hc63, e5O]; exact d5R); have g3v : Aside0 ((Value.slice A63 c9Q.length c63).ownBlock = (.slice b7n Z5.length b90 : Value).ownBlock) := ⟨by rw [d9v]; split <;> first | (cases (b7n : Option Addr) <;> rfl) | exact umpireref11_Write.d9k _ _ _ _ _ _⟩; clear e5O e1u e1v a3B d9v hc63; have f2A := a_ d5R; clear d5R; replace q63 := eq_true q63; have n_ := a_ (Kd.U3 (ok' := fun k_ => ((some k_ ≠ (.slice A63 c9Q.length c63 : Value).ownBlock ∧ k_ ≠ a1c) ∧ some k_ ≠ (g3r : Value).ownBlock)) U4.out (fun k_ hk => ⟨⟨(by rw [g3v.out]; exact hk.1.1), hk.1.2⟩, hk.2⟩)); clear U4; have U4 := n_; clear n_; have n_ := a_ c74.out; clear c74; have c74 := n_; clear n_
               try go_wp2
               go_roundg k4
               case measure => have := HJ3.out; have := HK2.out; have := c9O.out; have := HK4.out; omega
               case rel => exact ⟨(g3n), (c9Q), H', ⟨by have := HJ3.out; have := HK2.out; have := c9O.out; have := HK4.out; omega⟩, ⟨by exact Kd.U3 U4.out (fun _ hk => ⟨hk.2, ⟨hk.1.1, hk.1.2⟩⟩)⟩, ⟨by exact c74.out⟩, ⟨by exact f2A.out⟩, ⟨by exact J5.out⟩, ⟨by exact HB.out⟩⟩
             ·rw [if_neg c41] at H; have f2h : decide (0 < (Z5.length : Int)) = false := df_ c41; have f2i : decide (0 < Z5.length) = false := df_ (by omega); clear c41; have H' := a_ H; clear H; obtain ⟨h0T, h0U, g3w, _⟩ := Kd.b8y a3B.out; subst g3w
              go_wp2
              go_roundg k4
              case measure => have := HJ3.out; have := HK2.out; have := c9O.out; have := HK4.out; omega
              case rel => exact ⟨(a9i), (c2u), (wrap64 (F7 + 1)), (by rfl), H', ⟨by have := HJ3.out; have := HK2.out; have := c9O.out; have := HK4.out; omega⟩, ⟨by exact Kd.U3 U4.out (fun _ hk => ⟨hk.1, hk.2.2⟩)⟩, ⟨by exact a0a.out⟩, ⟨by exact J5.out⟩, ⟨by exact HB.out⟩⟩
       ·cases nt_ c11
        rw [if_neg a2O] at H; obtain ⟨rfl, rfl⟩ := s2_ H; have b4K : 0 ≤ (F7 : Int) := U9; have b4L : F7 < (l0.length : Int) := U9; obtain ⟨a0h, b7k, b7l, d5D, a6x, a6y, a6z, a7F, a7G⟩ := a0I HR0.out F7 b4K b4L
        cases d5D
        replace a6x := J9 HB a6x; replace a6y := J9 HB a6y; replace a6z := J9 HB a6z; have b3f := a_ a7G; have b3g := a_ a7F; clear a7G a7F; replace b4K := eq_true b4K; replace b4L := eq_true b4L
        go_wp2_with (first | (refine gl_ (some 32) Tryd.func17 #[.agg #[.int .i64 ((y7 l0 F7).f0), .int .i64 ((y7 l0 F7).f1), .slice b7k ((y7 l0 F7).f2).length b7l]] ?_; (with_reducible refine (a0l.calls ((y7 l0 F7).f0) ((y7 l0 F7).f1) _ _ ((y7 l0 F7).f2) false _ (Kd.E8 b3f.out HB.out) b3g.out A10.out).mono ?_); rintro e w65 ⟨rfl, hb⟩; refine ⟨_, rfl, ?_⟩; replace U4 := Nb_ U4 hb; replace a0a := Nb_ a0a hb; replace J5 := X8 J5 hb; replace HB := Q8 HB hb; (try clear hb)))
        go_ret2
        exact ⟨_, by (rfl), by (exact Kd.Y4 _ _ _ _ _), by exact HB.out⟩
      ·rw [if_neg c8] at H; have a9G := df_ c8; clear c8
       by_cases c66 : a1 = 1
       ·rw [if_pos c66] at H; obtain ⟨f2B, f2C⟩ := bt_ c66; clear c66; obtain ⟨⟨g3x, g3y⟩, A67, H⟩ := bd_ H
        (try dsimp only at H); obtain ⟨rfl, rfl⟩ := s2_ H; obtain ⟨g3z, g3A, g3B⟩ := Kd.a4c U4.out; subst g3B
        go_wp2_with (first | (refine gl_ (some 108) Tryd.func19 #[.agg #[.bool false, .bool false, .int .u32 65535, .int .u32 204], .slice g3z a9i.length g3A] ?_; (with_reducible refine (umpireref09_Put.calls k2 false false 65535 204 _ _ a9i g3x g3y _ ((Kd.X9 U4.out).2.2) ((Kd.X9 U4.out).2.1) A67.out).mono ?_); rintro e w69 ⟨h0W, rfl, ho0, hb⟩; refine ⟨_, rfl, ?_⟩; have f2D := rl_ ho0 HB; replace U4 := rN_ U4 ho0 hb; replace a0a := rN_ a0a ho0 hb; replace J5 := X8 J5 hb; replace HB := Q8 HB hb; (try clear hb); (try clear ho0)))
        go_ret2
        exact ⟨_, by (rfl), by exact f2D.out, by exact HB.out⟩
       ·rw [if_neg c66] at H; have f2B := bq_ c66; have f2C := bn_ c66; obtain ⟨⟨g3C, g3D⟩, A70, H⟩ := bd_ H
        (try dsimp only at H); obtain ⟨rfl, rfl⟩ := s2_ H; obtain ⟨g3E, g3F, g3G⟩ := Kd.a4c a0a.out; subst g3G
        go_wp2_with (first | (refine gl_ (some 112) Tryd.func21 #[.slice g3E a8J.length g3F] ?_; (with_reducible refine (U0.calls k2 _ _ a8J g3C g3D _ ((Kd.X9 a0a.out).2.2) ((Kd.X9 a0a.out).2.1) A70.out).mono ?_); rintro e w72 ⟨h0Y, rfl, ho0, hb⟩; refine ⟨_, rfl, ?_⟩; have f2E := rl_ ho0 HB; replace U4 := rN_ U4 ho0 hb; replace a0a := rN_ a0a ho0 hb; replace J5 := X8 J5 hb; replace HB := Q8 HB hb; (try clear hb); (try clear ho0)))
        go_ret2
        exact ⟨_, by (rfl), by exact f2E.out, by exact HB.out⟩

end Go.Proofs.YtgnonglkibhnhaaDoor.Print
