-- laid together by this session's own program (wip/tools/merge.py) of texts that its program laid
import Derived.Test.YtgnonglkibhnhaaDoorF81
import Derived.Test.YtgnonglkibhnhaaDoorM7
import Derived.Test.YtgnonglkibhnhaaDoorF64
namespace Go.Proofs.YtgnonglkibhnhaaDoor.Print
open Go.RowKit Go.Proofs.YtgnonglkibhnhaaDoorW.PrintWords Go.Proofs.YtgnonglkibhnhaaDoorW.PrintLast Go.Proofs.YtgnonglkibhnhaaDoorW.PrintMore
attribute [local go_sem] a0d a0e a0V a0W X5 X6 a0f a0g
set_option linter.unusedVariables false
set_option linter.unusedSimpArgs false
set_option maxHeartbeats 16000000
set_option maxRecDepth 100000
def a1O.f (k : Nat) (l0 : List Int) : Option (Int × List Int × Int) := (head_Read.f k l0).bind fun c7s => (if c7s.2.2 = 0 then ((a5i.f l0 c7s.2.1).bind fun t148 => (some (c7s.1, t148, 0))) else (some (0, ([] : List Int), c7s.2.2)))
def a1O.T4 : Bool × List (List Nat × List Nat) := (true, [([], []), ([0], [0]), ([], []), ([], []), ([3], [3]), ([2, 4], [2, 4]), ([1, 5, 0, 1], [1]), ([5, 6, 0, 1, 2, 3, 4, 5, 6], [5]), ([7, 0, 1, 2, 3, 4, 5, 6, 7], [])])
def a1O.B4 : List Nat := [0, 1, 0, 0, 8, 28, 63, 127, 255]
theorem a1O.e3r : a2l .any (opsOf Tryd.f63 4) = a1O.T4 := by kernel_rfl
theorem a1O.d2O : a1R a1O.T4.2 a1O.B4 = true := by kernel_rfl
theorem a1O.calls (k : Nat) (A0 : Option Addr) (c0 : Nat) (l0 : List Int) (r1 : Int) (r2 : List Int) (r3 : Int) (w : World) (hr0 : Kd.C (Kd.int .u8) w A0 l0.length l0) (hc0 : l0.length ≤ c0) (h : a1O.f k l0 = some (r1, r2, r3)) :
  Calls Tryd.prog 63 #[.slice A0 l0.length c0] w fun e w' => ∃ v1_ : Value, e = .returned (.tuple #[.int .i64 r1, v1_, .int .i64 r3]) ∧ Kd.R (Kd.int .u8) 5 w' w.heap.size (fun _ => True) v1_ r2 ∧ Below w.heap.size w w' := by
 have f0L := Tryd.underlying122
 have HR0 := a_ hr0
 have HC0 := a_ hc0
 clear hr0 hc0
 have HB := a_ (Below.refl w.heap.size w)
 have H := h
 clear h
 unfold a1O.f at H
 obtain ⟨⟨c4l, t145, t146⟩, A2, H⟩ := bd_ H
 try dsimp only at H
 by_cases c3 : t146 = 0
 ·rw [if_pos c3] at H; obtain ⟨a3w, b1t⟩ := bt_ c3; clear c3; obtain ⟨t148, A4, H⟩ := bd_ H
  (try dsimp only at H); obtain ⟨rfl, rfl, rfl⟩ := s3_ H
  go_enter Tryd.func63, Tryd.ntmps63
  try go_wp2_with (first | (refine gl_ (some 9) Tryd.func81 #[.slice A0 l0.length c0] ?_; (with_reducible refine (head_Read.calls k _ _ l0 c4l t145 t146 _ HR0.out HC0.out A2.out).mono ?_); rintro e w5 ⟨rfl, hb⟩; refine ⟨_, rfl, ?_⟩; replace HB := Q8 HB hb; (try clear hb)) | (refine be_ 5 #[.int .i64 0, .int .i64 0] 122 ?_; intro b04 hg w6 hbox hb; have a6Y := a_ hbox; have d4L := lb_ HB hg; replace HB := Q8 HB hb; clear hb hbox hg; obtain ⟨d27, d28, d29, d3a⟩ := a4e a6Y.out))
  have n0_ : Aside0 (((w6.setCell ⟨b04, 0, none⟩ (.int .i64 c4l)).setCell ⟨b04, 1, none⟩ (.int .i64 t145)).heap[b04]? = some (.cells #[.int .i64 c4l, .int .i64 t145] 122 (0, 0))) := ⟨l9 (l9 a6Y.out 0 _ rfl) 1 _ rfl⟩; have n1_ : Aside0 (Below w.heap.size w ((w6.setCell ⟨b04, 0, none⟩ (.int .i64 c4l)).setCell ⟨b04, 1, none⟩ (.int .i64 t145))) := ⟨by repeat (with_reducible first | exact HB.out | refine o8 ?_ d4L.out)⟩
  (try clear a6Y)
  (try clear HB)
  generalize ((w6.setCell ⟨b04, 0, none⟩ (.int .i64 c4l)).setCell ⟨b04, 1, none⟩ (.int .i64 t145)) = w8 at n0_ n1_ ⊢; have a6Y := n0_; have HB := n1_; clear n0_ n1_; replace a6Y := a_ (P6 a6Y.out); replace HB := a_ (Z8 HB.out); refine a2U (n := 9) (S := fun w' => w'.cell? ⟨b04, 0, none⟩ = some (.int .i64 c4l) ∧ w'.cell? ⟨b04, 1, none⟩ = some (.int .i64 t145)) (ds := []) (bo_ 9 0) (by kernel_rfl) rfl rfl ⟨bc0 a6Y, bc1 a6Y⟩ (fun hHeld => ?_); refine a1Z a1O.e3r a1O.d2O (fun U6 HW_ => ?_); generalize w8.drew = w9 at a6Y HB hHeld ⊢; refine pu_ 0 (some 15) U6 ?_; refine pu_ 2 (some 17) U6 ?_; refine pu_ 3 (some 18) U6 ?_; refine a0Y (i := 1) (N := some 16) (v := ?_) (a' := ?_) (bo_ 9 15) rfl rfl (Y9 U6.out HW_.out (by kernel_rfl)) (fun _ _ _ h => h) (Or.inl ⟨by rfl, ?_⟩) hHeld ?_ ?_
  rotate_left
  ·rintro w' ⟨s0, s1⟩
   go_simp
   with_reducible rfl
  rotate_left
  ·simp only [Act.put, List.setIfInBounds_toArray, List.set_cons_zero, List.set_cons_succ, a0D, a1b]
   rfl
  refine a0Y (i := 4) (N := some 19) (v := ?_) (a' := ?_) (bo_ 9 31) rfl rfl (Y9 U6.out HW_.out (by kernel_rfl)) (fun _ _ _ h => h) (Or.inl ⟨by rfl, ?_⟩) hHeld ?_ ?_
  rotate_left
  ·rintro w' ⟨s0, s1⟩
   go_simp
   with_reducible rfl
  rotate_left
  ·simp only [Act.put, List.setIfInBounds_toArray, List.set_cons_zero, List.set_cons_succ, a0D, a1b]
   rfl
  refine a4p (i := 5) (N := some 20) (bo_ 9 63) rfl rfl (a1l U6.out (by kernel_rfl)) (by decide) (fun K hK => ?_); refine a3c Tryd.func82 (by kernel_rfl) rfl #[.slice A0 l0.length c0, .int .i64 t145] (by rfl) rfl rfl (by (try simp only [List.map_toArray, List.map_cons, List.map_nil]); (rfl)) ?_
  with_reducible refine (a5i.calls _ _ l0 t145 t148 _ ?U1 ?U2 A4.out).mono ?_
  (case U1 => exact (Kd.E8 HR0.out HB.out))
  (case U2 => exact HC0.out)
  rintro e w10 ⟨g9K, rfl, ho0, hb⟩; refine ⟨_, rfl, ?_⟩; have f0M := rl_ ho0 HB; replace a6Y := X8 a6Y hb; replace HB := Q8 HB hb
  (try clear hb)
  (try clear ho0)
  refine hK.out _ _ ⟨bc0 a6Y, bc1 a6Y⟩ (fun hHeld => ?_); clear hK K; refine nm_ (some 20) ?_; refine pu_ 6 (some 2) U6 ?_; refine pu_ 7 (some 3) U6 ?_; refine pu_ 8 (some 4) U6 ?_; refine a4J (a4b U6.out (by kernel_rfl)) ?_
  try go_wp2
  go_ret3
  exact ⟨_, by (rfl), by exact f0M.out, by exact HB.out⟩
 ·rw [if_neg c3] at H; have a3w := bq_ c3; have b1t := bn_ c3; obtain ⟨rfl, rfl, rfl⟩ := s3_ H
  go_enter Tryd.func63, Tryd.ntmps63
  go_wp2_with (first | (refine gl_ (some 9) Tryd.func81 #[.slice A0 l0.length c0] ?_; (with_reducible refine (head_Read.calls k _ _ l0 c4l t145 t146 _ HR0.out HC0.out A2.out).mono ?_); rintro e w11 ⟨rfl, hb⟩; refine ⟨_, rfl, ?_⟩; replace HB := Q8 HB hb; (try clear hb)) | (refine be_ 5 #[.int .i64 0, .int .i64 0] 122 ?_; intro b04 hg w12 hbox hb; have a6Y := a_ hbox; have d4L := lb_ HB hg; replace HB := Q8 HB hb; clear hb hbox hg; obtain ⟨b2K, b2L, b2M, b2N⟩ := a4e a6Y.out))
  go_ret3
  exact ⟨_, by (rfl), by (exact Kd.Y4 _ _ _ _ _), by repeat (with_reducible first | exact HB.out | refine o8 ?_ d4L.out)⟩
def a1S.f (k : Nat) (l0 : List S42) (a1 : Int) (l2 : List Int) : Option (List S42) := (a1O.f k l2).bind fun t => if t.2.2 = 0 then (if l0.length < 3518437208883 then some (l0 ++ [(⟨a1, t.1, t.2.1⟩ : S42)]) else none) else some l0
structure Longer (W W' : World) (base : Nat) (ok : Nat → Prop) (v v' : Value) (r : List S42) : Prop where
 row : Kd.S k42 42 W' base ok v' r
 grown : W.grownBy W' v.ownBlock
 at_ : v'.ownBlock = v.ownBlock ∨ ∃ b, v'.ownBlock = some b ∧ W.heap.size ≤ b
theorem a1S.calls (k : Nat) (base : Nat) (ok : Nat → Prop) (v : Value) (l0 : List S42) (a1 : Int) (A2 : Option Addr) (c2 : Nat) (l2 : List Int) (r : List S42) (W : World) (hS : Kd.S k42 42 W base ok v l0) (hf : ∀ k, W.heap.size ≤ k → ok k) (hb : base ≤ W.heap.size) (hr2 : Kd.C (Kd.int .u8) W A2 l2.length l2) (hc2 : l2.length ≤ c2) (h : a1S.f k l0 a1 l2 = some r) :
  Calls Tryd.prog 43 #[v, .int .i64 a1, .slice A2 l2.length c2] W fun e W' => ∃ v', e = .returned v' ∧ Aside0 (Longer W W' base ok v v' r) ∧ Aside0 (Below base W W') := by
 obtain ⟨⟨t0, t1, t2⟩, ht, h⟩ := Option.bind_eq_some_iff.1 h
 have HT := a_ ht
 have HS := a_ hS
 have HF := a_ hf
 have HB := a_ hb
 have HR2 := a_ hr2
 have HC2 := a_ hc2
 have HLT := a_ (Kd.c8U hS)
 obtain ⟨A0, c0, rfl⟩ := Kd.a8t hS
 clear hS hf hb hr2 hc2 ht
 by_cases hw : t2 = 0
 ·subst hw; rw [if_pos rfl] at h
  by_cases hl : l0.length < 3518437208883
  ·rw [if_pos hl] at h; obtain rfl := oj_ h; have HL := a_ hl; clear h hl
   go_enter Tryd.func43, Tryd.ntmps43
   go_wp2_with (fail)
   refine (a1O.calls k A2 c2 l2 t0 t1 0 _ HR2.out HC2.out HT.out).mono ?_; rintro e w1 ⟨v1, rfl, ho, hb1⟩; obtain ⟨A1, c1, rfl⟩ := Kd.H6 ho; have HO := a_ ho; have HB1 := a_ hb1; have S1 := a_ (Kd.e0d HS.out hb1); clear ho hb1
   go_wp2_with (((with_reducible refine D6 (b := .append) (xs := #[.tmp 19, .tmp 24]) rfl ?_); at_builtin; refine Kd.a9x k42 (w0 := w1) base rfl (.tmp 19) (.tmp 24) 27 42 (.agg #[(.int .i64 0), (.int .i64 0), (.slice none 0 0)]) 40 rfl Tryd.underlying27 info42 rfl (by decide) (by omega) (.slice A0 l0.length c0) l0 (⟨a1, t0, t1⟩ : S42) [.int .i64 a1, .int .i64 t0, .slice A1 t1.length c1] ok (fun k_ => some k_ = (.slice A1 t1.length c1 : Value).ownBlock) rfl rfl ?aP ?aK ?aF ?aO ?aB ?aS ?aL ?_; (case aP => exact d6o _ _ _ (⟨a1, t0, t1⟩ : S42) (Kd.a2m rfl (Kd.X3 HO.out HB.out))); (case aK => exact fun k_ hk => ⟨HF.out k_ (Kd.a1d HO.out k_ hk.symm), fun e_ => by have h1 := Kd.a1d HO.out k_ hk.symm; have h2 := HLT.out k_ e_.symm; omega⟩); (case aF => exact fun k_ hk => HF.out k_ (Nat.le_trans HB1.out.size hk)); (case aO => exact Kd.Y3 S1.out (fun k_ hk => ⟨hk.1, fun e_ => by have h1 := Kd.a1d HO.out k_ e_.symm; have h2 := hk.2; omega⟩)); (case aB => exact Below.refl _ _); (case aS => exact Nat.le_trans HB.out HB1.out.size); (case aL => have := HL.out; omega); intro v5 w5 ho hb5 hg hat; have HO5 := a_ ho; have HB5 := a_ hb5; have HG5 := a_ hg; have HA5 := a_ hat; clear ho hb5 hg hat))
   go_ret
   refine ⟨_, rfl, ⟨HO5.out, ?_, ?_⟩, ⟨(HB1.out.mono HB.out).trans HB5.out⟩⟩
   ·exact (a4U HB1.out _).trans HG5.out
   ·rcases HA5.out with h | ⟨b, h, hle⟩
    ·exact .inl h
    ·exact .inr ⟨b, h, Nat.le_trans HB1.out.size hle⟩
  ·rw [if_neg hl] at h
   cases h
 ·rw [if_neg hw] at h; obtain rfl := oj_ h; have e1 : (t2 != 0) = true := by simpa using hw
  have e2 : decide (t2 = 0) = false := by simpa using hw
  have e3 : (t2 == 0) = false := by simpa using hw
  clear h
  go_enter Tryd.func43, Tryd.ntmps43
  go_wp2_with (fail)
  refine (a1O.calls k A2 c2 l2 t0 t1 t2 _ HR2.out HC2.out HT.out).mono ?_; rintro e w1 ⟨v1, rfl, ho, hb1⟩; obtain ⟨A1, c1, rfl⟩ := Kd.H6 ho; have HB1 := a_ hb1; clear ho hb1
  go_wp2
  go_ret
  exact ⟨_, rfl, ⟨Kd.a4W HS.out HB1.out, a4U HB1.out _, .inl rfl⟩, ⟨HB1.out.mono HB.out⟩⟩
def a3g.l0 : Nat → List Int → List (S58) → Int → Option ((List (S58)) × Int × Int)
 | 0, _, _, _ => none
 | k + 1, x0, x4, x5 => if x5 < (x0.length : Int) then (if 0 ≤ x5 then (if x5 ≤ (x0.length : Int) then ((dump_Next.f k (x0.drop (x5 : Int).toNat)).bind fun b8i => (if b8i.2.2.2.2 = 0 then (if x4.length < 3518437208883 then (a3g.l0 k x0 (x4 ++ [(⟨b8i.1, b8i.2.1, b8i.2.2.1⟩ : S58)]) (wrap64 (x5 + b8i.2.2.2.1))) else (none)) else (some (x4, x5, b8i.2.2.2.2)))) else (none)) else (none)) else (some (x4, 0, 0))
def a3g.f (k : Nat) (l0 : List Int) : Option ((List (S58)) × Int × Int) := a3g.l0 k l0 ([] : List (S58)) 0
theorem a3g.calls (k : Nat) (A0 : Option Addr) (c0 : Nat) (l0 : List Int) (r1 : List (S58)) (r2 : Int) (r3 : Int) (w : World) (hG0 : Kd.C b1a w (some ⟨0, 0, none⟩) 8 G7) (hr0 : Kd.C (Kd.int .u8) w A0 l0.length l0) (hc0 : l0.length ≤ c0) (h : a3g.f k l0 = some (r1, r2, r3)) :
  Calls Tryd.prog 44 #[.slice A0 l0.length c0] w fun e w' => ∃ v0_ : Value, e = .returned (.tuple #[v0_, .agg #[.int .i64 r2, .int .i64 r3]]) ∧ Kd.S k58 58 w' w.heap.size (fun _ => True) v0_ r1 ∧ Below w.heap.size w w' := by
 have b2i := Tryd.underlying30
 have c1h := Tryd.underlying58
 have HR0 := a_ hr0
 have HC0 := a_ hc0
 clear hr0 hc0
 have a4w := a_ hG0
 clear hG0
 have HB := a_ (Below.refl w.heap.size w)
 have H := h
 clear h
 unfold a3g.f at H
 have H' := a_ H
 clear H
 go_enter Tryd.func44, Tryd.ntmps44
 go_wp2_with (first | (refine be_ 3 #[.int .i64 0, .int .i64 0] 30 ?_; intro b4r hg w2 hbox hb; have a3z := a_ hbox; have e07 := lb_ HB hg; replace HB := Q8 HB hb; clear hb hbox hg))
 go_loopg [4, 5] k (fun kq v4 v5 w' => ∃ (a4z : List (S58)) (J7 : Int) (b0m : Int) (b0n : Int), v5 = .int .i64 J7 ∧ Aside0 (a3g.l0 kq l0 a4z J7 = some (r1, r2, r3)) ∧ Aside0 (kq ≤ k) ∧ Aside0 (Kd.S k58 58 w' w.heap.size (fun _ => True) v4 a4z) ∧ Aside0 (w'.heap[b4r]? = some (.cells #[.int .i64 b0m, .int .i64 b0n] 30 (0, 0))) ∧ Aside0 (Below w.heap.size w w'))
 case atStart => exact ⟨([] : List (S58)), (0), (0), (0), (by rfl), H', ⟨Nat.le_refl _⟩, ⟨by (exact Kd.a7k _ _ _ _ _)⟩, ⟨by exact a3z.out⟩, ⟨by exact HB.out⟩⟩
 case round =>
  clear H'; obtain ⟨a4z, J7, b0m, b0n, rfl, HA, HK1, a1I, a3z, HB⟩ := hrel
  cases gk with
  | zero => exact absurd HA.out (by simp [a3g.l0])
  | succ k1 =>
   have H := HA.out; clear HA
   simp only [a3g.l0] at H
   by_cases c3 : J7 < (l0.length : Int)
   ·rw [if_pos c3] at H; have a3w := dt_ c3; clear c3; have c4 := X4 H; replace H := O6 H; have a3x := eq_true c4; have a9S := dt_ c4; clear c4; have c5 := X4 H; replace H := O6 H; have a7h := eq_true c5; have b3X := dt_ c5; clear c5; obtain ⟨⟨b7d, t171, b1E, t175, d4M⟩, A6, H⟩ := bd_ H
    try dsimp only at H
    by_cases c7 : d4M = 0
    ·rw [if_pos c7] at H; obtain ⟨a5H, b3Y⟩ := bt_ c7; clear c7; have c8 := X4 H; replace H := O6 H; have b6V := a_ c8; clear c8; obtain ⟨g2b, d4N⟩ := is_ ((a4z ++ [(⟨b7d, t171, b1E⟩ : S58)]) : List (S58)); rw [← d4N] at H; have f0O := a_ d4N; clear d4N; have H' := a_ H; clear H; obtain ⟨i09, f0P, _, f0Q, _⟩ := info_parts info5; obtain ⟨A9, g5K, hA9, hC9⟩ := a2q (P := Tryd.prog) (Value.int .u8) 0 22 5 .i64 Tryd.underlying22 f0P f0Q A0 c0 l0 J7 (U9) (U9) HC0.out; have d4O := ci_ (Kd.a2a (h1 := fun _ => rfl) (hA9 _ (Kd.a1L HR0.out))); have d4P := a_ hC9; clear hA9 hC9 f0P f0Q
     go_wp2_with (first | (refine gl_ (some 17) Tryd.func64 #[.slice A9 (l0.drop (J7 : Int).toNat).length (c0 - J7.toNat)] ?_ (hargs := by (try simp only [List.map_toArray, List.map_cons, List.map_nil]); (rw [show (l0.drop (J7 : Int).toNat).length = (l0.length - J7.toNat) from List.length_drop] <;> rfl)); (with_reducible refine (dump_Next.calls k1 _ _ (l0.drop (J7 : Int).toNat) b7d t171 b1E t175 d4M _ (Kd.E8 a4w.out HB.out) (Kd.E8 d4O.out HB.out) d4P.out A6.out).mono ?_); rintro e w10 ⟨v173, rfl, ho0, hb⟩; refine ⟨_, rfl, ?_⟩; have a8e := rl_ ho0 HB; replace a1I := rS_ a1I ho0 hb; replace a3z := X8 a3z hb; replace HB := Q8 HB hb; (try clear hb); (try clear ho0)) | (refine be_ 6 #[.int .i64 0, .int .u32 0, .slice none 0 0] 58 ?_; intro a4P hg w11 hbox hb; have a8f := a_ hbox; have d4Q := lb_ HB hg; obtain ⟨a4h, b4b⟩ := nn_ a3z hg; replace a1I := se_ a1I hg hb; replace a8e := rb_ a8e hb; replace a3z := X8 a3z hb; replace HB := Q8 HB hb; clear hb hbox hg; have f0R := b4b.out; have f0S := a4h.out; obtain ⟨b2K, b2L, b45, b2M, b2N, b46⟩ := a0u a8f.out; obtain ⟨b4F, b4G, e3Z⟩ := Kd.H6 a8e.out; subst e3Z) | ((with_reducible refine b1d (t := 58) (p := 6) rfl ?_); refine a9u (t := 58) (p := 6) (v := ?g2c) (w1 := (((w11.setCell ⟨a4P, 0, none⟩ (.int .i64 b7d)).setCell ⟨a4P, 1, none⟩ (.int .u32 t171)).setCell ⟨a4P, 2, none⟩ (.slice b4F b1E.length b4G))) ?hg ?ho ?hn ?hr ?_; (case ho => rfl); (case hg => rfl); (case hn => rfl); (case hr => (go_simp; done)); intro w15 hw; have n0_ : Aside0 (Kd.S k58 58 w15 w.heap.size (fun k_ => some k_ ≠ (.slice b4F b1E.length b4G : Value).ownBlock ∧ k_ ≠ a4P) u4 a4z) := ⟨(by rw [hw]; exact (by exact Kd.Y3 (Kd.a1m (p := ⟨a4P, 2, none⟩) (Kd.a1m (p := ⟨a4P, 1, none⟩) (Kd.a1m (p := ⟨a4P, 0, none⟩) (Kd.Y3 a1I.out (fun k_ hk => (⟨hk, hk.2⟩ : _ ∧ k_ ≠ a4P))) (fun _ hk => hk.2) (.int .i64 b7d)) (fun _ hk => hk.2) (.int .u32 t171)) (fun _ hk => hk.2) (.slice b4F b1E.length b4G)) (fun _ hk => ⟨hk.1.1.2, hk.1.2⟩)))⟩; have n1_ : Aside0 (Kd.R (Kd.int .u8) 5 w15 w.heap.size (fun _ => True) (.slice b4F b1E.length b4G) b1E) := ⟨(by rw [hw]; exact (by exact Kd.y9 (Kd.V4 (p := ⟨a4P, 2, none⟩) (Kd.V4 (p := ⟨a4P, 1, none⟩) (Kd.V4 (p := ⟨a4P, 0, none⟩) (Kd.U7 a8e.out a8f.out (by decide)) (fun _ hk => hk.2) (.int .i64 b7d)) (fun _ hk => hk.2) (.int .u32 t171)) (fun _ hk => hk.2) (.slice b4F b1E.length b4G)) (fun _ hk => trivial)))⟩; have n2_ : Aside0 (w15.heap[b4r]? = some (.cells #[.int .i64 b0m, .int .i64 b0n] 30 (0, 0))) := ⟨(by rw [hw]; exact (E5 (E5 (E5 a3z.out a4h.out _) a4h.out _) a4h.out _))⟩; have n3_ : Aside0 (w15.heap[a4P]? = some (.cells #[.int .i64 b7d, .int .u32 t171, .slice b4F b1E.length b4G] 58 (0, 0))) := ⟨(by rw [hw]; exact (l9 (l9 (l9 a8f.out 0 _ rfl) 1 _ rfl) 2 _ rfl))⟩; have n4_ : Aside0 (Below w.heap.size w w15) := ⟨(by rw [hw]; exact (by repeat (with_reducible first | exact HB.out | refine o8 ?_ d4Q.out)))⟩; clear hw a1I a8e a3z a8f HB; have a1I := n0_; have a8e := n1_; have a3z := n2_; have a8f := n3_; have HB := n4_; clear n0_ n1_ n2_ n3_ n4_; obtain ⟨b9l, b9m, c6M, b9n, b9o, c6N⟩ := a0u a8f.out) | ((with_reducible refine D6 (b := .append) (xs := #[.tmp 27, .tmp 29]) rfl ?_); at_builtin; refine Kd.a9x k58 (w0 := w) w.heap.size rfl (.tmp 27) (.tmp 29) 54 58 (.agg #[(.int .i64 0), (.int .u32 0), (.slice none 0 0)]) 40 rfl Tryd.underlying54 info58 rfl (by decide) (by omega) u4 a4z (⟨b7d, t171, b1E⟩ : S58) [.int .i64 b7d, .int .u32 t171, .slice b4F b1E.length b4G] (fun k_ => k_ ≠ a4P) (fun k_ => some k_ = (.slice b4F b1E.length b4G : Value).ownBlock) rfl rfl ?aP (fun k_ hk_ => ((Kd.y9 (ok' := fun k_ => (fun k_ => k_ ≠ a4P) k_ ∧ some k_ ≠ (u4 : Value).ownBlock) (Kd.U7 (Kd.V6 (a8e.out) (Kd.a4X a1I.out) (by decide)) a8f.out (by decide)) (fun k_ hk => ⟨hk.2, hk.1.2⟩))).1 k_ hk_.symm) ?aF ?aO ?aB ?aS ?aL ?_; (case aP => exact d6q _ _ _ (⟨b7d, t171, b1E⟩ : S58) (Kd.y9 (Kd.a2m rfl (Kd.y9 (ok' := fun k_ => (fun k_ => k_ ≠ a4P) k_ ∧ some k_ ≠ (u4 : Value).ownBlock) (Kd.U7 (Kd.V6 (a8e.out) (Kd.a4X a1I.out) (by decide)) a8f.out (by decide)) (fun k_ hk => ⟨hk.2, hk.1.2⟩))) (fun _ h_ => h_))); (case aB => exact HB.out); (case aF => exact (fun k_ hk => Kd.a6c a8f.out k_ hk)); (case aO => exact (by exact Kd.Y3 a1I.out (fun k_ hk => ⟨hk.2, fun e_ => hk.1 e_⟩))); (case aS => exact (o9 HB.out)); (case aL => have := b6V.out; omega); intro g9L w17 ho hb hg hat; rw [← f0O.out] at ho; have f0T := a_ ho; replace a3z := a_ (L9 a3z.out hg (Kd.c2K a1I.out a3z.out (by decide))); replace a8f := a_ (L9 a8f.out hg (Kd.d0v a1I.out (fun _ hk => hk.2))); replace HB := a_ hb; clear a1I a8e ho hb hg hat))
     go_roundg k1
     case measure => have := HK1.out; omega
     case rel => exact ⟨(g2b), (wrap64 (J7 + t175)), (b0m), (b0n), (by rfl), H', ⟨by have := HK1.out; omega⟩, ⟨by exact Kd.Y3 f0T.out (fun _ hk => trivial)⟩, ⟨by exact a3z.out⟩, ⟨by exact HB.out⟩⟩
    ·rw [if_neg c7] at H; have a5H := bq_ c7; have b3Y := bn_ c7; obtain ⟨rfl, rfl, rfl⟩ := s3_ H; obtain ⟨f8n, c1p, _, c1q, _⟩ := info_parts info5; obtain ⟨A18, e2N, d1O, d1P⟩ := a2q (P := Tryd.prog) (Value.int .u8) 0 22 5 .i64 Tryd.underlying22 c1p c1q A0 c0 l0 J7 (U9) (U9) HC0.out; have d4O := ci_ (Kd.a2a (h1 := fun _ => rfl) (d1O _ (Kd.a1L HR0.out))); have d4P := a_ d1P; clear d1O d1P c1p c1q
     go_wp2_with (first | (refine gl_ (some 17) Tryd.func64 #[.slice A18 (l0.drop (J7 : Int).toNat).length (c0 - J7.toNat)] ?_ (hargs := by (try simp only [List.map_toArray, List.map_cons, List.map_nil]); (rw [show (l0.drop (J7 : Int).toNat).length = (l0.length - J7.toNat) from List.length_drop] <;> rfl)); (with_reducible refine (dump_Next.calls k1 _ _ (l0.drop (J7 : Int).toNat) b7d t171 b1E t175 d4M _ (Kd.E8 a4w.out HB.out) (Kd.E8 d4O.out HB.out) d4P.out A6.out).mono ?_); rintro e w19 ⟨v173, rfl, ho0, hb⟩; refine ⟨_, rfl, ?_⟩; have a8e := rl_ ho0 HB; replace a1I := rS_ a1I ho0 hb; replace a3z := X8 a3z hb; replace HB := Q8 HB hb; (try clear hb); (try clear ho0)) | (refine be_ 6 #[.int .i64 0, .int .u32 0, .slice none 0 0] 58 ?_; intro a4P hg w20 hbox hb; have a8f := a_ hbox; have d4Q := lb_ HB hg; obtain ⟨a4h, b4b⟩ := nn_ a3z hg; replace a1I := se_ a1I hg hb; replace a8e := rb_ a8e hb; replace a3z := X8 a3z hb; replace HB := Q8 HB hb; clear hb hbox hg; have g5N := b4b.out; have g5O := a4h.out; obtain ⟨c7h, c7i, c7j, c7k, c7l, c7m⟩ := a0u a8f.out; obtain ⟨a5g, a5h, b9e⟩ := Kd.H6 a8e.out; subst b9e; obtain ⟨b5f, b5g, b5h, b5i⟩ := a4e a3z.out))
     refine bodyPost_ret (a2T rfl _ _ b4r 30 #[.int .i64 J7, .int .i64 d4M] (0, 0) _ rfl (l9 (l9 (E5 (E5 (E5 a3z.out a4h.out _) a4h.out _) a4h.out _) 0 _ rfl) 1 _ rfl) Tryd.underlying30 rfl (by kernel_rfl)) rfl ?_; exact ⟨_, by (rfl), by exact Kd.Y3 (Kd.a1m (p := ⟨b4r, 1, none⟩) (Kd.a1m (p := ⟨b4r, 0, none⟩) (Kd.a1m (p := ⟨a4P, 2, none⟩) (Kd.a1m (p := ⟨a4P, 1, none⟩) (Kd.a1m (p := ⟨a4P, 0, none⟩) (Kd.a4C (Kd.Y3 a1I.out (fun k_ hk => (⟨hk, hk.2⟩ : _ ∧ k_ ≠ a4P))) a3z.out (by decide)) (fun _ hk => hk.1.2) (.int .i64 b7d)) (fun _ hk => hk.1.2) (.int .u32 t171)) (fun _ hk => hk.1.2) (.slice a5g b1E.length a5h)) (fun _ hk => hk.2) (.int .i64 J7)) (fun _ hk => hk.2) (.int .i64 d4M)) (fun _ hk => trivial), by repeat (with_reducible first | exact HB.out | refine o8 ?_ e07.out | refine o8 ?_ d4Q.out)⟩
   ·rw [if_neg c3] at H; have a3w := df_ c3; clear c3; obtain ⟨rfl, rfl, rfl⟩ := s3_ H; obtain ⟨d8u, d8v, d8w, d8x⟩ := a4e a3z.out
    go_wp2
    refine bodyPost_ret (a2T rfl _ _ b4r 30 #[.int .i64 0, .int .i64 0] (0, 0) _ rfl (l9 (l9 a3z.out 0 _ rfl) 1 _ rfl) Tryd.underlying30 rfl (by kernel_rfl)) rfl ?_; exact ⟨_, by (rfl), by exact Kd.Y3 (Kd.a1m (p := ⟨b4r, 1, none⟩) (Kd.a1m (p := ⟨b4r, 0, none⟩) (Kd.a4C a1I.out a3z.out (by decide)) (fun _ hk => hk.2) (.int .i64 0)) (fun _ hk => hk.2) (.int .i64 0)) (fun _ hk => trivial), by repeat (with_reducible first | exact HB.out | refine o8 ?_ e07.out)⟩
def V9.l0 : Nat → List (S42) → List (S42) → Int → Option (Bool)
 | 0, _, _, _ => none
 | k + 1, x0, x1, x5 => if x5 < (x0.length : Int) then (if 0 ≤ x5 then (if x5 < (x1.length : Int) then (if ((y7 x0 x5).f0) = ((y7 x1 x5).f0) then (if ((y7 x0 x5).f1) = ((y7 x1 x5).f1) then (if (strOfNums ((y7 x0 x5).f2)).toList = (strOfNums ((y7 x1 x5).f2)).toList then (V9.l0 k x0 x1 (wrap64 (x5 + 1))) else (some false)) else (some false)) else (some false)) else (none)) else (none)) else (some true)
def V9.f (k : Nat) (l0 : List (S42)) (l1 : List (S42)) : Option (Bool) := if (l0.length : Int) = (l1.length : Int) then (V9.l0 k l0 l1 0) else (some false)
theorem V9.calls (k : Nat) (A0 : Option Addr) (c0 : Nat) (l0 : List (S42)) (A1 : Option Addr) (c1 : Nat) (l1 : List (S42)) (r : Bool) (w : World) (hr0 : Kd.C k42 w A0 l0.length l0) (hc0 : l0.length ≤ c0) (hr1 : Kd.C k42 w A1 l1.length l1) (hc1 : l1.length ≤ c1) (h : V9.f k l0 l1 = some r) :
  Calls Tryd.prog 12 #[.slice A0 l0.length c0, .slice A1 l1.length c1] w fun e w' => e = .returned (.bool r) ∧ G6 w w' := by
 have HR0 := a_ hr0
 have HC0 := a_ hc0
 clear hr0 hc0
 have HR1 := a_ hr1
 have HC1 := a_ hc1
 clear hr1 hc1
 have H := h
 clear h
 unfold V9.f at H
 by_cases c3 : (l0.length : Int) = (l1.length : Int)
 ·rw [if_pos c3] at H; have a3w := beq_iff_eq.mpr c3; have b1t := bne_eq_false_iff_eq.mpr c3; have f0U : (l0.length == l1.length) = true := by (simp at c3 ⊢; omega)
  clear c3; have H' := a_ H; clear H
  go_enter Tryd.func12, Tryd.ntmps12
  go_wp2
  go_loopg [5] k (fun kq v5 w' => ∃ (J7 : Int), v5 = .int .i64 J7 ∧ Aside0 (V9.l0 kq l0 l1 J7 = some r) ∧ Aside0 (kq ≤ k) ∧ G6 w w')
  case atStart => exact ⟨(0), (by rfl), H', ⟨Nat.le_refl _⟩, by exact G6.refl _⟩
  case round =>
   clear H'
   try clear a3w
   try clear b1t
   try clear f0U
   obtain ⟨J7, rfl, HA, HK1, ⟨m1, rfl⟩⟩ := hrel
   cases gk with
   | zero => exact absurd HA.out (by simp [V9.l0])
   | succ k1 =>
    have H := HA.out; clear HA
    simp only [V9.l0] at H
    by_cases c4 : J7 < (l0.length : Int)
    ·rw [if_pos c4] at H; have a3x := dt_ c4; clear c4; have a7h := a2Q H; replace H := O6 H; have a5Y := a2Q H; replace H := O6 H
     by_cases c7 : ((y7 l0 J7).f0) = ((y7 l1 J7).f0)
     ·rw [if_pos c7] at H; obtain ⟨a5H, b3Y⟩ := bt_ c7; clear c7
      by_cases c8 : ((y7 l0 J7).f1) = ((y7 l1 J7).f1)
      ·rw [if_pos c8] at H; obtain ⟨a9G, c9t⟩ := bt_ c8; clear c8
       by_cases c9 : (strOfNums ((y7 l0 J7).f2)).toList = (strOfNums ((y7 l1 J7).f2)).toList
       ·rw [if_pos c9] at H; obtain ⟨a6P, b1o⟩ := bt_ c9; clear c9; have H' := a_ H; clear H; have b1F : 0 ≤ (J7 : Int) := U9; have b1G : J7 < (l0.length : Int) := U9; obtain ⟨b4s, b1H, b1I, c4m, b9F, b9G, a7y, a5j, a5k⟩ := a0I HR0.out J7 b1F b1G
        cases c4m
        have b9H := a_ a5k; have b9I := a_ a5j; clear a5k a5j; replace b1F := eq_true b1F; replace b1G := eq_true b1G; have b1J : 0 ≤ (J7 : Int) := U9; have b1K : J7 < (l1.length : Int) := U9; obtain ⟨b4t, b1L, b1M, c4n, b9J, b9K, a7z, a5l, a5m⟩ := a0I HR1.out J7 b1J b1K
        cases c4n
        have b9L := a_ a5m; have b9M := a_ a5l; clear a5m a5l; replace b1J := eq_true b1J; replace b1K := eq_true b1K; have b7e : 0 ≤ (J7 : Int) := U9; have b7f : J7 < (l0.length : Int) := U9; obtain ⟨c2k, d4R, d4S, e203, c7t, c7u, b2Z, a7A, a7B⟩ := a0I HR0.out J7 b7e b7f; obtain rfl : b4s = c2k := (by injection e203); have c7v := a_ a7B; have c7w := a_ a7A; clear a7B a7A; replace b7e := eq_true b7e; replace b7f := eq_true b7f; have ea_ := oj_ (a7y.symm.trans b2Z); injection ea_ with ea_ en_ ec_
        subst ea_; subst ec_; clear en_; have b7g : 0 ≤ (J7 : Int) := U9; have b7h : J7 < (l1.length : Int) := U9; obtain ⟨c2l, d4T, d4U, e204, c7x, c7y, b21, a7C, a7D⟩ := a0I HR1.out J7 b7g b7h; obtain rfl : b4t = c2l := (by injection e204); have c7z := a_ a7D; have c7A := a_ a7C; clear a7D a7C; replace b7g := eq_true b7g; replace b7h := eq_true b7h; have ea_ := oj_ (a7z.symm.trans b21); injection ea_ with ea_ en_ ec_
        subst ea_; subst ec_; clear en_; have c4o : 0 ≤ (J7 : Int) := U9; have c4p : J7 < (l0.length : Int) := U9; obtain ⟨d4V, e4M, e4N, e4O, d83, d84, b9N, b23, b24⟩ := a0I HR0.out J7 c4o c4p; obtain rfl : b4s = d4V := (by injection e4O); have b26 := a_ b24; have d85 := a_ b23; clear b24 b23; replace c4o := eq_true c4o; replace c4p := eq_true c4p; have ea_ := oj_ (a7y.symm.trans b9N); injection ea_ with ea_ en_ ec_
        subst ea_; subst ec_; clear en_; have g5P := fun m_ : Nat => Kd.a5S (P := Tryd.prog) (A := b1H) (c := b1I) Tryd.underlying22 Tryd.underlying5 Tryd.underlying9 (Kd.a8q b26.out m_)
        have g5Q := Kd.a5S (P := Tryd.prog) (A := b1H) (c := b1I) Tryd.underlying22 Tryd.underlying5 Tryd.underlying9 b26.out; have c4q : 0 ≤ (J7 : Int) := U9; have c4r : J7 < (l1.length : Int) := U9; obtain ⟨d4W, e4P, e4Q, e206, d86, d87, b9O, b29, b3a⟩ := a0I HR1.out J7 c4q c4r; obtain rfl : b4t = d4W := (by injection e206); have b3b := a_ b3a; have d88 := a_ b29; clear b3a b29; replace c4q := eq_true c4q; replace c4r := eq_true c4r; have ea_ := oj_ (a7z.symm.trans b9O); injection ea_ with ea_ en_ ec_
        subst ea_; subst ec_; clear en_; have g5R := fun m_ : Nat => Kd.a5S (P := Tryd.prog) (A := b1L) (c := b1M) Tryd.underlying22 Tryd.underlying5 Tryd.underlying9 (Kd.a8q b3b.out m_)
        have g5S := Kd.a5S (P := Tryd.prog) (A := b1L) (c := b1M) Tryd.underlying22 Tryd.underlying5 Tryd.underlying9 b3b.out
        go_wp2
        repeat (go_quiet (fail); try go_wp2)
        go_roundg k1
        case measure => have := HK1.out; omega
        case rel => exact ⟨(wrap64 (J7 + 1)), (by rfl), H', ⟨by have := HK1.out; omega⟩, by repeat (first | exact G6.refl _ | apply G6.step)⟩
       ·rw [if_neg c9] at H; have a6P := bq_ c9; have b1o := bn_ c9; obtain rfl := oj_ H; have b1F : 0 ≤ (J7 : Int) := U9; have b1G : J7 < (l0.length : Int) := U9; obtain ⟨b4s, b1H, b1I, c4m, b9F, b9G, a7y, a5j, a5k⟩ := a0I HR0.out J7 b1F b1G
        cases c4m
        have b9H := a_ a5k; have b9I := a_ a5j; clear a5k a5j; replace b1F := eq_true b1F; replace b1G := eq_true b1G; have b1J : 0 ≤ (J7 : Int) := U9; have b1K : J7 < (l1.length : Int) := U9; obtain ⟨b4t, b1L, b1M, c4n, b9J, b9K, a7z, a5l, a5m⟩ := a0I HR1.out J7 b1J b1K
        cases c4n
        have b9L := a_ a5m; have b9M := a_ a5l; clear a5m a5l; replace b1J := eq_true b1J; replace b1K := eq_true b1K; have b7e : 0 ≤ (J7 : Int) := U9; have b7f : J7 < (l0.length : Int) := U9; obtain ⟨c2k, d4R, d4S, e203, c7t, c7u, b2Z, a7A, a7B⟩ := a0I HR0.out J7 b7e b7f; obtain rfl : b4s = c2k := (by injection e203); have c7v := a_ a7B; have c7w := a_ a7A; clear a7B a7A; replace b7e := eq_true b7e; replace b7f := eq_true b7f; have ea_ := oj_ (a7y.symm.trans b2Z); injection ea_ with ea_ en_ ec_
        subst ea_; subst ec_; clear en_; have b7g : 0 ≤ (J7 : Int) := U9; have b7h : J7 < (l1.length : Int) := U9; obtain ⟨c2l, d4T, d4U, e204, c7x, c7y, b21, a7C, a7D⟩ := a0I HR1.out J7 b7g b7h; obtain rfl : b4t = c2l := (by injection e204); have c7z := a_ a7D; have c7A := a_ a7C; clear a7D a7C; replace b7g := eq_true b7g; replace b7h := eq_true b7h; have ea_ := oj_ (a7z.symm.trans b21); injection ea_ with ea_ en_ ec_
        subst ea_; subst ec_; clear en_; have c4o : 0 ≤ (J7 : Int) := U9; have c4p : J7 < (l0.length : Int) := U9; obtain ⟨d4V, e4M, e4N, e4O, d83, d84, b9N, b23, b24⟩ := a0I HR0.out J7 c4o c4p; obtain rfl : b4s = d4V := (by injection e4O); have b26 := a_ b24; have d85 := a_ b23; clear b24 b23; replace c4o := eq_true c4o; replace c4p := eq_true c4p; have ea_ := oj_ (a7y.symm.trans b9N); injection ea_ with ea_ en_ ec_
        subst ea_; subst ec_; clear en_; have g5T := fun m_ : Nat => Kd.a5S (P := Tryd.prog) (A := b1H) (c := b1I) Tryd.underlying22 Tryd.underlying5 Tryd.underlying9 (Kd.a8q b26.out m_)
        have g5U := Kd.a5S (P := Tryd.prog) (A := b1H) (c := b1I) Tryd.underlying22 Tryd.underlying5 Tryd.underlying9 b26.out; have c4q : 0 ≤ (J7 : Int) := U9; have c4r : J7 < (l1.length : Int) := U9; obtain ⟨d4W, e4P, e4Q, e206, d86, d87, b9O, b29, b3a⟩ := a0I HR1.out J7 c4q c4r; obtain rfl : b4t = d4W := (by injection e206); have b3b := a_ b3a; have d88 := a_ b29; clear b3a b29; replace c4q := eq_true c4q; replace c4r := eq_true c4r; have ea_ := oj_ (a7z.symm.trans b9O); injection ea_ with ea_ en_ ec_
        subst ea_; subst ec_; clear en_; have g5V := fun m_ : Nat => Kd.a5S (P := Tryd.prog) (A := b1L) (c := b1M) Tryd.underlying22 Tryd.underlying5 Tryd.underlying9 (Kd.a8q b3b.out m_)
        have g5W := Kd.a5S (P := Tryd.prog) (A := b1L) (c := b1M) Tryd.underlying22 Tryd.underlying5 Tryd.underlying9 b3b.out
        go_wp2
        repeat (go_quiet (fail); try go_wp2)
        go_ret
        exact ⟨by (rfl), by repeat (first | exact G6.refl _ | apply G6.step)⟩
      ·rw [if_neg c8] at H; have a9G := bq_ c8; have c9t := bn_ c8; obtain rfl := oj_ H; have b1F : 0 ≤ (J7 : Int) := U9; have b1G : J7 < (l0.length : Int) := U9; obtain ⟨b4s, b1H, b1I, c4m, b9F, b9G, a7y, a5j, a5k⟩ := a0I HR0.out J7 b1F b1G
       cases c4m
       have b9H := a_ a5k; have b9I := a_ a5j; clear a5k a5j; replace b1F := eq_true b1F; replace b1G := eq_true b1G; have b1J : 0 ≤ (J7 : Int) := U9; have b1K : J7 < (l1.length : Int) := U9; obtain ⟨b4t, b1L, b1M, c4n, b9J, b9K, a7z, a5l, a5m⟩ := a0I HR1.out J7 b1J b1K
       cases c4n
       have b9L := a_ a5m; have b9M := a_ a5l; clear a5m a5l; replace b1J := eq_true b1J; replace b1K := eq_true b1K; have b7e : 0 ≤ (J7 : Int) := U9; have b7f : J7 < (l0.length : Int) := U9; obtain ⟨c2k, d4R, d4S, e203, c7t, c7u, b2Z, a7A, a7B⟩ := a0I HR0.out J7 b7e b7f; obtain rfl : b4s = c2k := (by injection e203); have c7v := a_ a7B; have c7w := a_ a7A; clear a7B a7A; replace b7e := eq_true b7e; replace b7f := eq_true b7f; have ea_ := oj_ (a7y.symm.trans b2Z); injection ea_ with ea_ en_ ec_
       subst ea_; subst ec_; clear en_; have b7g : 0 ≤ (J7 : Int) := U9; have b7h : J7 < (l1.length : Int) := U9; obtain ⟨c2l, d4T, d4U, e204, c7x, c7y, b21, a7C, a7D⟩ := a0I HR1.out J7 b7g b7h; obtain rfl : b4t = c2l := (by injection e204); have c7z := a_ a7D; have c7A := a_ a7C; clear a7D a7C; replace b7g := eq_true b7g; replace b7h := eq_true b7h; have ea_ := oj_ (a7z.symm.trans b21); injection ea_ with ea_ en_ ec_
       subst ea_; subst ec_; clear en_
       go_wp2
       repeat (go_quiet (fail); try go_wp2)
       go_ret
       exact ⟨by (rfl), by repeat (first | exact G6.refl _ | apply G6.step)⟩
     ·rw [if_neg c7] at H; have a5H := bq_ c7; have b3Y := bn_ c7; obtain rfl := oj_ H; have b1F : 0 ≤ (J7 : Int) := U9; have b1G : J7 < (l0.length : Int) := U9; obtain ⟨b4s, b1H, b1I, c4m, b9F, b9G, a7y, a5j, a5k⟩ := a0I HR0.out J7 b1F b1G
      cases c4m
      have b9H := a_ a5k; have b9I := a_ a5j; clear a5k a5j; replace b1F := eq_true b1F; replace b1G := eq_true b1G; have b1J : 0 ≤ (J7 : Int) := U9; have b1K : J7 < (l1.length : Int) := U9; obtain ⟨b4t, b1L, b1M, c4n, b9J, b9K, a7z, a5l, a5m⟩ := a0I HR1.out J7 b1J b1K
      cases c4n
      have b9L := a_ a5m; have b9M := a_ a5l; clear a5m a5l; replace b1J := eq_true b1J; replace b1K := eq_true b1K
      go_wp2
      repeat (go_quiet (fail); try go_wp2)
      go_ret
      exact ⟨by (rfl), by repeat (first | exact G6.refl _ | apply G6.step)⟩
    ·rw [if_neg c4] at H; have a3x := df_ c4; clear c4; obtain rfl := oj_ H
     go_wp2
     go_ret
     exact ⟨by (rfl), by repeat (first | exact G6.refl _ | apply G6.step)⟩
 ·rw [if_neg c3] at H; have a3w := bq_ c3; have b1t := bn_ c3; have f0U : (l0.length == l1.length) = false := by (simp at c3 ⊢; omega)
  obtain rfl := oj_ H
  go_enter Tryd.func12, Tryd.ntmps12
  go_wp2
  go_ret
  exact ⟨by (rfl), by exact G6.refl _⟩
end Go.Proofs.YtgnonglkibhnhaaDoor.Print
