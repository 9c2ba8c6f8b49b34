-- laid together by this session's own program (wip/tools/merge.py) of texts that its program laid
import Derived.Test.YtgnonglkibhnhaaDoorF81
import Derived.Test.YtgnonglkibhnhaaDoorF64
import Derived.Test.YtgnonglkibhnhaaDoorM3
namespace Go.Proofs.YtgnonglkibhnhaaDoor.Print
open Go.RowKit Go.Proofs.YtgnonglkibhnhaaDoorW.PrintWords Go.Proofs.YtgnonglkibhnhaaDoorW.PrintLast Go.Proofs.YtgnonglkibhnhaaDoorW.PrintMore
attribute [local go_sem] a0n a0o a0P a0Q Y4 Y5 a0p a0q
set_option linter.unusedVariables false
set_option linter.unusedSimpArgs false
set_option maxHeartbeats 16000000
set_option maxRecDepth 100000
def a1y.f (k : Nat) (l0 : List Int) : Option (Int × List Int × Int) := (head_Read.f k l0).bind fun d0x => (if d0x.2.2 = 0 then ((a4s.f l0 d0x.2.1).bind fun t148 => (some (d0x.1, t148, 0))) else (some (0, ([] : List Int), d0x.2.2)))
def a1y.T4 : Bool × List (List Nat × List Nat) := (true, [([], []), ([0], [0]), ([], []), ([], []), ([3], [3]), ([2, 4], [2, 4]), ([1, 5, 0, 1], [1]), ([5, 6, 0, 1, 2, 3, 4, 5, 6], [5]), ([7, 0, 1, 2, 3, 4, 5, 6, 7], [])])
def a1y.B4 : List Nat := [0, 1, 0, 0, 8, 28, 63, 127, 255]
theorem a1y.d2o : a3b .any (opsOf Tryd.f63 4) = a1y.T4 := by kernel_rfl
theorem a1y.c0c : a2C a1y.T4.2 a1y.B4 = true := by kernel_rfl
theorem a1y.calls (k : Nat) (A0 : Option Addr) (c0 : Nat) (l0 : List Int) (r1 : Int) (r2 : List Int) (r3 : Int) (w : World) (hr0 : Kd.C (Kd.int .u8) w A0 l0.length l0) (hc0 : l0.length ≤ c0) (h : a1y.f k l0 = some (r1, r2, r3)) :
  Calls Tryd.prog 63 #[.slice A0 l0.length c0] w fun e w' => ∃ v1_ : Value, e = .returned (.tuple #[.int .i64 r1, v1_, .int .i64 r3]) ∧ Kd.R (Kd.int .u8) 5 w' w.heap.size (fun _ => True) v1_ r2 ∧ Below w.heap.size w w' := by
 have d5A := Tryd.underlying122
 have HR0 := a_ hr0
 have HC0 := a_ hc0
 clear hr0 hc0
 have HB := a_ (Below.refl w.heap.size w)
 have H := h
 clear h
 unfold a1y.f at H
 obtain ⟨⟨c7s, t145, t146⟩, A2, H⟩ := bd_ H
 try dsimp only at H
 by_cases c3 : t146 = 0
 ·rw [if_pos c3] at H; obtain ⟨a3O, b09⟩ := bt_ c3; clear c3; obtain ⟨t148, A4, H⟩ := bd_ H
  (try dsimp only at H); obtain ⟨rfl, rfl, rfl⟩ := s3_ H
  go_enter Tryd.func63, Tryd.ntmps63
  try go_wp2_with (first | (refine gl_ (some 9) Tryd.func81 #[.slice A0 l0.length c0] ?_; (with_reducible refine (head_Read.calls k _ _ l0 c7s t145 t146 _ HR0.out HC0.out A2.out).mono ?_); rintro e w5 ⟨rfl, hb⟩; refine ⟨_, rfl, ?_⟩; replace HB := U9 HB hb; (try clear hb)) | (refine be_ 5 #[.int .i64 0, .int .i64 0] 122 ?_; intro b3p hg w6 hbox hb; have a8W := a_ hbox; have d6b := lb_ HB hg; replace HB := U9 HB hb; clear hb hbox hg; obtain ⟨d4N, d4O, d4P, d4Q⟩ := a1p a8W.out))
  have n0_ : Aside0 (((w6.setCell ⟨b3p, 0, none⟩ (.int .i64 c7s)).setCell ⟨b3p, 1, none⟩ (.int .i64 t145)).heap[b3p]? = some (.cells #[.int .i64 c7s, .int .i64 t145] 122 (0, 0))) := ⟨l9 (l9 a8W.out 0 _ rfl) 1 _ rfl⟩; have n1_ : Aside0 (Below w.heap.size w ((w6.setCell ⟨b3p, 0, none⟩ (.int .i64 c7s)).setCell ⟨b3p, 1, none⟩ (.int .i64 t145))) := ⟨by repeat (with_reducible first | exact HB.out | refine o7 ?_ d6b.out)⟩
  (try clear a8W)
  (try clear HB)
  generalize ((w6.setCell ⟨b3p, 0, none⟩ (.int .i64 c7s)).setCell ⟨b3p, 1, none⟩ (.int .i64 t145)) = w8 at n0_ n1_ ⊢; have a8W := n0_; have HB := n1_; clear n0_ n1_; replace a8W := a_ (G8 a8W.out); replace HB := a_ (Y3 HB.out); refine a2x (n := 9) (S := fun w' => w'.cell? ⟨b3p, 0, none⟩ = some (.int .i64 c7s) ∧ w'.cell? ⟨b3p, 1, none⟩ = some (.int .i64 t145)) (ds := []) (bo_ 9 0) (by kernel_rfl) rfl rfl ⟨bc0 a8W, bc1 a8W⟩ (fun hHeld => ?_); refine a2D a1y.d2o a1y.c0c (fun Z8 HW_ => ?_); generalize w8.drew = w9 at a8W HB hHeld ⊢; refine pu_ 0 (some 15) Z8 ?_; refine pu_ 2 (some 17) Z8 ?_; refine pu_ 3 (some 18) Z8 ?_; refine a1w (i := 1) (N := some 16) (v := ?_) (a' := ?_) (bo_ 9 15) rfl rfl (a1x Z8.out HW_.out (by kernel_rfl)) (fun _ _ _ h => h) (Or.inl ⟨by rfl, ?_⟩) hHeld ?_ ?_
  rotate_left
  ·rintro w' ⟨s0, s1⟩
   go_simp
   with_reducible rfl
  rotate_left
  ·simp only [Act.put, List.setIfInBounds_toArray, List.set_cons_zero, List.set_cons_succ, a0I, a1W]
   rfl
  refine a1w (i := 4) (N := some 19) (v := ?_) (a' := ?_) (bo_ 9 31) rfl rfl (a1x Z8.out HW_.out (by kernel_rfl)) (fun _ _ _ h => h) (Or.inl ⟨by rfl, ?_⟩) hHeld ?_ ?_
  rotate_left
  ·rintro w' ⟨s0, s1⟩
   go_simp
   with_reducible rfl
  rotate_left
  ·simp only [Act.put, List.setIfInBounds_toArray, List.set_cons_zero, List.set_cons_succ, a0I, a1W]
   rfl
  refine a6e (i := 5) (N := some 20) (bo_ 9 63) rfl rfl (a1I Z8.out (by kernel_rfl)) (by decide) (fun K hK => ?_); refine a5g Tryd.func82 (by kernel_rfl) rfl #[.slice A0 l0.length c0, .int .i64 t145] (by rfl) rfl rfl (by (try simp only [List.map_toArray, List.map_cons, List.map_nil]); (rfl)) ?_
  with_reducible refine (a4s.calls _ _ l0 t145 t148 _ ?P5 ?P6 A4.out).mono ?_
  (case P5 => exact (Kd.C9 HR0.out HB.out))
  (case P6 => exact HC0.out)
  rintro e w10 ⟨h1w, rfl, ho0, hb⟩; refine ⟨_, rfl, ?_⟩; have f3P := rl_ ho0 HB; replace a8W := X4 a8W hb; replace HB := U9 HB hb
  (try clear hb)
  (try clear ho0)
  refine hK.out _ _ ⟨bc0 a8W, bc1 a8W⟩ (fun hHeld => ?_); clear hK K; refine nm_ (some 20) ?_; refine pu_ 6 (some 2) Z8 ?_; refine pu_ 7 (some 3) Z8 ?_; refine pu_ 8 (some 4) Z8 ?_; refine a4y (a5v Z8.out (by kernel_rfl)) ?_
  try go_wp2
  go_ret3
  exact ⟨_, by (rfl), by exact f3P.out, by exact HB.out⟩
 ·rw [if_neg c3] at H; have a3O := bq_ c3; have b09 := bn_ c3; obtain ⟨rfl, rfl, rfl⟩ := s3_ H
  go_enter Tryd.func63, Tryd.ntmps63
  go_wp2_with (first | (refine gl_ (some 9) Tryd.func81 #[.slice A0 l0.length c0] ?_; (with_reducible refine (head_Read.calls k _ _ l0 c7s t145 t146 _ HR0.out HC0.out A2.out).mono ?_); rintro e w11 ⟨rfl, hb⟩; refine ⟨_, rfl, ?_⟩; replace HB := U9 HB hb; (try clear hb)) | (refine be_ 5 #[.int .i64 0, .int .i64 0] 122 ?_; intro b3p hg w12 hbox hb; have a8W := a_ hbox; have d6b := lb_ HB hg; replace HB := U9 HB hb; clear hb hbox hg; obtain ⟨b2y, b2z, b2A, b2B⟩ := a1p a8W.out))
  go_ret3
  exact ⟨_, by (rfl), by (exact Kd.Y1 _ _ _ _ _), by repeat (with_reducible first | exact HB.out | refine o7 ?_ d6b.out)⟩
def a1q.f (k : Nat) (l0 : List S42) (a1 : Int) (l2 : List Int) : Option (List S42) := (a1y.f k l2).bind fun t => if t.2.2 = 0 then (if l0.length < 3518437208883 then some (l0 ++ [(⟨a1, t.1, t.2.1⟩ : S42)]) else none) else some l0
structure Longer (W W' : World) (base : Nat) (ok : Nat → Prop) (v v' : Value) (r : List S42) : Prop where
 row : Kd.S k42 42 W' base ok v' r
 grown : W.grownBy W' v.ownBlock
 at_ : v'.ownBlock = v.ownBlock ∨ ∃ b, v'.ownBlock = some b ∧ W.heap.size ≤ b
theorem a1q.calls (k : Nat) (base : Nat) (ok : Nat → Prop) (v : Value) (l0 : List S42) (a1 : Int) (A2 : Option Addr) (c2 : Nat) (l2 : List Int) (r : List S42) (W : World) (hS : Kd.S k42 42 W base ok v l0) (hf : ∀ k, W.heap.size ≤ k → ok k) (hb : base ≤ W.heap.size) (hr2 : Kd.C (Kd.int .u8) W A2 l2.length l2) (hc2 : l2.length ≤ c2) (h : a1q.f k l0 a1 l2 = some r) :
  Calls Tryd.prog 43 #[v, .int .i64 a1, .slice A2 l2.length c2] W fun e W' => ∃ v', e = .returned v' ∧ Aside0 (Longer W W' base ok v v' r) ∧ Aside0 (Below base W W') := by
 obtain ⟨⟨t0, t1, t2⟩, ht, h⟩ := Option.bind_eq_some_iff.1 h
 have HT := a_ ht
 have HS := a_ hS
 have HF := a_ hf
 have HB := a_ hb
 have HR2 := a_ hr2
 have HC2 := a_ hc2
 have HLT := a_ (Kd.b9m hS)
 obtain ⟨A0, c0, rfl⟩ := Kd.a6c hS
 clear hS hf hb hr2 hc2 ht
 by_cases hw : t2 = 0
 ·subst hw; rw [if_pos rfl] at h
  by_cases hl : l0.length < 3518437208883
  ·rw [if_pos hl] at h; obtain rfl := oj_ h; have HL := a_ hl; clear h hl
   go_enter Tryd.func43, Tryd.ntmps43
   go_wp2_with (fail)
   refine (a1y.calls k A2 c2 l2 t0 t1 0 _ HR2.out HC2.out HT.out).mono ?_; rintro e w1 ⟨v1, rfl, ho, hb1⟩; obtain ⟨A1, c1, rfl⟩ := Kd.G7 ho; have HO := a_ ho; have HB1 := a_ hb1; have S1 := a_ (Kd.d3e HS.out hb1); clear ho hb1
   go_wp2_with (((with_reducible refine E5 (b := .append) (xs := #[.tmp 19, .tmp 24]) rfl ?_); at_builtin; refine Kd.a7y k42 (w0 := w1) base rfl (.tmp 19) (.tmp 24) 27 42 (.agg #[(.int .i64 0), (.int .i64 0), (.slice none 0 0)]) 40 rfl Tryd.underlying27 info42 rfl (by decide) (by omega) (.slice A0 l0.length c0) l0 (⟨a1, t0, t1⟩ : S42) [.int .i64 a1, .int .i64 t0, .slice A1 t1.length c1] ok (fun k_ => some k_ = (.slice A1 t1.length c1 : Value).ownBlock) rfl rfl ?aP ?aK ?aF ?aO ?aB ?aS ?aL ?_; (case aP => exact c7Z _ _ _ (⟨a1, t0, t1⟩ : S42) (Kd.a3r rfl (Kd.a0e HO.out HB.out))); (case aK => exact fun k_ hk => ⟨HF.out k_ (Kd.a0H HO.out k_ hk.symm), fun e_ => by have h1 := Kd.a0H HO.out k_ hk.symm; have h2 := HLT.out k_ e_.symm; omega⟩); (case aF => exact fun k_ hk => HF.out k_ (Nat.le_trans HB1.out.size hk)); (case aO => exact Kd.N8 S1.out (fun k_ hk => ⟨hk.1, fun e_ => by have h1 := Kd.a0H HO.out k_ e_.symm; have h2 := hk.2; omega⟩)); (case aB => exact Below.refl _ _); (case aS => exact Nat.le_trans HB.out HB1.out.size); (case aL => have := HL.out; omega); intro v5 w5 ho hb5 hg hat; have HO5 := a_ ho; have HB5 := a_ hb5; have HG5 := a_ hg; have HA5 := a_ hat; clear ho hb5 hg hat))
   go_ret
   refine ⟨_, rfl, ⟨HO5.out, ?_, ?_⟩, ⟨(HB1.out.mono HB.out).trans HB5.out⟩⟩
   ·exact (a4a HB1.out _).trans HG5.out
   ·rcases HA5.out with h | ⟨b, h, hle⟩
    ·exact .inl h
    ·exact .inr ⟨b, h, Nat.le_trans HB1.out.size hle⟩
  ·rw [if_neg hl] at h
   cases h
 ·rw [if_neg hw] at h; obtain rfl := oj_ h; have e1 : (t2 != 0) = true := by simpa using hw
  have e2 : decide (t2 = 0) = false := by simpa using hw
  have e3 : (t2 == 0) = false := by simpa using hw
  clear h
  go_enter Tryd.func43, Tryd.ntmps43
  go_wp2_with (fail)
  refine (a1y.calls k A2 c2 l2 t0 t1 t2 _ HR2.out HC2.out HT.out).mono ?_; rintro e w1 ⟨v1, rfl, ho, hb1⟩; obtain ⟨A1, c1, rfl⟩ := Kd.G7 ho; have HB1 := a_ hb1; clear ho hb1
  go_wp2
  go_ret
  exact ⟨_, rfl, ⟨Kd.a4o HS.out HB1.out, a4a HB1.out _, .inl rfl⟩, ⟨HB1.out.mono HB.out⟩⟩
def a1z.l0 : Nat → List Int → List (S58) → Int → Option ((List (S58)) × Int × Int)
 | 0, _, _, _ => none
 | k + 1, x0, x4, x5 => if x5 < (x0.length : Int) then (if 0 ≤ x5 then (if x5 ≤ (x0.length : Int) then ((dump_Next.f k (x0.drop (x5 : Int).toNat)).bind fun c0q => (if c0q.2.2.2.2 = 0 then (if x4.length < 3518437208883 then (a1z.l0 k x0 (x4 ++ [(⟨c0q.1, c0q.2.1, c0q.2.2.1⟩ : S58)]) (wrap64 (x5 + c0q.2.2.2.1))) else (none)) else (some (x4, x5, c0q.2.2.2.2)))) else (none)) else (none)) else (some (x4, 0, 0))
def a1z.f (k : Nat) (l0 : List Int) : Option ((List (S58)) × Int × Int) := a1z.l0 k l0 ([] : List (S58)) 0
theorem a1z.calls (k : Nat) (A0 : Option Addr) (c0 : Nat) (l0 : List Int) (r1 : List (S58)) (r2 : Int) (r3 : Int) (w : World) (hG0 : Kd.C b3v w (some ⟨0, 0, none⟩) 8 H6) (hr0 : Kd.C (Kd.int .u8) w A0 l0.length l0) (hc0 : l0.length ≤ c0) (h : a1z.f k l0 = some (r1, r2, r3)) :
  Calls Tryd.prog 44 #[.slice A0 l0.length c0] w fun e w' => ∃ v0_ : Value, e = .returned (.tuple #[v0_, .agg #[.int .i64 r2, .int .i64 r3]]) ∧ Kd.S k58 58 w' w.heap.size (fun _ => True) v0_ r1 ∧ Below w.heap.size w w' := by
 have a7R := Tryd.underlying30
 have c6F := Tryd.underlying58
 have HR0 := a_ hr0
 have HC0 := a_ hc0
 clear hr0 hc0
 have a5T := a_ hG0
 clear hG0
 have HB := a_ (Below.refl w.heap.size w)
 have H := h
 clear h
 unfold a1z.f at H
 have H' := a_ H
 clear H
 go_enter Tryd.func44, Tryd.ntmps44
 go_wp2_with (first | (refine be_ 3 #[.int .i64 0, .int .i64 0] 30 ?_; intro b6o hg w2 hbox hb; have a4E := a_ hbox; have e4a := lb_ HB hg; replace HB := U9 HB hb; clear hb hbox hg))
 go_loopg [4, 5] k (fun kq v4 v5 w' => ∃ (a2H : List (S58)) (J9 : Int) (b2K : Int) (b2L : Int), v5 = .int .i64 J9 ∧ Aside0 (a1z.l0 kq l0 a2H J9 = some (r1, r2, r3)) ∧ Aside0 (kq ≤ k) ∧ Aside0 (Kd.S k58 58 w' w.heap.size (fun _ => True) v4 a2H) ∧ Aside0 (w'.heap[b6o]? = some (.cells #[.int .i64 b2K, .int .i64 b2L] 30 (0, 0))) ∧ Aside0 (Below w.heap.size w w'))
 case atStart => exact ⟨([] : List (S58)), (0), (0), (0), (by rfl), H', ⟨Nat.le_refl _⟩, ⟨by (exact Kd.a5h _ _ _ _ _)⟩, ⟨by exact a4E.out⟩, ⟨by exact HB.out⟩⟩
 case round =>
  clear H'; obtain ⟨a2H, J9, b2K, b2L, rfl, HA, HK1, a1t, a4E, HB⟩ := hrel
  cases gk with
  | zero => exact absurd HA.out (by simp [a1z.l0])
  | succ k1 =>
   have H := HA.out; clear HA
   simp only [a1z.l0] at H
   by_cases c3 : J9 < (l0.length : Int)
   ·rw [if_pos c3] at H; have a3O := dt_ c3; clear c3; have c4 := Z7 H; replace H := O5 H; have a4d := eq_true c4; have b1R := dt_ c4; clear c4; have c5 := Z7 H; replace H := O5 H; have a5y := eq_true c5; have b0H := dt_ c5; clear c5; obtain ⟨⟨b8O, t171, b3S, t175, d6c⟩, A6, H⟩ := bd_ H
    try dsimp only at H
    by_cases c7 : d6c = 0
    ·rw [if_pos c7] at H; obtain ⟨a5U, a9R⟩ := bt_ c7; clear c7; have c8 := Z7 H; replace H := O5 H; have b5T := a_ c8; clear c8; obtain ⟨g4U, d6d⟩ := is_ ((a2H ++ [(⟨b8O, t171, b3S⟩ : S58)]) : List (S58)); rw [← d6d] at H; have f3Q := a_ d6d; clear d6d; have H' := a_ H; clear H; obtain ⟨i09, d6e, _, d6f, _⟩ := info_parts info5; obtain ⟨A9, f3R, hA9, hC9⟩ := a0N (P := Tryd.prog) (Value.int .u8) 0 22 5 .i64 Tryd.underlying22 d6e d6f A0 c0 l0 J9 (V9) (V9) HC0.out; have d6g := ci_ (Kd.Y8 (h1 := fun _ => rfl) (hA9 _ (Kd.Y2 HR0.out))); have d6h := a_ hC9; clear hA9 hC9 d6e d6f
     go_wp2_with (first | (refine gl_ (some 17) Tryd.func64 #[.slice A9 (l0.drop (J9 : Int).toNat).length (c0 - J9.toNat)] ?_ (hargs := by (try simp only [List.map_toArray, List.map_cons, List.map_nil]); (rw [show (l0.drop (J9 : Int).toNat).length = (l0.length - J9.toNat) from List.length_drop] <;> rfl)); (with_reducible refine (dump_Next.calls k1 _ _ (l0.drop (J9 : Int).toNat) b8O t171 b3S t175 d6c _ (Kd.C9 a5T.out HB.out) (Kd.C9 d6g.out HB.out) d6h.out A6.out).mono ?_); rintro e w10 ⟨v173, rfl, ho0, hb⟩; refine ⟨_, rfl, ?_⟩; have a94 := rl_ ho0 HB; replace a1t := rS_ a1t ho0 hb; replace a4E := X4 a4E hb; replace HB := U9 HB hb; (try clear hb); (try clear ho0)) | (refine be_ 6 #[.int .i64 0, .int .u32 0, .slice none 0 0] 58 ?_; intro a6o hg w11 hbox hb; have a95 := a_ hbox; have d6i := lb_ HB hg; obtain ⟨a5z, b5Z⟩ := nn_ a4E hg; replace a1t := se_ a1t hg hb; replace a94 := rb_ a94 hb; replace a4E := X4 a4E hb; replace HB := U9 HB hb; clear hb hbox hg; have d5B := b5Z.out; have d5C := a5z.out; obtain ⟨b2y, b2z, b62, b2A, b2B, b63⟩ := a1R a95.out; obtain ⟨a9C, a9D, d6j⟩ := Kd.G7 a94.out; subst d6j) | ((with_reducible refine a8E (t := 58) (p := 6) rfl ?_); refine a7w (t := 58) (p := 6) (v := ?e7P) (w1 := (((w11.setCell ⟨a6o, 0, none⟩ (.int .i64 b8O)).setCell ⟨a6o, 1, none⟩ (.int .u32 t171)).setCell ⟨a6o, 2, none⟩ (.slice a9C b3S.length a9D))) ?hg ?ho ?hn ?hr ?_; (case ho => rfl); (case hg => rfl); (case hn => rfl); (case hr => (go_simp; done)); intro w15 hw; have n0_ : Aside0 (Kd.S k58 58 w15 w.heap.size (fun k_ => some k_ ≠ (.slice a9C b3S.length a9D : Value).ownBlock ∧ k_ ≠ a6o) u4 a2H) := ⟨(by rw [hw]; exact (by exact Kd.N8 (Kd.V8 (p := ⟨a6o, 2, none⟩) (Kd.V8 (p := ⟨a6o, 1, none⟩) (Kd.V8 (p := ⟨a6o, 0, none⟩) (Kd.N8 a1t.out (fun k_ hk => (⟨hk, hk.2⟩ : _ ∧ k_ ≠ a6o))) (fun _ hk => hk.2) (.int .i64 b8O)) (fun _ hk => hk.2) (.int .u32 t171)) (fun _ hk => hk.2) (.slice a9C b3S.length a9D)) (fun _ hk => ⟨hk.1.1.2, hk.1.2⟩)))⟩; have n1_ : Aside0 (Kd.R (Kd.int .u8) 5 w15 w.heap.size (fun _ => True) (.slice a9C b3S.length a9D) b3S) := ⟨(by rw [hw]; exact (by exact Kd.D7 (Kd.V3 (p := ⟨a6o, 2, none⟩) (Kd.V3 (p := ⟨a6o, 1, none⟩) (Kd.V3 (p := ⟨a6o, 0, none⟩) (Kd.U2 a94.out a95.out (by decide)) (fun _ hk => hk.2) (.int .i64 b8O)) (fun _ hk => hk.2) (.int .u32 t171)) (fun _ hk => hk.2) (.slice a9C b3S.length a9D)) (fun _ hk => trivial)))⟩; have n2_ : Aside0 (w15.heap[b6o]? = some (.cells #[.int .i64 b2K, .int .i64 b2L] 30 (0, 0))) := ⟨(by rw [hw]; exact (o8 (o8 (o8 a4E.out a5z.out _) a5z.out _) a5z.out _))⟩; have n3_ : Aside0 (w15.heap[a6o]? = some (.cells #[.int .i64 b8O, .int .u32 t171, .slice a9C b3S.length a9D] 58 (0, 0))) := ⟨(by rw [hw]; exact (l9 (l9 (l9 a95.out 0 _ rfl) 1 _ rfl) 2 _ rfl))⟩; have n4_ : Aside0 (Below w.heap.size w w15) := ⟨(by rw [hw]; exact (by repeat (with_reducible first | exact HB.out | refine o7 ?_ d6i.out)))⟩; clear hw a1t a94 a4E a95 HB; have a1t := n0_; have a94 := n1_; have a4E := n2_; have a95 := n3_; have HB := n4_; clear n0_ n1_ n2_ n3_ n4_; obtain ⟨c1N, c1O, d0o, c1P, c1Q, d0p⟩ := a1R a95.out) | ((with_reducible refine E5 (b := .append) (xs := #[.tmp 27, .tmp 29]) rfl ?_); at_builtin; refine Kd.a7y k58 (w0 := w) w.heap.size rfl (.tmp 27) (.tmp 29) 54 58 (.agg #[(.int .i64 0), (.int .u32 0), (.slice none 0 0)]) 40 rfl Tryd.underlying54 info58 rfl (by decide) (by omega) u4 a2H (⟨b8O, t171, b3S⟩ : S58) [.int .i64 b8O, .int .u32 t171, .slice a9C b3S.length a9D] (fun k_ => k_ ≠ a6o) (fun k_ => some k_ = (.slice a9C b3S.length a9D : Value).ownBlock) rfl rfl ?aP (fun k_ hk_ => ((Kd.D7 (ok' := fun k_ => (fun k_ => k_ ≠ a6o) k_ ∧ some k_ ≠ (u4 : Value).ownBlock) (Kd.U2 (Kd.X5 (a94.out) (Kd.a2u a1t.out) (by decide)) a95.out (by decide)) (fun k_ hk => ⟨hk.2, hk.1.2⟩))).1 k_ hk_.symm) ?aF ?aO ?aB ?aS ?aL ?_; (case aP => exact c71 _ _ _ (⟨b8O, t171, b3S⟩ : S58) (Kd.D7 (Kd.a3r rfl (Kd.D7 (ok' := fun k_ => (fun k_ => k_ ≠ a6o) k_ ∧ some k_ ≠ (u4 : Value).ownBlock) (Kd.U2 (Kd.X5 (a94.out) (Kd.a2u a1t.out) (by decide)) a95.out (by decide)) (fun k_ hk => ⟨hk.2, hk.1.2⟩))) (fun _ h_ => h_))); (case aB => exact HB.out); (case aF => exact (fun k_ hk => Kd.a6v a95.out k_ hk)); (case aO => exact (by exact Kd.N8 a1t.out (fun k_ hk => ⟨hk.2, fun e_ => hk.1 e_⟩))); (case aS => exact (y5 HB.out)); (case aL => have := b5T.out; omega); intro h1A w17 ho hb hg hat; rw [← f3Q.out] at ho; have f3U := a_ ho; replace a4E := a_ (N7 a4E.out hg (Kd.b7C a1t.out a4E.out (by decide))); replace a95 := a_ (N7 a95.out hg (Kd.c0N a1t.out (fun _ hk => hk.2))); replace HB := a_ hb; clear a1t a94 ho hb hg hat))
     go_roundg k1
     case measure => have := HK1.out; omega
     case rel => exact ⟨(g4U), (wrap64 (J9 + t175)), (b2K), (b2L), (by rfl), H', ⟨by have := HK1.out; omega⟩, ⟨by exact Kd.N8 f3U.out (fun _ hk => trivial)⟩, ⟨by exact a4E.out⟩, ⟨by exact HB.out⟩⟩
    ·rw [if_neg c7] at H; have a5U := bq_ c7; have a9R := bn_ c7; obtain ⟨rfl, rfl, rfl⟩ := s3_ H; obtain ⟨d5p, a7D, _, a7E, _⟩ := info_parts info5; obtain ⟨A18, b8q, b1H, b1I⟩ := a0N (P := Tryd.prog) (Value.int .u8) 0 22 5 .i64 Tryd.underlying22 a7D a7E A0 c0 l0 J9 (V9) (V9) HC0.out; have d6g := ci_ (Kd.Y8 (h1 := fun _ => rfl) (b1H _ (Kd.Y2 HR0.out))); have d6h := a_ b1I; clear b1H b1I a7D a7E
     go_wp2_with (first | (refine gl_ (some 17) Tryd.func64 #[.slice A18 (l0.drop (J9 : Int).toNat).length (c0 - J9.toNat)] ?_ (hargs := by (try simp only [List.map_toArray, List.map_cons, List.map_nil]); (rw [show (l0.drop (J9 : Int).toNat).length = (l0.length - J9.toNat) from List.length_drop] <;> rfl)); (with_reducible refine (dump_Next.calls k1 _ _ (l0.drop (J9 : Int).toNat) b8O t171 b3S t175 d6c _ (Kd.C9 a5T.out HB.out) (Kd.C9 d6g.out HB.out) d6h.out A6.out).mono ?_); rintro e w19 ⟨v173, rfl, ho0, hb⟩; refine ⟨_, rfl, ?_⟩; have a94 := rl_ ho0 HB; replace a1t := rS_ a1t ho0 hb; replace a4E := X4 a4E hb; replace HB := U9 HB hb; (try clear hb); (try clear ho0)) | (refine be_ 6 #[.int .i64 0, .int .u32 0, .slice none 0 0] 58 ?_; intro a6o hg w20 hbox hb; have a95 := a_ hbox; have d6i := lb_ HB hg; obtain ⟨a5z, b5Z⟩ := nn_ a4E hg; replace a1t := se_ a1t hg hb; replace a94 := rb_ a94 hb; replace a4E := X4 a4E hb; replace HB := U9 HB hb; clear hb hbox hg; have c9G := b5Z.out; have c9H := a5z.out; obtain ⟨b2q, b2r, b4F, b2s, b2t, b4G⟩ := a1R a95.out; obtain ⟨b1c, b1d, c7d⟩ := Kd.G7 a94.out; subst c7d; obtain ⟨b0A, b0B, b0C, b0D⟩ := a1p a4E.out))
     refine bodyPost_ret (a0u rfl _ _ b6o 30 #[.int .i64 J9, .int .i64 d6c] (0, 0) _ rfl (l9 (l9 (o8 (o8 (o8 a4E.out a5z.out _) a5z.out _) a5z.out _) 0 _ rfl) 1 _ rfl) Tryd.underlying30 rfl (by kernel_rfl)) rfl ?_; exact ⟨_, by (rfl), by exact Kd.N8 (Kd.V8 (p := ⟨b6o, 1, none⟩) (Kd.V8 (p := ⟨b6o, 0, none⟩) (Kd.V8 (p := ⟨a6o, 2, none⟩) (Kd.V8 (p := ⟨a6o, 1, none⟩) (Kd.V8 (p := ⟨a6o, 0, none⟩) (Kd.a1F (Kd.N8 a1t.out (fun k_ hk => (⟨hk, hk.2⟩ : _ ∧ k_ ≠ a6o))) a4E.out (by decide)) (fun _ hk => hk.1.2) (.int .i64 b8O)) (fun _ hk => hk.1.2) (.int .u32 t171)) (fun _ hk => hk.1.2) (.slice b1c b3S.length b1d)) (fun _ hk => hk.2) (.int .i64 J9)) (fun _ hk => hk.2) (.int .i64 d6c)) (fun _ hk => trivial), by repeat (with_reducible first | exact HB.out | refine o7 ?_ e4a.out | refine o7 ?_ d6i.out)⟩
   ·rw [if_neg c3] at H; have a3O := df_ c3; clear c3; obtain ⟨rfl, rfl, rfl⟩ := s3_ H; obtain ⟨c84, c86, c89, c9a⟩ := a1p a4E.out
    go_wp2
    refine bodyPost_ret (a0u rfl _ _ b6o 30 #[.int .i64 0, .int .i64 0] (0, 0) _ rfl (l9 (l9 a4E.out 0 _ rfl) 1 _ rfl) Tryd.underlying30 rfl (by kernel_rfl)) rfl ?_; exact ⟨_, by (rfl), by exact Kd.N8 (Kd.V8 (p := ⟨b6o, 1, none⟩) (Kd.V8 (p := ⟨b6o, 0, none⟩) (Kd.a1F a1t.out a4E.out (by decide)) (fun _ hk => hk.2) (.int .i64 0)) (fun _ hk => hk.2) (.int .i64 0)) (fun _ hk => trivial), by repeat (with_reducible first | exact HB.out | refine o7 ?_ e4a.out)⟩
def U3.f (k : Nat) (l0 : List Int) (a1 : Int) (a2 : Bool) : Option (Int) := if 0 ≤ a1 then (if a1 ≤ (wrap64 (a1 + 4)) then (if (wrap64 (a1 + 4)) ≤ (l0.length : Int) then ((P9.f k ((l0.take ((wrap64 (a1 + 4)) : Int).toNat).drop (a1 : Int).toNat) a2).bind fun e7Q => (some ((e7Q) % 4294967296))) else (none)) else (none)) else (none)
theorem U3.calls (k : Nat) (A0 : Option Addr) (c0 : Nat) (l0 : List Int) (a1 : Int) (a2 : Bool) (r : Int) (w : World) (hr0 : Kd.C (Kd.int .u8) w A0 l0.length l0) (hc0 : l0.length ≤ c0) (h : U3.f k l0 a1 a2 = some r) :
  Calls Tryd.prog 59 #[.slice A0 l0.length c0, .int .i64 a1, .bool a2] w fun e w' => e = .returned (.int .u32 r) ∧ F8 w w' := by
 have HR0 := a_ hr0
 have HC0 := a_ hc0
 clear hr0 hc0
 have H := h
 clear h
 unfold U3.f at H
 have c4 := Z7 H
 replace H := O5 H
 have a4d := eq_true c4
 have b1R := dt_ c4
 clear c4
 have c5 := Z7 H
 replace H := O5 H
 have a5y := eq_true c5
 have b0H := dt_ c5
 have c6 := Z7 H
 replace H := O5 H
 have a8h := eq_true c6
 have b4N := dt_ c6
 obtain ⟨e7Q, A7, H⟩ := bd_ H
 try dsimp only at H
 obtain rfl := oj_ H
 obtain ⟨i08, c5k, _, c5l, _⟩ := info_parts info5
 obtain ⟨A8, e3V, hA8, hC8⟩ := a5t (P := Tryd.prog) (Value.int .u8) 0 22 5 .i64 .i64 Tryd.underlying22 c5k c5l A0 c0 l0 a1 (wrap64 (a1 + 4)) (V9) (by omega) (V9) HC0.out
 have f3V := ci_ (Kd.Y8 (h1 := fun _ => rfl) (hA8 _ (Kd.Y2 HR0.out)))
 have f3W := a_ hC8
 clear hA8 hC8 c5k c5l
 go_enter Tryd.func59, Tryd.ntmps59
 go_wp2_with (first | (refine gl_ (some 13) Tryd.func58 #[.slice A8 ((l0.take ((wrap64 (a1 + 4)) : Int).toNat).drop (a1 : Int).toNat).length (c0 - a1.toNat), .bool a2] ?_ (hargs := by (try simp only [List.map_toArray, List.map_cons, List.map_nil]); (rw [show ((l0.take ((wrap64 (a1 + 4)) : Int).toNat).drop (a1 : Int).toNat).length = ((wrap64 (a1 + 4)).toNat - a1.toNat) from (by rw [List.length_drop, List.length_take]; have h_ : ((wrap64 (a1 + 4)) : Int) ≤ (l0.length : Int) := V9; omega)] <;> rfl)); (with_reducible refine (P9.calls k _ _ ((l0.take ((wrap64 (a1 + 4)) : Int).toNat).drop (a1 : Int).toNat) a2 e7Q _ f3V.out f3W.out A7.out).mono ?_); rintro e w' ⟨rfl, ⟨nd, rfl⟩⟩; refine ⟨_, rfl, ?_⟩))
 go_ret
 exact ⟨by (rfl), by repeat (first | exact F8.refl _ | apply F8.step)⟩
def S9.f (k : Nat) (l0 : List Int) (a1 : Bool) : Option (Int × Int × Int × List Int × Int × Int) := if (l0.length : Int) < 16 then (some (0, 0, 0, ([] : List Int), 0, 2)) else ((U3.f k l0 8 a1).bind fun a8j => (if (wrap64 (a8j)) > 131072 then (some (0, 0, 0, ([] : List Int), 0, 4)) else (if (l0.length : Int) < (wrap64 (16 + (wrap64 (a8j)))) then (some (0, 0, 0, ([] : List Int), 0, 2)) else ((U3.f k l0 0 a1).bind fun b8P => ((U3.f k l0 4 a1).bind fun b8Q => ((U3.f k l0 12 a1).bind fun b8R => (if 16 ≤ (wrap64 (16 + (wrap64 (a8j)))) then (if (wrap64 (16 + (wrap64 (a8j)))) ≤ (l0.length : Int) then (if ([] : List Int).length + ((l0.take ((wrap64 (16 + (wrap64 (a8j)))) : Int).toNat).drop 16).length < 140737488355328 then (some (b8P, b8Q, b8R, (([] : List Int) ++ ((l0.take ((wrap64 (16 + (wrap64 (a8j)))) : Int).toNat).drop 16)), wrap64 (16 + (wrap64 (a8j))), 0)) else (none)) else (none)) else (none))))))))
def S9.T9 : Bool × List (List Nat × List Nat) := (true, [([], []), ([0], [0]), ([], []), ([], []), ([3], [3]), ([2, 4], [2, 4]), ([1, 5], [1, 5]), ([0, 1, 2, 3, 4, 5, 6], []), ([7, 6, 6, 0, 1, 2, 3, 4, 5, 6], [6, 7])])
def S9.B9 : List Nat := [0, 1, 0, 0, 8, 28, 63, 127, 255]
theorem S9.g4V : a3b .any (opsOf Tryd.f36 9) = S9.T9 := by kernel_rfl
theorem S9.f3X : a2C S9.T9.2 S9.B9 = true := by kernel_rfl
theorem S9.calls (k : Nat) (A0 : Option Addr) (c0 : Nat) (l0 : List Int) (a1 : Bool) (r1 : Int) (r2 : Int) (r3 : Int) (r4 : List Int) (r5 : Int) (r6 : Int) (w : World) (hr0 : Kd.C (Kd.int .u8) w A0 l0.length l0) (hc0 : l0.length ≤ c0) (h : S9.f k l0 a1 = some (r1, r2, r3, r4, r5, r6)) :
  Calls Tryd.prog 36 #[.slice A0 l0.length c0, .bool a1] w fun e w' => ∃ v3_ : Value, e = .returned (.tuple #[.agg #[.int .u32 r1, .int .u32 r2, .int .u32 r3, v3_], .int .i64 r5, .int .i64 r6]) ∧ Kd.R (Kd.int .u8) 5 w' w.heap.size (fun _ => True) v3_ r4 ∧ Below w.heap.size w w' := by
 have d2n := Tryd.underlying51
 have HR0 := a_ hr0
 have HC0 := a_ hc0
 clear hr0 hc0
 have HB := a_ (Below.refl w.heap.size w)
 have H := h
 clear h
 unfold S9.f at H
 by_cases c3 : (l0.length : Int) < 16
 ·rw [if_pos c3] at H; have a3O := dt_ c3; have b09 : decide (l0.length < 16) = true := dt_ (by omega); clear c3; obtain ⟨rfl, rfl, rfl, rfl, rfl, rfl⟩ := s6_ H
  go_enter Tryd.func36, Tryd.ntmps36
  go_wp2_with (first | (refine be_ 4 #[.int .u32 0, .int .u32 0, .int .u32 0, .slice none 0 0] 51 ?_; intro a6Z hg w4 hbox hb; have a1E := a_ hbox; have b8S := lb_ HB hg; replace HB := U9 HB hb; clear hb hbox hg; obtain ⟨c1G, c1H, c1I, d6k, c1J, c1K, c1M, d6l⟩ := blk4 a1E.out))
  refine bodyPost_ret (a0f rfl _ _ a6Z 51 #[.int .u32 0, .int .u32 0, .int .u32 0, .slice none 0 0] (0, 0) _ rfl (l9 (l9 (l9 (l9 a1E.out 0 _ rfl) 1 _ rfl) 2 _ rfl) 3 _ rfl) Tryd.underlying51 rfl (by kernel_rfl)) rfl ?_; exact ⟨_, by (rfl), by (exact Kd.Y1 _ _ _ _ _), by repeat (with_reducible first | exact HB.out | refine o7 ?_ b8S.out)⟩
 ·rw [if_neg c3] at H; have a3O := df_ c3; have b09 : decide (l0.length < 16) = false := df_ (by omega); clear c3; obtain ⟨a8j, A6, H⟩ := bd_ H
  try dsimp only at H
  by_cases c7 : (wrap64 (a8j)) > 131072
  ·rw [if_pos c7] at H; have a5U : decide (131072 < (wrap64 (a8j))) = true := dt_ c7; clear c7; obtain ⟨rfl, rfl, rfl, rfl, rfl, rfl⟩ := s6_ H
   go_enter Tryd.func36, Tryd.ntmps36
   go_wp2_with (first | (refine be_ 4 #[.int .u32 0, .int .u32 0, .int .u32 0, .slice none 0 0] 51 ?_; intro a6Z hg w8 hbox hb; have a1E := a_ hbox; have b8S := lb_ HB hg; replace HB := U9 HB hb; clear hb hbox hg) | (refine gl_ (some 15) Tryd.func59 #[.slice A0 l0.length c0, .int .i64 8, .bool a1] ?_; (with_reducible refine (U3.calls k _ _ l0 8 a1 a8j _ (Kd.C9 HR0.out HB.out) HC0.out A6.out).mono ?_); rintro e w' ⟨rfl, ⟨nd, rfl⟩⟩; refine ⟨_, rfl, ?_⟩; (try (rw [a4r w8]; generalize hq_ : World.drewN w8 _ = w8; have n0_ : Aside0 (w8.heap[a6Z]? = some (.cells #[.int .u32 0, .int .u32 0, .int .u32 0, .slice none 0 0] 51 (0, 0))) := ⟨by rw [← hq_]; exact (by (with_reducible repeat (refine Y6 ?_ _)); exact a1E.out)⟩; have n1_ : Aside0 (Below w.heap.size w w8) := ⟨by rw [← hq_]; exact (by repeat (with_reducible first | exact HB.out | apply o9))⟩; clear a1E HB hq_; have a1E := n0_; have HB := n1_; clear n0_ n1_)); obtain ⟨c6G, c6H, d4C, e7R, c6I, c6J, d4D, e7S⟩ := blk4 a1E.out))
   refine bodyPost_ret (a0f rfl _ _ a6Z 51 #[.int .u32 0, .int .u32 0, .int .u32 0, .slice none 0 0] (0, 0) _ rfl (l9 (l9 (l9 (l9 a1E.out 0 _ rfl) 1 _ rfl) 2 _ rfl) 3 _ rfl) Tryd.underlying51 rfl (by kernel_rfl)) rfl ?_; exact ⟨_, by (rfl), by (exact Kd.Y1 _ _ _ _ _), by repeat (with_reducible first | exact HB.out | refine o7 ?_ b8S.out)⟩
  ·rw [if_neg c7] at H; have a5U : decide (131072 < (wrap64 (a8j))) = false := df_ c7; clear c7
   by_cases c10 : (l0.length : Int) < (wrap64 (16 + (wrap64 (a8j))))
   ·rw [if_pos c10] at H; have a9e := dt_ c10; clear c10; obtain ⟨rfl, rfl, rfl, rfl, rfl, rfl⟩ := s6_ H
    go_enter Tryd.func36, Tryd.ntmps36
    go_wp2_with (first | (refine be_ 4 #[.int .u32 0, .int .u32 0, .int .u32 0, .slice none 0 0] 51 ?_; intro a6Z hg w11 hbox hb; have a1E := a_ hbox; have b8S := lb_ HB hg; replace HB := U9 HB hb; clear hb hbox hg) | (refine gl_ (some 15) Tryd.func59 #[.slice A0 l0.length c0, .int .i64 8, .bool a1] ?_; (with_reducible refine (U3.calls k _ _ l0 8 a1 a8j _ (Kd.C9 HR0.out HB.out) HC0.out A6.out).mono ?_); rintro e w' ⟨rfl, ⟨nd, rfl⟩⟩; refine ⟨_, rfl, ?_⟩; (try (rw [a4r w11]; generalize hq_ : World.drewN w11 _ = w11; have n0_ : Aside0 (w11.heap[a6Z]? = some (.cells #[.int .u32 0, .int .u32 0, .int .u32 0, .slice none 0 0] 51 (0, 0))) := ⟨by rw [← hq_]; exact (by (with_reducible repeat (refine Y6 ?_ _)); exact a1E.out)⟩; have n1_ : Aside0 (Below w.heap.size w w11) := ⟨by rw [← hq_]; exact (by repeat (with_reducible first | exact HB.out | apply o9))⟩; clear a1E HB hq_; have a1E := n0_; have HB := n1_; clear n0_ n1_)); obtain ⟨d0k, d0l, e1B, f9g, d0m, d0n, e1C, f9h⟩ := blk4 a1E.out))
    refine bodyPost_ret (a0f rfl _ _ a6Z 51 #[.int .u32 0, .int .u32 0, .int .u32 0, .slice none 0 0] (0, 0) _ rfl (l9 (l9 (l9 (l9 a1E.out 0 _ rfl) 1 _ rfl) 2 _ rfl) 3 _ rfl) Tryd.underlying51 rfl (by kernel_rfl)) rfl ?_; exact ⟨_, by (rfl), by (exact Kd.Y1 _ _ _ _ _), by repeat (with_reducible first | exact HB.out | refine o7 ?_ b8S.out)⟩
   ·rw [if_neg c10] at H; have a9e := df_ c10; clear c10; obtain ⟨b8P, A13, H⟩ := bd_ H
    (try dsimp only at H); obtain ⟨b8Q, A14, H⟩ := bd_ H
    (try dsimp only at H); obtain ⟨b8R, A15, H⟩ := bd_ H
    (try dsimp only at H); have c16 := Z7 H; replace H := O5 H; have c8r := eq_true c16; have d4a := dt_ c16; have c17 := Z7 H; replace H := O5 H; have b4w := eq_true c17; have c8s := dt_ c17; have c18 := Z7 H; replace H := O5 H; have c4G := a_ c18; clear c18; obtain ⟨e7T, d6m⟩ := is_ ((([] : List Int) ++ ((l0.take ((wrap64 (16 + (wrap64 (a8j)))) : Int).toNat).drop 16)) : List Int); rw [← d6m] at H; have f3Z := a_ d6m; clear d6m; obtain ⟨rfl, rfl, rfl, rfl, rfl, rfl⟩ := s6_ H
    go_enter Tryd.func36, Tryd.ntmps36
    try go_wp2_with (first | (refine be_ 4 #[.int .u32 0, .int .u32 0, .int .u32 0, .slice none 0 0] 51 ?_; intro a6Z hg w19 hbox hb; have a1E := a_ hbox; have b8S := lb_ HB hg; replace HB := U9 HB hb; clear hb hbox hg) | (refine gl_ (some 15) Tryd.func59 #[.slice A0 l0.length c0, .int .i64 8, .bool a1] ?_; (with_reducible refine (U3.calls k _ _ l0 8 a1 a8j _ (Kd.C9 HR0.out HB.out) HC0.out A6.out).mono ?_); rintro e w' ⟨rfl, ⟨nd, rfl⟩⟩; refine ⟨_, rfl, ?_⟩; (try (rw [a4r w19]; generalize hq_ : World.drewN w19 _ = w19; have n0_ : Aside0 (w19.heap[a6Z]? = some (.cells #[.int .u32 0, .int .u32 0, .int .u32 0, .slice none 0 0] 51 (0, 0))) := ⟨by rw [← hq_]; exact (by (with_reducible repeat (refine Y6 ?_ _)); exact a1E.out)⟩; have n1_ : Aside0 (Below w.heap.size w w19) := ⟨by rw [← hq_]; exact (by repeat (with_reducible first | exact HB.out | apply o9))⟩; clear a1E HB hq_; have a1E := n0_; have HB := n1_; clear n0_ n1_))) | (refine gl_ (some 28) Tryd.func59 #[.slice A0 l0.length c0, .int .i64 0, .bool a1] ?_; (with_reducible refine (U3.calls k _ _ l0 0 a1 b8P _ (Kd.C9 HR0.out HB.out) HC0.out A13.out).mono ?_); rintro e w' ⟨rfl, ⟨nd, rfl⟩⟩; refine ⟨_, rfl, ?_⟩; (try (rw [a4r w19]; generalize hq_ : World.drewN w19 _ = w19; have n0_ : Aside0 (w19.heap[a6Z]? = some (.cells #[.int .u32 0, .int .u32 0, .int .u32 0, .slice none 0 0] 51 (0, 0))) := ⟨by rw [← hq_]; exact (by (with_reducible repeat (refine Y6 ?_ _)); exact a1E.out)⟩; have n1_ : Aside0 (Below w.heap.size w w19) := ⟨by rw [← hq_]; exact (by repeat (with_reducible first | exact HB.out | apply o9))⟩; clear a1E HB hq_; have a1E := n0_; have HB := n1_; clear n0_ n1_))) | (refine gl_ (some 31) Tryd.func59 #[.slice A0 l0.length c0, .int .i64 4, .bool a1] ?_; (with_reducible refine (U3.calls k _ _ l0 4 a1 b8Q _ (Kd.C9 HR0.out HB.out) HC0.out A14.out).mono ?_); rintro e w' ⟨rfl, ⟨nd, rfl⟩⟩; refine ⟨_, rfl, ?_⟩; (try (rw [a4r w19]; generalize hq_ : World.drewN w19 _ = w19; have n0_ : Aside0 (w19.heap[a6Z]? = some (.cells #[.int .u32 0, .int .u32 0, .int .u32 0, .slice none 0 0] 51 (0, 0))) := ⟨by rw [← hq_]; exact (by (with_reducible repeat (refine Y6 ?_ _)); exact a1E.out)⟩; have n1_ : Aside0 (Below w.heap.size w w19) := ⟨by rw [← hq_]; exact (by repeat (with_reducible first | exact HB.out | apply o9))⟩; clear a1E HB hq_; have a1E := n0_; have HB := n1_; clear n0_ n1_))) | (refine gl_ (some 34) Tryd.func59 #[.slice A0 l0.length c0, .int .i64 12, .bool a1] ?_; (with_reducible refine (U3.calls k _ _ l0 12 a1 b8R _ (Kd.C9 HR0.out HB.out) HC0.out A15.out).mono ?_); rintro e w' ⟨rfl, ⟨nd, rfl⟩⟩; refine ⟨_, rfl, ?_⟩; (try (rw [a4r w19]; generalize hq_ : World.drewN w19 _ = w19; have n0_ : Aside0 (w19.heap[a6Z]? = some (.cells #[.int .u32 0, .int .u32 0, .int .u32 0, .slice none 0 0] 51 (0, 0))) := ⟨by rw [← hq_]; exact (by (with_reducible repeat (refine Y6 ?_ _)); exact a1E.out)⟩; have n1_ : Aside0 (Below w.heap.size w w19) := ⟨by rw [← hq_]; exact (by repeat (with_reducible first | exact HB.out | apply o9))⟩; clear a1E HB hq_; have a1E := n0_; have HB := n1_; clear n0_ n1_))) | (refine be_ 8 #[.int .u32 0, .int .u32 0, .int .u32 0, .slice none 0 0] 51 ?_; intro a5L hg w20 hbox hb; have a5Y := a_ hbox; have e4c := lb_ HB hg; obtain ⟨a7l, c0r⟩ := nn_ a1E hg; replace a1E := X4 a1E hb; replace HB := U9 HB hb; clear hb hbox hg; have c9G := c0r.out; have c9H := a7l.out; obtain ⟨b2q, b2r, b4F, c9I, b2s, b2t, b4G, c9J⟩ := blk4 a5Y.out))
    have n0_ : Aside0 (((((w20.setCell ⟨a5L, 0, none⟩ (.int .u32 b8P)).setCell ⟨a5L, 1, none⟩ (.int .u32 b8Q)).setCell ⟨a5L, 2, none⟩ (.int .u32 b8R)).setCell ⟨a5L, 3, none⟩ (.slice none 0 0)).heap[a6Z]? = some (.cells #[.int .u32 0, .int .u32 0, .int .u32 0, .slice none 0 0] 51 (0, 0))) := ⟨o8 (o8 (o8 (o8 a1E.out a7l.out _) a7l.out _) a7l.out _) a7l.out _⟩; have n1_ : Aside0 (((((w20.setCell ⟨a5L, 0, none⟩ (.int .u32 b8P)).setCell ⟨a5L, 1, none⟩ (.int .u32 b8Q)).setCell ⟨a5L, 2, none⟩ (.int .u32 b8R)).setCell ⟨a5L, 3, none⟩ (.slice none 0 0)).heap[a5L]? = some (.cells #[.int .u32 b8P, .int .u32 b8Q, .int .u32 b8R, .slice none 0 0] 51 (0, 0))) := ⟨l9 (l9 (l9 (l9 a5Y.out 0 _ rfl) 1 _ rfl) 2 _ rfl) 3 _ rfl⟩; have n2_ : Aside0 (Below w.heap.size w ((((w20.setCell ⟨a5L, 0, none⟩ (.int .u32 b8P)).setCell ⟨a5L, 1, none⟩ (.int .u32 b8Q)).setCell ⟨a5L, 2, none⟩ (.int .u32 b8R)).setCell ⟨a5L, 3, none⟩ (.slice none 0 0))) := ⟨by repeat (with_reducible first | exact HB.out | refine o7 ?_ e4c.out)⟩
    (try clear a1E)
    (try clear a5Y)
    (try clear HB)
    generalize ((((w20.setCell ⟨a5L, 0, none⟩ (.int .u32 b8P)).setCell ⟨a5L, 1, none⟩ (.int .u32 b8Q)).setCell ⟨a5L, 2, none⟩ (.int .u32 b8R)).setCell ⟨a5L, 3, none⟩ (.slice none 0 0)) = w23 at n0_ n1_ n2_ ⊢; have a1E := n0_; have a5Y := n1_; have HB := n2_; clear n0_ n1_ n2_; replace a1E := a_ (G8 a1E.out); replace a5Y := a_ (G8 a5Y.out); replace HB := a_ (Y3 HB.out); obtain ⟨h1B, e4d, _, e4e, _⟩ := info_parts info5; obtain ⟨A25, g4W, f4a, f4b⟩ := a5t (P := Tryd.prog) (Value.int .u8) 0 22 5 .i64 .i64 Tryd.underlying22 e4d e4e A0 c0 l0 16 (wrap64 (16 + (wrap64 (a8j)))) (by omega) (by omega) (V9) HC0.out; have e4f := ci_ (Kd.Y8 (h1 := fun _ => rfl) (f4a _ (Kd.Y2 HR0.out))); have g7K := a_ f4b; clear f4a f4b e4d e4e; refine a2x (n := 9) (S := fun w' => w'.cell? ⟨a5L, 0, none⟩ = some (.int .u32 b8P) ∧ w'.cell? ⟨a5L, 1, none⟩ = some (.int .u32 b8Q) ∧ w'.cell? ⟨a5L, 2, none⟩ = some (.int .u32 b8R) ∧ w'.cell? ⟨a5L, 3, none⟩ = some (.slice none 0 0)) (ds := [8]) (bo_ 9 0) (by kernel_rfl) rfl rfl ⟨bc0 a5Y, bc1 a5Y, bc2 a5Y, bc3 a5Y⟩ (fun hHeld => ?_); refine a2D S9.g4V S9.f3X (fun Z8 HW_ => ?_); generalize w23.drew = w24 at a1E a5Y HB e4f hHeld ⊢; refine pu_ 0 (some 36) Z8 ?_; refine pu_ 2 (some 38) Z8 ?_; refine pu_ 3 (some 39) Z8 ?_; refine pu_ 4 (some 40) Z8 ?_; refine pu_ 5 (some 41) Z8 ?_; refine a1w (i := 1) (N := some 37) (v := ?_) (a' := ?_) (bo_ 9 63) rfl rfl (a1x Z8.out HW_.out (by kernel_rfl)) (fun _ _ _ h => h) (Or.inl ⟨by rfl, ?_⟩) hHeld ?_ ?_
    rotate_left
    ·rintro w' ⟨s0, s1, s2, s3⟩
     go_simp
     with_reducible rfl
    rotate_left
    ·simp only [Act.put, List.setIfInBounds_toArray, List.set_cons_zero, List.set_cons_succ, a0I, a1W]
     rfl
    refine a6e (i := 6) (N := some 42) (bo_ 9 127) rfl rfl (a1I Z8.out (by kernel_rfl)) (by decide) (fun K hK => ?_); refine Kd.a4m (Kd.int .u8) (w0 := w) w.heap.size (by rfl) (.tmp 37) (.tmp 41) 22 5 (.int .u8 0) 1 rfl Tryd.underlying22 info5 rfl (by decide) (by omega) (.slice none 0 0) ([] : List Int) ((l0.take ((wrap64 (16 + (wrap64 (a8j)))) : Int).toNat).drop 16) _ _ _ (fun _ => True) (fun _ => False) rfl rfl ?aO ?aR (fun _ _ h => h) (fun _ h => h.elim) ?aF ?aB ?aS ?aL ?_
    (case aR => (rw [← show ((l0.take ((wrap64 (16 + (wrap64 (a8j)))) : Int).toNat).drop 16).length = ((wrap64 (16 + (wrap64 (a8j)))).toNat - 16) from (by rw [List.length_drop, List.length_take]; have h_ : ((wrap64 (16 + (wrap64 (a8j)))) : Int) ≤ (l0.length : Int) := V9; omega)]; exact (Kd.C9 e4f.out HB.out)))
    (case aB => exact HB.out)
    (case aF => exact (fun _ _ => trivial))
    (case aO => exact (Kd.Y1 _ _ _ _ (fun _ => True)))
    (case aS => exact (y5 HB.out))
    (case aL => have := c4G.out; have e6y := (show ((l0.take ((wrap64 (16 + (wrap64 (a8j)))) : Int).toNat).drop 16).length = ((wrap64 (16 + (wrap64 (a8j)))).toNat - 16) from (by rw [List.length_drop, List.length_take]; have h_ : ((wrap64 (16 + (wrap64 (a8j)))) : Int) ≤ (l0.length : Int) := V9; omega)); omega)
    intro h1C w26 ho hb hg hat; rw [← f3Z.out] at ho; have e4g := a_ ho; replace a1E := a_ (N7 a1E.out hg (by simp [Value.ownBlock])); replace a5Y := a_ (N7 a5Y.out hg (by simp [Value.ownBlock])); replace HB := a_ hb; clear ho hb hg hat; obtain ⟨a8P, a8Q, c1m⟩ := Kd.G7 e4g.out; subst c1m; refine hK.out _ _ ⟨bc0 a5Y, bc1 a5Y, bc2 a5Y, bc3 a5Y⟩ (fun hHeld => ?_); clear hK K; refine nm_ (some 42) ?_; refine pu_ 7 (some 43) Z8 ?_; refine b1k (i := 8) (N := none) (bo_ 9 511) rfl rfl (a1I Z8.out (by kernel_rfl)) (by decide) (fun K hK => ?_); have h1D := bc3 a5Y; have g7L := l7 a5Y.out 3; have f9i := a7l.out; have f9j := c0r.out; refine a7x (w1 := ?_) (by rfl) rfl ?_ ?_
    rotate_left
    ·go_simp
     rfl
    refine hK.out _ _ ?_; clear hK K; refine a4y (a5v Z8.out (by kernel_rfl)) ?_; obtain ⟨c9c, c9d, d9v, f9k, c9e, c9f, d9w, f9l⟩ := blk4 a5Y.out; obtain ⟨b7b, b7c, d9W, d9X, b7d, b7e, d9Y, d9Z⟩ := blk4 a1E.out
    try go_wp2
    refine bodyPost_ret (a0f rfl _ _ a6Z 51 #[.int .u32 b8P, .int .u32 b8Q, .int .u32 b8R, .slice a8P e7T.length a8Q] (0, 0) _ rfl (l9 (l9 (l9 (l9 (o8 a1E.out a7l.out _) 0 _ rfl) 1 _ rfl) 2 _ rfl) 3 _ rfl) Tryd.underlying51 rfl (by kernel_rfl)) rfl ?_; exact ⟨_, by (rfl), by exact Kd.D7 (Kd.V3 (p := ⟨a6Z, 3, none⟩) (Kd.V3 (p := ⟨a6Z, 2, none⟩) (Kd.V3 (p := ⟨a6Z, 1, none⟩) (Kd.V3 (p := ⟨a6Z, 0, none⟩) (Kd.V3 (p := ⟨a5L, 3, none⟩) (Kd.U2 (Kd.U2 e4g.out a5Y.out (by decide)) a1E.out (by decide)) (fun _ hk => hk.1.2) (.slice a8P e7T.length a8Q)) (fun _ hk => hk.2) (.int .u32 b8P)) (fun _ hk => hk.2) (.int .u32 b8Q)) (fun _ hk => hk.2) (.int .u32 b8R)) (fun _ hk => hk.2) (.slice a8P e7T.length a8Q)) (fun _ hk => trivial), by repeat (with_reducible first | exact HB.out | refine o7 ?_ b8S.out | refine o7 ?_ e4c.out)⟩
def J3.l0 : Nat → List Int → List (List Int) → Int → Int → Option (List (List Int))
 | 0, _, _, _, _ => none
 | k + 1, x0, x3, x4, x5 => if x5 < (x0.length : Int) then (if 0 ≤ x5 then (if (rd x0 x5) = 126 then (if x4 ≥ 0 then (if 0 ≤ x4 then (if x4 ≤ x5 then (if x5 ≤ (x0.length : Int) then (if x3.length < 5864062014805 then (J3.l0 k x0 (x3 ++ [((x0.take (x5 : Int).toNat).drop (x4 : Int).toNat)]) (wrap64 (x5 + 1)) (wrap64 (x5 + 1))) else (none)) else (none)) else (none)) else (none)) else (J3.l0 k x0 x3 (wrap64 (x5 + 1)) (wrap64 (x5 + 1)))) else (J3.l0 k x0 x3 x4 (wrap64 (x5 + 1)))) else (none)) else (some x3)
def J3.f (k : Nat) (l0 : List Int) : Option (List (List Int)) := J3.l0 k l0 ([] : List (List Int)) (-1) 0
theorem J3.calls (k : Nat) (P0_ : Nat → Prop) (A0 : Option Addr) (c0 : Nat) (l0 : List Int) (r : List (List Int)) (w : World) (hs0 : Kd.V (Kd.int .u8) 5 w w.heap.size (fun k_ => P0_ k_) (.slice A0 l0.length c0) l0) (h : J3.f k l0 = some r) :
  Calls Tryd.prog 85 #[.slice A0 l0.length c0] w fun e w' => ∃ v0_ : Value, e = .returned (v0_) ∧ Kd.N (Kd.slice 5 (Kd.int .u8)) 22 w' w.heap.size (fun k_ => (P0_ k_ ∨ w.heap.size ≤ k_)) v0_ r ∧ Below w.heap.size w w' := by
 have HO0 := a_ (show Kd.V (Kd.int .u8) 5 w w.heap.size (fun k_ => (P0_ k_ ∨ w.heap.size ≤ k_)) (.slice A0 l0.length c0) l0 from Kd.a3N hs0 (fun k_ hk => .inl hk))
 have HB := a_ (Below.refl w.heap.size w)
 have H := h
 clear h
 unfold J3.f at H
 have H' := a_ H
 clear H
 go_enter Tryd.func85, Tryd.ntmps85
 go_wp2
 go_loopg [3, 4, 5] k (fun kq v3 v4 v5 w' => ∃ (a5c : List (List Int)) (a2H : Int) (J9 : Int), v4 = .int .i64 a2H ∧ v5 = .int .i64 J9 ∧ Aside0 (J3.l0 kq l0 a5c a2H J9 = some r) ∧ Aside0 (kq ≤ k) ∧ Aside0 (Kd.V (Kd.int .u8) 5 w' w.heap.size (fun k_ => (P0_ k_ ∨ w.heap.size ≤ k_) ∧ some k_ ≠ (v3 : Value).ownBlock) (.slice A0 l0.length c0) l0) ∧ Aside0 (Kd.N (Kd.slice 5 (Kd.int .u8)) 22 w' w.heap.size (fun k_ => (P0_ k_ ∨ w.heap.size ≤ k_)) v3 a5c) ∧ Aside0 (Below w.heap.size w w'))
 case atStart => exact ⟨([] : List (List Int)), (-1), (0), (by rfl), (by rfl), H', ⟨Nat.le_refl _⟩, ⟨by exact Kd.a3N HO0.out (fun _ hk => ⟨hk, (by simp [Value.ownBlock])⟩)⟩, ⟨by (exact Kd.d3o _ _ _ _ _)⟩, ⟨by exact HB.out⟩⟩
 case round =>
  clear H'; obtain ⟨a5c, a2H, J9, rfl, rfl, HA, HK1, a8V, c2N, HB⟩ := hrel
  cases gk with
  | zero => exact absurd HA.out (by simp [J3.l0])
  | succ k1 =>
   have H := HA.out; clear HA
   simp only [J3.l0] at H
   by_cases c2 : J9 < (l0.length : Int)
   ·rw [if_pos c2] at H; have b1A := dt_ c2; clear c2; have a3O := a2z H; replace H := O5 H
    by_cases c4 : (rd l0 J9) = 126
    ·rw [if_pos c4] at H; obtain ⟨a4d, b1R⟩ := bt_ c4; clear c4
     by_cases c5 : a2H ≥ 0
     ·rw [if_pos c5] at H; have a5y : decide (0 ≤ a2H) = true := dt_ c5; clear c5; have c6 := Z7 H; replace H := O5 H; have a8h := eq_true c6; have b4N := dt_ c6; clear c6; have c7 := Z7 H; replace H := O5 H; have a5U := eq_true c7; have a9R := dt_ c7; clear c7; have c8 := Z7 H; replace H := O5 H; have b1u := eq_true c8; have d2f := dt_ c8; clear c8; obtain ⟨b9z, d6n⟩ := is_ (((l0.take (J9 : Int).toNat).drop (a2H : Int).toNat) : List Int); rw [← d6n] at H; have e4h := a_ d6n; clear d6n; have c9 := Z7 H; replace H := O5 H; have c65 := a_ c9; clear c9; obtain ⟨g4X, d6o⟩ := is_ ((a5c ++ [b9z]) : List (List Int)); rw [← d6o] at H; have f4c := a_ d6o; clear d6o; have H' := a_ H; clear H; have f4d : (0 ≤ (J9 : Int)) = True := et_; have f4e : (J9 < (l0.length : Int)) = True := et_; obtain ⟨c0s, d6p, d0y⟩ := Kd.Q8 (Kd.a8G a8V.out).2.2 J9 V9 V9
      cases d6p
      have q10 : (J9 : Int) ≤ ((l0.length : Int) : Int) := V9; obtain ⟨h1E, e4i, _, e4j, _⟩ := info_parts info5; have b47 : l0.length ≤ c0 := (Kd.a8G a8V.out).2.1; have f4f : Kd.F (Kd.int .u8) _ _ (some c0s) l0.length l0 := (Kd.d3v (base := w.heap.size) a8V.out).2.2; have g4Y : (a2H : Int) ≤ (J9 : Int) := V9; have g4Z : (0 : Int) ≤ (a2H : Int) := V9; have e7V := d8o (P := Tryd.prog) 22 5 .i64 .i64 Tryd.underlying22 e4i 1 e4j (some c0s) l0.length c0 a2H J9 g4Z g4Y q10 b47; have d6q := Kd.e9H (lo := (a2H : Int).toNat) (hi := (J9 : Int).toNat) (c := c0) f4f (by omega) (by omega) b47; obtain ⟨A10, hA10⟩ : ∃ A1, A1 = (if c0 = (a2H : Int).toNat then (some c0s) else ((some c0s) : Option Addr).map (·.add ((a2H : Int).toNat * 1))) := ⟨_, rfl⟩; obtain ⟨c10, e1D⟩ : ∃ c1, c1 = c0 - (a2H : Int).toNat := ⟨_, rfl⟩; have d6r : b9z.length = (J9 : Int).toNat - (a2H : Int).toNat := (by rw [e4h.out, List.length_drop, List.length_take] <;> omega); rw [show ((l0).take (J9 : Int).toNat).drop (a2H : Int).toNat = b9z from e4h.out.symm] at d6q; replace d6q : Kd.F (Kd.int .u8) _ _ A10 b9z.length b9z := (by rw [hA10]; exact d6q); rw [← d6r, ← hA10, ← e1D] at e7V; have d0z := a_ (show Kd.V (Kd.int .u8) 5 _ w.heap.size _ (.slice A10 b9z.length c10) b9z from Kd.d8k (by rw [d6r, e1D]; exact Nat.sub_le_sub_right (Nat.le_trans (by omega) b47) _) d6q); have g7M := a_ (show b9z.length ≤ c10 from by rw [d6r, e1D]; exact Nat.sub_le_sub_right (Nat.le_trans (by omega) b47) _); clear d6q f4f b47 e4i e4j e1D; have h1F := a_ d6r; have h1G := a_ hA10; clear d6r hA10; replace q10 := eq_true q10
      go_wp2_with (first | ((with_reducible refine E5 (b := .append) (xs := #[.tmp 19, .tmp 24]) rfl ?_); at_builtin; refine Kd.c3K (Kd.slice 5 (Kd.int .u8)) (w0 := w) w.heap.size rfl (.tmp 19) (.tmp 24) 74 22 (.slice none 0 0) 24 rfl Tryd.underlying74 info22 rfl (by decide) (by omega) u3 a5c b9z [.slice A10 b9z.length c10] (fun k_ => (P0_ k_ ∨ w.heap.size ≤ k_)) (fun k_ => (fun k_ => (P0_ k_ ∨ w.heap.size ≤ k_)) k_ ∧ some k_ ≠ (u3 : Value).ownBlock) rfl rfl ?aP (fun _ hk => hk) ?aF ?aO ?aB ?aS ?aL ?_; (case aP => exact (Kd.a3E (Kd.a8G (Kd.a3N (ok' := (fun k_ => (fun k_ => (P0_ k_ ∨ w.heap.size ≤ k_)) k_ ∧ some k_ ≠ (u3 : Value).ownBlock)) (d0z.out) (fun k_ hk => ⟨hk.1, hk.2⟩))).2.1 (Kd.V_F (Kd.a3N (ok' := (fun k_ => (fun k_ => (P0_ k_ ∨ w.heap.size ≤ k_)) k_ ∧ some k_ ≠ (u3 : Value).ownBlock)) (d0z.out) (fun k_ hk => ⟨hk.1, hk.2⟩))))); (case aB => exact HB.out); (case aF => exact (fun k_ hk => (.inr (Nat.le_trans (y5 HB.out) hk)))); (case aO => exact c2N.out); (case aS => exact (y5 HB.out)); (case aL => have := c65.out; omega); intro h1H w11 ho hb hg hat; rw [← f4c.out] at ho; have f4g := a_ ho; replace a8V := a_ (Kd.b7K (ok := (fun k_ => (P0_ k_ ∨ w.heap.size ≤ k_))) a8V.out hg hat); replace d0z := a_ (Kd.b7K (ok := (fun k_ => (P0_ k_ ∨ w.heap.size ≤ k_))) d0z.out hg hat); replace HB := a_ hb; clear c2N ho hb hg hat))
      go_roundg k1
      case measure => have := HK1.out; omega
      case rel => exact ⟨(g4X), (wrap64 (J9 + 1)), (wrap64 (J9 + 1)), (by rfl), (by rfl), H', ⟨by have := HK1.out; omega⟩, ⟨by exact a8V.out⟩, ⟨by exact f4g.out⟩, ⟨by exact HB.out⟩⟩
     ·rw [if_neg c5] at H; have a5y : decide (0 ≤ a2H) = false := df_ c5; clear c5; have H' := a_ H; clear H; have f4d : (0 ≤ (J9 : Int)) = True := et_; have f4e : (J9 < (l0.length : Int)) = True := et_; obtain ⟨c0s, d6p, d0y⟩ := Kd.Q8 (Kd.a8G a8V.out).2.2 J9 V9 V9
      cases d6p
      go_wp2
      go_roundg k1
      case measure => have := HK1.out; omega
      case rel => exact ⟨(a5c), (wrap64 (J9 + 1)), (wrap64 (J9 + 1)), (by rfl), (by rfl), H', ⟨by have := HK1.out; omega⟩, ⟨by exact a8V.out⟩, ⟨by exact c2N.out⟩, ⟨by exact HB.out⟩⟩
    ·rw [if_neg c4] at H; have a4d := bq_ c4; have b1R := bn_ c4; have H' := a_ H; clear H; have f4d : (0 ≤ (J9 : Int)) = True := et_; have f4e : (J9 < (l0.length : Int)) = True := et_; obtain ⟨c0s, d6p, d0y⟩ := Kd.Q8 (Kd.a8G a8V.out).2.2 J9 V9 V9
     cases d6p
     go_wp2
     go_roundg k1
     case measure => have := HK1.out; omega
     case rel => exact ⟨(a5c), (a2H), (wrap64 (J9 + 1)), (by rfl), (by rfl), H', ⟨by have := HK1.out; omega⟩, ⟨by exact a8V.out⟩, ⟨by exact c2N.out⟩, ⟨by exact HB.out⟩⟩
   ·rw [if_neg c2] at H; have b1A := df_ c2; clear c2; obtain rfl := oj_ H
    go_wp2
    go_ret
    exact ⟨_, by (rfl), by exact c2N.out, by exact HB.out⟩
def W9.l0 : Nat → Int → Int → Int → Option (Bool)
 | 0, _, _, _ => none
 | k + 1, x0, x1, x5 => if x5 < x1 then (W9.l0 k ((Int.tdiv x0 2) % 4294967296) x1 ((x5 + 1) % 256)) else (some ((Int.tmod x0 2) == 1))
def W9.f (k : Nat) (a0 : Int) (a1 : Int) : Option (Bool) := if a1 > 31 then (some false) else (W9.l0 k a0 a1 0)
theorem W9.calls (k : Nat) (a0 : Int) (a1 : Int) (r : Bool) (w : World) (h : W9.f k a0 a1 = some r) :
  Calls Tryd.prog 92 #[.int .u32 a0, .int .u8 a1] w fun e w' => e = .returned (.bool r) ∧ F8 w w' := by
 have H := h
 clear h
 unfold W9.f at H
 by_cases c3 : a1 > 31
 ·rw [if_pos c3] at H; have a3O : decide (31 < a1) = true := dt_ c3; clear c3; obtain rfl := oj_ H
  go_enter Tryd.func92, Tryd.ntmps92
  go_wp2
  go_ret
  exact ⟨by (rfl), by exact F8.refl _⟩
 ·rw [if_neg c3] at H; have a3O : decide (31 < a1) = false := df_ c3; clear c3; have H' := a_ H; clear H
  go_enter Tryd.func92, Tryd.ntmps92
  go_wp2
  go_loopg [0, 5] k (fun kq v0 v5 w' => ∃ (a5M : Int) (J9 : Int), v0 = .int .u32 a5M ∧ v5 = .int .u8 J9 ∧ Aside0 (W9.l0 kq a5M a1 J9 = some r) ∧ Aside0 (kq ≤ k) ∧ F8 w w')
  case atStart => exact ⟨(a0), (0), (by rfl), (by rfl), H', ⟨Nat.le_refl _⟩, by exact F8.refl _⟩
  case round =>
   clear H'
   try clear a3O
   obtain ⟨a5M, J9, rfl, rfl, HA, HK1, ⟨m1, rfl⟩⟩ := hrel
   cases gk with
   | zero => exact absurd HA.out (by simp [W9.l0])
   | succ k1 =>
    have H := HA.out; clear HA
    simp only [W9.l0] at H
    by_cases c4 : J9 < a1
    ·rw [if_pos c4] at H; have a4d := dt_ c4; clear c4; have H' := a_ H; clear H
     go_wp2
     go_roundg k1
     case measure => have := HK1.out; omega
     case rel => exact ⟨((Int.tdiv a5M 2) % 4294967296), ((J9 + 1) % 256), (by rfl), (by rfl), H', ⟨by have := HK1.out; omega⟩, by repeat (first | exact F8.refl _ | apply F8.step)⟩
    ·rw [if_neg c4] at H; have a4d := df_ c4; clear c4; obtain rfl := oj_ H
     go_wp2
     go_ret
     exact ⟨by (rfl), by repeat (first | exact F8.refl _ | apply F8.step)⟩
end Go.Proofs.YtgnonglkibhnhaaDoor.Print
