-- laid together by this session's own program (wip/tools/merge.py) of texts that its program laid
import Derived.Test.YtgnonglkibhnhaaDoorF81
import Derived.Test.YtgnonglkibhnhaaDoorF64
import Derived.Test.YtgnonglkibhnhaaDoorM3
namespace Go.Proofs.YtgnonglkibhnhaaDoor.Print
open Go.RowKit Go.Proofs.YtgnonglkibhnhaaDoorW.PrintWords Go.Proofs.YtgnonglkibhnhaaDoorW.PrintLast Go.Proofs.YtgnonglkibhnhaaDoorW.PrintMore
attribute [local go_sem] a0o a0p a0R a0S Y5 Y6 a0q a0r
set_option linter.unusedVariables false
set_option linter.unusedSimpArgs false
set_option maxHeartbeats 16000000
set_option maxRecDepth 100000
def a1M.f (k : Nat) (l0 : List Int) : Option (Int × List Int × Int) := (head_Read.f k l0).bind fun d1Y => (if d1Y.2.2 = 0 then ((a4w.f l0 d1Y.2.1).bind fun t148 => (some (d1Y.1, t148, 0))) else (some (0, ([] : List Int), d1Y.2.2)))
def a1M.T4 : Bool × List (List Nat × List Nat) := (true, [([], []), ([0], [0]), ([], []), ([], []), ([3], [3]), ([2, 4], [2, 4]), ([1, 5, 0, 1], [1]), ([5, 6, 0, 1, 2, 3, 4, 5, 6], [5]), ([7, 0, 1, 2, 3, 4, 5, 6, 7], [])])
def a1M.B4 : List Nat := [0, 1, 0, 0, 8, 28, 63, 127, 255]
theorem a1M.d3M : a3g .any (opsOf Tryd.f63 4) = a1M.T4 := by kernel_rfl
theorem a1M.c0W : a2I a1M.T4.2 a1M.B4 = true := by kernel_rfl
theorem a1M.calls (k : Nat) (A0 : Option Addr) (c0 : Nat) (l0 : List Int) (r1 : Int) (r2 : List Int) (r3 : Int) (w : World) (hr0 : Kd.C (Kd.int .u8) w A0 l0.length l0) (hc0 : l0.length ≤ c0) (h : a1M.f k l0 = some (r1, r2, r3)) :
  Calls Tryd.prog 63 #[.slice A0 l0.length c0] w fun e w' => ∃ v1_ : Value, e = .returned (.tuple #[.int .i64 r1, v1_, .int .i64 r3]) ∧ Kd.R (Kd.int .u8) 5 w' w.heap.size (fun _ => True) v1_ r2 ∧ Below w.heap.size w w' := by
 have d64 := Tryd.underlying122
 have HR0 := a_ hr0
 have HC0 := a_ hc0
 clear hr0 hc0
 have HB := a_ (Below.refl w.heap.size w)
 have H := h
 clear h
 unfold a1M.f at H
 obtain ⟨⟨c8C, t145, t146⟩, A2, H⟩ := bd_ H
 try dsimp only at H
 by_cases c3 : t146 = 0
 ·rw [if_pos c3] at H; obtain ⟨a3T, b1E⟩ := bt_ c3; clear c3; obtain ⟨t148, A4, H⟩ := bd_ H
  (try dsimp only at H); obtain ⟨rfl, rfl, rfl⟩ := s3_ H
  go_enter Tryd.func63, Tryd.ntmps63
  try go_wp2_with (first | (refine gl_ (some 9) Tryd.func81 #[.slice A0 l0.length c0] ?_; (with_reducible refine (head_Read.calls k _ _ l0 c8C t145 t146 _ HR0.out HC0.out A2.out).mono ?_); rintro e w5 ⟨rfl, hb⟩; refine ⟨_, rfl, ?_⟩; replace HB := V3 HB hb; (try clear hb)) | (refine be_ 5 #[.int .i64 0, .int .i64 0] 122 ?_; intro b3Z hg w6 hbox hb; have a9l := a_ hbox; have d7F := lb_ HB hg; replace HB := V3 HB hb; clear hb hbox hg; obtain ⟨d6i, d6j, d6k, d6l⟩ := a1B a9l.out))
  have n0_ : Aside0 (((w6.setCell ⟨b3Z, 0, none⟩ (.int .i64 c8C)).setCell ⟨b3Z, 1, none⟩ (.int .i64 t145)).heap[b3Z]? = some (.cells #[.int .i64 c8C, .int .i64 t145] 122 (0, 0))) := ⟨l9 (l9 a9l.out 0 _ rfl) 1 _ rfl⟩; have n1_ : Aside0 (Below w.heap.size w ((w6.setCell ⟨b3Z, 0, none⟩ (.int .i64 c8C)).setCell ⟨b3Z, 1, none⟩ (.int .i64 t145))) := ⟨by repeat (with_reducible first | exact HB.out | refine o7 ?_ d7F.out)⟩
  (try clear a9l)
  (try clear HB)
  generalize ((w6.setCell ⟨b3Z, 0, none⟩ (.int .i64 c8C)).setCell ⟨b3Z, 1, none⟩ (.int .i64 t145)) = w8 at n0_ n1_ ⊢; have a9l := n0_; have HB := n1_; clear n0_ n1_; replace a9l := a_ (G9 a9l.out); replace HB := a_ (Y4 HB.out); refine a2E (n := 9) (S := fun w' => w'.cell? ⟨b3Z, 0, none⟩ = some (.int .i64 c8C) ∧ w'.cell? ⟨b3Z, 1, none⟩ = some (.int .i64 t145)) (ds := []) (bo_ 9 0) (by kernel_rfl) rfl rfl ⟨bc0 a9l, bc1 a9l⟩ (fun hHeld => ?_); refine a2J a1M.d3M a1M.c0W (fun Z8 HW_ => ?_); generalize w8.drew = w9 at a9l HB hHeld ⊢; refine pu_ 0 (some 15) Z8 ?_; refine pu_ 2 (some 17) Z8 ?_; refine pu_ 3 (some 18) Z8 ?_; refine a1H (i := 1) (N := some 16) (v := ?_) (a' := ?_) (bo_ 9 15) rfl rfl (a1I Z8.out HW_.out (by kernel_rfl)) (fun _ _ _ h => h) (Or.inl ⟨by rfl, ?_⟩) hHeld ?_ ?_
  rotate_left
  ·rintro w' ⟨s0, s1⟩
   go_simp
   with_reducible rfl
  rotate_left
  ·simp only [Act.put, List.setIfInBounds_toArray, List.set_cons_zero, List.set_cons_succ, a0J, a2b]
   rfl
  refine a1H (i := 4) (N := some 19) (v := ?_) (a' := ?_) (bo_ 9 31) rfl rfl (a1I Z8.out HW_.out (by kernel_rfl)) (fun _ _ _ h => h) (Or.inl ⟨by rfl, ?_⟩) hHeld ?_ ?_
  rotate_left
  ·rintro w' ⟨s0, s1⟩
   go_simp
   with_reducible rfl
  rotate_left
  ·simp only [Act.put, List.setIfInBounds_toArray, List.set_cons_zero, List.set_cons_succ, a0J, a2b]
   rfl
  refine a6o (i := 5) (N := some 20) (bo_ 9 63) rfl rfl (a1U Z8.out (by kernel_rfl)) (by decide) (fun K hK => ?_); refine a5o Tryd.func82 (by kernel_rfl) rfl #[.slice A0 l0.length c0, .int .i64 t145] (by rfl) rfl rfl (by (try simp only [List.map_toArray, List.map_cons, List.map_nil]); (rfl)) ?_
  with_reducible refine (a4w.calls _ _ l0 t145 t148 _ ?P9 ?P6 A4.out).mono ?_
  (case P9 => exact (Kd.y9 HR0.out HB.out))
  (case P6 => exact HC0.out)
  rintro e w10 ⟨h4u, rfl, ho0, hb⟩; refine ⟨_, rfl, ?_⟩; have f6k := rl_ ho0 HB; replace a9l := X3 a9l hb; replace HB := V3 HB hb
  (try clear hb)
  (try clear ho0)
  refine hK.out _ _ ⟨bc0 a9l, bc1 a9l⟩ (fun hHeld => ?_); clear hK K; refine nm_ (some 20) ?_; refine pu_ 6 (some 2) Z8 ?_; refine pu_ 7 (some 3) Z8 ?_; refine pu_ 8 (some 4) Z8 ?_; refine a4D (a5D Z8.out (by kernel_rfl)) ?_
  try go_wp2
  go_ret3
  exact ⟨_, by (rfl), by exact f6k.out, by exact HB.out⟩
 ·rw [if_neg c3] at H; have a3T := bq_ c3; have b1E := bn_ c3; obtain ⟨rfl, rfl, rfl⟩ := s3_ H
  go_enter Tryd.func63, Tryd.ntmps63
  go_wp2_with (first | (refine gl_ (some 9) Tryd.func81 #[.slice A0 l0.length c0] ?_; (with_reducible refine (head_Read.calls k _ _ l0 c8C t145 t146 _ HR0.out HC0.out A2.out).mono ?_); rintro e w11 ⟨rfl, hb⟩; refine ⟨_, rfl, ?_⟩; replace HB := V3 HB hb; (try clear hb)) | (refine be_ 5 #[.int .i64 0, .int .i64 0] 122 ?_; intro b3Z hg w12 hbox hb; have a9l := a_ hbox; have d7F := lb_ HB hg; replace HB := V3 HB hb; clear hb hbox hg; obtain ⟨b3e, b3f, b3g, b3h⟩ := a1B a9l.out))
  go_ret3
  exact ⟨_, by (rfl), by (exact Kd.Y2 _ _ _ _ _), by repeat (with_reducible first | exact HB.out | refine o7 ?_ d7F.out)⟩
def a1z.f (k : Nat) (l0 : List S42) (a1 : Int) (l2 : List Int) : Option (List S42) := (a1M.f k l2).bind fun t => if t.2.2 = 0 then (if l0.length < 3518437208883 then some (l0 ++ [(⟨a1, t.1, t.2.1⟩ : S42)]) else none) else some l0
structure Longer (W W' : World) (base : Nat) (ok : Nat → Prop) (v v' : Value) (r : List S42) : Prop where
 row : Kd.S k42 42 W' base ok v' r
 grown : W.grownBy W' v.ownBlock
 at_ : v'.ownBlock = v.ownBlock ∨ ∃ b, v'.ownBlock = some b ∧ W.heap.size ≤ b
theorem a1z.calls (k : Nat) (base : Nat) (ok : Nat → Prop) (v : Value) (l0 : List S42) (a1 : Int) (A2 : Option Addr) (c2 : Nat) (l2 : List Int) (r : List S42) (W : World) (hS : Kd.S k42 42 W base ok v l0) (hf : ∀ k, W.heap.size ≤ k → ok k) (hb : base ≤ W.heap.size) (hr2 : Kd.C (Kd.int .u8) W A2 l2.length l2) (hc2 : l2.length ≤ c2) (h : a1z.f k l0 a1 l2 = some r) :
  Calls Tryd.prog 43 #[v, .int .i64 a1, .slice A2 l2.length c2] W fun e W' => ∃ v', e = .returned v' ∧ Aside0 (Longer W W' base ok v v' r) ∧ Aside0 (Below base W W') := by
 obtain ⟨⟨t0, t1, t2⟩, ht, h⟩ := Option.bind_eq_some_iff.1 h
 have HT := a_ ht
 have HS := a_ hS
 have HF := a_ hf
 have HB := a_ hb
 have HR2 := a_ hr2
 have HC2 := a_ hc2
 have HLT := a_ (Kd.b93 hS)
 obtain ⟨A0, c0, rfl⟩ := Kd.a6m hS
 clear hS hf hb hr2 hc2 ht
 by_cases hw : t2 = 0
 ·subst hw; rw [if_pos rfl] at h
  by_cases hl : l0.length < 3518437208883
  ·rw [if_pos hl] at h; obtain rfl := oj_ h; have HL := a_ hl; clear h hl
   go_enter Tryd.func43, Tryd.ntmps43
   go_wp2_with (fail)
   refine (a1M.calls k A2 c2 l2 t0 t1 0 _ HR2.out HC2.out HT.out).mono ?_; rintro e w1 ⟨v1, rfl, ho, hb1⟩; obtain ⟨A1, c1, rfl⟩ := Kd.G7 ho; have HO := a_ ho; have HB1 := a_ hb1; have S1 := a_ (Kd.d4y HS.out hb1); clear ho hb1
   go_wp2_with (((with_reducible refine E8 (b := .append) (xs := #[.tmp 19, .tmp 24]) rfl ?_); at_builtin; refine Kd.a7I k42 (w0 := w1) base rfl (.tmp 19) (.tmp 24) 27 42 (.agg #[(.int .i64 0), (.int .i64 0), (.slice none 0 0)]) 40 rfl Tryd.underlying27 info42 rfl (by decide) (by omega) (.slice A0 l0.length c0) l0 (⟨a1, t0, t1⟩ : S42) [.int .i64 a1, .int .i64 t0, .slice A1 t1.length c1] ok (fun k_ => some k_ = (.slice A1 t1.length c1 : Value).ownBlock) rfl rfl ?aP ?aK ?aF ?aO ?aB ?aS ?aL ?_; (case aP => exact c9m _ _ _ (⟨a1, t0, t1⟩ : S42) (Kd.a3v rfl (Kd.Z9 HO.out HB.out))); (case aK => exact fun k_ hk => ⟨HF.out k_ (Kd.a0C HO.out k_ hk.symm), fun e_ => by have h1 := Kd.a0C HO.out k_ hk.symm; have h2 := HLT.out k_ e_.symm; omega⟩); (case aF => exact fun k_ hk => HF.out k_ (Nat.le_trans HB1.out.size hk)); (case aO => exact Kd.N7 S1.out (fun k_ hk => ⟨hk.1, fun e_ => by have h1 := Kd.a0C HO.out k_ e_.symm; have h2 := hk.2; omega⟩)); (case aB => exact Below.refl _ _); (case aS => exact Nat.le_trans HB.out HB1.out.size); (case aL => have := HL.out; omega); intro v5 w5 ho hb5 hg hat; have HO5 := a_ ho; have HB5 := a_ hb5; have HG5 := a_ hg; have HA5 := a_ hat; clear ho hb5 hg hat))
   go_ret
   refine ⟨_, rfl, ⟨HO5.out, ?_, ?_⟩, ⟨(HB1.out.mono HB.out).trans HB5.out⟩⟩
   ·exact (a4f HB1.out _).trans HG5.out
   ·rcases HA5.out with h | ⟨b, h, hle⟩
    ·exact .inl h
    ·exact .inr ⟨b, h, Nat.le_trans HB1.out.size hle⟩
  ·rw [if_neg hl] at h
   cases h
 ·rw [if_neg hw] at h; obtain rfl := oj_ h; have e1 : (t2 != 0) = true := by simpa using hw
  have e2 : decide (t2 = 0) = false := by simpa using hw
  have e3 : (t2 == 0) = false := by simpa using hw
  clear h
  go_enter Tryd.func43, Tryd.ntmps43
  go_wp2_with (fail)
  refine (a1M.calls k A2 c2 l2 t0 t1 t2 _ HR2.out HC2.out HT.out).mono ?_; rintro e w1 ⟨v1, rfl, ho, hb1⟩; obtain ⟨A1, c1, rfl⟩ := Kd.G7 ho; have HB1 := a_ hb1; clear ho hb1
  go_wp2
  go_ret
  exact ⟨_, rfl, ⟨Kd.a4s HS.out HB1.out, a4f HB1.out _, .inl rfl⟩, ⟨HB1.out.mono HB.out⟩⟩
def a1N.l0 : Nat → List Int → List (S58) → Int → Option ((List (S58)) × Int × Int)
 | 0, _, _, _ => none
 | k + 1, x0, x4, x5 => if x5 < (x0.length : Int) then (if 0 ≤ x5 then (if x5 ≤ (x0.length : Int) then ((dump_Next.f k (x0.drop (x5 : Int).toNat)).bind fun c1g => (if c1g.2.2.2.2 = 0 then (if x4.length < 3518437208883 then (a1N.l0 k x0 (x4 ++ [(⟨c1g.1, c1g.2.1, c1g.2.2.1⟩ : S58)]) (wrap64 (x5 + c1g.2.2.2.1))) else (none)) else (some (x4, x5, c1g.2.2.2.2)))) else (none)) else (none)) else (some (x4, 0, 0))
def a1N.f (k : Nat) (l0 : List Int) : Option ((List (S58)) × Int × Int) := a1N.l0 k l0 ([] : List (S58)) 0
theorem a1N.calls (k : Nat) (A0 : Option Addr) (c0 : Nat) (l0 : List Int) (r1 : List (S58)) (r2 : Int) (r3 : Int) (w : World) (hG0 : Kd.C b35 w (some ⟨0, 0, none⟩) 8 H7) (hr0 : Kd.C (Kd.int .u8) w A0 l0.length l0) (hc0 : l0.length ≤ c0) (h : a1N.f k l0 = some (r1, r2, r3)) :
  Calls Tryd.prog 44 #[.slice A0 l0.length c0] w fun e w' => ∃ v0_ : Value, e = .returned (.tuple #[v0_, .agg #[.int .i64 r2, .int .i64 r3]]) ∧ Kd.S k58 58 w' w.heap.size (fun _ => True) v0_ r1 ∧ Below w.heap.size w w' := by
 have a8e := Tryd.underlying30
 have c7K := Tryd.underlying58
 have HR0 := a_ hr0
 have HC0 := a_ hc0
 clear hr0 hc0
 have a5X := a_ hG0
 clear hG0
 have HB := a_ (Below.refl w.heap.size w)
 have H := h
 clear h
 unfold a1N.f at H
 have H' := a_ H
 clear H
 go_enter Tryd.func44, Tryd.ntmps44
 go_wp2_with (first | (refine be_ 3 #[.int .i64 0, .int .i64 0] 30 ?_; intro b6W hg w2 hbox hb; have a4J := a_ hbox; have e6m := lb_ HB hg; replace HB := V3 HB hb; clear hb hbox hg))
 go_loopg [4, 5] k (fun kq v4 v5 w' => ∃ (a2O : List (S58)) (L9 : Int) (b3q : Int) (b3r : Int), v5 = .int .i64 L9 ∧ Aside0 (a1N.l0 kq l0 a2O L9 = some (r1, r2, r3)) ∧ Aside0 (kq ≤ k) ∧ Aside0 (Kd.S k58 58 w' w.heap.size (fun _ => True) v4 a2O) ∧ Aside0 (w'.heap[b6W]? = some (.cells #[.int .i64 b3q, .int .i64 b3r] 30 (0, 0))) ∧ Aside0 (Below w.heap.size w w'))
 case atStart => exact ⟨([] : List (S58)), (0), (0), (0), (by rfl), H', ⟨Nat.le_refl _⟩, ⟨by (exact Kd.a5p _ _ _ _ _)⟩, ⟨by exact a4J.out⟩, ⟨by exact HB.out⟩⟩
 case round =>
  clear H'; obtain ⟨a2O, L9, b3q, b3r, rfl, HA, HK1, a1F, a4J, HB⟩ := hrel
  cases gk with
  | zero => exact absurd HA.out (by simp [a1N.l0])
  | succ k1 =>
   have H := HA.out; clear HA
   simp only [a1N.l0] at H
   by_cases c3 : L9 < (l0.length : Int)
   ·rw [if_pos c3] at H; have a3T := dt_ c3; clear c3; have c4 := Z4 H; replace H := O5 H; have a4i := eq_true c4; have b2z := dt_ c4; clear c4; have c5 := Z4 H; replace H := O5 H; have a5H := eq_true c5; have b1f := dt_ c5; clear c5; obtain ⟨⟨b9t, t171, b4v, t175, d7G⟩, A6, H⟩ := bd_ H
    try dsimp only at H
    by_cases c7 : d7G = 0
    ·rw [if_pos c7] at H; obtain ⟨a6f, b0g⟩ := bt_ c7; clear c7; have c8 := Z4 H; replace H := O5 H; have b6u := a_ c8; clear c8; obtain ⟨g6Y, d7H⟩ := is_ ((a2O ++ [(⟨b9t, t171, b4v⟩ : S58)]) : List (S58)); rw [← d7H] at H; have f6l := a_ d7H; clear d7H; have H' := a_ H; clear H; obtain ⟨i09, d7I, _, d7J, _⟩ := info_parts info5; obtain ⟨A9, f6m, hA9, hC9⟩ := a0O (P := Tryd.prog) (Value.int .u8) 0 22 5 .i64 Tryd.underlying22 d7I d7J A0 c0 l0 L9 (V5) (V5) HC0.out; have d7K := ci_ (Kd.Y8 (h1 := fun _ => rfl) (hA9 _ (Kd.Y3 HR0.out))); have d7L := a_ hC9; clear hA9 hC9 d7I d7J
     go_wp2_with (first | (refine gl_ (some 17) Tryd.func64 #[.slice A9 (l0.drop (L9 : Int).toNat).length (c0 - L9.toNat)] ?_ (hargs := by (try simp only [List.map_toArray, List.map_cons, List.map_nil]); (rw [show (l0.drop (L9 : Int).toNat).length = (l0.length - L9.toNat) from List.length_drop] <;> rfl)); (with_reducible refine (dump_Next.calls k1 _ _ (l0.drop (L9 : Int).toNat) b9t t171 b4v t175 d7G _ (Kd.y9 a5X.out HB.out) (Kd.y9 d7K.out HB.out) d7L.out A6.out).mono ?_); rintro e w10 ⟨v173, rfl, ho0, hb⟩; refine ⟨_, rfl, ?_⟩; have b0q := rl_ ho0 HB; replace a1F := rS_ a1F ho0 hb; replace a4J := X3 a4J hb; replace HB := V3 HB hb; (try clear hb); (try clear ho0)) | (refine be_ 6 #[.int .i64 0, .int .u32 0, .slice none 0 0] 58 ?_; intro a6x hg w11 hbox hb; have b0r := a_ hbox; have d7M := lb_ HB hg; obtain ⟨a5J, b6A⟩ := nn_ a4J hg; replace a1F := se_ a1F hg hb; replace b0q := rb_ b0q hb; replace a4J := X3 a4J hb; replace HB := V3 HB hb; clear hb hbox hg; have d65 := b6A.out; have d66 := a5J.out; obtain ⟨b3e, b3f, b7J, b3g, b3h, b7K⟩ := a1Z b0r.out; obtain ⟨a9V, a9W, d7N⟩ := Kd.G7 b0q.out; subst d7N) | ((with_reducible refine a6n (t := 58) (p := 6) rfl ?_); refine a5n (t := 58) (p := 6) (v := ?e9K) (w1 := (((w11.setCell ⟨a6x, 0, none⟩ (.int .i64 b9t)).setCell ⟨a6x, 1, none⟩ (.int .u32 t171)).setCell ⟨a6x, 2, none⟩ (.slice a9V b4v.length a9W))) ?hg ?ho ?hn ?hr ?_; (case ho => rfl); (case hg => rfl); (case hn => rfl); (case hr => (go_simp; done)); intro w15 hw; have n0_ : Aside0 (Kd.S k58 58 w15 w.heap.size (fun k_ => some k_ ≠ (.slice a9V b4v.length a9W : Value).ownBlock ∧ k_ ≠ a6x) u4 a2O) := ⟨(by rw [hw]; exact (by exact Kd.N7 (Kd.V9 (p := ⟨a6x, 2, none⟩) (Kd.V9 (p := ⟨a6x, 1, none⟩) (Kd.V9 (p := ⟨a6x, 0, none⟩) (Kd.N7 a1F.out (fun k_ hk => (⟨hk, hk.2⟩ : _ ∧ k_ ≠ a6x))) (fun _ hk => hk.2) (.int .i64 b9t)) (fun _ hk => hk.2) (.int .u32 t171)) (fun _ hk => hk.2) (.slice a9V b4v.length a9W)) (fun _ hk => ⟨hk.1.1.2, hk.1.2⟩)))⟩; have n1_ : Aside0 (Kd.R (Kd.int .u8) 5 w15 w.heap.size (fun _ => True) (.slice a9V b4v.length a9W) b4v) := ⟨(by rw [hw]; exact (by exact Kd.D7 (Kd.U0 (p := ⟨a6x, 2, none⟩) (Kd.U0 (p := ⟨a6x, 1, none⟩) (Kd.U0 (p := ⟨a6x, 0, none⟩) (Kd.P8 b0q.out b0r.out (by decide)) (fun _ hk => hk.2) (.int .i64 b9t)) (fun _ hk => hk.2) (.int .u32 t171)) (fun _ hk => hk.2) (.slice a9V b4v.length a9W)) (fun _ hk => trivial)))⟩; have n2_ : Aside0 (w15.heap[b6W]? = some (.cells #[.int .i64 b3q, .int .i64 b3r] 30 (0, 0))) := ⟨(by rw [hw]; exact (o8 (o8 (o8 a4J.out a5J.out _) a5J.out _) a5J.out _))⟩; have n3_ : Aside0 (w15.heap[a6x]? = some (.cells #[.int .i64 b9t, .int .u32 t171, .slice a9V b4v.length a9W] 58 (0, 0))) := ⟨(by rw [hw]; exact (l9 (l9 (l9 b0r.out 0 _ rfl) 1 _ rfl) 2 _ rfl))⟩; have n4_ : Aside0 (Below w.heap.size w w15) := ⟨(by rw [hw]; exact (by repeat (with_reducible first | exact HB.out | refine o7 ?_ d7M.out)))⟩; clear hw a1F b0q a4J b0r HB; have a1F := n0_; have b0q := n1_; have a4J := n2_; have b0r := n3_; have HB := n4_; clear n0_ n1_ n2_ n3_ n4_; obtain ⟨c2W, c2X, d1P, c2Y, c2Z, d1Q⟩ := a1Z b0r.out) | ((with_reducible refine E8 (b := .append) (xs := #[.tmp 27, .tmp 29]) rfl ?_); at_builtin; refine Kd.a7I k58 (w0 := w) w.heap.size rfl (.tmp 27) (.tmp 29) 54 58 (.agg #[(.int .i64 0), (.int .u32 0), (.slice none 0 0)]) 40 rfl Tryd.underlying54 info58 rfl (by decide) (by omega) u4 a2O (⟨b9t, t171, b4v⟩ : S58) [.int .i64 b9t, .int .u32 t171, .slice a9V b4v.length a9W] (fun k_ => k_ ≠ a6x) (fun k_ => some k_ = (.slice a9V b4v.length a9W : Value).ownBlock) rfl rfl ?aP (fun k_ hk_ => ((Kd.D7 (ok' := fun k_ => (fun k_ => k_ ≠ a6x) k_ ∧ some k_ ≠ (u4 : Value).ownBlock) (Kd.P8 (Kd.X5 (b0q.out) (Kd.a2A a1F.out) (by decide)) b0r.out (by decide)) (fun k_ hk => ⟨hk.2, hk.1.2⟩))).1 k_ hk_.symm) ?aF ?aO ?aB ?aS ?aL ?_; (case aP => exact c9n _ _ _ (⟨b9t, t171, b4v⟩ : S58) (Kd.D7 (Kd.a3v rfl (Kd.D7 (ok' := fun k_ => (fun k_ => k_ ≠ a6x) k_ ∧ some k_ ≠ (u4 : Value).ownBlock) (Kd.P8 (Kd.X5 (b0q.out) (Kd.a2A a1F.out) (by decide)) b0r.out (by decide)) (fun k_ hk => ⟨hk.2, hk.1.2⟩))) (fun _ h_ => h_))); (case aB => exact HB.out); (case aF => exact (fun k_ hk => Kd.a6F b0r.out k_ hk)); (case aO => exact (by exact Kd.N7 a1F.out (fun k_ hk => ⟨hk.2, fun e_ => hk.1 e_⟩))); (case aS => exact (y5 HB.out)); (case aL => have := b6u.out; omega); intro h4w w17 ho hb hg hat; rw [← f6l.out] at ho; have f6p := a_ ho; replace a4J := a_ (J7 a4J.out hg (Kd.b8f a1F.out a4J.out (by decide))); replace b0r := a_ (J7 b0r.out hg (Kd.c1G a1F.out (fun _ hk => hk.2))); replace HB := a_ hb; clear a1F b0q ho hb hg hat))
     go_roundg k1
     case measure => have := HK1.out; omega
     case rel => exact ⟨(g6Y), (wrap64 (L9 + t175)), (b3q), (b3r), (by rfl), H', ⟨by have := HK1.out; omega⟩, ⟨by exact Kd.N7 f6p.out (fun _ hk => trivial)⟩, ⟨by exact a4J.out⟩, ⟨by exact HB.out⟩⟩
    ·rw [if_neg c7] at H; have a6f := bq_ c7; have b0g := bn_ c7; obtain ⟨rfl, rfl, rfl⟩ := s3_ H; obtain ⟨d6T, a7N, _, a7O, _⟩ := info_parts info5; obtain ⟨A18, b86, b2p, b2q⟩ := a0O (P := Tryd.prog) (Value.int .u8) 0 22 5 .i64 Tryd.underlying22 a7N a7O A0 c0 l0 L9 (V5) (V5) HC0.out; have d7K := ci_ (Kd.Y8 (h1 := fun _ => rfl) (b2p _ (Kd.Y3 HR0.out))); have d7L := a_ b2q; clear b2p b2q a7N a7O
     go_wp2_with (first | (refine gl_ (some 17) Tryd.func64 #[.slice A18 (l0.drop (L9 : Int).toNat).length (c0 - L9.toNat)] ?_ (hargs := by (try simp only [List.map_toArray, List.map_cons, List.map_nil]); (rw [show (l0.drop (L9 : Int).toNat).length = (l0.length - L9.toNat) from List.length_drop] <;> rfl)); (with_reducible refine (dump_Next.calls k1 _ _ (l0.drop (L9 : Int).toNat) b9t t171 b4v t175 d7G _ (Kd.y9 a5X.out HB.out) (Kd.y9 d7K.out HB.out) d7L.out A6.out).mono ?_); rintro e w19 ⟨v173, rfl, ho0, hb⟩; refine ⟨_, rfl, ?_⟩; have b0q := rl_ ho0 HB; replace a1F := rS_ a1F ho0 hb; replace a4J := X3 a4J hb; replace HB := V3 HB hb; (try clear hb); (try clear ho0)) | (refine be_ 6 #[.int .i64 0, .int .u32 0, .slice none 0 0] 58 ?_; intro a6x hg w20 hbox hb; have b0r := a_ hbox; have d7M := lb_ HB hg; obtain ⟨a5J, b6A⟩ := nn_ a4J hg; replace a1F := se_ a1F hg hb; replace b0q := rb_ b0q hb; replace a4J := X3 a4J hb; replace HB := V3 HB hb; clear hb hbox hg; have d07 := b6A.out; have d08 := a5J.out; obtain ⟨b5j, b5k, b7w, b5l, b5m, b7x⟩ := a1Z b0r.out; obtain ⟨b1H, b1I, c8m⟩ := Kd.G7 b0q.out; subst c8m; obtain ⟨a8t, a8u, a8v, a8w⟩ := a1B a4J.out))
     refine bodyPost_ret (a0v rfl _ _ b6W 30 #[.int .i64 L9, .int .i64 d7G] (0, 0) _ rfl (l9 (l9 (o8 (o8 (o8 a4J.out a5J.out _) a5J.out _) a5J.out _) 0 _ rfl) 1 _ rfl) Tryd.underlying30 rfl (by kernel_rfl)) rfl ?_; exact ⟨_, by (rfl), by exact Kd.N7 (Kd.V9 (p := ⟨b6W, 1, none⟩) (Kd.V9 (p := ⟨b6W, 0, none⟩) (Kd.V9 (p := ⟨a6x, 2, none⟩) (Kd.V9 (p := ⟨a6x, 1, none⟩) (Kd.V9 (p := ⟨a6x, 0, none⟩) (Kd.a1S (Kd.N7 a1F.out (fun k_ hk => (⟨hk, hk.2⟩ : _ ∧ k_ ≠ a6x))) a4J.out (by decide)) (fun _ hk => hk.1.2) (.int .i64 b9t)) (fun _ hk => hk.1.2) (.int .u32 t171)) (fun _ hk => hk.1.2) (.slice b1H b4v.length b1I)) (fun _ hk => hk.2) (.int .i64 L9)) (fun _ hk => hk.2) (.int .i64 d7G)) (fun _ hk => trivial), by repeat (with_reducible first | exact HB.out | refine o7 ?_ e6m.out | refine o7 ?_ d7M.out)⟩
   ·rw [if_neg c3] at H; have a3T := df_ c3; clear c3; obtain ⟨rfl, rfl, rfl⟩ := s3_ H; obtain ⟨d0t, d0u, d0v, d0w⟩ := a1B a4J.out
    go_wp2
    refine bodyPost_ret (a0v rfl _ _ b6W 30 #[.int .i64 0, .int .i64 0] (0, 0) _ rfl (l9 (l9 a4J.out 0 _ rfl) 1 _ rfl) Tryd.underlying30 rfl (by kernel_rfl)) rfl ?_; exact ⟨_, by (rfl), by exact Kd.N7 (Kd.V9 (p := ⟨b6W, 1, none⟩) (Kd.V9 (p := ⟨b6W, 0, none⟩) (Kd.a1S a1F.out a4J.out (by decide)) (fun _ hk => hk.2) (.int .i64 0)) (fun _ hk => hk.2) (.int .i64 0)) (fun _ hk => trivial), by repeat (with_reducible first | exact HB.out | refine o7 ?_ e6m.out)⟩
def U5.f (k : Nat) (l0 : List Int) (a1 : Int) (a2 : Bool) : Option (Int) := if 0 ≤ a1 then (if a1 ≤ (wrap64 (a1 + 4)) then (if (wrap64 (a1 + 4)) ≤ (l0.length : Int) then ((Q8.f k ((l0.take ((wrap64 (a1 + 4)) : Int).toNat).drop (a1 : Int).toNat) a2).bind fun e9L => (some ((e9L) % 4294967296))) else (none)) else (none)) else (none)
theorem U5.calls (k : Nat) (A0 : Option Addr) (c0 : Nat) (l0 : List Int) (a1 : Int) (a2 : Bool) (r : Int) (w : World) (hr0 : Kd.C (Kd.int .u8) w A0 l0.length l0) (hc0 : l0.length ≤ c0) (h : U5.f k l0 a1 a2 = some r) :
  Calls Tryd.prog 59 #[.slice A0 l0.length c0, .int .i64 a1, .bool a2] w fun e w' => e = .returned (.int .u32 r) ∧ G5 w w' := by
 have HR0 := a_ hr0
 have HC0 := a_ hc0
 clear hr0 hc0
 have H := h
 clear h
 unfold U5.f at H
 have c4 := Z4 H
 replace H := O5 H
 have a4i := eq_true c4
 have b2z := dt_ c4
 clear c4
 have c5 := Z4 H
 replace H := O5 H
 have a5H := eq_true c5
 have b1f := dt_ c5
 have c6 := Z4 H
 replace H := O5 H
 have a8y := eq_true c6
 have b5p := dt_ c6
 obtain ⟨e9L, A7, H⟩ := bd_ H
 try dsimp only at H
 obtain rfl := oj_ H
 obtain ⟨i08, c6p, _, c6q, _⟩ := info_parts info5
 obtain ⟨A8, e6h, hA8, hC8⟩ := a5B (P := Tryd.prog) (Value.int .u8) 0 22 5 .i64 .i64 Tryd.underlying22 c6p c6q A0 c0 l0 a1 (wrap64 (a1 + 4)) (V5) (by omega) (V5) HC0.out
 have f6q := ci_ (Kd.Y8 (h1 := fun _ => rfl) (hA8 _ (Kd.Y3 HR0.out)))
 have f6r := a_ hC8
 clear hA8 hC8 c6p c6q
 go_enter Tryd.func59, Tryd.ntmps59
 go_wp2_with (first | (refine gl_ (some 13) Tryd.func58 #[.slice A8 ((l0.take ((wrap64 (a1 + 4)) : Int).toNat).drop (a1 : Int).toNat).length (c0 - a1.toNat), .bool a2] ?_ (hargs := by (try simp only [List.map_toArray, List.map_cons, List.map_nil]); (rw [show ((l0.take ((wrap64 (a1 + 4)) : Int).toNat).drop (a1 : Int).toNat).length = ((wrap64 (a1 + 4)).toNat - a1.toNat) from (by rw [List.length_drop, List.length_take]; have h_ : ((wrap64 (a1 + 4)) : Int) ≤ (l0.length : Int) := V5; omega)] <;> rfl)); (with_reducible refine (Q8.calls k _ _ ((l0.take ((wrap64 (a1 + 4)) : Int).toNat).drop (a1 : Int).toNat) a2 e9L _ f6q.out f6r.out A7.out).mono ?_); rintro e w' ⟨rfl, ⟨nd, rfl⟩⟩; refine ⟨_, rfl, ?_⟩))
 go_ret
 exact ⟨by (rfl), by repeat (first | exact G5.refl _ | apply G5.step)⟩
def U2.f (k : Nat) (l0 : List Int) (a1 : Bool) : Option (Int × Int × Int × List Int × Int × Int) := if (l0.length : Int) < 16 then (some (0, 0, 0, ([] : List Int), 0, 2)) else ((U5.f k l0 8 a1).bind fun a8A => (if (wrap64 (a8A)) > 131072 then (some (0, 0, 0, ([] : List Int), 0, 4)) else (if (l0.length : Int) < (wrap64 (16 + (wrap64 (a8A)))) then (some (0, 0, 0, ([] : List Int), 0, 2)) else ((U5.f k l0 0 a1).bind fun b9u => ((U5.f k l0 4 a1).bind fun b9v => ((U5.f k l0 12 a1).bind fun b9w => (if 16 ≤ (wrap64 (16 + (wrap64 (a8A)))) then (if (wrap64 (16 + (wrap64 (a8A)))) ≤ (l0.length : Int) then (if ([] : List Int).length + ((l0.take ((wrap64 (16 + (wrap64 (a8A)))) : Int).toNat).drop 16).length < 140737488355328 then (some (b9u, b9v, b9w, (([] : List Int) ++ ((l0.take ((wrap64 (16 + (wrap64 (a8A)))) : Int).toNat).drop 16)), wrap64 (16 + (wrap64 (a8A))), 0)) else (none)) else (none)) else (none))))))))
def U2.T9 : Bool × List (List Nat × List Nat) := (true, [([], []), ([0], [0]), ([], []), ([], []), ([3], [3]), ([2, 4], [2, 4]), ([1, 5], [1, 5]), ([0, 1, 2, 3, 4, 5, 6], []), ([7, 6, 6, 0, 1, 2, 3, 4, 5, 6], [6, 7])])
def U2.B9 : List Nat := [0, 1, 0, 0, 8, 28, 63, 127, 255]
theorem U2.g6Z : a3g .any (opsOf Tryd.f36 9) = U2.T9 := by kernel_rfl
theorem U2.f6s : a2I U2.T9.2 U2.B9 = true := by kernel_rfl
theorem U2.calls (k : Nat) (A0 : Option Addr) (c0 : Nat) (l0 : List Int) (a1 : Bool) (r1 : Int) (r2 : Int) (r3 : Int) (r4 : List Int) (r5 : Int) (r6 : Int) (w : World) (hr0 : Kd.C (Kd.int .u8) w A0 l0.length l0) (hc0 : l0.length ≤ c0) (h : U2.f k l0 a1 = some (r1, r2, r3, r4, r5, r6)) :
  Calls Tryd.prog 36 #[.slice A0 l0.length c0, .bool a1] w fun e w' => ∃ v3_ : Value, e = .returned (.tuple #[.agg #[.int .u32 r1, .int .u32 r2, .int .u32 r3, v3_], .int .i64 r5, .int .i64 r6]) ∧ Kd.R (Kd.int .u8) 5 w' w.heap.size (fun _ => True) v3_ r4 ∧ Below w.heap.size w w' := by
 have d3L := Tryd.underlying51
 have HR0 := a_ hr0
 have HC0 := a_ hc0
 clear hr0 hc0
 have HB := a_ (Below.refl w.heap.size w)
 have H := h
 clear h
 unfold U2.f at H
 by_cases c3 : (l0.length : Int) < 16
 ·rw [if_pos c3] at H; have a3T := dt_ c3; have b1E : decide (l0.length < 16) = true := dt_ (by omega); clear c3; obtain ⟨rfl, rfl, rfl, rfl, rfl, rfl⟩ := s6_ H
  go_enter Tryd.func36, Tryd.ntmps36
  go_wp2_with (first | (refine be_ 4 #[.int .u32 0, .int .u32 0, .int .u32 0, .slice none 0 0] 51 ?_; intro a7j hg w4 hbox hb; have a1R := a_ hbox; have b9x := lb_ HB hg; replace HB := V3 HB hb; clear hb hbox hg; obtain ⟨c2P, c2Q, c2R, d7O, c2S, c2T, c2V, d7P⟩ := blk4 a1R.out))
  refine bodyPost_ret (a0f rfl _ _ a7j 51 #[.int .u32 0, .int .u32 0, .int .u32 0, .slice none 0 0] (0, 0) _ rfl (l9 (l9 (l9 (l9 a1R.out 0 _ rfl) 1 _ rfl) 2 _ rfl) 3 _ rfl) Tryd.underlying51 rfl (by kernel_rfl)) rfl ?_; exact ⟨_, by (rfl), by (exact Kd.Y2 _ _ _ _ _), by repeat (with_reducible first | exact HB.out | refine o7 ?_ b9x.out)⟩
 ·rw [if_neg c3] at H; have a3T := df_ c3; have b1E : decide (l0.length < 16) = false := df_ (by omega); clear c3; obtain ⟨a8A, A6, H⟩ := bd_ H
  try dsimp only at H
  by_cases c7 : (wrap64 (a8A)) > 131072
  ·rw [if_pos c7] at H; have a6f : decide (131072 < (wrap64 (a8A))) = true := dt_ c7; clear c7; obtain ⟨rfl, rfl, rfl, rfl, rfl, rfl⟩ := s6_ H
   go_enter Tryd.func36, Tryd.ntmps36
   go_wp2_with (first | (refine be_ 4 #[.int .u32 0, .int .u32 0, .int .u32 0, .slice none 0 0] 51 ?_; intro a7j hg w8 hbox hb; have a1R := a_ hbox; have b9x := lb_ HB hg; replace HB := V3 HB hb; clear hb hbox hg) | (refine gl_ (some 15) Tryd.func59 #[.slice A0 l0.length c0, .int .i64 8, .bool a1] ?_; (with_reducible refine (U5.calls k _ _ l0 8 a1 a8A _ (Kd.y9 HR0.out HB.out) HC0.out A6.out).mono ?_); rintro e w' ⟨rfl, ⟨nd, rfl⟩⟩; refine ⟨_, rfl, ?_⟩; (try (rw [a4v w8]; generalize hq_ : World.drewN w8 _ = w8; have n0_ : Aside0 (w8.heap[a7j]? = some (.cells #[.int .u32 0, .int .u32 0, .int .u32 0, .slice none 0 0] 51 (0, 0))) := ⟨by rw [← hq_]; exact (by (with_reducible repeat (refine Y7 ?_ _)); exact a1R.out)⟩; have n1_ : Aside0 (Below w.heap.size w w8) := ⟨by rw [← hq_]; exact (by repeat (with_reducible first | exact HB.out | apply o9))⟩; clear a1R HB hq_; have a1R := n0_; have HB := n1_; clear n0_ n1_)); obtain ⟨c7L, c7M, d57, e9M, c7N, c7O, d58, e9N⟩ := blk4 a1R.out))
   refine bodyPost_ret (a0f rfl _ _ a7j 51 #[.int .u32 0, .int .u32 0, .int .u32 0, .slice none 0 0] (0, 0) _ rfl (l9 (l9 (l9 (l9 a1R.out 0 _ rfl) 1 _ rfl) 2 _ rfl) 3 _ rfl) Tryd.underlying51 rfl (by kernel_rfl)) rfl ?_; exact ⟨_, by (rfl), by (exact Kd.Y2 _ _ _ _ _), by repeat (with_reducible first | exact HB.out | refine o7 ?_ b9x.out)⟩
  ·rw [if_neg c7] at H; have a6f : decide (131072 < (wrap64 (a8A))) = false := df_ c7; clear c7
   by_cases c10 : (l0.length : Int) < (wrap64 (16 + (wrap64 (a8A))))
   ·rw [if_pos c10] at H; have a9w := dt_ c10; clear c10; obtain ⟨rfl, rfl, rfl, rfl, rfl, rfl⟩ := s6_ H
    go_enter Tryd.func36, Tryd.ntmps36
    go_wp2_with (first | (refine be_ 4 #[.int .u32 0, .int .u32 0, .int .u32 0, .slice none 0 0] 51 ?_; intro a7j hg w11 hbox hb; have a1R := a_ hbox; have b9x := lb_ HB hg; replace HB := V3 HB hb; clear hb hbox hg) | (refine gl_ (some 15) Tryd.func59 #[.slice A0 l0.length c0, .int .i64 8, .bool a1] ?_; (with_reducible refine (U5.calls k _ _ l0 8 a1 a8A _ (Kd.y9 HR0.out HB.out) HC0.out A6.out).mono ?_); rintro e w' ⟨rfl, ⟨nd, rfl⟩⟩; refine ⟨_, rfl, ?_⟩; (try (rw [a4v w11]; generalize hq_ : World.drewN w11 _ = w11; have n0_ : Aside0 (w11.heap[a7j]? = some (.cells #[.int .u32 0, .int .u32 0, .int .u32 0, .slice none 0 0] 51 (0, 0))) := ⟨by rw [← hq_]; exact (by (with_reducible repeat (refine Y7 ?_ _)); exact a1R.out)⟩; have n1_ : Aside0 (Below w.heap.size w w11) := ⟨by rw [← hq_]; exact (by repeat (with_reducible first | exact HB.out | apply o9))⟩; clear a1R HB hq_; have a1R := n0_; have HB := n1_; clear n0_ n1_)); obtain ⟨d1L, d1M, e3s, g1r, d1N, d1O, e3t, g1s⟩ := blk4 a1R.out))
    refine bodyPost_ret (a0f rfl _ _ a7j 51 #[.int .u32 0, .int .u32 0, .int .u32 0, .slice none 0 0] (0, 0) _ rfl (l9 (l9 (l9 (l9 a1R.out 0 _ rfl) 1 _ rfl) 2 _ rfl) 3 _ rfl) Tryd.underlying51 rfl (by kernel_rfl)) rfl ?_; exact ⟨_, by (rfl), by (exact Kd.Y2 _ _ _ _ _), by repeat (with_reducible first | exact HB.out | refine o7 ?_ b9x.out)⟩
   ·rw [if_neg c10] at H; have a9w := df_ c10; clear c10; obtain ⟨b9u, A13, H⟩ := bd_ H
    (try dsimp only at H); obtain ⟨b9v, A14, H⟩ := bd_ H
    (try dsimp only at H); obtain ⟨b9w, A15, H⟩ := bd_ H
    (try dsimp only at H); have c16 := Z4 H; replace H := O5 H; have c9K := eq_true c16; have d5C := dt_ c16; have c17 := Z4 H; replace H := O5 H; have b5a := eq_true c17; have c9L := dt_ c17; have c18 := Z4 H; replace H := O5 H; have c5S := a_ c18; clear c18; obtain ⟨e9O, d7Q⟩ := is_ ((([] : List Int) ++ ((l0.take ((wrap64 (16 + (wrap64 (a8A)))) : Int).toNat).drop 16)) : List Int); rw [← d7Q] at H; have f6t := a_ d7Q; clear d7Q; obtain ⟨rfl, rfl, rfl, rfl, rfl, rfl⟩ := s6_ H
    go_enter Tryd.func36, Tryd.ntmps36
    try go_wp2_with (first | (refine be_ 4 #[.int .u32 0, .int .u32 0, .int .u32 0, .slice none 0 0] 51 ?_; intro a7j hg w19 hbox hb; have a1R := a_ hbox; have b9x := lb_ HB hg; replace HB := V3 HB hb; clear hb hbox hg) | (refine gl_ (some 15) Tryd.func59 #[.slice A0 l0.length c0, .int .i64 8, .bool a1] ?_; (with_reducible refine (U5.calls k _ _ l0 8 a1 a8A _ (Kd.y9 HR0.out HB.out) HC0.out A6.out).mono ?_); rintro e w' ⟨rfl, ⟨nd, rfl⟩⟩; refine ⟨_, rfl, ?_⟩; (try (rw [a4v w19]; generalize hq_ : World.drewN w19 _ = w19; have n0_ : Aside0 (w19.heap[a7j]? = some (.cells #[.int .u32 0, .int .u32 0, .int .u32 0, .slice none 0 0] 51 (0, 0))) := ⟨by rw [← hq_]; exact (by (with_reducible repeat (refine Y7 ?_ _)); exact a1R.out)⟩; have n1_ : Aside0 (Below w.heap.size w w19) := ⟨by rw [← hq_]; exact (by repeat (with_reducible first | exact HB.out | apply o9))⟩; clear a1R HB hq_; have a1R := n0_; have HB := n1_; clear n0_ n1_))) | (refine gl_ (some 28) Tryd.func59 #[.slice A0 l0.length c0, .int .i64 0, .bool a1] ?_; (with_reducible refine (U5.calls k _ _ l0 0 a1 b9u _ (Kd.y9 HR0.out HB.out) HC0.out A13.out).mono ?_); rintro e w' ⟨rfl, ⟨nd, rfl⟩⟩; refine ⟨_, rfl, ?_⟩; (try (rw [a4v w19]; generalize hq_ : World.drewN w19 _ = w19; have n0_ : Aside0 (w19.heap[a7j]? = some (.cells #[.int .u32 0, .int .u32 0, .int .u32 0, .slice none 0 0] 51 (0, 0))) := ⟨by rw [← hq_]; exact (by (with_reducible repeat (refine Y7 ?_ _)); exact a1R.out)⟩; have n1_ : Aside0 (Below w.heap.size w w19) := ⟨by rw [← hq_]; exact (by repeat (with_reducible first | exact HB.out | apply o9))⟩; clear a1R HB hq_; have a1R := n0_; have HB := n1_; clear n0_ n1_))) | (refine gl_ (some 31) Tryd.func59 #[.slice A0 l0.length c0, .int .i64 4, .bool a1] ?_; (with_reducible refine (U5.calls k _ _ l0 4 a1 b9v _ (Kd.y9 HR0.out HB.out) HC0.out A14.out).mono ?_); rintro e w' ⟨rfl, ⟨nd, rfl⟩⟩; refine ⟨_, rfl, ?_⟩; (try (rw [a4v w19]; generalize hq_ : World.drewN w19 _ = w19; have n0_ : Aside0 (w19.heap[a7j]? = some (.cells #[.int .u32 0, .int .u32 0, .int .u32 0, .slice none 0 0] 51 (0, 0))) := ⟨by rw [← hq_]; exact (by (with_reducible repeat (refine Y7 ?_ _)); exact a1R.out)⟩; have n1_ : Aside0 (Below w.heap.size w w19) := ⟨by rw [← hq_]; exact (by repeat (with_reducible first | exact HB.out | apply o9))⟩; clear a1R HB hq_; have a1R := n0_; have HB := n1_; clear n0_ n1_))) | (refine gl_ (some 34) Tryd.func59 #[.slice A0 l0.length c0, .int .i64 12, .bool a1] ?_; (with_reducible refine (U5.calls k _ _ l0 12 a1 b9w _ (Kd.y9 HR0.out HB.out) HC0.out A15.out).mono ?_); rintro e w' ⟨rfl, ⟨nd, rfl⟩⟩; refine ⟨_, rfl, ?_⟩; (try (rw [a4v w19]; generalize hq_ : World.drewN w19 _ = w19; have n0_ : Aside0 (w19.heap[a7j]? = some (.cells #[.int .u32 0, .int .u32 0, .int .u32 0, .slice none 0 0] 51 (0, 0))) := ⟨by rw [← hq_]; exact (by (with_reducible repeat (refine Y7 ?_ _)); exact a1R.out)⟩; have n1_ : Aside0 (Below w.heap.size w w19) := ⟨by rw [← hq_]; exact (by repeat (with_reducible first | exact HB.out | apply o9))⟩; clear a1R HB hq_; have a1R := n0_; have HB := n1_; clear n0_ n1_))) | (refine be_ 8 #[.int .u32 0, .int .u32 0, .int .u32 0, .slice none 0 0] 51 ?_; intro a5W hg w20 hbox hb; have a6j := a_ hbox; have e6n := lb_ HB hg; obtain ⟨a7v, c1h⟩ := nn_ a1R hg; replace a1R := X3 a1R hb; replace HB := V3 HB hb; clear hb hbox hg; have d07 := c1h.out; have d08 := a7v.out; obtain ⟨b5j, b5k, b7w, e1t, b5l, b5m, b7x, e1u⟩ := blk4 a6j.out))
    have n0_ : Aside0 (((((w20.setCell ⟨a5W, 0, none⟩ (.int .u32 b9u)).setCell ⟨a5W, 1, none⟩ (.int .u32 b9v)).setCell ⟨a5W, 2, none⟩ (.int .u32 b9w)).setCell ⟨a5W, 3, none⟩ (.slice none 0 0)).heap[a7j]? = some (.cells #[.int .u32 0, .int .u32 0, .int .u32 0, .slice none 0 0] 51 (0, 0))) := ⟨o8 (o8 (o8 (o8 a1R.out a7v.out _) a7v.out _) a7v.out _) a7v.out _⟩; have n1_ : Aside0 (((((w20.setCell ⟨a5W, 0, none⟩ (.int .u32 b9u)).setCell ⟨a5W, 1, none⟩ (.int .u32 b9v)).setCell ⟨a5W, 2, none⟩ (.int .u32 b9w)).setCell ⟨a5W, 3, none⟩ (.slice none 0 0)).heap[a5W]? = some (.cells #[.int .u32 b9u, .int .u32 b9v, .int .u32 b9w, .slice none 0 0] 51 (0, 0))) := ⟨l9 (l9 (l9 (l9 a6j.out 0 _ rfl) 1 _ rfl) 2 _ rfl) 3 _ rfl⟩; have n2_ : Aside0 (Below w.heap.size w ((((w20.setCell ⟨a5W, 0, none⟩ (.int .u32 b9u)).setCell ⟨a5W, 1, none⟩ (.int .u32 b9v)).setCell ⟨a5W, 2, none⟩ (.int .u32 b9w)).setCell ⟨a5W, 3, none⟩ (.slice none 0 0))) := ⟨by repeat (with_reducible first | exact HB.out | refine o7 ?_ e6n.out)⟩
    (try clear a1R)
    (try clear a6j)
    (try clear HB)
    generalize ((((w20.setCell ⟨a5W, 0, none⟩ (.int .u32 b9u)).setCell ⟨a5W, 1, none⟩ (.int .u32 b9v)).setCell ⟨a5W, 2, none⟩ (.int .u32 b9w)).setCell ⟨a5W, 3, none⟩ (.slice none 0 0)) = w23 at n0_ n1_ n2_ ⊢; have a1R := n0_; have a6j := n1_; have HB := n2_; clear n0_ n1_ n2_; replace a1R := a_ (G9 a1R.out); replace a6j := a_ (G9 a6j.out); replace HB := a_ (Y4 HB.out); obtain ⟨h4x, e6o, _, e6p, _⟩ := info_parts info5; obtain ⟨A25, g61, f6u, f6v⟩ := a5B (P := Tryd.prog) (Value.int .u8) 0 22 5 .i64 .i64 Tryd.underlying22 e6o e6p A0 c0 l0 16 (wrap64 (16 + (wrap64 (a8A)))) (by omega) (by omega) (V5) HC0.out; have e6q := ci_ (Kd.Y8 (h1 := fun _ => rfl) (f6u _ (Kd.Y3 HR0.out))); have g95 := a_ f6v; clear f6u f6v e6o e6p; refine a2E (n := 9) (S := fun w' => w'.cell? ⟨a5W, 0, none⟩ = some (.int .u32 b9u) ∧ w'.cell? ⟨a5W, 1, none⟩ = some (.int .u32 b9v) ∧ w'.cell? ⟨a5W, 2, none⟩ = some (.int .u32 b9w) ∧ w'.cell? ⟨a5W, 3, none⟩ = some (.slice none 0 0)) (ds := [8]) (bo_ 9 0) (by kernel_rfl) rfl rfl ⟨bc0 a6j, bc1 a6j, bc2 a6j, bc3 a6j⟩ (fun hHeld => ?_); refine a2J U2.g6Z U2.f6s (fun Z8 HW_ => ?_); generalize w23.drew = w24 at a1R a6j HB e6q hHeld ⊢; refine pu_ 0 (some 36) Z8 ?_; refine pu_ 2 (some 38) Z8 ?_; refine pu_ 3 (some 39) Z8 ?_; refine pu_ 4 (some 40) Z8 ?_; refine pu_ 5 (some 41) Z8 ?_; refine a1H (i := 1) (N := some 37) (v := ?_) (a' := ?_) (bo_ 9 63) rfl rfl (a1I Z8.out HW_.out (by kernel_rfl)) (fun _ _ _ h => h) (Or.inl ⟨by rfl, ?_⟩) hHeld ?_ ?_
    rotate_left
    ·rintro w' ⟨s0, s1, s2, s3⟩
     go_simp
     with_reducible rfl
    rotate_left
    ·simp only [Act.put, List.setIfInBounds_toArray, List.set_cons_zero, List.set_cons_succ, a0J, a2b]
     rfl
    refine a6o (i := 6) (N := some 42) (bo_ 9 127) rfl rfl (a1U Z8.out (by kernel_rfl)) (by decide) (fun K hK => ?_); refine Kd.a4q (Kd.int .u8) (w0 := w) w.heap.size (by rfl) (.tmp 37) (.tmp 41) 22 5 (.int .u8 0) 1 rfl Tryd.underlying22 info5 rfl (by decide) (by omega) (.slice none 0 0) ([] : List Int) ((l0.take ((wrap64 (16 + (wrap64 (a8A)))) : Int).toNat).drop 16) _ _ _ (fun _ => True) (fun _ => False) rfl rfl ?aO ?aR (fun _ _ h => h) (fun _ h => h.elim) ?aF ?aB ?aS ?aL ?_
    (case aR => (rw [← show ((l0.take ((wrap64 (16 + (wrap64 (a8A)))) : Int).toNat).drop 16).length = ((wrap64 (16 + (wrap64 (a8A)))).toNat - 16) from (by rw [List.length_drop, List.length_take]; have h_ : ((wrap64 (16 + (wrap64 (a8A)))) : Int) ≤ (l0.length : Int) := V5; omega)]; exact (Kd.y9 e6q.out HB.out)))
    (case aB => exact HB.out)
    (case aF => exact (fun _ _ => trivial))
    (case aO => exact (Kd.Y2 _ _ _ _ (fun _ => True)))
    (case aS => exact (y5 HB.out))
    (case aL => have := c5S.out; have e8x := (show ((l0.take ((wrap64 (16 + (wrap64 (a8A)))) : Int).toNat).drop 16).length = ((wrap64 (16 + (wrap64 (a8A)))).toNat - 16) from (by rw [List.length_drop, List.length_take]; have h_ : ((wrap64 (16 + (wrap64 (a8A)))) : Int) ≤ (l0.length : Int) := V5; omega)); omega)
    intro h4y w26 ho hb hg hat; rw [← f6t.out] at ho; have e6r := a_ ho; replace a1R := a_ (J7 a1R.out hg (by simp [Value.ownBlock])); replace a6j := a_ (J7 a6j.out hg (by simp [Value.ownBlock])); replace HB := a_ hb; clear ho hb hg hat; obtain ⟨a9e, a9f, c2r⟩ := Kd.G7 e6r.out; subst c2r; refine hK.out _ _ ⟨bc0 a6j, bc1 a6j, bc2 a6j, bc3 a6j⟩ (fun hHeld => ?_); clear hK K; refine nm_ (some 42) ?_; refine pu_ 7 (some 43) Z8 ?_; refine b1Q (i := 8) (N := none) (bo_ 9 511) rfl rfl (a1U Z8.out (by kernel_rfl)) (by decide) (fun K hK => ?_); have h4A := bc3 a6j; have g96 := l7 a6j.out 3; have g1t := a7v.out; have g1u := c1h.out; refine a7H (w1 := ?_) (by rfl) rfl ?_ ?_
    rotate_left
    ·go_simp
     rfl
    refine hK.out _ _ ?_; clear hK K; refine a4D (a5D Z8.out (by kernel_rfl)) ?_; obtain ⟨d0x, d0y, e03, g1v, d0z, d0A, e04, g1w⟩ := blk4 a6j.out; obtain ⟨c3o, c3p, e1v, e1w, c3q, c3r, e1x, e1y⟩ := blk4 a1R.out
    try go_wp2
    refine bodyPost_ret (a0f rfl _ _ a7j 51 #[.int .u32 b9u, .int .u32 b9v, .int .u32 b9w, .slice a9e e9O.length a9f] (0, 0) _ rfl (l9 (l9 (l9 (l9 (o8 a1R.out a7v.out _) 0 _ rfl) 1 _ rfl) 2 _ rfl) 3 _ rfl) Tryd.underlying51 rfl (by kernel_rfl)) rfl ?_; exact ⟨_, by (rfl), by exact Kd.D7 (Kd.U0 (p := ⟨a7j, 3, none⟩) (Kd.U0 (p := ⟨a7j, 2, none⟩) (Kd.U0 (p := ⟨a7j, 1, none⟩) (Kd.U0 (p := ⟨a7j, 0, none⟩) (Kd.U0 (p := ⟨a5W, 3, none⟩) (Kd.P8 (Kd.P8 e6r.out a6j.out (by decide)) a1R.out (by decide)) (fun _ hk => hk.1.2) (.slice a9e e9O.length a9f)) (fun _ hk => hk.2) (.int .u32 b9u)) (fun _ hk => hk.2) (.int .u32 b9v)) (fun _ hk => hk.2) (.int .u32 b9w)) (fun _ hk => hk.2) (.slice a9e e9O.length a9f)) (fun _ hk => trivial), by repeat (with_reducible first | exact HB.out | refine o7 ?_ b9x.out | refine o7 ?_ e6n.out)⟩
def J4.l0 : Nat → List Int → List (List Int) → Int → Int → Option (List (List Int))
 | 0, _, _, _, _ => none
 | k + 1, x0, x3, x4, x5 => if x5 < (x0.length : Int) then (if 0 ≤ x5 then (if (rd x0 x5) = 126 then (if x4 ≥ 0 then (if 0 ≤ x4 then (if x4 ≤ x5 then (if x5 ≤ (x0.length : Int) then (if x3.length < 5864062014805 then (J4.l0 k x0 (x3 ++ [((x0.take (x5 : Int).toNat).drop (x4 : Int).toNat)]) (wrap64 (x5 + 1)) (wrap64 (x5 + 1))) else (none)) else (none)) else (none)) else (none)) else (J4.l0 k x0 x3 (wrap64 (x5 + 1)) (wrap64 (x5 + 1)))) else (J4.l0 k x0 x3 x4 (wrap64 (x5 + 1)))) else (none)) else (some x3)
def J4.f (k : Nat) (l0 : List Int) : Option (List (List Int)) := J4.l0 k l0 ([] : List (List Int)) (-1) 0
theorem J4.calls (k : Nat) (P0_ : Nat → Prop) (A0 : Option Addr) (c0 : Nat) (l0 : List Int) (r : List (List Int)) (w : World) (hs0 : Kd.V (Kd.int .u8) 5 w w.heap.size (fun k_ => P0_ k_) (.slice A0 l0.length c0) l0) (h : J4.f k l0 = some r) :
  Calls Tryd.prog 85 #[.slice A0 l0.length c0] w fun e w' => ∃ v0_ : Value, e = .returned (v0_) ∧ Kd.N (Kd.slice 5 (Kd.int .u8)) 22 w' w.heap.size (fun k_ => (P0_ k_ ∨ w.heap.size ≤ k_)) v0_ r ∧ Below w.heap.size w w' := by
 have HO0 := a_ (show Kd.V (Kd.int .u8) 5 w w.heap.size (fun k_ => (P0_ k_ ∨ w.heap.size ≤ k_)) (.slice A0 l0.length c0) l0 from Kd.a3R hs0 (fun k_ hk => .inl hk))
 have HB := a_ (Below.refl w.heap.size w)
 have H := h
 clear h
 unfold J4.f at H
 have H' := a_ H
 clear H
 go_enter Tryd.func85, Tryd.ntmps85
 go_wp2
 go_loopg [3, 4, 5] k (fun kq v3 v4 v5 w' => ∃ (a5j : List (List Int)) (a2O : Int) (L9 : Int), v4 = .int .i64 a2O ∧ v5 = .int .i64 L9 ∧ Aside0 (J4.l0 kq l0 a5j a2O L9 = some r) ∧ Aside0 (kq ≤ k) ∧ Aside0 (Kd.V (Kd.int .u8) 5 w' w.heap.size (fun k_ => (P0_ k_ ∨ w.heap.size ≤ k_) ∧ some k_ ≠ (v3 : Value).ownBlock) (.slice A0 l0.length c0) l0) ∧ Aside0 (Kd.N (Kd.slice 5 (Kd.int .u8)) 22 w' w.heap.size (fun k_ => (P0_ k_ ∨ w.heap.size ≤ k_)) v3 a5j) ∧ Aside0 (Below w.heap.size w w'))
 case atStart => exact ⟨([] : List (List Int)), (-1), (0), (by rfl), (by rfl), H', ⟨Nat.le_refl _⟩, ⟨by exact Kd.a3R HO0.out (fun _ hk => ⟨hk, (by simp [Value.ownBlock])⟩)⟩, ⟨by (exact Kd.d4I _ _ _ _ _)⟩, ⟨by exact HB.out⟩⟩
 case round =>
  clear H'; obtain ⟨a5j, a2O, L9, rfl, rfl, HA, HK1, a9k, c3V, HB⟩ := hrel
  cases gk with
  | zero => exact absurd HA.out (by simp [J4.l0])
  | succ k1 =>
   have H := HA.out; clear HA
   simp only [J4.l0] at H
   by_cases c2 : L9 < (l0.length : Int)
   ·rw [if_pos c2] at H; have b2i := dt_ c2; clear c2; have a3T := a2x H; replace H := O5 H
    by_cases c4 : (rd l0 L9) = 126
    ·rw [if_pos c4] at H; obtain ⟨a4i, b2z⟩ := bt_ c4; clear c4
     by_cases c5 : a2O ≥ 0
     ·rw [if_pos c5] at H; have a5H : decide (0 ≤ a2O) = true := dt_ c5; clear c5; have c6 := Z4 H; replace H := O5 H; have a8y := eq_true c6; have b5p := dt_ c6; clear c6; have c7 := Z4 H; replace H := O5 H; have a6f := eq_true c7; have b0g := dt_ c7; clear c7; have c8 := Z4 H; replace H := O5 H; have b2c := eq_true c8; have d3C := dt_ c8; clear c8; obtain ⟨c0i, d7R⟩ := is_ (((l0.take (L9 : Int).toNat).drop (a2O : Int).toNat) : List Int); rw [← d7R] at H; have e6s := a_ d7R; clear d7R; have c9 := Z4 H; replace H := O5 H; have c8e := a_ c9; clear c9; obtain ⟨g62, d7S⟩ := is_ ((a5j ++ [c0i]) : List (List Int)); rw [← d7S] at H; have f6w := a_ d7S; clear d7S; have H' := a_ H; clear H; have f6x : (0 ≤ (L9 : Int)) = True := et_; have f6y : (L9 < (l0.length : Int)) = True := et_; obtain ⟨c1i, d7T, d1Z⟩ := Kd.Q7 (Kd.a8W a9k.out).2.2 L9 V5 V5
      cases d7T
      have q10 : (L9 : Int) ≤ ((l0.length : Int) : Int) := V5; obtain ⟨h4B, e6t, _, e6u, _⟩ := info_parts info5; have b5J : l0.length ≤ c0 := (Kd.a8W a9k.out).2.1; have f6z : Kd.F (Kd.int .u8) _ _ (some c1i) l0.length l0 := (Kd.d4P (base := w.heap.size) a9k.out).2.2; have g63 : (a2O : Int) ≤ (L9 : Int) := V5; have g64 : (0 : Int) ≤ (a2O : Int) := V5; have e9Q := d9W (P := Tryd.prog) 22 5 .i64 .i64 Tryd.underlying22 e6t 1 e6u (some c1i) l0.length c0 a2O L9 g64 g63 q10 b5J; have d7U := Kd.f1M (lo := (a2O : Int).toNat) (hi := (L9 : Int).toNat) (c := c0) f6z (by omega) (by omega) b5J; obtain ⟨A10, hA10⟩ : ∃ A1, A1 = (if c0 = (a2O : Int).toNat then (some c1i) else ((some c1i) : Option Addr).map (·.add ((a2O : Int).toNat * 1))) := ⟨_, rfl⟩; obtain ⟨c10, e3u⟩ : ∃ c1, c1 = c0 - (a2O : Int).toNat := ⟨_, rfl⟩; have d7V : c0i.length = (L9 : Int).toNat - (a2O : Int).toNat := (by rw [e6s.out, List.length_drop, List.length_take] <;> omega); rw [show ((l0).take (L9 : Int).toNat).drop (a2O : Int).toNat = c0i from e6s.out.symm] at d7U; replace d7U : Kd.F (Kd.int .u8) _ _ A10 c0i.length c0i := (by rw [hA10]; exact d7U); rw [← d7V, ← hA10, ← e3u] at e9Q; have d14 := a_ (show Kd.V (Kd.int .u8) 5 _ w.heap.size _ (.slice A10 c0i.length c10) c0i from Kd.d9S (by rw [d7V, e3u]; exact Nat.sub_le_sub_right (Nat.le_trans (by omega) b5J) _) d7U); have g97 := a_ (show c0i.length ≤ c10 from by rw [d7V, e3u]; exact Nat.sub_le_sub_right (Nat.le_trans (by omega) b5J) _); clear d7U f6z b5J e6t e6u e3u; have h4C := a_ d7V; have h4D := a_ hA10; clear d7V hA10; replace q10 := eq_true q10
      go_wp2_with (first | ((with_reducible refine E8 (b := .append) (xs := #[.tmp 19, .tmp 24]) rfl ?_); at_builtin; refine Kd.c4Q (Kd.slice 5 (Kd.int .u8)) (w0 := w) w.heap.size rfl (.tmp 19) (.tmp 24) 74 22 (.slice none 0 0) 24 rfl Tryd.underlying74 info22 rfl (by decide) (by omega) u3 a5j c0i [.slice A10 c0i.length c10] (fun k_ => (P0_ k_ ∨ w.heap.size ≤ k_)) (fun k_ => (fun k_ => (P0_ k_ ∨ w.heap.size ≤ k_)) k_ ∧ some k_ ≠ (u3 : Value).ownBlock) rfl rfl ?aP (fun _ hk => hk) ?aF ?aO ?aB ?aS ?aL ?_; (case aP => exact (Kd.a3I (Kd.a8W (Kd.a3R (ok' := (fun k_ => (fun k_ => (P0_ k_ ∨ w.heap.size ≤ k_)) k_ ∧ some k_ ≠ (u3 : Value).ownBlock)) (d14.out) (fun k_ hk => ⟨hk.1, hk.2⟩))).2.1 (Kd.V_F (Kd.a3R (ok' := (fun k_ => (fun k_ => (P0_ k_ ∨ w.heap.size ≤ k_)) k_ ∧ some k_ ≠ (u3 : Value).ownBlock)) (d14.out) (fun k_ hk => ⟨hk.1, hk.2⟩))))); (case aB => exact HB.out); (case aF => exact (fun k_ hk => (.inr (Nat.le_trans (y5 HB.out) hk)))); (case aO => exact c3V.out); (case aS => exact (y5 HB.out)); (case aL => have := c8e.out; omega); intro h4E w11 ho hb hg hat; rw [← f6w.out] at ho; have f6A := a_ ho; replace a9k := a_ (Kd.b8n (ok := (fun k_ => (P0_ k_ ∨ w.heap.size ≤ k_))) a9k.out hg hat); replace d14 := a_ (Kd.b8n (ok := (fun k_ => (P0_ k_ ∨ w.heap.size ≤ k_))) d14.out hg hat); replace HB := a_ hb; clear c3V ho hb hg hat))
      go_roundg k1
      case measure => have := HK1.out; omega
      case rel => exact ⟨(g62), (wrap64 (L9 + 1)), (wrap64 (L9 + 1)), (by rfl), (by rfl), H', ⟨by have := HK1.out; omega⟩, ⟨by exact a9k.out⟩, ⟨by exact f6A.out⟩, ⟨by exact HB.out⟩⟩
     ·rw [if_neg c5] at H; have a5H : decide (0 ≤ a2O) = false := df_ c5; clear c5; have H' := a_ H; clear H; have f6x : (0 ≤ (L9 : Int)) = True := et_; have f6y : (L9 < (l0.length : Int)) = True := et_; obtain ⟨c1i, d7T, d1Z⟩ := Kd.Q7 (Kd.a8W a9k.out).2.2 L9 V5 V5
      cases d7T
      go_wp2
      go_roundg k1
      case measure => have := HK1.out; omega
      case rel => exact ⟨(a5j), (wrap64 (L9 + 1)), (wrap64 (L9 + 1)), (by rfl), (by rfl), H', ⟨by have := HK1.out; omega⟩, ⟨by exact a9k.out⟩, ⟨by exact c3V.out⟩, ⟨by exact HB.out⟩⟩
    ·rw [if_neg c4] at H; have a4i := bq_ c4; have b2z := bn_ c4; have H' := a_ H; clear H; have f6x : (0 ≤ (L9 : Int)) = True := et_; have f6y : (L9 < (l0.length : Int)) = True := et_; obtain ⟨c1i, d7T, d1Z⟩ := Kd.Q7 (Kd.a8W a9k.out).2.2 L9 V5 V5
     cases d7T
     go_wp2
     go_roundg k1
     case measure => have := HK1.out; omega
     case rel => exact ⟨(a5j), (a2O), (wrap64 (L9 + 1)), (by rfl), (by rfl), H', ⟨by have := HK1.out; omega⟩, ⟨by exact a9k.out⟩, ⟨by exact c3V.out⟩, ⟨by exact HB.out⟩⟩
   ·rw [if_neg c2] at H; have b2i := df_ c2; clear c2; obtain rfl := oj_ H
    go_wp2
    go_ret
    exact ⟨_, by (rfl), by exact c3V.out, by exact HB.out⟩
def O6.f (a0 : Bool) : Option (Int) := if a0 = true then (some 4) else (some 2)
theorem O6.calls (a0 : Bool) (r : Int) (w : World) (h : O6.f a0 = some r) :
  Calls Tryd.prog 77 #[.bool a0] w fun e w' => e = .returned (.int .i64 r) ∧ G5 w w' := by
 have H := h
 clear h
 unfold O6.f at H
 by_cases c2 : a0 = true
 ·subst c2; rw [if_pos rfl] at H; obtain rfl := oj_ H
  go_enter Tryd.func77, Tryd.ntmps77
  go_wp2
  go_ret
  exact ⟨by (rfl), by exact G5.refl _⟩
 ·cases nt_ c2
  rw [if_neg a3X] at H; obtain rfl := oj_ H
  go_enter Tryd.func77, Tryd.ntmps77
  go_wp2
  go_ret
  exact ⟨by (rfl), by exact G5.refl _⟩
end Go.Proofs.YtgnonglkibhnhaaDoor.Print
