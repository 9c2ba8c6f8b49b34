-- laid together by this session's own program (wip/tools/merge.py) of texts that its program laid
import Derived.Test.YtgnonglkibhnhaaDoorZ
import Derived.Test.YtgnonglkibhnhaaDoorF81
import Derived.Test.YtgnonglkibhnhaaDoorM1
import Derived.Test.YtgnonglkibhnhaaDoorF64
import Derived.Test.YtgnonglkibhnhaaDoorM2
namespace Go.Proofs.YtgnonglkibhnhaaDoor.Print
open Go.RowKit Go.Proofs.YtgnonglkibhnhaaDoorW.PrintWords Go.Proofs.YtgnonglkibhnhaaDoorW.PrintLast Go.Proofs.YtgnonglkibhnhaaDoorW.PrintMore
attribute [local go_sem] a0u a0v a1m a1n Y7 Y8 a0w a0x
set_option linter.unusedVariables false
set_option linter.unusedSimpArgs false
set_option maxHeartbeats 16000000
set_option maxRecDepth 100000
def a1t.f (k : Nat) (l0 : List Int) : Option (Int × List Int × Int) := (head_Read.f k l0).bind fun c95 => (if c95.2.2 = 0 then ((a4q.f l0 c95.2.1).bind fun t148 => (some (c95.1, t148, 0))) else (some (0, ([] : List Int), c95.2.2)))
def a1t.T4 : Bool × List (List Nat × List Nat) := (true, [([], []), ([0], [0]), ([], []), ([], []), ([3], [3]), ([2, 4], [2, 4]), ([1, 5, 0, 1], [1]), ([5, 6, 0, 1, 2, 3, 4, 5, 6], [5]), ([7, 0, 1, 2, 3, 4, 5, 6, 7], [])])
def a1t.B4 : List Nat := [0, 1, 0, 0, 8, 28, 63, 127, 255]
theorem a1t.e7S : a2N .any (opsOf Tryd.f63 4) = a1t.T4 := by kernel_rfl
theorem a1t.d41 : a2t a1t.T4.2 a1t.B4 = true := by kernel_rfl
theorem a1t.calls (k : Nat) (A0 : Option Addr) (c0 : Nat) (l0 : List Int) (r1 : Int) (r2 : List Int) (r3 : Int) (w : World) (hr0 : Kd.C (Kd.int .u8) w A0 l0.length l0) (hc0 : l0.length ≤ c0) (h : a1t.f k l0 = some (r1, r2, r3)) :
  Calls Tryd.prog 63 #[.slice A0 l0.length c0] w fun e w' => ∃ v1_ : Value, e = .returned (.tuple #[.int .i64 r1, v1_, .int .i64 r3]) ∧ Kd.R (Kd.int .u8) 5 w' w.heap.size (fun _ => True) v1_ r2 ∧ Below w.heap.size w w' := by
 have f4K := Tryd.underlying122
 have HR0 := a_ hr0
 have HC0 := a_ hc0
 clear hr0 hc0
 have HB := a_ (Below.refl w.heap.size w)
 have H := h
 clear h
 unfold a1t.f at H
 replace H := Option.bind_eq_some_iff.mp H
 obtain ⟨⟨c5g, t145, t146⟩, A20, H⟩ := H
 try dsimp only at H
 have A2 := a_ A20
 clear A20
 by_cases c3 : t146 = 0
 ·rw [if_pos c3] at H
  obtain ⟨a5g, b1b⟩ := bt_ c3
  replace H := Option.bind_eq_some_iff.mp H
  obtain ⟨t148, A40, H⟩ := H
  try dsimp only at H
  have A4 := a_ A40
  clear A40
  obtain ⟨rfl, rfl, rfl⟩ := s3_ H
  go_enter Tryd.func63, Tryd.ntmps63
  try go_wp2_with (first | (refine gl_ (some 9) Tryd.func81 #[.slice A0 l0.length c0] ?_; (with_reducible refine (head_Read.calls k _ _ l0 c5g t145 t146 _ HR0.out HC0.out A2.out).mono ?_); rintro e w5 ⟨rfl, hb⟩; refine ⟨_, rfl, ?_⟩; replace HB := W9 HB hb; (try clear hb)) | (refine be_ 5 #[.int .i64 0, .int .i64 0] 122 ?_; intro b2U hg w6 hbox hb; have a8M := a_ hbox; have d42 := lb_ HB hg; replace HB := W9 HB hb; clear hb hbox hg; obtain ⟨e7T, e7U, e7V, e7W⟩ := a3n a8M.out))
  have n0_ : Aside0 (((w6.setCell ⟨b2U, 0, none⟩ (.int .i64 c5g)).setCell ⟨b2U, 1, none⟩ (.int .i64 t145)).heap[b2U]? = some (.cells #[.int .i64 c5g, .int .i64 t145] 122 (0, 0))) := ⟨by refine l9 (cs := #[.int .i64 c5g, .int .i64 0]) ?_ 1 _ rfl; refine l9 (cs := #[.int .i64 0, .int .i64 0]) ?_ 0 _ rfl; exact a8M.out⟩
  have n1_ : Aside0 (Below w.heap.size w ((w6.setCell ⟨b2U, 0, none⟩ (.int .i64 c5g)).setCell ⟨b2U, 1, none⟩ (.int .i64 t145))) := ⟨by repeat (with_reducible first | exact HB.out | refine o8 ?_ d42.out)⟩
  (try clear a8M)
  (try clear HB)
  generalize ((w6.setCell ⟨b2U, 0, none⟩ (.int .i64 c5g)).setCell ⟨b2U, 1, none⟩ (.int .i64 t145)) = w8 at n0_ n1_ ⊢
  have a8M := n0_
  have HB := n1_
  clear n0_ n1_
  replace a8M := a_ (L9 a8M.out)
  replace HB := a_ (D7 HB.out)
  refine a4n (n := 9) (S := fun w' => w'.cell? ⟨b2U, 0, none⟩ = some (.int .i64 c5g) ∧ w'.cell? ⟨b2U, 1, none⟩ = some (.int .i64 t145)) (ds := []) (bo_ 9 0) (by kernel_rfl) rfl rfl ⟨bc0 a8M, bc1 a8M⟩ (fun hHeld => ?_); refine a3g a1t.e7S a1t.d41 (fun X5 HW_ => ?_)
  generalize w8.drew = w9 at a8M HB hHeld ⊢
  refine pu_ 0 (some 15) X5 ?_
  refine pu_ 2 (some 17) X5 ?_
  refine pu_ 3 (some 18) X5 ?_
  refine a1G (i := 1) (N := some 16) (v := ?_) (a' := ?_) (bo_ 9 15) rfl rfl (a0S X5.out HW_.out (by kernel_rfl)) (fun _ _ _ h => h) (Or.inl ⟨by rfl, ?_⟩) hHeld ?_ ?_
  rotate_left
  ·rintro w' ⟨s0, s1⟩
   go_simp
   with_reducible rfl
  rotate_left
  ·simp only [Act.put, List.setIfInBounds_toArray, List.set_cons_zero, List.set_cons_succ, a6w, a9Y]
   rfl
  refine a1G (i := 4) (N := some 19) (v := ?_) (a' := ?_) (bo_ 9 31) rfl rfl (a0S X5.out HW_.out (by kernel_rfl)) (fun _ _ _ h => h) (Or.inl ⟨by rfl, ?_⟩) hHeld ?_ ?_
  rotate_left
  ·rintro w' ⟨s0, s1⟩
   go_simp
   with_reducible rfl
  rotate_left
  ·simp only [Act.put, List.setIfInBounds_toArray, List.set_cons_zero, List.set_cons_succ, a6w, a9Y]
   rfl
  refine a6V (i := 5) (N := some 20) (bo_ 9 63) rfl rfl (a2c X5.out (by kernel_rfl)) (by decide) (fun K hK => ?_)
  refine a4y Tryd.func82 (by kernel_rfl) rfl #[.slice A0 l0.length c0, .int .i64 t145] (by rfl) rfl rfl (by (try simp only [List.map_toArray, List.map_cons, List.map_nil]); (rfl)) ?_
  with_reducible refine (a4q.calls _ _ l0 t145 t148 _ ?Q5 ?Q7 A4.out).mono ?_
  (case Q5 => exact (Kd.D6 HR0.out HB.out))
  (case Q7 => exact HC0.out)
  rintro e w10 ⟨h5q, rfl, ho0, hb⟩
  refine ⟨_, rfl, ?_⟩
  have f4L := rl_ ho0 HB
  replace a8M := U5 a8M hb
  replace HB := W9 HB hb
  (try clear hb)
  (try clear ho0)
  refine hK.out _ _ ⟨bc0 a8M, bc1 a8M⟩ (fun hHeld => ?_)
  clear hK K
  refine nm_ (some 20) ?_
  refine pu_ 6 (some 2) X5 ?_
  refine pu_ 7 (some 3) X5 ?_
  refine pu_ 8 (some 4) X5 ?_
  refine a7d (a6D X5.out (by kernel_rfl)) ?_
  try go_wp2
  go_ret3
  exact ⟨_, by (rfl), by exact f4L.out, by exact HB.out⟩
 ·rw [if_neg c3] at H
  have a5g := beq_eq_false_iff_ne.mpr c3
  have b1b := bne_iff_ne.mpr c3
  obtain ⟨rfl, rfl, rfl⟩ := s3_ H
  go_enter Tryd.func63, Tryd.ntmps63
  go_wp2_with (first | (refine gl_ (some 9) Tryd.func81 #[.slice A0 l0.length c0] ?_; (with_reducible refine (head_Read.calls k _ _ l0 c5g t145 t146 _ HR0.out HC0.out A2.out).mono ?_); rintro e w11 ⟨rfl, hb⟩; refine ⟨_, rfl, ?_⟩; replace HB := W9 HB hb; (try clear hb)) | (refine be_ 5 #[.int .i64 0, .int .i64 0] 122 ?_; intro b2U hg w12 hbox hb; have a8M := a_ hbox; have d42 := lb_ HB hg; replace HB := W9 HB hb; clear hb hbox hg; obtain ⟨b7f, b7g, b7h, b7i⟩ := a3n a8M.out))
  go_ret3
  exact ⟨_, by (rfl), by (exact Kd.a0I _ _ _ _ _), by repeat (with_reducible first | exact HB.out | refine o8 ?_ d42.out)⟩
def a0r.f (k : Nat) (l0 : List S42) (a1 : Int) (l2 : List Int) : Option (List S42) := (a1t.f k l2).bind fun t => if t.2.2 = 0 then (if l0.length < 3518437208883 then some (l0 ++ [(⟨a1, t.1, t.2.1⟩ : S42)]) else none) else some l0
structure Longer (W W' : World) (base : Nat) (ok : Nat → Prop) (v v' : Value) (r : List S42) : Prop where
 row : Kd.S k42 42 W' base ok v' r
 grown : W.grownBy W' v.ownBlock
 at_ : v'.ownBlock = v.ownBlock ∨ ∃ b, v'.ownBlock = some b ∧ W.heap.size ≤ b
theorem a0r.calls (k : Nat) (base : Nat) (ok : Nat → Prop) (v : Value) (l0 : List S42) (a1 : Int) (A2 : Option Addr) (c2 : Nat) (l2 : List Int) (r : List S42) (W : World) (hS : Kd.S k42 42 W base ok v l0) (hf : ∀ k, W.heap.size ≤ k → ok k) (hb : base ≤ W.heap.size) (hr2 : Kd.C (Kd.int .u8) W A2 l2.length l2) (hc2 : l2.length ≤ c2) (h : a0r.f k l0 a1 l2 = some r) :
  Calls Tryd.prog 43 #[v, .int .i64 a1, .slice A2 l2.length c2] W fun e W' => ∃ v', e = .returned v' ∧ Aside0 (Longer W W' base ok v v' r) ∧ Aside0 (Below base W W') := by
 obtain ⟨⟨t0, t1, t2⟩, ht, h⟩ := Option.bind_eq_some_iff.1 h
 have HT := a_ ht
 have HS := a_ hS
 have HF := a_ hf
 have HB := a_ hb
 have HR2 := a_ hr2
 have HC2 := a_ hc2
 have HLT := a_ (Kd.d4b hS)
 obtain ⟨A0, c0, rfl⟩ := Kd.b0B hS
 clear hS hf hb hr2 hc2 ht
 by_cases hw : t2 = 0
 ·subst hw
  rw [if_pos rfl] at h
  by_cases hl : l0.length < 3518437208883
  ·rw [if_pos hl] at h
   obtain rfl := Option.some.inj h
   have HL := a_ hl
   clear h hl
   go_enter Tryd.func43, Tryd.ntmps43
   go_wp2_with (fail)
   refine (a1t.calls k A2 c2 l2 t0 t1 0 _ HR2.out HC2.out HT.out).mono ?_
   rintro e w1 ⟨v1, rfl, ho, hb1⟩
   obtain ⟨A1, c1, rfl⟩ := Kd.J4 ho
   have HO := a_ ho
   have HB1 := a_ hb1
   have S1 := a_ (Kd.e4l HS.out hb1)
   clear ho hb1
   go_wp2_with (((with_reducible refine G7 (b := .append) (xs := #[.tmp 19, .tmp 24]) rfl ?_); at_builtin; refine Kd.a90 k42 (w0 := w1) base rfl (.tmp 19) (.tmp 24) 27 42 (.agg #[(.int .i64 0), (.int .i64 0), (.slice none 0 0)]) 40 rfl Tryd.underlying27 info42 rfl (by decide) (by omega) (.slice A0 l0.length c0) l0 (⟨a1, t0, t1⟩ : S42) [.int .i64 a1, .int .i64 t0, .slice A1 t1.length c1] ok (fun k_ => some k_ = (.slice A1 t1.length c1 : Value).ownBlock) rfl rfl ?aP ?aK ?aF ?aO ?aB ?aS ?aL ?_; (case aP => exact d9f _ _ _ (⟨a1, t0, t1⟩ : S42) (Kd.a2i rfl (Kd.X4 HO.out HB.out))); (case aK => exact fun k_ hk => ⟨HF.out k_ (Kd.a0n HO.out k_ hk.symm), fun e_ => by have h1 := Kd.a0n HO.out k_ hk.symm; have h2 := HLT.out k_ e_.symm; omega⟩); (case aF => exact fun k_ hk => HF.out k_ (Nat.le_trans HB1.out.size hk)); (case aO => exact Kd.V6 S1.out (fun k_ hk => ⟨hk.1, fun e_ => by have h1 := Kd.a0n HO.out k_ e_.symm; have h2 := hk.2; omega⟩)); (case aB => exact Below.refl _ _); (case aS => exact Nat.le_trans HB.out HB1.out.size); (case aL => have := HL.out; omega); intro v5 w5 ho hb5 hg hat; have HO5 := a_ ho; have HB5 := a_ hb5; have HG5 := a_ hg; have HA5 := a_ hat; clear ho hb5 hg hat))
   go_ret
   refine ⟨_, rfl, ⟨HO5.out, ?_, ?_⟩, ⟨(HB1.out.mono HB.out).trans HB5.out⟩⟩
   ·exact (a6y HB1.out _).trans HG5.out
   ·rcases HA5.out with h | ⟨b, h, hle⟩
    ·exact .inl h
    ·exact .inr ⟨b, h, Nat.le_trans HB1.out.size hle⟩
  ·rw [if_neg hl] at h
   cases h
 ·rw [if_neg hw] at h
  obtain rfl := Option.some.inj h
  have e1 : (t2 != 0) = true := by simpa using hw
  have e2 : decide (t2 = 0) = false := by simpa using hw
  have e3 : (t2 == 0) = false := by simpa using hw
  clear h
  go_enter Tryd.func43, Tryd.ntmps43
  go_wp2_with (fail)
  refine (a1t.calls k A2 c2 l2 t0 t1 t2 _ HR2.out HC2.out HT.out).mono ?_
  rintro e w1 ⟨v1, rfl, ho, hb1⟩
  obtain ⟨A1, c1, rfl⟩ := Kd.J4 ho
  have HB1 := a_ hb1
  clear ho hb1
  go_wp2
  go_ret
  exact ⟨_, rfl, ⟨Kd.a6v HS.out HB1.out, a6y HB1.out _, .inl rfl⟩, ⟨HB1.out.mono HB.out⟩⟩
def a1u.l0 : Nat → List Int → List (S58) → Int → Option ((List (S58)) × Int × Int)
 | 0, _, _, _ => none
 | k + 1, x0, x4, x5 => if x5 < (x0.length : Int) then (if 0 ≤ x5 then (if x5 ≤ (x0.length : Int) then ((dump_Next.f k (x0.drop (x5 : Int).toNat)).bind fun c0t => (if c0t.2.2.2.2 = 0 then (if x4.length < 3518437208883 then (a1u.l0 k x0 (x4 ++ [(⟨c0t.1, c0t.2.1, c0t.2.2.1⟩ : S58)]) (wrap64 (x5 + c0t.2.2.2.1))) else (none)) else (some (x4, x5, c0t.2.2.2.2)))) else (none)) else (none)) else (some (x4, 0, 0))
def a1u.f (k : Nat) (l0 : List Int) : Option ((List (S58)) × Int × Int) := a1u.l0 k l0 ([] : List (S58)) 0
theorem a1u.calls (k : Nat) (A0 : Option Addr) (c0 : Nat) (l0 : List Int) (r1 : List (S58)) (r2 : Int) (r3 : Int) (w : World) (hG0 : Kd.C b0s w (some ⟨0, 0, none⟩) 8 F8) (hr0 : Kd.C (Kd.int .u8) w A0 l0.length l0) (hc0 : l0.length ≤ c0) (h : a1u.f k l0 = some (r1, r2, r3)) :
  Calls Tryd.prog 44 #[.slice A0 l0.length c0] w fun e w' => ∃ v0_ : Value, e = .returned (.tuple #[v0_, .agg #[.int .i64 r2, .int .i64 r3]]) ∧ Kd.S k58 58 w' w.heap.size (fun _ => True) v0_ r1 ∧ Below w.heap.size w w' := by
 have b2w := Tryd.underlying30
 have e0M := Tryd.underlying58
 have HR0 := a_ hr0
 have HC0 := a_ hc0
 clear hr0 hc0
 have a4Z := a_ hG0
 clear hG0
 have HB := a_ (Below.refl w.heap.size w)
 have H := h
 clear h
 unfold a1u.f at H
 have H' := a_ H
 clear H
 go_enter Tryd.func44, Tryd.ntmps44
 go_wp2_with (first | (refine be_ 3 #[.int .i64 0, .int .i64 0] 30 ?_; intro b6a hg w2 hbox hb; have a4A := a_ hbox; have e4E := lb_ HB hg; replace HB := W9 HB hb; clear hb hbox hg))
 go_loopg [4, 5] k (fun kq v4 v5 w' => ∃ (a7Q : List (S58)) (X6 : Int) (a8A : Int) (a6l : Int), v5 = .int .i64 X6 ∧ Aside0 (a1u.l0 kq l0 a7Q X6 = some (r1, r2, r3)) ∧ Aside0 (kq ≤ k) ∧ Aside0 (Kd.S k58 58 w' w.heap.size (fun _ => True) v4 a7Q) ∧ Aside0 (w'.heap[b6a]? = some (.cells #[.int .i64 a8A, .int .i64 a6l] 30 (0, 0))) ∧ Aside0 (Below w.heap.size w w'))
 case atStart => exact ⟨([] : List (S58)), (0), (0), (0), (by rfl), H', ⟨Nat.le_refl _⟩, ⟨by (exact Kd.a6k _ _ _ _ _)⟩, ⟨by exact a4A.out⟩, ⟨by exact HB.out⟩⟩
 case round =>
  clear H'
  obtain ⟨a7Q, X6, a8A, a6l, rfl, HA, HK1, a3u, a4A, HB⟩ := hrel
  cases gk with
  | zero => exact absurd HA.out (by simp [a1u.l0])
  | succ k1 =>
   have H := HA.out
   clear HA
   simp only [a1u.l0] at H
   by_cases c3 : X6 < (l0.length : Int)
   ·rw [if_pos c3] at H
    have a5g := decide_eq_true c3
    clear c3
    have c4 := a0o H
    replace H := U9 H
    have a6r := eq_true c4
    have b6A := decide_eq_true c4
    clear c4
    have c5 := a0o H
    replace H := U9 H
    have a9g := eq_true c5
    have b6C := decide_eq_true c5
    clear c5
    replace H := Option.bind_eq_some_iff.mp H
    obtain ⟨⟨b5n, t171, b3n, t175, d43⟩, A60, H⟩ := H
    try dsimp only at H
    have A6 := a_ A60
    clear A60
    by_cases c7 : d43 = 0
    ·rw [if_pos c7] at H
     obtain ⟨a9h, b5j⟩ := bt_ c7
     clear c7
     have c8 := a0o H
     replace H := U9 H
     have c7e := a_ c8
     clear c8
     obtain ⟨g69, d44⟩ := is_ ((a7Q ++ [(⟨b5n, t171, b3n⟩ : S58)]) : List (S58))
     rw [← d44] at H
     have f4N := a_ d44
     clear d44
     have H' := a_ H
     clear H
     obtain ⟨i09, f4O, _, f4P, _⟩ := info_parts info5
     obtain ⟨A9, h2e, hA9, hC9⟩ := a1D (P := Tryd.prog) (Value.int .u8) 0 22 5 .i64 Tryd.underlying22 f4O f4P A0 c0 l0 X6 (Y9) (Y9) HC0.out
     have d45 := ci_ (Kd.a0K (h1 := fun _ => rfl) (hA9 _ (Kd.a0p HR0.out)))
     have d46 := a_ hC9
     clear hA9 hC9 f4O f4P
     go_wp2_with (first | (refine gl_ (some 17) Tryd.func64 #[.slice A9 (l0.drop (X6 : Int).toNat).length (c0 - X6.toNat)] ?_ (hargs := by (try simp only [List.map_toArray, List.map_cons, List.map_nil]); (rw [show (l0.drop (X6 : Int).toNat).length = (l0.length - X6.toNat) from List.length_drop] <;> rfl)); (with_reducible refine (dump_Next.calls k1 _ _ (l0.drop (X6 : Int).toNat) b5n t171 b3n t175 d43 _ (Kd.D6 a4Z.out HB.out) (Kd.D6 d45.out HB.out) d46.out A6.out).mono ?_); rintro e w10 ⟨v173, rfl, ho0, hb⟩; refine ⟨_, rfl, ?_⟩; have b0a := rl_ ho0 HB; replace a3u := rS_ a3u ho0 hb; replace a4A := U5 a4A hb; replace HB := W9 HB hb; (try clear hb); (try clear ho0)) | (refine be_ 6 #[.int .i64 0, .int .u32 0, .slice none 0 0] 58 ?_; intro a6m hg w11 hbox hb; have b0b := a_ hbox; have d47 := lb_ HB hg; obtain ⟨a5x, b5o⟩ := nn_ a4A hg; replace a3u := se_ a3u hg hb; replace b0a := rb_ b0a hb; replace a4A := U5 a4A hb; replace HB := W9 HB hb; clear hb hbox hg; have f4Q := b5o.out; have f4R := a5x.out; obtain ⟨b7f, b7g, c2h, b7h, b7i, c2i⟩ := a2G b0b.out; obtain ⟨b6E, b6F, e7Y⟩ := Kd.J4 b0a.out; subst e7Y) | ((with_reducible refine a5b (t := 58) (p := 6) rfl ?_); refine a3V (t := 58) (p := 6) (v := ?g7a) (w1 := (((w11.setCell ⟨a6m, 0, none⟩ (.int .i64 b5n)).setCell ⟨a6m, 1, none⟩ (.int .u32 t171)).setCell ⟨a6m, 2, none⟩ (.slice b6E b3n.length b6F))) ?hg ?ho ?hn ?hr ?_; (case ho => rfl); (case hg => rfl); (case hn => rfl); (case hr => (go_simp; done)); intro w15 hw; have n0_ : Aside0 (Kd.S k58 58 w15 w.heap.size (fun k_ => some k_ ≠ (.slice b6E b3n.length b6F : Value).ownBlock ∧ k_ ≠ a6m) u4 a7Q) := ⟨(by rw [hw]; exact (by exact Kd.V6 (Kd.Y6 (p := ⟨a6m, 2, none⟩) (Kd.Y6 (p := ⟨a6m, 1, none⟩) (Kd.Y6 (p := ⟨a6m, 0, none⟩) (Kd.V6 a3u.out (fun k_ hk => (⟨hk, hk.2⟩ : _ ∧ k_ ≠ a6m))) (fun _ hk => hk.2) (.int .i64 b5n)) (fun _ hk => hk.2) (.int .u32 t171)) (fun _ hk => hk.2) (.slice b6E b3n.length b6F)) (fun _ hk => ⟨hk.1.1.2, hk.1.2⟩)))⟩; have n1_ : Aside0 (Kd.R (Kd.int .u8) 5 w15 w.heap.size (fun _ => True) (.slice b6E b3n.length b6F) b3n) := ⟨(by rw [hw]; exact (by exact Kd.D8 (Kd.U7 (p := ⟨a6m, 2, none⟩) (Kd.U7 (p := ⟨a6m, 1, none⟩) (Kd.U7 (p := ⟨a6m, 0, none⟩) (Kd.V7 b0a.out b0b.out (by decide)) (fun _ hk => hk.2) (.int .i64 b5n)) (fun _ hk => hk.2) (.int .u32 t171)) (fun _ hk => hk.2) (.slice b6E b3n.length b6F)) (fun _ hk => trivial)))⟩; have n2_ : Aside0 (w15.heap[b6a]? = some (.cells #[.int .i64 a8A, .int .i64 a6l] 30 (0, 0))) := ⟨(by rw [hw]; exact (by refine o9 ?_ a5x.out _; refine o9 ?_ a5x.out _; refine o9 ?_ a5x.out _; exact a4A.out))⟩; have n3_ : Aside0 (w15.heap[a6m]? = some (.cells #[.int .i64 b5n, .int .u32 t171, .slice b6E b3n.length b6F] 58 (0, 0))) := ⟨(by rw [hw]; exact (by refine l9 (cs := #[.int .i64 b5n, .int .u32 t171, .slice none 0 0]) ?_ 2 _ rfl; refine l9 (cs := #[.int .i64 b5n, .int .u32 0, .slice none 0 0]) ?_ 1 _ rfl; refine l9 (cs := #[.int .i64 0, .int .u32 0, .slice none 0 0]) ?_ 0 _ rfl; exact b0b.out))⟩; have n4_ : Aside0 (Below w.heap.size w w15) := ⟨(by rw [hw]; exact (by repeat (with_reducible first | exact HB.out | refine o8 ?_ d47.out)))⟩; clear hw; clear a3u; clear b0a; clear a4A; clear b0b; clear HB; have a3u := n0_; have b0a := n1_; have a4A := n2_; have b0b := n3_; have HB := n4_; clear n0_ n1_ n2_ n3_ n4_; obtain ⟨c96, c98, e0N, d0a, d0b, e0O⟩ := a2G b0b.out) | ((with_reducible refine G7 (b := .append) (xs := #[.tmp 27, .tmp 29]) rfl ?_); at_builtin; refine Kd.a90 k58 (w0 := w) w.heap.size rfl (.tmp 27) (.tmp 29) 54 58 (.agg #[(.int .i64 0), (.int .u32 0), (.slice none 0 0)]) 40 rfl Tryd.underlying54 info58 rfl (by decide) (by omega) u4 a7Q (⟨b5n, t171, b3n⟩ : S58) [.int .i64 b5n, .int .u32 t171, .slice b6E b3n.length b6F] (fun k_ => k_ ≠ a6m) (fun k_ => some k_ = (.slice b6E b3n.length b6F : Value).ownBlock) rfl rfl ?aP (fun k_ hk_ => ((Kd.D8 (ok' := fun k_ => (fun k_ => k_ ≠ a6m) k_ ∧ some k_ ≠ (u4 : Value).ownBlock) (Kd.V7 (Kd.a0g (b0a.out) (Kd.a5q a3u.out) (by decide)) b0b.out (by decide)) (fun k_ hk => ⟨hk.2, hk.1.2⟩))).1 k_ hk_.symm) ?aF ?aO ?aB ?aS ?aL ?_; (case aP => exact d9g _ _ _ (⟨b5n, t171, b3n⟩ : S58) (Kd.D8 (Kd.a2i rfl (Kd.D8 (ok' := fun k_ => (fun k_ => k_ ≠ a6m) k_ ∧ some k_ ≠ (u4 : Value).ownBlock) (Kd.V7 (Kd.a0g (b0a.out) (Kd.a5q a3u.out) (by decide)) b0b.out (by decide)) (fun k_ hk => ⟨hk.2, hk.1.2⟩))) (fun _ h_ => h_))); (case aB => exact HB.out); (case aF => exact (fun k_ hk => Kd.a1z b0b.out k_ hk)); (case aO => exact (by exact Kd.V6 a3u.out (fun k_ hk => ⟨hk.2, fun e_ => hk.1 e_⟩))); (case aS => exact (y5 HB.out)); (case aL => have := c7e.out; omega); intro h5r w17 ho hb hg hat; rw [← f4N.out] at ho; have f4S := a_ ho; replace a4A := a_ (F9 a4A.out hg (Kd.b9Y a3u.out a4A.out (by decide))); replace b0b := a_ (F9 b0b.out hg (Kd.c6W a3u.out (fun _ hk => hk.2))); replace HB := a_ hb; clear a3u; clear b0a; clear ho hb hg hat))
     go_roundg k1
     case measure => have := HK1.out; omega
     case rel => exact ⟨(g69), (wrap64 (X6 + t175)), (a8A), (a6l), (by rfl), H', ⟨by have := HK1.out; omega⟩, ⟨by exact Kd.V6 f4S.out (fun _ hk => trivial)⟩, ⟨by exact a4A.out⟩, ⟨by exact HB.out⟩⟩
    ·rw [if_neg c7] at H
     have a9h := beq_eq_false_iff_ne.mpr c7
     have b5j := bne_iff_ne.mpr c7
     obtain ⟨rfl, rfl, rfl⟩ := s3_ H
     obtain ⟨f4l, b57, _, b58, _⟩ := info_parts info5
     obtain ⟨A18, d4O, c47, c5a⟩ := a1D (P := Tryd.prog) (Value.int .u8) 0 22 5 .i64 Tryd.underlying22 b57 b58 A0 c0 l0 X6 (Y9) (Y9) HC0.out
     have d45 := ci_ (Kd.a0K (h1 := fun _ => rfl) (c47 _ (Kd.a0p HR0.out)))
     have d46 := a_ c5a
     clear c47 c5a b57 b58
     go_wp2_with (first | (refine gl_ (some 17) Tryd.func64 #[.slice A18 (l0.drop (X6 : Int).toNat).length (c0 - X6.toNat)] ?_ (hargs := by (try simp only [List.map_toArray, List.map_cons, List.map_nil]); (rw [show (l0.drop (X6 : Int).toNat).length = (l0.length - X6.toNat) from List.length_drop] <;> rfl)); (with_reducible refine (dump_Next.calls k1 _ _ (l0.drop (X6 : Int).toNat) b5n t171 b3n t175 d43 _ (Kd.D6 a4Z.out HB.out) (Kd.D6 d45.out HB.out) d46.out A6.out).mono ?_); rintro e w19 ⟨v173, rfl, ho0, hb⟩; refine ⟨_, rfl, ?_⟩; have b0a := rl_ ho0 HB; replace a3u := rS_ a3u ho0 hb; replace a4A := U5 a4A hb; replace HB := W9 HB hb; (try clear hb); (try clear ho0)) | (refine be_ 6 #[.int .i64 0, .int .u32 0, .slice none 0 0] 58 ?_; intro a6m hg w20 hbox hb; have b0b := a_ hbox; have d47 := lb_ HB hg; obtain ⟨a5x, b5o⟩ := nn_ a4A hg; replace a3u := se_ a3u hg hb; replace b0a := rb_ b0a hb; replace a4A := U5 a4A hb; replace HB := W9 HB hb; clear hb hbox hg; have e3u := b5o.out; have e3v := a5x.out; obtain ⟨b6M, b6N, b6O, b6P, b6Q, b6R⟩ := a2G b0b.out; obtain ⟨b0c, b0d, c7f⟩ := Kd.J4 b0a.out; subst c7f; obtain ⟨b7j, b7k, b7l, b7m⟩ := a3n a4A.out))
     refine bodyPost_ret (a3s rfl _ _ b6a 30 #[.int .i64 X6, .int .i64 d43] (0, 0) _ rfl (by refine l9 (cs := #[.int .i64 X6, .int .i64 a6l]) ?_ 1 _ rfl; refine l9 (cs := #[.int .i64 a8A, .int .i64 a6l]) ?_ 0 _ rfl; refine o9 ?_ a5x.out _; refine o9 ?_ a5x.out _; refine o9 ?_ a5x.out _; exact a4A.out) Tryd.underlying30 rfl (by kernel_rfl)) rfl ?_
     exact ⟨_, by (rfl), by exact Kd.V6 (Kd.Y6 (p := ⟨b6a, 1, none⟩) (Kd.Y6 (p := ⟨b6a, 0, none⟩) (Kd.Y6 (p := ⟨a6m, 2, none⟩) (Kd.Y6 (p := ⟨a6m, 1, none⟩) (Kd.Y6 (p := ⟨a6m, 0, none⟩) (Kd.a3K (Kd.V6 a3u.out (fun k_ hk => (⟨hk, hk.2⟩ : _ ∧ k_ ≠ a6m))) a4A.out (by decide)) (fun _ hk => hk.1.2) (.int .i64 b5n)) (fun _ hk => hk.1.2) (.int .u32 t171)) (fun _ hk => hk.1.2) (.slice b0c b3n.length b0d)) (fun _ hk => hk.2) (.int .i64 X6)) (fun _ hk => hk.2) (.int .i64 d43)) (fun _ hk => trivial), by repeat (with_reducible first | exact HB.out | refine o8 ?_ e4E.out | refine o8 ?_ d47.out)⟩
   ·rw [if_neg c3] at H
    have a5g := decide_eq_false c3
    clear c3
    obtain ⟨rfl, rfl, rfl⟩ := s3_ H
    obtain ⟨e0P, e0Q, e0R, e0S⟩ := a3n a4A.out
    go_wp2
    refine bodyPost_ret (a3s rfl _ _ b6a 30 #[.int .i64 0, .int .i64 0] (0, 0) _ rfl (by refine l9 (cs := #[.int .i64 0, .int .i64 a6l]) ?_ 1 _ rfl; refine l9 (cs := #[.int .i64 a8A, .int .i64 a6l]) ?_ 0 _ rfl; exact a4A.out) Tryd.underlying30 rfl (by kernel_rfl)) rfl ?_
    exact ⟨_, by (rfl), by exact Kd.V6 (Kd.Y6 (p := ⟨b6a, 1, none⟩) (Kd.Y6 (p := ⟨b6a, 0, none⟩) (Kd.a3K a3u.out a4A.out (by decide)) (fun _ hk => hk.2) (.int .i64 0)) (fun _ hk => hk.2) (.int .i64 0)) (fun _ hk => trivial), by repeat (with_reducible first | exact HB.out | refine o8 ?_ e4E.out)⟩
def a2B.f (N7 : Int) (a0b : Int) (a3E : List Int) : Option (Bool) := if N7 = 1 then ((a0a.f a0b).bind fun t208 => (if t208 = true then (some (decide ((a3E.length : Int) ≤ 65531))) else (some false))) else (if N7 = 2 then ((a0a.f a0b).bind fun e7Z => (if e7Z = true then (some (decide ((a3E.length : Int) ≤ 65531))) else (some false))) else (some false))
theorem a2B.calls (N7 : Int) (a0b : Int) (b1d : Option Addr) (b1e : Nat) (a3E : List Int) (r : Bool) (w : World) (b6b : Kd.C (Kd.int .u8) w b1d a3E.length a3E) (b6c : a3E.length ≤ b1e) (h : a2B.f N7 a0b a3E = some r) :
  Calls Tryd.prog 16 #[.agg #[.int .i64 N7, .int .i64 a0b, .slice b1d a3E.length b1e]] w fun e w' => e = .returned (.bool r) ∧ Below w.heap.size w w' := by
 have d48 := Tryd.underlying42
 have d49 := a_ b6b
 have e4F := a_ b6c
 clear b6b b6c
 have HB := a_ (Below.refl w.heap.size w)
 have H := h
 clear h
 unfold a2B.f at H
 by_cases c2 : N7 = 1
 ·rw [if_pos c2] at H
  obtain ⟨b6B, d18⟩ := bt_ c2
  replace H := Option.bind_eq_some_iff.mp H
  obtain ⟨t208, A30, H⟩ := H
  try dsimp only at H
  have A3 := a_ A30
  clear A30
  by_cases c4 : t208 = true
  ·subst c4
   rw [if_pos rfl] at H
   obtain rfl := Option.some.inj H
   go_enter Tryd.func16, Tryd.ntmps16
   go_wp2_with (first | ((with_reducible refine P9 (N := 1) rfl ?_); (try (refine U8 (by rfl) ?_; dsimp only)); refine be_ 1 #[.int .i64 N7, .int .i64 a0b, .slice b1d a3E.length b1e] 42 ?_; intro d0c hg w5 hbox hb; have b4n := a_ hbox; have d0d := lb_ HB hg; replace HB := W9 HB hb; clear hb hbox hg; obtain ⟨e70, e71, e72, e73, e74, e75⟩ := a2G b4n.out) | (go_at_call 33; (with_reducible refine (a0a.calls a0b true _ A3.out).mono ?_); rintro e w' ⟨rfl, ⟨nd, rfl⟩⟩))
   go_ret
   exact ⟨by (rfl), by repeat (with_reducible first | exact HB.out | apply o7)⟩
  ·cases nt_ c4
   rw [if_neg a5a] at H
   obtain rfl := Option.some.inj H
   go_enter Tryd.func16, Tryd.ntmps16
   go_wp2_with (first | ((with_reducible refine P9 (N := 1) rfl ?_); (try (refine U8 (by rfl) ?_; dsimp only)); refine be_ 1 #[.int .i64 N7, .int .i64 a0b, .slice b1d a3E.length b1e] 42 ?_; intro d0c hg w7 hbox hb; have b4n := a_ hbox; have d0d := lb_ HB hg; replace HB := W9 HB hb; clear hb hbox hg; obtain ⟨g7b, g7c, g7d, g7e, g7f, g7g⟩ := a2G b4n.out) | (go_at_call 33; (with_reducible refine (a0a.calls a0b false _ A3.out).mono ?_); rintro e w' ⟨rfl, ⟨nd, rfl⟩⟩))
   go_ret
   exact ⟨by (rfl), by repeat (with_reducible first | exact HB.out | apply o7)⟩
 ·rw [if_neg c2] at H
  have b6B := beq_eq_false_iff_ne.mpr c2
  have d18 := bne_iff_ne.mpr c2
  by_cases c9 : N7 = 2
  ·rw [if_pos c9] at H
   obtain ⟨b5i, c1O⟩ := bt_ c9
   replace H := Option.bind_eq_some_iff.mp H
   obtain ⟨e7Z, b7N, H⟩ := H
   try dsimp only at H
   have A10 := a_ b7N
   clear b7N
   by_cases c11 : e7Z = true
   ·subst c11
    rw [if_pos rfl] at H
    obtain rfl := Option.some.inj H
    go_enter Tryd.func16, Tryd.ntmps16
    go_wp2_with (first | ((with_reducible refine P9 (N := 1) rfl ?_); (try (refine U8 (by rfl) ?_; dsimp only)); refine be_ 1 #[.int .i64 N7, .int .i64 a0b, .slice b1d a3E.length b1e] 42 ?_; intro d0c hg w12 hbox hb; have b4n := a_ hbox; have d0d := lb_ HB hg; replace HB := W9 HB hb; clear hb hbox hg; obtain ⟨b7f, b7g, c2h, b7h, b7i, c2i⟩ := a2G b4n.out) | (go_at_call 33; (with_reducible refine (a0a.calls a0b true _ A10.out).mono ?_); rintro e w' ⟨rfl, ⟨nd, rfl⟩⟩))
    go_ret
    exact ⟨by (rfl), by repeat (with_reducible first | exact HB.out | apply o7)⟩
   ·cases nt_ c11
    rw [if_neg a5a] at H
    obtain rfl := Option.some.inj H
    go_enter Tryd.func16, Tryd.ntmps16
    go_wp2_with (first | ((with_reducible refine P9 (N := 1) rfl ?_); (try (refine U8 (by rfl) ?_; dsimp only)); refine be_ 1 #[.int .i64 N7, .int .i64 a0b, .slice b1d a3E.length b1e] 42 ?_; intro d0c hg w14 hbox hb; have b4n := a_ hbox; have d0d := lb_ HB hg; replace HB := W9 HB hb; clear hb hbox hg; obtain ⟨e0T, e0U, e0V, e0W, e0X, e0Y⟩ := a2G b4n.out) | (go_at_call 33; (with_reducible refine (a0a.calls a0b false _ A10.out).mono ?_); rintro e w' ⟨rfl, ⟨nd, rfl⟩⟩))
    go_ret
    exact ⟨by (rfl), by repeat (with_reducible first | exact HB.out | apply o7)⟩
  ·rw [if_neg c9] at H
   have b5i := beq_eq_false_iff_ne.mpr c9
   have c1O := bne_iff_ne.mpr c9
   obtain rfl := Option.some.inj H
   go_enter Tryd.func16, Tryd.ntmps16
   go_wp2_with (first | ((with_reducible refine P9 (N := 1) rfl ?_); (try (refine U8 (by rfl) ?_; dsimp only)); refine be_ 1 #[.int .i64 N7, .int .i64 a0b, .slice b1d a3E.length b1e] 42 ?_; intro d0c hg w16 hbox hb; have b4n := a_ hbox; have d0d := lb_ HB hg; replace HB := W9 HB hb; clear hb hbox hg; obtain ⟨e0Z, e00, e02, e03, e04, e05⟩ := a2G b4n.out))
   go_ret
   exact ⟨by (rfl), by exact HB.out⟩
theorem G8.bad (x : S42) (A : Option Addr) (c : Nat) (t : Bool) (w : World) (hr : Kd.C (Kd.int .u8) w A x.f2.length x.f2) (hc : x.f2.length ≤ c) (h : a2B.f x.f0 x.f1 x.f2 = some t) :
  Calls Tryd.prog 28 #[.agg #[.int .i64 x.f0, .int .i64 x.f1, .slice A x.f2.length c]] w fun e w' => e = .returned (.bool (!t)) ∧ Below w.heap.size w w' := by
 have d48 := Tryd.underlying42
 have HR := a_ hr
 have HC := a_ hc
 have HT := a_ h
 have HB := a_ (Below.refl w.heap.size w)
 clear hr hc h
 go_enter Tryd.func28, Tryd.ntmps28
 go_wp2_with (first | ((with_reducible refine P9 (N := 1) rfl ?_); refine a8y ?hg (N := 1) ?hd (cs := #[.int .i64 x.f0, .int .i64 x.f1, .slice A x.f2.length c]) (t := 42) ?hr ?_; (case hd => rfl); (case hg => rfl); (case hr => first | (go_simp; done) | (go_simp; rfl)); intro g1 hg w3 hbox hb; have HB3 := W9 HB hb; have BK3 := a_ hbox; obtain ⟨h2h, h2i, h2j⟩ := g4N BK3.out; clear hg hbox hb) | (go_at_call 16; refine (a2B.calls x.f0 x.f1 A c x.f2 t _ (Kd.D6 HR.out HB3.out) HC.out HT.out).mono ?_; rintro e w4 ⟨rfl, hb⟩; have HB4 := W9 HB3 hb; clear hb))
 go_ret
 exact ⟨rfl, HB4.out⟩
def G8.go : List (S42) → Nat → Option Int
 | [], _ => some (-1)
 | x :: m, j => (a2B.f x.f0 x.f1 x.f2).bind fun t => if t = true then G8.go m (j + 1) else some (j : Int)
theorem G8.b8U (l : List (S42)) (j : Nat) (h : j < l.length) : l.drop j = F7 l (j : Int) :: l.drop (j + 1) := by
 rw [List.drop_eq_getElem_cons h]
 unfold F7
 rw [Int.toNat_natCast, List.getD_eq_getElem?_getD, List.getElem?_eq_getElem h]
 rfl
theorem G8.calls (A0 : Option Addr) (c0 : Nat) (l0 : List (S42)) (r : Int) (w : World) (hr0 : Kd.C k42 w A0 l0.length l0) (hc0 : l0.length ≤ c0) (h : G8.go l0 0 = some r) :
  Calls Tryd.prog 49 #[.slice A0 l0.length c0, .func (.func 28) #[] #[]] w fun e w' => e = .returned (.int .i64 r) ∧ Below w.heap.size w w' := by
 have hml := Kd.c0f hr0
 have HR := a_ hr0
 have HG : Aside0 (G8.go (l0.drop 0) 0 = some r) := ⟨by rw [List.drop_zero]; exact h⟩
 have HB := a_ (Below.refl w.heap.size w)
 clear hr0 hc0 h
 go_enter Tryd.func49, Tryd.ntmps49
 go_wp2
 go_loopg [8] l0.length (fun kq v8 w' => ∃ j : Nat, kq + j = l0.length ∧ v8 = .int .i64 (j : Int) ∧ Aside0 (Below w.heap.size w w') ∧ Aside0 (G8.go (l0.drop j) j = some r))
 case atStart => exact ⟨0, rfl, rfl, HB, HG⟩
 case round =>
  obtain ⟨j, hj, rfl, HI, HGJ⟩ := hrel
  clear HB HG
  by_cases hlt : j < l0.length
  ·obtain ⟨k1, rfl⟩ : ∃ k1, gk = k1 + 1 := ⟨gk - 1, by omega⟩
   have c1_ : decide ((j : Int) < (l0.length : Int)) = true := decide_eq_true (by omega)
   have p1_ : (0 : Int) ≤ (j : Int) := by omega
   have q1_ : (j : Int) < (l0.length : Int) := by omega
   obtain ⟨ad, Ax, cx, e0, hx0, hx1, hx2, hlx, hix⟩ := a2P HR.out (j : Int) p1_ q1_
   have hgo := HGJ.out
   rw [G8.b8U l0 j hlt, G8.go] at hgo
   generalize F7 l0 (j : Int) = x at hx0 hx1 hx2 hlx hix hgo
   cases e0
   rw [Int.toNat_natCast] at hx0 hx1 hx2
   replace hx0 := cb_ HI hx0
   replace hx1 := cb_ HI hx1
   replace hx2 := cb_ HI hx2
   have HIX := a_ (Kd.D6 hix HI.out)
   have HLX := a_ hlx
   obtain ⟨t, ht, hgo⟩ := Option.bind_eq_some_iff.1 hgo
   have HT := a_ ht
   have HGN := a_ hgo
   clear hlx hix HGJ hgo ht
   go_wp2_with (fail)
   refine (G8.bad x Ax cx t _ HIX.out HLX.out HT.out).mono ?_
   rintro e w2 ⟨rfl, hb⟩
   have HB2 := W9 HI hb
   clear hb hx0 hx1 hx2
   cases t with
   | true =>
    have hgo := HGN.out
    rw [if_pos rfl] at hgo
    have HGO := a_ hgo
    clear HGN hgo
    go_wp2
    go_roundg k1
    case measure => omega
    case rel => exact ⟨j + 1, by omega, by go_num, HB2, HGO⟩
   | false =>
    have hgo := HGN.out
    rw [if_neg (by decide)] at hgo
    obtain rfl := Option.some.inj hgo
    go_wp2
    go_ret
    exact ⟨rfl, HB2.out⟩
  ·have c1_ : decide ((j : Int) < (l0.length : Int)) = false := decide_eq_false (by omega)
   have hgo := HGJ.out
   rw [List.drop_of_length_le (by omega), G8.go] at hgo
   obtain rfl := Option.some.inj hgo
   go_wp2
   go_ret
   exact ⟨rfl, HI.out⟩
theorem a2a.calls (A0 : Option Addr) (c0 : Nat) (l0 : List (S42)) (r : Int) (w : World) (hr0 : Kd.C k42 w A0 l0.length l0) (hc0 : l0.length ≤ c0) (h : G8.go l0 0 = some r) :
  Calls Tryd.prog 27 #[.slice A0 l0.length c0, .func (.func 28) #[] #[]] w fun e w' => e = .returned (.bool (decide (0 ≤ r))) ∧ Below w.heap.size w w' := by
 have HR := a_ hr0
 have HC := a_ hc0
 have HT := a_ h
 clear hr0 hc0 h
 go_enter Tryd.func27, Tryd.ntmps27
 go_wp2_with (go_at_call 49; refine (G8.calls A0 c0 l0 r _ HR.out HC.out HT.out).mono ?_; rintro e w4 ⟨rfl, hb⟩; have HB4 := a_ hb; clear hb)
 go_ret
 exact ⟨by first | rfl | simp [ge_iff_le], HB4.out⟩
def x9.f (l0 : List (List Int)) : Option (List Int) := if l0.flatten.length < 140737488355328 then some l0.flatten else none
def x9.tot (l : List (List Int)) (j : Nat) : Nat := (l.take j).flatten.length
def x9.pre (l : List (List Int)) (j : Nat) : List Int := (l.take j).flatten
theorem x9.c0u (l : List (List Int)) (j : Nat) (h : j < l.length) : x9.pre l (j + 1) = x9.pre l j ++ a2O l (j : Int) := by
 unfold x9.pre a2O
 rw [List.take_succ_eq_append_getElem h, List.flatten_append]
 simp [h]
theorem x9.c5i (l : List (List Int)) (j : Nat) (h : j < l.length) : x9.tot l (j + 1) = x9.tot l j + (a2O l (j : Int)).length := by
 have := congrArg List.length (x9.c0u l j h)
 rw [List.length_append] at this
 exact this
theorem x9.e06 (l : List (List Int)) (j : Nat) (h : j = l.length) : x9.tot l j = l.flatten.length := by
 unfold x9.tot
 rw [List.take_of_length_le (by omega)]
theorem x9.c2j (l : List (List Int)) (j : Nat) : x9.tot l j ≤ l.flatten.length := by
 unfold x9.tot
 conv => rhs; rw [← List.take_append_drop j l, List.flatten_append, List.length_append]
 omega
theorem x9.calls (A0 : Option Addr) (c0 : Nat) (l0 : List (List Int)) (r : List Int) (w : World) (hr0 : Kd.C (Kd.slice 5 (Kd.int .u8)) w A0 l0.length l0) (hc0 : l0.length ≤ c0) (h : x9.f l0 = some r) :
  Calls Tryd.prog 73 #[.slice A0 l0.length c0] w fun e w' => ∃ v0_ : Value, e = .returned (v0_) ∧ Kd.R (Kd.int .u8) 5 w' w.heap.size (fun _ => True) v0_ r ∧ Below w.heap.size w w' := by
 obtain ⟨hl, rfl⟩ : l0.flatten.length < 140737488355328 ∧ l0.flatten = r := by
  unfold x9.f at h
  split at h
  ·exact ⟨by assumption, Option.some.inj h⟩
  ·cases h
 have HR0 := a_ hr0
 have HC0 := a_ hc0
 have HB := a_ (Below.refl w.heap.size w)
 have HL := a_ hl
 have HN := a_ hr0.2.1
 clear h hl hr0 hc0
 go_enter Tryd.func73, Tryd.ntmps73
 go_wp2
 go_loop [3, 11] (fun v3 v11 => ∃ j : Nat, j ≤ l0.length ∧ v11 = .int .i64 (j : Int) ∧ v3 = .int .i64 (x9.tot l0 j : Int)) (fun _ v11 => l0.length - (intOf v11).toNat)
 case atStart => exact ⟨0, Nat.zero_le _, rfl, rfl⟩
 case round =>
  obtain ⟨j, hj, rfl, rfl⟩ := hrel
  have ht := Nat.lt_of_le_of_lt (x9.c2j l0 j) HL.out
  have hn := HN.out
  by_cases hlt : j < l0.length
  ·have e76 : 0 ≤ (j : Int) := by omega
   have e77 : (j : Int) < (l0.length : Int) := by omega
   obtain ⟨f4T, e78, e79, e304, b4o, d0e, c2k⟩ := b7Z HR0.out (j : Int) e76 e77
   cases e304
   simp only [Int.toNat_natCast] at b4o
   have hs := x9.c5i l0 j hlt
   have ht2 := Nat.lt_of_le_of_lt (x9.c2j l0 (j + 1)) HL.out
   have hW : wrap64 ((x9.tot l0 j : Int) + ((a2O l0 (j : Int)).length : Int)) = (x9.tot l0 j : Int) + ((a2O l0 (j : Int)).length : Int) := by
    unfold wrap64
    omega
   have hneg : decide (wrap64 ((x9.tot l0 j : Int) + ((a2O l0 (j : Int)).length : Int)) < 0) = false := by
    rw [hW]
    exact decide_eq_false (by omega)
   have HS := a_ hs
   have HW := a_ hW
   clear hs ht ht2 hW
   go_wp2
   go_round
   case rel => exact ⟨j + 1, by omega, by go_num, by rw [HS.out, HW.out]; go_num⟩
   case measure => simp [intOf]; omega
  ·have ht' := x9.e06 l0 j (by omega)
   have HT := a_ ht'
   clear ht' ht
   have hg := Nat.lt_of_le_of_lt (x9.c2j l0 j) HL.out
   obtain rfl : j = l0.length := by omega
   clear hlt hj hn
   go_wp2_with fail
   refine (b1f.d2d (x9.tot l0 l0.length) _ hg).mono ?_
   rintro e w1 ⟨v6_, rfl, hR6, hB6⟩
   clear hg
   have a2d := a_ hR6
   have HB1 := a_ hB6
   clear hR6 hB6 HB
   go_wp2
   go_loopg [6, 27] l0.length (fun kq v6 v27 w' => ∃ j : Nat, Aside0 (kq + j = l0.length) ∧ v27 = .int .i64 (j : Int) ∧ Aside0 (Kd.R (Kd.int .u8) 5 w' w.heap.size (fun _ => True) v6 (x9.pre l0 j)) ∧ Aside0 (Below w.heap.size w w'))
   case atStart => exact ⟨0, ⟨rfl⟩, rfl, a2d, HB1⟩
   case round =>
    obtain ⟨j, HJ, rfl, e8a, HB⟩ := hrel
    have hj := HJ.out
    have hn := HN.out
    have hjl : j ≤ l0.length := by omega
    by_cases hlt : j < l0.length
    ·obtain ⟨k1, rfl⟩ : ∃ k1, gk = k1 + 1 := ⟨gk - 1, by omega⟩
     have e76 : 0 ≤ (j : Int) := by omega
     have e77 : (j : Int) < (l0.length : Int) := by omega
     obtain ⟨f4T, e78, e79, e304, b4o, d0e, c2k⟩ := b7Z HR0.out (j : Int) e76 e77
     cases e304
     simp only [Int.toNat_natCast] at b4o
     replace b4o := cb_ HB b4o
     have e07 := a_ c2k
     have HS := a_ (x9.c0u l0 j hlt)
     have LM : Aside0 ((x9.pre l0 j).length + (a2O l0 (j : Int)).length < 140737488355328) := ⟨by
      have h1 := x9.c5i l0 j hlt
      have h2 := Nat.lt_of_le_of_lt (x9.c2j l0 (j + 1)) HL.out
      unfold x9.tot at h1 h2
      unfold x9.pre
      omega⟩
     clear c2k d0e hj
     go_wp2_with (((with_reducible refine G7 (b := .append) (xs := #[.tmp 31, .tmp 32]) rfl ?_); at_builtin; refine Kd.Q8 (Kd.int .u8) (w0 := w) w.heap.size rfl (.tmp 31) (.tmp 32) 22 5 (.int .u8 0) 1 rfl Tryd.underlying22 info5 rfl (by decide) (by omega) u6 (x9.pre l0 j) (a2O l0 (j : Int)) _ _ _ (fun _ => True) (fun _ => False) rfl rfl ?aO ?aR (fun _ _ h => h) (fun _ h => h.elim) ?aF ?aB ?aS ?aL ?_; (case aR => exact (Kd.D6 e07.out HB.out)); (case aB => exact HB.out); (case aF => exact (fun _ _ => trivial)); (case aO => exact e8a.out); (case aS => exact y5 HB.out); (case aL => have := LM.out; omega); intro h5s w5 ho hb hg hat; rw [← HS.out] at ho; have f4U := a_ ho; replace HB := a_ hb; clear e8a; clear ho hb hg hat))
     go_roundg k1
     case measure => omega
     case rel => exact ⟨j + 1, ⟨by have := HJ.out; omega⟩, by go_num, f4U, HB⟩
    ·have hp : x9.pre l0 j = l0.flatten := by
      unfold x9.pre
      rw [List.take_of_length_le (by omega)]
     have HP := a_ hp
     clear hp hj
     go_wp2
     go_ret
     exact ⟨_, rfl, by rw [← HP.out]; exact e8a.out, HB.out⟩
def a2o.f (a0 : Int) (a1 : Int) : Option (Bool) := if a1 = 125 then (some true) else (if a1 = 126 then (some true) else ((a4z.f a0 a1).bind fun t210 => (some t210)))
theorem a2o.calls (a0 : Int) (a1 : Int) (r : Bool) (w : World) (h : a2o.f a0 a1 = some r) :
  Calls Tryd.prog 108 #[.int .u32 a0, .int .u8 a1] w fun e w' => e = .returned (.bool r) ∧ G6 w w' := by
 have H := h
 clear h
 unfold a2o.f at H
 by_cases c3 : a1 = 125
 ·rw [if_pos c3] at H
  obtain ⟨a5g, b1b⟩ := bt_ c3
  obtain rfl := Option.some.inj H
  go_enter Tryd.func108, Tryd.ntmps108
  go_wp2
  go_ret
  exact ⟨by first | rfl | (simp; done) | (simp [*]; done), by repeat (first | exact G6.refl _ | apply G6.step)⟩
 ·rw [if_neg c3] at H
  have a5g := beq_eq_false_iff_ne.mpr c3
  have b1b := bne_iff_ne.mpr c3
  by_cases c4 : a1 = 126
  ·rw [if_pos c4] at H
   obtain ⟨a6r, b6A⟩ := bt_ c4
   obtain rfl := Option.some.inj H
   go_enter Tryd.func108, Tryd.ntmps108
   go_wp2
   go_ret
   exact ⟨by first | rfl | (simp; done) | (simp [*]; done), by repeat (first | exact G6.refl _ | apply G6.step)⟩
  ·rw [if_neg c4] at H
   have a6r := beq_eq_false_iff_ne.mpr c4
   have b6A := bne_iff_ne.mpr c4
   replace H := Option.bind_eq_some_iff.mp H
   obtain ⟨t210, A50, H⟩ := H
   try dsimp only at H
   have A5 := a_ A50
   clear A50
   obtain rfl := Option.some.inj H
   go_enter Tryd.func108, Tryd.ntmps108
   go_wp2_with (first | (go_at_call 111; (with_reducible refine (a4z.calls a0 a1 t210 _ A5.out).mono ?_); rintro e w' ⟨rfl, ⟨nd, rfl⟩⟩))
   go_ret
   exact ⟨by first | rfl | (simp; done) | (simp [*]; done), by repeat (first | exact G6.refl _ | apply G6.step)⟩
def D9.piece (m c : Int) : List Int := if (a2o.f m c).getD false = true then [125, Go.bits .xor .u8 c 32] else [c]
def D9.pre (m : Int) (l : List Int) (j : Nat) : List Int := ((l.take j).map (D9.piece m)).flatten
def D9.f (l0 : List Int) (a1 : Int) : Option (List Int) := if (l0.all fun c => (a2o.f a1 c).isSome) = true ∧ (l0.map (D9.piece a1)).flatten.length < 140737488355328 then some (l0.map (D9.piece a1)).flatten else none
theorem D9.d5a (m : Int) (l : List Int) (j : Nat) (h : j < l.length) : D9.pre m l (j + 1) = D9.pre m l j ++ D9.piece m (rd l (j : Int)) := by
 unfold D9.pre rd
 rw [List.take_succ_eq_append_getElem h, List.map_append, List.flatten_append]
 simp [h]
theorem D9.e8b (m : Int) (l : List Int) (j : Nat) : (D9.pre m l j).length ≤ (l.map (D9.piece m)).flatten.length := by
 unfold D9.pre
 conv => rhs; rw [← List.take_append_drop j l, List.map_append, List.flatten_append, List.length_append]
 omega
theorem D9.e08 (m : Int) (l : List Int) (j : Nat) (h : l.length ≤ j) : D9.pre m l j = (l.map (D9.piece m)).flatten := by
 unfold D9.pre
 rw [List.take_of_length_le h]
structure D9.Inv (w0 W : World) (B : Nat) (acc : List Int) : Prop where mk :: (out : ∃ v : Value, W.heap[B]? = some (.cells #[v] 22 (0, 0)) ∧ Kd.R (Kd.int .u8) 5 W w0.heap.size (fun _ => True) v acc ∧ Below w0.heap.size w0 W ∧ w0.heap.size ≤ B)
theorem D9.Inv.drewN {w0 W : World} {B : Nat} {acc : List Int} (h : D9.Inv w0 W B acc) (n : Nat) : D9.Inv w0 (W.drewN n) B acc := by
 obtain ⟨v, h1, h2, h3, h4⟩ := h.out
 exact ⟨⟨v, h1, Kd.a1o h2 n, o7 h3 n, h4⟩⟩
theorem D9.put (w0 W : World) (B : Nat) (acc : List Int) (c : Int) (hI : D9.Inv w0 W B acc) (hl : acc.length + 1 < 140737488355328) :
  Calls Tryd.prog 103 #[.int .u8 c, .pointer (some ⟨B, 0, none⟩)] W fun e w' => e = .returned (.tuple #[]) ∧ D9.Inv w0 w' B (acc ++ [c]) := by
 obtain ⟨v, hblk, hR, hB, hBg⟩ := hI.out
 have hcell : W.cell? ⟨B, 0, none⟩ = some v := E5 hblk 0
 have HBK := a_ hblk
 have HO := a_ hR
 have HB := a_ hB
 have HG := a_ hBg
 have HL := a_ hl
 clear hI hblk hR hB hBg hl
 go_enter Tryd.func103, Tryd.ntmps103
 go_wp2_with (((with_reducible refine G7 (b := .append) (xs := #[.tmp 3, .tmp 5]) rfl ?_); at_builtin; refine Kd.a5c (Kd.int .u8) (w0 := w0) w0.heap.size rfl (.tmp 3) (.tmp 5) 22 5 (.int .u8 0) 1 rfl Tryd.underlying22 info5 rfl (by decide) (by omega) v acc c [.int .u8 c] (fun _ => True) (fun _ => False) rfl rfl ?aP (fun _ hk => hk.elim) ?aF ?aO ?aB ?aS ?aL ?_; (case aP => exact rfl); (case aB => exact HB.out); (case aF => exact (fun _ _ => trivial)); (case aO => exact HO.out); (case aS => exact HB.out.size); (case aL => have := HL.out; omega); intro v1 w1 ho hb hg hat; obtain ⟨Ao1, co1, eo1⟩ := Kd.J4 ho; subst eo1; have hne := Kd.a6B HO.out HBK.out (by decide); have hblk1 := F9 HBK.out hg hne; have hcell1 : w1.cell? ⟨B, 0, none⟩ = some v := E5 hblk1 0; have h5x : w1.frozen? ⟨B, 0, none⟩ = false := l7 hblk1 0; have HO1 := a_ ho; have HB1 := a_ hb; have f4V := a_ hblk1; clear ho hb hg hat hne hblk1))
 go_end0
 refine ⟨rfl, ⟨⟨_, a4S f4V.out 0 _, ?_, o8 HB1.out HG.out, HG.out⟩⟩⟩
 have h := Kd.c0e HO1.out f4V.out (by decide) 0 (.slice Ao1 (acc ++ [c]).length co1)
 simp only [List.length_append, List.length_singleton] at h ⊢
 exact h
theorem D9.each (w0 W : World) (B : Nat) (A0 : Option Addr) (c0 : Nat) (l0 : List Int) (a1 : Int) (hr0 : Kd.C (Kd.int .u8) w0 A0 l0.length l0) (hc0 : l0.length ≤ c0) (hs : (l0.all fun c => (a2o.f a1 c).isSome) = true) (hl : (l0.map (D9.piece a1)).flatten.length < 140737488355328) (hI : D9.Inv w0 W B []) :
  Calls Tryd.prog 102 #[.slice A0 l0.length c0, .int .u32 a1, .func (.func 103) #[] #[.pointer (some ⟨B, 0, none⟩)]] W fun e w' => e = .returned (.tuple #[]) ∧ D9.Inv w0 w' B (l0.map (D9.piece a1)).flatten := by
 have HR0 := a_ hr0
 have HN := a_ hr0.2.1
 have HI := a_ hI
 have HL := a_ hl
 have HS := a_ hs
 clear hr0 hc0 hI hl hs
 go_enter Tryd.func102, Tryd.ntmps102
 go_wp2
 go_loopg [10] l0.length (fun kq v10 w' => ∃ j : Nat, Aside0 (kq + j = l0.length) ∧ v10 = .int .i64 (j : Int) ∧ Aside0 (D9.Inv w0 w' B (D9.pre a1 l0 j)))
 case atStart => exact ⟨0, ⟨rfl⟩, rfl, HI⟩
 case round =>
  obtain ⟨j, HJ, rfl, HI⟩ := hrel
  have hj := HJ.out
  have hn := HN.out
  have hjl : j ≤ l0.length := by omega
  by_cases hlt : j < l0.length
  ·obtain ⟨k1, rfl⟩ : ∃ k1, gk = k1 + 1 := ⟨gk - 1, by omega⟩
   have hB := HI.out.out.choose_spec.2.2.1
   have p1 : 0 ≤ (j : Int) := by omega
   have q1 : (j : Int) < (l0.length : Int) := by omega
   obtain ⟨ad, e1, hx⟩ := Kd.a0W HR0.out (j : Int) p1 q1
   cases e1
   simp only [Int.toNat_natCast] at hx
   replace hx := (hB.cell (World.block_lt_of_cell? w0 _ hx)).trans hx
   obtain ⟨t, ht⟩ : ∃ t, a2o.f a1 (rd l0 (j : Int)) = some t := by
    have h1 := List.all_eq_true.1 HS.out (rd l0 (j : Int)) (by unfold rd; rw [Int.toNat_natCast, List.getD_eq_getElem?_getD, List.getElem?_eq_getElem hlt]; exact List.getElem_mem hlt)
    exact Option.isSome_iff_exists.1 h1
   have HT := a_ ht
   have HP := a_ (D9.d5a a1 l0 j hlt)
   have LM := a_ (D9.e8b a1 l0 (j + 1))
   have HPC : Aside0 (D9.piece a1 (rd l0 (j : Int)) = if t = true then [125, Go.bits .xor .u8 (rd l0 (j : Int)) 32] else [rd l0 (j : Int)]) := ⟨by unfold D9.piece; rw [HT.out]; rfl⟩
   clear hB ht hj
   have LB : Aside0 ((D9.pre a1 l0 j ++ D9.piece a1 (rd l0 (j : Int))).length < 140737488355328) := ⟨by rw [← HP.out]; exact Nat.lt_of_le_of_lt LM.out HL.out⟩
   cases t with
   | true =>
    have d2e : Aside0 (D9.piece a1 (rd l0 (j : Int)) = [125, Go.bits .xor .u8 (rd l0 (j : Int)) 32]) := ⟨HPC.out⟩
    go_wp2_with fail
    refine (a2o.calls a1 (rd l0 (j : Int)) true _ HT.out).mono ?_
    rintro e w1 ⟨rfl, ⟨nd, rfl⟩⟩
    go_wp2_with fail
    refine (D9.put w0 _ B (D9.pre a1 l0 j) 125 (HI.out.drewN nd) ?_).mono ?_
    ·have := LB.out
     rw [d2e.out, List.length_append] at this
     simp only [List.length_cons, List.length_nil] at this
     omega
    rintro e w2 ⟨rfl, hI2⟩
    have HI2 := a_ hI2
    clear hI2
    go_wp2_with fail
    refine (D9.put w0 _ B (D9.pre a1 l0 j ++ [125]) _ HI2.out ?_).mono ?_
    ·have := LB.out
     rw [d2e.out, List.length_append] at this
     simp only [List.length_cons, List.length_nil] at this
     simp only [List.length_append, List.length_cons, List.length_nil]
     omega
    rintro e w3 ⟨rfl, hI3⟩
    have HI3 := a_ hI3
    clear hI3
    go_wp2
    go_roundg k1
    case measure => omega
    case rel => exact ⟨j + 1, ⟨by have := HJ.out; omega⟩, by go_num, ⟨by rw [HP.out, d2e.out]; have := HI3.out; rw [List.append_assoc] at this; exact this⟩⟩
   | false =>
    have d2e : Aside0 (D9.piece a1 (rd l0 (j : Int)) = [rd l0 (j : Int)]) := ⟨HPC.out⟩
    go_wp2_with fail
    refine (a2o.calls a1 (rd l0 (j : Int)) false _ HT.out).mono ?_
    rintro e w1 ⟨rfl, ⟨nd, rfl⟩⟩
    go_wp2_with fail
    refine (D9.put w0 _ B (D9.pre a1 l0 j) _ (HI.out.drewN nd) ?_).mono ?_
    ·have := LB.out
     rw [d2e.out, List.length_append] at this
     simp only [List.length_cons, List.length_nil] at this
     omega
    rintro e w2 ⟨rfl, hI2⟩
    have HI2 := a_ hI2
    clear hI2
    go_wp2
    go_roundg k1
    case measure => omega
    case rel => exact ⟨j + 1, ⟨by have := HJ.out; omega⟩, by go_num, ⟨by rw [HP.out, d2e.out]; exact HI2.out⟩⟩
  ·go_wp2
   go_end0
   exact ⟨rfl, by rw [← D9.e08 a1 l0 j (by omega)]; exact HI.out⟩
theorem D9.calls (A0 : Option Addr) (c0 : Nat) (l0 : List Int) (a1 : Int) (r : List Int) (w : World) (hr0 : Kd.C (Kd.int .u8) w A0 l0.length l0) (hc0 : l0.length ≤ c0) (h : D9.f l0 a1 = some r) :
  Calls Tryd.prog 87 #[.slice A0 l0.length c0, .int .u32 a1] w fun e w' => ∃ v0_ : Value, e = .returned (v0_) ∧ Kd.R (Kd.int .u8) 5 w' w.heap.size (fun _ => True) v0_ r ∧ Below w.heap.size w w' := by
 obtain ⟨⟨hs, hl⟩, rfl⟩ : ((l0.all fun c => (a2o.f a1 c).isSome) = true ∧ (l0.map (D9.piece a1)).flatten.length < 140737488355328) ∧ (l0.map (D9.piece a1)).flatten = r := by
  unfold D9.f at h
  split at h
  ·exact ⟨by assumption, Option.some.inj h⟩
  ·cases h
 have HC := a_ hr0
 have HC0 := a_ hc0
 have HS := a_ hs
 have HL := a_ hl
 clear h hs hl hr0 hc0
 go_enter Tryd.func87, Tryd.ntmps87
 go_wp2_with fail
 refine (D9.each w _ w.heap.size A0 c0 l0 a1 HC.out HC0.out HS.out HL.out ⟨⟨.slice none 0 0, heap_alloc_new w _, Kd.a0I _ _ _ _ _, C9 (Below.refl _ _) _, Nat.le_refl _⟩⟩).mono ?_
 rintro e w1 ⟨rfl, hI⟩
 obtain ⟨v, hblk, hR, hB, _⟩ := hI.out
 have hcell : w1.cell? ⟨w.heap.size, 0, none⟩ = some v := E5 hblk 0
 have HR := a_ hR
 have HB := a_ hB
 clear hI hblk hR hB
 go_wp2
 go_ret
 exact ⟨_, rfl, HR.out, HB.out⟩
def b3o.f (l0 : List Int) (a1 : Bool) : Option (Int) := (a3L.f a1).bind fun d5b => ((Y3.f d5b l0 a1).bind fun t212 => ((a3L.f a1).bind fun t213 => (some (Go.bits .xor .u32 t212 t213))))
theorem b3o.calls (A0 : Option Addr) (c0 : Nat) (l0 : List Int) (a1 : Bool) (r : Int) (w : World) (hr0 : Kd.C (Kd.int .u8) w A0 l0.length l0) (hc0 : l0.length ≤ c0) (h : b3o.f l0 a1 = some r) :
  Calls Tryd.prog 104 #[.slice A0 l0.length c0, .bool a1] w fun e w' => e = .returned (.int .u32 r) ∧ Below w.heap.size w w' := by
 have HR0 := a_ hr0
 have HC0 := a_ hc0
 clear hr0 hc0
 have HB := a_ (Below.refl w.heap.size w)
 have H := h
 clear h
 unfold b3o.f at H
 replace H := Option.bind_eq_some_iff.mp H
 obtain ⟨d5b, A30, H⟩ := H
 try dsimp only at H
 have A3 := a_ A30
 clear A30
 replace H := Option.bind_eq_some_iff.mp H
 obtain ⟨t212, A40, H⟩ := H
 try dsimp only at H
 have A4 := a_ A40
 clear A40
 replace H := Option.bind_eq_some_iff.mp H
 obtain ⟨t213, A50, H⟩ := H
 try dsimp only at H
 have A5 := a_ A50
 clear A50
 obtain rfl := Option.some.inj H
 go_enter Tryd.func104, Tryd.ntmps104
 go_wp2_with (first | (refine gl_ (some 6) Tryd.func110 #[.bool a1] ?_ (hargs := by (try simp only [List.map_toArray, List.map_cons, List.map_nil]); first | done | rfl | (simp only [List.length_drop, List.length_take]; rfl)); (with_reducible refine (a3L.calls a1 d5b _ A3.out).mono ?_); rintro e w' ⟨rfl, ⟨nd, rfl⟩⟩; refine ⟨_, rfl, ?_⟩) | (refine gl_ (some 9) Tryd.func109 #[.int .u32 d5b, .slice A0 l0.length c0, .bool a1] ?_ (hargs := by (try simp only [List.map_toArray, List.map_cons, List.map_nil]); first | done | rfl | (simp only [List.length_drop, List.length_take]; rfl)); (with_reducible refine (Y3.calls d5b _ _ l0 a1 t212 _ ?Q5 ?Q7 A4.out).mono ?_); (case Q5 => repeat (first | exact HR0.out | (with_reducible refine Kd.a7C ?_ _) | (with_reducible refine Kd.a2V ?_ _) | (with_reducible refine Kd.a4l ?_))); (case Q7 => exact HC0.out); rintro e w6 ⟨rfl, hb⟩; refine ⟨_, rfl, ?_⟩; replace HB := a_ (G9 (by repeat (first | (with_reducible first | exact HB.out | apply C9 | apply o7 | apply D7) | exact HB.out)) hb); (try clear hb); (try clear hb2); (try clear hk); (try clear hi)) | (refine gl_ (some 11) Tryd.func110 #[.bool a1] ?_ (hargs := by (try simp only [List.map_toArray, List.map_cons, List.map_nil]); first | done | rfl | (simp only [List.length_drop, List.length_take]; rfl)); (with_reducible refine (a3L.calls a1 t213 _ A5.out).mono ?_); rintro e w' ⟨rfl, ⟨nd, rfl⟩⟩; refine ⟨_, rfl, ?_⟩))
 go_ret
 exact ⟨by first | rfl | (simp [P7, P8] <;> rfl) | (simp [*, P7, P8] <;> rfl), by repeat (first | (with_reducible first | exact HB.out | apply C9 | apply o7 | apply D7) | exact HB.out)⟩
def a2e.l0 : Nat → List Int → Int → Int → Int → Option (List Int)
 | 0, _, _, _, _ => none
 | k + 1, x5, x6, x13, x14 => if x14 < x13 then (if x5.length < 140737488355328 then (a2e.l0 k (x5 ++ [(x6) % 256]) (x6 / 256) x13 (wrap64 (x14 + 1))) else (none)) else (some x5)
def a2e.f (k : Nat) (l0 : List Int) (a1 : Bool) : Option (List Int) := (J6.f l0).bind fun e09 => ((b3o.f l0 a1).bind fun e1a => ((a2r.f a1).bind fun t218 => (a2e.l0 k e09 e1a t218 0)))
theorem a2e.calls (k : Nat) (A0 : Option Addr) (c0 : Nat) (l0 : List Int) (a1 : Bool) (r : List Int) (w : World) (hr0 : Kd.C (Kd.int .u8) w A0 l0.length l0) (hc0 : l0.length ≤ c0) (h : a2e.f k l0 a1 = some r) :
  Calls Tryd.prog 88 #[.slice A0 l0.length c0, .bool a1] w fun e w' => ∃ v0_ : Value, e = .returned (v0_) ∧ Kd.R (Kd.int .u8) 5 w' w.heap.size (fun _ => True) v0_ r ∧ Below w.heap.size w w' := by
 have HR0 := a_ hr0
 have HC0 := a_ hc0
 clear hr0 hc0
 have HB := a_ (Below.refl w.heap.size w)
 have H := h
 clear h
 unfold a2e.f at H
 replace H := Option.bind_eq_some_iff.mp H
 obtain ⟨e09, A30, H⟩ := H
 try dsimp only at H
 have A3 := a_ A30
 clear A30
 replace H := Option.bind_eq_some_iff.mp H
 obtain ⟨e1a, A40, H⟩ := H
 try dsimp only at H
 have A4 := a_ A40
 clear A40
 replace H := Option.bind_eq_some_iff.mp H
 obtain ⟨t218, A50, H⟩ := H
 try dsimp only at H
 have A5 := a_ A50
 clear A50
 have H' := a_ H
 clear H
 go_enter Tryd.func88, Tryd.ntmps88
 go_wp2_with (first | (refine gl_ (some 8) Tryd.func96 #[.slice A0 l0.length c0] ?_; (with_reducible refine (J6.calls _ _ l0 e09 _ HR0.out HC0.out A3.out).mono ?_); rintro e w6 ⟨h5y, rfl, ho0, hb⟩; refine ⟨_, rfl, ?_⟩; have d5c := rl_ ho0 HB; replace HB := W9 HB hb; (try clear hb); (try clear ho0)) | (refine gl_ (some 11) Tryd.func104 #[.slice A0 l0.length c0, .bool a1] ?_; (with_reducible refine (b3o.calls _ _ l0 a1 e1a _ (Kd.D6 HR0.out HB.out) HC0.out A4.out).mono ?_); rintro e w7 ⟨rfl, hb⟩; refine ⟨_, rfl, ?_⟩; replace d5c := rb_ d5c hb; replace HB := W9 HB hb; (try clear hb)) | (refine gl_ (some 13) Tryd.func105 #[.bool a1] ?_; (with_reducible refine (a2r.calls a1 t218 _ A5.out).mono ?_); rintro e w' ⟨rfl, ⟨nd, rfl⟩⟩; refine ⟨_, rfl, ?_⟩))
 go_loopg [5, 6, 14] k (fun kq v5 v6 v14 w' => ∃ (X6 : List Int) (a2u : Int) (a1v : Int), v6 = .int .u32 a2u ∧ v14 = .int .i64 a1v ∧ Aside0 (a2e.l0 kq X6 a2u t218 a1v = some r) ∧ Aside0 (kq ≤ k) ∧ Aside0 (Kd.R (Kd.int .u8) 5 w' w.heap.size (fun _ => True) v5 X6) ∧ Aside0 (Below w.heap.size w w'))
 case atStart => exact ⟨(e09), (e1a), (0), (by rfl), (by rfl), H', ⟨Nat.le_refl _⟩, ⟨by (with_reducible repeat (apply Kd.a1o)); exact d5c.out⟩, ⟨by repeat (with_reducible first | exact HB.out | apply o7)⟩⟩
 case round =>
  clear H'
  obtain ⟨X6, a2u, a1v, rfl, rfl, HA, HK1, e8c, HB⟩ := hrel
  cases gk with
  | zero => exact absurd HA.out (by simp [a2e.l0])
  | succ k1 =>
   have H := HA.out
   clear HA
   simp only [a2e.l0] at H
   by_cases c8 : a1v < t218
   ·rw [if_pos c8] at H
    have b8l := decide_eq_true c8
    clear c8
    have c9 := a0o H
    replace H := U9 H
    have e8d := a_ c9
    clear c9
    obtain ⟨g7h, d5d⟩ := is_ ((X6 ++ [(a2u) % 256]))
    rw [← d5d] at H
    have f4W := a_ d5d
    clear d5d
    have H' := a_ H
    clear H
    go_wp2_with (first | ((with_reducible refine G7 (b := .append) (xs := #[.tmp 16, .tmp 19]) rfl ?_); at_builtin; refine Kd.a5c (Kd.int .u8) (w0 := w) w.heap.size rfl (.tmp 16) (.tmp 19) 22 5 (.int .u8 0) 1 rfl Tryd.underlying22 info5 rfl (by decide) (by omega) u5 X6 ((a2u) % 256) [.int .u8 ((a2u) % 256)] (fun _ => True) (fun _ => False) rfl rfl ?aP (fun _ hk => hk.elim) ?aF ?aO ?aB ?aS ?aL ?_; (case aP => exact rfl); (case aB => exact HB.out); (case aF => exact (fun _ _ => trivial)); (case aO => exact e8c.out); (case aS => exact (y5 HB.out)); (case aL => have := e8d.out; omega); intro h5A w10 ho hb hg hat; rw [← f4W.out] at ho; have f4X := a_ ho; replace HB := a_ hb; clear e8c; clear ho hb hg hat))
    go_roundg k1
    case measure => have := HK1.out; omega
    case rel => exact ⟨(g7h), (a2u / 256), (wrap64 (a1v + 1)), (by rfl), (by rfl), H', ⟨by have := HK1.out; omega⟩, ⟨by exact f4X.out⟩, ⟨by exact HB.out⟩⟩
   ·rw [if_neg c8] at H
    have b8l := decide_eq_false c8
    clear c8
    obtain rfl := Option.some.inj H
    go_wp2
    go_ret
    exact ⟨_, by (rfl), by exact e8c.out, by exact HB.out⟩
def a0N.l0 : Nat → Int → Bool → List Int → List (List Int) → Int → Int → Option (List Int × Int)
 | 0, _, _, _, _, _, _ => none
 | k + 1, x1, x2, x8, x12, x13, x14 => if x14 < x13 then (if 0 ≤ x14 then (if x14 < (x12.length : Int) then (if ((a2O x12 x14).length : Int) < 2 then (some (([] : List Int), 1)) else (if ((a2O x12 x14).length : Int) > 65535 then (some (([] : List Int), 4)) else ((a2e.f k (a2O x12 x14) x2).bind fun t226 => ((D9.f t226 x1).bind fun t229 => ((x9.f ([x8, t229, ([126] : List Int)] : List (List Int))).bind fun e1b => (a0N.l0 k x1 x2 e1b x12 x13 (wrap64 (x14 + 1)))))))) else (none)) else (none)) else (some (x8, 0))
def a0N.f (k : Nat) (l0 : List (List Int)) (a1 : Int) (a2 : Bool) : Option (List Int × Int) := a0N.l0 k a1 a2 ([126] : List Int) l0 (l0.length : Int) 0
theorem a0N.calls (k : Nat) (A0 : Option Addr) (c0 : Nat) (l0 : List (List Int)) (a1 : Int) (a2 : Bool) (r1 : List Int) (r2 : Int) (w : World) (hr0 : Kd.C (Kd.slice 5 (Kd.int .u8)) w A0 l0.length l0) (hc0 : l0.length ≤ c0) (h : a0N.f k l0 a1 a2 = some (r1, r2)) :
  Calls Tryd.prog 68 #[.slice A0 l0.length c0, .int .u32 a1, .bool a2] w fun e w' => ∃ v0_ : Value, e = .returned (.tuple #[v0_, .int .i64 r2]) ∧ Kd.R (Kd.int .u8) 5 w' w.heap.size (fun _ => True) v0_ r1 ∧ Below w.heap.size w w' := by
 have HR0 := a_ hr0
 have HC0 := a_ hc0
 clear hr0 hc0
 have HB := a_ (Below.refl w.heap.size w)
 have H := h
 clear h
 unfold a0N.f at H
 obtain ⟨g7i, d5e⟩ := is_ (([126] : List Int))
 rw [← d5e] at H
 have f4Y := a_ d5e
 clear d5e
 have H' := a_ H
 clear H
 go_enter Tryd.func68, Tryd.ntmps68
 go_wp2_with (first | (refine d1N .u8 5 11 ([126] : List Int) ?_; intro h5B w4 ho5 hb; (rw [← f4Y.out] at ho5); have f4Z := rl_ ho5 HB; replace HB := W9 HB hb; clear hb ho5))
 go_loopg [8, 14] k (fun kq v8 v14 w' => ∃ (Z7 : List Int) (a1v : Int), v14 = .int .i64 a1v ∧ Aside0 (a0N.l0 kq a1 a2 Z7 l0 (l0.length : Int) a1v = some (r1, r2)) ∧ Aside0 (kq ≤ k) ∧ Aside0 (Kd.R (Kd.int .u8) 5 w' w.heap.size (fun _ => True) v8 Z7) ∧ Aside0 (Below w.heap.size w w'))
 case atStart => exact ⟨(g7i), (0), (by rfl), H', ⟨Nat.le_refl _⟩, ⟨by exact f4Z.out⟩, ⟨by exact HB.out⟩⟩
 case round =>
  clear H'
  obtain ⟨Z7, a1v, rfl, HA, HK1, a7R, HB⟩ := hrel
  cases gk with
  | zero => exact absurd HA.out (by simp [a0N.l0])
  | succ k1 =>
   have H := HA.out
   clear HA
   simp only [a0N.l0] at H
   by_cases c6 : a1v < (l0.length : Int)
   ·rw [if_pos c6] at H
    have a9K := decide_eq_true c6
    clear c6
    have a9h := a4w H
    replace H := U9 H
    have b8l := a4w H
    replace H := U9 H
    by_cases c9 : ((a2O l0 a1v).length : Int) < 2
    ·rw [if_pos c9] at H
     have b5i := decide_eq_true c9
     have c1O : decide ((a2O l0 a1v).length < 2) = true := decide_eq_true (by omega)
     clear c9
     obtain ⟨rfl, rfl⟩ := s2_ H
     have b8V : 0 ≤ (a1v : Int) := Y9
     have b8W : a1v < (l0.length : Int) := Y9
     obtain ⟨e4H, c7g, c7h, d5f, a9o, a9p, a9q⟩ := b7Z HR0.out a1v b8V b8W
     cases d5f
     replace a9o := cb_ HB a9o
     have c2l := a_ a9q
     have c2n := a_ a9p
     clear a9q a9p
     replace b8V := eq_true b8V
     replace b8W := eq_true b8W
     go_wp2
     go_ret2
     exact ⟨_, by (rfl), by (exact Kd.a0I _ _ _ _ _), by exact HB.out⟩
    ·rw [if_neg c9] at H
     have b5i := decide_eq_false c9
     have c1O : decide ((a2O l0 a1v).length < 2) = false := decide_eq_false (by omega)
     clear c9
     by_cases c10 : ((a2O l0 a1v).length : Int) > 65535
     ·rw [if_pos c10] at H
      have b34 : decide (65535 < ((a2O l0 a1v).length : Int)) = true := decide_eq_true c10
      have d4n : decide (65535 < (a2O l0 a1v).length) = true := decide_eq_true (by omega)
      clear c10
      obtain ⟨rfl, rfl⟩ := s2_ H
      have b8V : 0 ≤ (a1v : Int) := Y9
      have b8W : a1v < (l0.length : Int) := Y9
      obtain ⟨e4H, c7g, c7h, d5f, a9o, a9p, a9q⟩ := b7Z HR0.out a1v b8V b8W
      cases d5f
      replace a9o := cb_ HB a9o
      have c2l := a_ a9q
      have c2n := a_ a9p
      clear a9q a9p
      replace b8V := eq_true b8V
      replace b8W := eq_true b8W
      go_wp2
      go_ret2
      exact ⟨_, by (rfl), by (exact Kd.a0I _ _ _ _ _), by exact HB.out⟩
     ·rw [if_neg c10] at H
      have b34 : decide (65535 < ((a2O l0 a1v).length : Int)) = false := decide_eq_false c10
      have d4n : decide (65535 < (a2O l0 a1v).length) = false := decide_eq_false (by omega)
      clear c10
      replace H := Option.bind_eq_some_iff.mp H
      obtain ⟨t226, b35, H⟩ := H
      try dsimp only at H
      have A11 := a_ b35
      clear b35
      replace H := Option.bind_eq_some_iff.mp H
      obtain ⟨t229, b8X, H⟩ := H
      try dsimp only at H
      have A12 := a_ b8X
      clear b8X
      obtain ⟨d5g, d5h⟩ := is_ (([126] : List Int))
      rw [← d5h] at H
      have f5a := a_ d5h
      clear d5h
      obtain ⟨f5b, d5i⟩ := is_ (([Z7, t229, d5g] : List (List Int)))
      rw [← d5i] at H
      have f5c := a_ d5i
      clear d5i
      replace H := Option.bind_eq_some_iff.mp H
      obtain ⟨e1b, b8Y, H⟩ := H
      try dsimp only at H
      have A13 := a_ b8Y
      clear b8Y
      have H' := a_ H
      clear H
      have b8V : 0 ≤ (a1v : Int) := Y9
      have b8W : a1v < (l0.length : Int) := Y9
      obtain ⟨e4H, c7g, c7h, d5f, a9o, a9p, a9q⟩ := b7Z HR0.out a1v b8V b8W
      cases d5f
      replace a9o := cb_ HB a9o
      have c2l := a_ a9q
      have c2n := a_ a9p
      clear a9q a9p
      replace b8V := eq_true b8V
      replace b8W := eq_true b8W
      go_wp2_with (first | (refine gl_ (some 27) Tryd.func88 #[.slice c7g (a2O l0 a1v).length c7h, .bool a2] ?_; (with_reducible refine (a2e.calls k1 _ _ (a2O l0 a1v) a2 t226 _ (Kd.D6 c2l.out HB.out) c2n.out A11.out).mono ?_); rintro e w14 ⟨v227, rfl, ho0, hb⟩; refine ⟨_, rfl, ?_⟩; have a8N := rn_ ho0 a7R HB; replace a7R := rR_ a7R ho0 hb; replace HB := W9 HB hb; (try clear hb); (try clear ho0); obtain ⟨b5p, b5q, e8f⟩ := Kd.J4 a8N.out; subst e8f) | (refine gl_ (some 29) Tryd.func87 #[.slice b5p t226.length b5q, .int .u32 a1] ?_; (with_reducible refine (D9.calls _ _ t226 a1 t229 _ ((Kd.G5 a8N.out).2.2) ((Kd.G5 a8N.out).2.1) A12.out).mono ?_); rintro e w16 ⟨h5C, rfl, ho0, hb⟩; refine ⟨_, rfl, ?_⟩; have b8Z := a_ (Kd.X4 (Kd.a2n (Kd.a2n ho0 (Kd.a0h a7R.out)) (Kd.a0h a8N.out)) (y5 HB.out)); replace a7R := rR_ a7R ho0 hb; replace a8N := rR_ a8N ho0 hb; replace HB := W9 HB hb; (try clear hb); (try clear ho0)) | (refine d1N .u8 5 30 ([126] : List Int) ?_; intro v233 w17 b92 hb; (rw [← f5a.out] at b92); have d0f := a_ (Kd.X4 (Kd.a2n (Kd.a2n (Kd.a2n b92 (Kd.a0h a7R.out)) (Kd.a0h a8N.out)) (Kd.a0h b8Z.out)) (y5 HB.out)); replace a7R := rR_ a7R b92 hb; replace a8N := rR_ a8N b92 hb; replace b8Z := rR_ b8Z b92 hb; replace HB := W9 HB hb; clear hb b92; obtain ⟨b1g, b1h, d5j⟩ := Kd.J4 a7R.out; subst d5j; obtain ⟨b5r, b5s, d5k⟩ := Kd.J4 b8Z.out; subst d5k; obtain ⟨b5t, b5u, c7i⟩ := Kd.J4 d0f.out; subst c7i) | ((with_reducible refine P9 (N := 31) rfl ?_); refine Kd.c4r (Kd.slice 5 (Kd.int .u8)) _ 22 ?hg (N' := 31) ?hd (xs := ([Z7, t229, d5g] : List (List Int))) (inner := [.slice b1g Z7.length b1h, .slice b5r t229.length b5s, .slice b5t d5g.length b5u]) (ok := (fun k_ => some k_ ≠ (.slice b5p t226.length b5q : Value).ownBlock)) (okp := (fun k_ => some k_ ≠ (.slice b5p t226.length b5q : Value).ownBlock)) ?hr ?hp (fun _ hk => hk) ((show ∀ k_, w17.heap.size ≤ k_ → (fun k_ => some k_ ≠ (.slice b5p t226.length b5q : Value).ownBlock) k_ from fun k_ hk => Kd.fresh' (Kd.a0h a8N.out) k_ hk) _ (Nat.le_refl _)) (Below.refl _ _) (Nat.le_refl _) (by simp) ?_; (case hd => rfl); (case hg => rfl); (case hr => (go_simp; done)); (case hp => exact (N9.one (show Kd.FK (Kd.slice 5 (Kd.int .u8)) _ _ Z7 [.slice b1g Z7.length b1h] from (Kd.a5e (Kd.G5 (Kd.D8 (ok' := (fun k_ => some k_ ≠ (.slice b5p t226.length b5q : Value).ownBlock)) (a7R.out) (fun k_ hk => hk.1.1.2))).2.1 (Kd.R_F (Kd.D8 (ok' := (fun k_ => some k_ ≠ (.slice b5p t226.length b5q : Value).ownBlock)) (a7R.out) (fun k_ hk => hk.1.1.2))))) (N9.one (show Kd.FK (Kd.slice 5 (Kd.int .u8)) _ _ t229 [.slice b5r t229.length b5s] from (Kd.a5e (Kd.G5 (Kd.D8 (ok' := (fun k_ => some k_ ≠ (.slice b5p t226.length b5q : Value).ownBlock)) (b8Z.out) (fun k_ hk => hk.1.2))).2.1 (Kd.R_F (Kd.D8 (ok' := (fun k_ => some k_ ≠ (.slice b5p t226.length b5q : Value).ownBlock)) (b8Z.out) (fun k_ hk => hk.1.2))))) (N9.one (show Kd.FK (Kd.slice 5 (Kd.int .u8)) _ _ d5g [.slice b5t d5g.length b5u] from (Kd.a5e (Kd.G5 (Kd.D8 (ok' := (fun k_ => some k_ ≠ (.slice b5p t226.length b5q : Value).ownBlock)) (d0f.out) (fun k_ hk => hk.1.2))).2.1 (Kd.R_F (Kd.D8 (ok' := (fun k_ => some k_ ≠ (.slice b5p t226.length b5q : Value).ownBlock)) (d0f.out) (fun k_ hk => hk.1.2))))) (N9.none _ _))))); intro v236 w22 c7j hb hg_ a1q; clear hg_ a1q; (rw [← f5c.out] at c7j); have c5k := a_ (Kd.a6b c7j (y5 HB.out)); replace a8N := rb_ a8N hb; replace HB := W9 HB hb; clear b8Z; clear d0f; clear a7R; clear hb c7j; obtain ⟨b6q, b6r, c08⟩ := Kd.a3H c5k.out; subst c08) | (refine gl_ (some 32) Tryd.func73 #[.slice b6q f5b.length b6r] ?_; (with_reducible refine (x9.calls _ _ f5b e1b _ ((Kd.V5 c5k.out).2.2) ((Kd.V5 c5k.out).2.1) A13.out).mono ?_); rintro e w25 ⟨h5D, rfl, ho0, hb⟩; refine ⟨_, rfl, ?_⟩; have f5e := rn_ ho0 a8N HB; replace a8N := rR_ a8N ho0 hb; replace c5k := rN_ c5k ho0 hb; replace HB := W9 HB hb; (try clear hb); (try clear ho0)))
      go_roundg k1
      case measure => have := HK1.out; omega
      case rel => exact ⟨(e1b), (wrap64 (a1v + 1)), (by rfl), H', ⟨by have := HK1.out; omega⟩, ⟨by exact Kd.D8 f5e.out (fun _ hk => trivial)⟩, ⟨by exact HB.out⟩⟩
   ·rw [if_neg c6] at H
    have a9K := decide_eq_false c6
    clear c6
    obtain ⟨rfl, rfl⟩ := s2_ H
    go_wp2
    go_ret2
    exact ⟨_, by (rfl), by exact a7R.out, by exact HB.out⟩
def a6n.f (k : Nat) (l0 : List Int) (a1 : Int) (a2 : Bool) : Option (List Int × Int) := (a0N.f k (([l0] : List (List Int))) a1 a2).bind fun c5l => (some (c5l.1, c5l.2))
theorem a6n.calls (k : Nat) (P0_ : Nat → Prop) (A0 : Option Addr) (c0 : Nat) (l0 : List Int) (a1 : Int) (a2 : Bool) (r1 : List Int) (r2 : Int) (w : World) (hs0 : Kd.V (Kd.int .u8) 5 w w.heap.size (fun k_ => P0_ k_) (.slice A0 l0.length c0) l0) (h : a6n.f k l0 a1 a2 = some (r1, r2)) :
  Calls Tryd.prog 50 #[.slice A0 l0.length c0, .int .u32 a1, .bool a2] w fun e w' => ∃ v0_ : Value, e = .returned (.tuple #[v0_, .int .i64 r2]) ∧ Kd.R (Kd.int .u8) 5 w' w.heap.size (fun k_ => (w.heap.size ≤ k_)) v0_ r1 ∧ Below w.heap.size w w' := by
 have HO0 := a_ (show Kd.V (Kd.int .u8) 5 w w.heap.size (fun k_ => (P0_ k_ ∨ w.heap.size ≤ k_)) (.slice A0 l0.length c0) l0 from Kd.a5N hs0 (fun k_ hk => .inl hk))
 have HB := a_ (Below.refl w.heap.size w)
 have H := h
 clear h
 unfold a6n.f at H
 obtain ⟨e8g, c5m⟩ := is_ ((([l0] : List (List Int))))
 replace H : ((a0N.f k e8g a1 a2).bind fun c5l => (some (c5l.1, c5l.2))) = some (r1, r2) := by first | (rw [c5m]; with_reducible exact H) | (have H2_ := (Option.bind_some _ _).symm.trans H; rw [c5m]; with_reducible exact H2_) | (have H2_ := (Option.bind_some _ _).symm.trans H; with_reducible exact H2_) | with_reducible exact H | (rw [c5m]; exact H) | exact H
 have e4I := a_ c5m
 clear c5m
 replace H := Option.bind_eq_some_iff.mp H
 obtain ⟨⟨g7k, g7l⟩, A40, H⟩ := H
 try dsimp only at H
 have A4 := a_ A40
 clear A40
 obtain ⟨rfl, rfl⟩ := s2_ H
 go_enter Tryd.func50, Tryd.ntmps50
 go_wp2_with (first | ((with_reducible refine P9 (N := 9) rfl ?_); refine Kd.c4r (Kd.slice 5 (Kd.int .u8)) _ 22 ?hg (N' := 9) ?hd (xs := ([l0] : List (List Int))) (inner := [.slice A0 l0.length c0]) (ok := (fun k_ => (P0_ k_ ∨ w.heap.size ≤ k_))) (okp := (fun k_ => (P0_ k_ ∨ w.heap.size ≤ k_))) ?hr ?hp (fun _ hk => hk) ((show ∀ k_, w.heap.size ≤ k_ → (fun k_ => (P0_ k_ ∨ w.heap.size ≤ k_)) k_ from fun k_ hk => (.inr (Nat.le_trans (y5 (by repeat (first | (with_reducible first | exact HB.out | apply C9 | apply o7 | apply D7) | exact HB.out))) hk))) _ (Nat.le_refl _)) (Below.refl _ _) (Nat.le_refl _) (by simp) ?_; (case hd => rfl); (case hg => rfl); (case hr => first | (go_simp; done) | (go_simp; rfl)); (case hp => exact (N9.one (show Kd.FK (Kd.slice 5 (Kd.int .u8)) _ _ l0 [.slice A0 l0.length c0] from (Kd.a5e (Kd.b7Y (Kd.a5N (ok' := (fun k_ => (P0_ k_ ∨ w.heap.size ≤ k_))) (HO0.out) (fun k_ hk => hk))).2.1 (Kd.V_F (Kd.a5N (ok' := (fun k_ => (P0_ k_ ∨ w.heap.size ≤ k_))) (HO0.out) (fun k_ hk => hk))))) (N9.none _ _))); intro h5E w5 ho6 hb hg_ a1q; clear hg_ a1q; (first | rw [← e4I.out] at ho6 | (simp only [Int.reduceToNat] at ho6; rw [← e4I.out] at ho6)); have c5n := a_ (Kd.a6b ho6 (y5 (by repeat (first | (with_reducible first | exact HB.out | apply C9 | apply o7 | apply D7) | exact HB.out)))); replace HO0 := a_ (Kd.a5d (by (with_reducible repeat (first | apply Kd.c9k | apply Kd.b69 | apply Kd.d4l)); exact HO0.out) (by first | exact Kd.a14 ho6 | exact Kd.a14 (Kd.S_N (Kd.a0P ho6)) | exact Kd.a0n ho6 | exact Kd.b8d ho6) hb); replace HB := a_ (G9 (by repeat (first | (with_reducible first | exact HB.out | apply C9 | apply o7 | apply D7) | exact HB.out)) hb); clear hb ho6; obtain ⟨Ao7, co7, eo7⟩ := Kd.a3H c5n.out; subst eo7) | (refine gl_ (some 12) Tryd.func68 #[.slice Ao7 e8g.length co7, .int .u32 a1, .bool a2] ?_ (hargs := by (try simp only [List.map_toArray, List.map_cons, List.map_nil]); first | done | rfl | (simp only [List.length_drop, List.length_take]; rfl)); (with_reducible refine (a0N.calls k _ _ e8g a1 a2 g7k g7l _ ?Q5 ?Q7 A4.out).mono ?_); (case Q5 => repeat (first | exact (Kd.V5 c5n.out).2.2 | (with_reducible refine Kd.a7C ?_ _) | (with_reducible refine Kd.a2V ?_ _) | (with_reducible refine Kd.a4l ?_))); (case Q7 => exact (Kd.V5 c5n.out).2.1); rintro e w8 ⟨h5I, rfl, ho0, hb⟩; refine ⟨_, rfl, ?_⟩; have f5f := a_ (Kd.X4 (Kd.d4m (M := fun k_ => (w.heap.size ≤ k_)) ho0 (y5 (by repeat (first | (with_reducible first | exact HB.out | apply C9 | apply o7 | apply D7) | exact HB.out))) (fun k_ h_ => h_)) (y5 (by repeat (first | (with_reducible first | exact HB.out | apply C9 | apply o7 | apply D7) | exact HB.out)))); replace HO0 := a_ (Kd.a5d (by (with_reducible repeat (first | apply Kd.c9k | apply Kd.b69 | apply Kd.d4l)); exact HO0.out) (by first | exact Kd.a0n ho0 | exact Kd.a14 (Kd.S_N (Kd.a0P ho0)) | exact Kd.a0n ho0 | exact Kd.b8d ho0) hb); replace c5n := a_ (Kd.a07 (by (with_reducible repeat (first | apply Kd.d9u | apply Kd.b0t | apply Kd.e6W)); exact c5n.out) (by first | exact Kd.a0n ho0 | exact Kd.a14 (Kd.S_N (Kd.a0P ho0)) | exact Kd.a0n ho0 | exact Kd.b8d ho0) hb); replace HB := a_ (G9 (by repeat (first | (with_reducible first | exact HB.out | apply C9 | apply o7 | apply D7) | exact HB.out)) hb); (try clear hb); (try clear hb2); (try clear hk); (try clear hi); (try clear ho0)))
 go_ret2
 exact ⟨_, by first | rfl | (simp [P7, P8] <;> rfl) | (simp [*, P7, P8] <;> rfl), by (with_reducible repeat (first | apply Kd.a6d | apply Kd.a1o | apply Kd.a4k)); exact Kd.D8 f5f.out (fun _ hk => hk.1), by repeat (first | (with_reducible first | exact HB.out | apply C9 | apply o7 | apply D7) | exact HB.out)⟩
def a19.f (a0 : Int) (a1 : Int) : Option (Bool) := if a1 ≥ 1 then (if a1 ≤ 8 then (if a1 = 8 then (some true) else (if 0 ≤ (wrap64 (8 * a1)) then (some ((shr .u64 a0 (wrap64 (8 * a1))) == 0)) else (none))) else (some false)) else (some false)
theorem a19.calls (a0 : Int) (a1 : Int) (r : Bool) (w : World) (h : a19.f a0 a1 = some r) :
  Calls Tryd.prog 89 #[.int .u64 a0, .int .i64 a1] w fun e w' => e = .returned (.bool r) ∧ G6 w w' := by
 have H := h
 clear h
 unfold a19.f at H
 by_cases c3 : a1 ≥ 1
 ·rw [if_pos c3] at H
  have a5g : decide (1 ≤ a1) = true := decide_eq_true c3
  clear c3
  by_cases c4 : a1 ≤ 8
  ·rw [if_pos c4] at H
   have a6r := decide_eq_true c4
   clear c4
   by_cases c5 : a1 = 8
   ·rw [if_pos c5] at H
    obtain ⟨a9g, b6C⟩ := bt_ c5
    obtain rfl := Option.some.inj H
    go_enter Tryd.func89, Tryd.ntmps89
    go_wp2
    go_ret
    exact ⟨by first | rfl | (simp; done) | (simp [*]; done), by repeat (first | exact G6.refl _ | apply G6.step)⟩
   ·rw [if_neg c5] at H
    have a9g := beq_eq_false_iff_ne.mpr c5
    have b6C := bne_iff_ne.mpr c5
    obtain ⟨ji6, b6G⟩ := si_ ((wrap64 (8 * a1)))
    first | rw [b6G] at H | simp only [b6G] at H
    have e4J : (IntKind.i64.wrap (8 * a1)) = ji6 := (a6w _).trans b6G
    have c7 := a0o H
    replace H := U9 H
    have a9h := eq_true c7
    have b5j := decide_eq_true c7
    clear c7
    obtain ⟨ji8, d5m⟩ := si_ ((shr .u64 a0 (ji6)))
    first | rw [d5m] at H | simp only [d5m] at H
    have h2s : (a0 / 2 ^ min (ji6).toNat 64) = ji8 := d5m
    have h2t : (ji6) ≤ 64 → (a0 / 2 ^ (ji6).toNat) = ji8 := b5h d5m
    obtain rfl := Option.some.inj H
    go_enter Tryd.func89, Tryd.ntmps89
    go_wp2
    go_ret
    exact ⟨by first | rfl | (simp; done) | (simp only [← b6G, ← d5m] <;> (first | rfl | simp)) | (simp [*]; done), by repeat (first | exact G6.refl _ | apply G6.step)⟩
  ·rw [if_neg c4] at H
   have a6r := decide_eq_false c4
   clear c4
   obtain rfl := Option.some.inj H
   go_enter Tryd.func89, Tryd.ntmps89
   go_wp2
   go_ret
   exact ⟨by first | rfl | (simp; done) | (simp [*]; done), by repeat (first | exact G6.refl _ | apply G6.step)⟩
 ·rw [if_neg c3] at H
  have a5g : decide (1 ≤ a1) = false := decide_eq_false c3
  clear c3
  obtain rfl := Option.some.inj H
  go_enter Tryd.func89, Tryd.ntmps89
  go_wp2
  go_ret
  exact ⟨by first | rfl | (simp; done) | (simp [*]; done), by repeat (first | exact G6.refl _ | apply G6.step)⟩
end Go.Proofs.YtgnonglkibhnhaaDoor.Print
