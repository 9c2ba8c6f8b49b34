import Derived.Test.YtgnonglkibhnhaaDoorZ
import Derived.Test.YtgnonglkibhnhaaDoorF61
import Derived.Test.YtgnonglkibhnhaaDoorM1
namespace Go.Proofs.YtgnonglkibhnhaaDoor.Print
open Go.RowKit Go.Proofs.YtgnonglkibhnhaaDoorW.PrintWords Go.Proofs.YtgnonglkibhnhaaDoorW.PrintLast Go.Proofs.YtgnonglkibhnhaaDoorW.PrintMore
attribute [local go_sem] a0u a0v a1m a1n Y7 Y8 a0w a0x
set_option linter.unusedVariables false
set_option linter.unusedSimpArgs false

/-! ### pcap_Read: function 42 -/
def pcap_Read.l0 : Nat → List Int → List (S51) → Int → Bool → Bool → Int → Int → Option (Bool × Bool × Int × Int × (List (S51)) × Int × Int)
 | 0, _, _, _, _, _, _, _ => none
 | k + 1, x0, x7, x8, b7a, c1Q, c1R, c1S => if x8 < (x0.length : Int) then (if 0 ≤ x8 then (if x8 ≤ (x0.length : Int) then ((a4F.f k (x0.drop (x8 : Int).toNat) b7a).bind fun b8J => (if b8J.2.2.2.2.2 = 0 then (if x7.length < 3518437208883 then (pcap_Read.l0 k x0 (x7 ++ [(⟨b8J.1, b8J.2.1, b8J.2.2.1, b8J.2.2.2.1⟩ : S51)]) (wrap64 (x8 + b8J.2.2.2.2.1)) b7a c1Q c1R c1S) else (none)) else (some (b7a, c1Q, c1R, c1S, x7, x8, b8J.2.2.2.2.2)))) else (none)) else (none)) else (some (b7a, c1Q, c1R, c1S, x7, 0, 0))
def pcap_Read.f (k : Nat) (l0 : List Int) : Option (Bool × Bool × Int × Int × (List (S51)) × Int × Int) := (pcap_Head.f k l0).bind fun c0r => (if c0r.2.2.2.2 = 0 then (pcap_Read.l0 k l0 ([] : List (S51)) 24 c0r.1 c0r.2.1 c0r.2.2.1 c0r.2.2.2.1) else (some (false, false, 0, 0, ([] : List (S51)), 0, c0r.2.2.2.2)))
def pcap_Read.T7 : Bool × List (List Nat × List Nat) := (true, [([], []), ([], []), ([0, 1], [0, 1]), ([], []), ([3], [3]), ([2, 4], [2, 4]), ([5], [5]), ([6], [6]), ([6], [6]), ([6], [6]), ([], []), ([10, 7, 5, 0, 1, 2, 3, 4, 5, 6, 7, 10], [7, 10]), ([8, 11, 0, 1, 2, 3, 4, 5, 6, 7, 8, 10, 11], [8]), ([9, 12, 0, 1, 2, 3, 4, 5, 6, 7, 8, 9, 10, 11, 12], [9])])
def pcap_Read.B7 : List Nat := [0, 0, 3, 0, 8, 31, 63, 127, 127, 127, 0, 1279, 3583, 8191]
theorem pcap_Read.c65 : a2N .any (opsOf Tryd.f42 7) = pcap_Read.T7 := by kernel_rfl
theorem pcap_Read.b8K : a2t pcap_Read.T7.2 pcap_Read.B7 = true := by kernel_rfl
set_option maxHeartbeats 8000000 in
set_option maxRecDepth 100000 in
theorem pcap_Read.calls (k : Nat) (A0 : Option Addr) (c0 : Nat) (l0 : List Int) (r1 : Bool) (r2 : Bool) (r3 : Int) (r4 : Int) (r5 : List (S51)) (r6 : Int) (r7 : Int) (w : World) (hr0 : Kd.C (Kd.int .u8) w A0 l0.length l0) (hc0 : l0.length ≤ c0) (h : pcap_Read.f k l0 = some (r1, r2, r3, r4, r5, r6, r7)) :
  Calls Tryd.prog 42 #[.slice A0 l0.length c0] w fun e w' => ∃ v4_ : Value, e = .returned (.tuple #[.agg #[.bool r1, .bool r2, .int .u32 r3, .int .u32 r4], v4_, .agg #[.int .i64 r6, .int .i64 r7]]) ∧ Kd.S k51 51 w' w.heap.size (fun _ => True) v4_ r5 ∧ Below w.heap.size w w' := by
 have c39 := Tryd.underlying46
 have b2w := Tryd.underlying30
 have d4I := Tryd.underlying51
 have HR0 := a_ hr0
 have HC0 := a_ hc0
 clear hr0 hc0
 have HB := a_ (Below.refl w.heap.size w)
 have H := h
 clear h
 unfold pcap_Read.f at H
 replace H := Option.bind_eq_some_iff.mp H
 obtain ⟨⟨t107, a8d, t109, b0D, d9H⟩, A20, H⟩ := H
 try dsimp only at H
 have A2 := a_ A20
 clear A20
 by_cases c3 : d9H = 0
 ·rw [if_pos c3] at H
  obtain ⟨a5g, b1b⟩ := bt_ c3
  clear c3
  have H' := a_ H
  clear H
  go_enter Tryd.func42, Tryd.ntmps42
  go_wp2_with (first | (refine be_ 2 #[.bool false, .bool false, .int .u32 0, .int .u32 0] 46 ?_; intro a4a hg w4 hbox hb; have X0 := a_ hbox; have f4f := lb_ HB hg; have c9u := lb_ HB hg; replace HB := W9 HB hb; clear hb hbox hg) | (refine be_ 4 #[.int .i64 0, .int .i64 0] 30 ?_; intro a5H hg w5 hbox hb; have Y1 := a_ hbox; have f4g := lb_ HB hg; have c9v := lb_ HB hg; obtain ⟨a4G, a1T⟩ := nn_ X0 hg; replace X0 := U5 X0 hb; replace HB := W9 HB hb; clear hb hbox hg) | (refine gl_ (some 14) Tryd.func61 #[.slice A0 l0.length c0] ?_; (with_reducible refine (pcap_Head.calls k _ _ l0 t107 a8d t109 b0D d9H _ (Kd.D6 HR0.out HB.out) HC0.out A2.out).mono ?_); rintro e w6 ⟨rfl, hb⟩; refine ⟨_, rfl, ?_⟩; replace X0 := U5 X0 hb; replace Y1 := U5 Y1 hb; replace HB := W9 HB hb; (try clear hb)) | (refine be_ 5 #[.bool false, .bool false, .int .u32 0, .int .u32 0] 46 ?_; intro a1L hg w7 hbox hb; have P5 := a_ hbox; have f4h := lb_ HB hg; have d4K := lb_ HB hg; obtain ⟨a2H, a97⟩ := nn_ X0 hg; obtain ⟨a2I, a98⟩ := nn_ Y1 hg; replace X0 := U5 X0 hb; replace Y1 := U5 Y1 hb; replace HB := W9 HB hb; clear hb hbox hg; have g5J := a97.out; have g5K := a2H.out; have f4i := a98.out; have f4j := a2I.out; obtain ⟨b4c, b4d, b4e, c1T, b4f, b4g, b4h, c1V⟩ := blk4 P5.out))
  go_loopg [7, 8] k (fun kq v7 v8 w' => ∃ (S9 : List (S51)) (Z7 : Int) (a4H : Bool) (a3h : Bool) (a2k : Int) (a1U : Int) (a4I : Int) (a3i : Int), v8 = .int .i64 Z7 ∧ Aside0 (pcap_Read.l0 kq l0 S9 Z7 t107 a8d t109 b0D = some (r1, r2, r3, r4, r5, r6, r7)) ∧ Aside0 (kq ≤ k) ∧ Aside0 (Kd.S k51 51 w' w.heap.size (fun _ => True) v7 S9) ∧ Aside0 (w'.heap[a4a]? = some (.cells #[.bool a4H, .bool a3h, .int .u32 a2k, .int .u32 a1U] 46 (0, 0))) ∧ Aside0 (w'.heap[a5H]? = some (.cells #[.int .i64 a4I, .int .i64 a3i] 30 (0, 0))) ∧ Aside0 (w'.heap[a1L]? = some (.cells #[.bool t107, .bool a8d, .int .u32 t109, .int .u32 b0D] 46 (0, 0))) ∧ Aside0 (Below w.heap.size w w'))
  case atStart => exact ⟨([] : List (S51)), (24), (false), (false), (0), (0), (0), (0), (by rfl), H', ⟨Nat.le_refl _⟩, ⟨by (exact Kd.a6k _ _ _ _ _)⟩, ⟨by refine o9 ?_ a2H.out _; refine o9 ?_ a2H.out _; refine o9 ?_ a2H.out _; refine o9 ?_ a2H.out _; exact X0.out⟩, ⟨by refine o9 ?_ a2I.out _; refine o9 ?_ a2I.out _; refine o9 ?_ a2I.out _; refine o9 ?_ a2I.out _; exact Y1.out⟩, ⟨by refine l9 (cs := #[.bool t107, .bool a8d, .int .u32 t109, .int .u32 0]) ?_ 3 _ rfl; refine l9 (cs := #[.bool t107, .bool a8d, .int .u32 0, .int .u32 0]) ?_ 2 _ rfl; refine l9 (cs := #[.bool t107, .bool false, .int .u32 0, .int .u32 0]) ?_ 1 _ rfl; refine l9 (cs := #[.bool false, .bool false, .int .u32 0, .int .u32 0]) ?_ 0 _ rfl; exact P5.out⟩, ⟨by repeat (with_reducible first | exact HB.out | refine o8 ?_ d4K.out)⟩⟩
  case round =>
   clear H'
   try clear a5g
   try clear b1b
   try clear b4c
   try clear b4d
   try clear b4e
   try clear c1T
   try clear b4f
   try clear b4g
   try clear b4h
   try clear c1V
   obtain ⟨S9, Z7, a4H, a3h, a2k, a1U, a4I, a3i, rfl, HA, HK1, U1, X0, Y1, P5, HB⟩ := hrel
   cases gk with
   | zero => exact absurd HA.out (by simp [pcap_Read.l0])
   | succ k1 =>
    have H := HA.out
    clear HA
    simp only [pcap_Read.l0] at H
    by_cases c11 : Z7 < (l0.length : Int)
    ·rw [if_pos c11] at H
     have c0o := decide_eq_true c11
     clear c11
     have c12 := a0o H
     replace H := U9 H
     have b8m := eq_true c12
     have c0s := decide_eq_true c12
     clear c12
     have c13 := a0o H
     replace H := U9 H
     have c9w := eq_true c13
     have d4L := decide_eq_true c13
     clear c13
     replace H := Option.bind_eq_some_iff.mp H
     obtain ⟨⟨a6G, a6Y, t116, t117, b8L, b5l⟩, b8M, H⟩ := H
     try dsimp only at H
     have A14 := a_ b8M
     clear b8M
     by_cases c15 : b5l = 0
     ·rw [if_pos c15] at H
      obtain ⟨c9x, d4M⟩ := bt_ c15
      clear c15
      have c16 := a0o H
      replace H := U9 H
      have c44 := a_ c16
      clear c16
      obtain ⟨g5L, d4N⟩ := is_ ((S9 ++ [(⟨a6G, a6Y, t116, t117⟩ : S51)]) : List (S51))
      rw [← d4N] at H
      have f4k := a_ d4N
      clear d4N
      have H' := a_ H
      clear H
      try go_wp2
      replace U1 := a_ (Kd.b8c U1.out)
      replace X0 := a_ (L9 X0.out)
      replace Y1 := a_ (L9 Y1.out)
      replace P5 := a_ (L9 P5.out)
      replace HB := a_ (D7 HB.out)
      obtain ⟨f4l, b57, _, b58, _⟩ := info_parts info5
      obtain ⟨A18, d4O, c47, c5a⟩ := a1D (P := Tryd.prog) (Value.int .u8) 0 22 5 .i64 Tryd.underlying22 b57 b58 A0 c0 l0 Z7 (Y9) (Y9) HC0.out
      have b8N := ci_ (Kd.a0K (h1 := fun _ => rfl) (c47 _ (Kd.a0p HR0.out)))
      have c5d := a_ c5a
      clear c47 c5a b57 b58
      refine a4n (n := 14) (S := fun w' => w'.cell? ⟨a1L, 0, none⟩ = some (.bool t107) ∧ w'.cell? ⟨a1L, 1, none⟩ = some (.bool a8d) ∧ w'.cell? ⟨a1L, 2, none⟩ = some (.int .u32 t109) ∧ w'.cell? ⟨a1L, 3, none⟩ = some (.int .u32 b0D)) (ds := []) (bo_ 14 0) (by kernel_rfl) rfl rfl ⟨bc0 P5, bc1 P5, bc2 P5, bc3 P5⟩ (fun hHeld => ?_); refine a3g pcap_Read.c65 pcap_Read.b8K (fun X5 HW_ => ?_)
      generalize wr.drew = w17 at U1 X0 Y1 P5 HB b8N hHeld ⊢
      refine pu_ 0 (some 27) X5 ?_
      refine pu_ 1 (some 28) X5 ?_
      refine pu_ 2 (some 29) X5 ?_
      refine pu_ 3 (some 30) X5 ?_
      refine a1G (i := 4) (N := some 31) (v := ?_) (a' := ?_) (bo_ 14 31) rfl rfl (a0S X5.out HW_.out (by kernel_rfl)) (fun _ _ _ h => h) (Or.inl ⟨by rfl, ?_⟩) hHeld ?_ ?_
      rotate_left
      ·rintro w' ⟨s0, s1, s2, s3⟩
       go_simp
       with_reducible rfl
      rotate_left
      ·simp only [Act.put, List.setIfInBounds_toArray, List.set_cons_zero, List.set_cons_succ, a6w, a9Y]
       rfl
      refine c4A (σ := Value × Nat) 3 (bo_ 14 2047) (fun s_ => [(32, .tuple #[.agg #[.int .u32 a6G, .int .u32 a6Y, .int .u32 t116, s_.1], .int .i64 b8L, .int .i64 b5l]), (9, .pointer (some ⟨s_.2, 0, none⟩)), (26, .tuple #[.agg #[.int .u32 a6G, .int .u32 a6Y, .int .u32 t116, s_.1], .int .i64 b8L, .int .i64 b5l]), (33, .agg #[.int .u32 a6G, .int .u32 a6Y, .int .u32 t116, s_.1]), (34, .int .i64 b8L), (35, .int .i64 b5l)]) (fun s_ w' => (w'.cell? ⟨a1L, 0, none⟩ = some (.bool t107) ∧ w'.cell? ⟨a1L, 1, none⟩ = some (.bool a8d) ∧ w'.cell? ⟨a1L, 2, none⟩ = some (.int .u32 t109) ∧ w'.cell? ⟨a1L, 3, none⟩ = some (.int .u32 b0D)) ∧ (Kd.R (Kd.int .u8) 5 w' w.heap.size (fun _ => True) s_.1 t117) ∧ (Kd.S k51 51 w' w.heap.size (fun k_ => some k_ ≠ (s_.1 : Value).ownBlock ∧ k_ ≠ s_.2) u7 S9) ∧ (w'.heap[a4a]? = some (.cells #[.bool a4H, .bool a3h, .int .u32 a2k, .int .u32 a1U] 46 (0, 0))) ∧ (w'.heap[a5H]? = some (.cells #[.int .i64 a4I, .int .i64 a3i] 30 (0, 0))) ∧ (w'.heap[a1L]? = some (.cells #[.bool t107, .bool a8d, .int .u32 t109, .int .u32 b0D] 46 (0, 0))) ∧ (w'.heap[s_.2]? = some (.cells #[.int .u32 0, .int .u32 0, .int .u32 0, .slice none 0 0] 51 (0, 0))) ∧ (w.heap.size ≤ s_.2) ∧ (w.heap.size ≤ s_.2) ∧ (a4a ≠ s_.2) ∧ (s_.2 ≠ a4a) ∧ (a5H ≠ s_.2) ∧ (s_.2 ≠ a5H) ∧ (a1L ≠ s_.2) ∧ (s_.2 ≠ a1L) ∧ (Below w.heap.size w w')) ?_ ?_
      rotate_left
      ·intro a9m
       refine d39 (i := 5) (j := 10) (Ni := some 32) (Nj := some 9) (bo_ 14 63) (bo_ 14 1055) rfl rfl rfl rfl (b8b X5.out (by kernel_rfl)) (by decide) (by decide) (fun K hK => ?_) (fun K hK => ?_)
       ·skip
        refine a4y Tryd.func62 (by kernel_rfl) rfl #[.slice A18 (l0.drop (Z7 : Int).toNat).length (c0 - Z7.toNat), .bool t107] (by rfl) rfl rfl (by (try simp only [List.map_toArray, List.map_cons, List.map_nil]); (rw [show (l0.drop (Z7 : Int).toNat).length = (l0.length - Z7.toNat) from List.length_drop] <;> rfl)) ?_
        with_reducible refine (a4F.calls k1 _ _ (l0.drop (Z7 : Int).toNat) t107 a6G a6Y t116 t117 b8L b5l _ ?Q5 ?Q7 A14.out).mono ?_
        (case Q5 => exact (Kd.D6 b8N.out HB.out))
        (case Q7 => exact c5d.out)
        rintro e w19 ⟨b5m, rfl, ho0, hb⟩
        refine ⟨_, rfl, ?_⟩
        have a5X := rl_ ho0 HB
        replace U1 := rS_ U1 ho0 hb
        replace X0 := U5 X0 hb
        replace Y1 := U5 Y1 hb
        replace P5 := U5 P5 hb
        replace HB := W9 HB hb
        (try clear hb)
        (try clear ho0)
        refine hK.out _ _ ⟨bc0 P5, bc1 P5, bc2 P5, bc3 P5⟩ (fun hHeld => ?_)
        clear hK K
        refine nm_ (some 32) ?_
        refine pu_ 6 (some 26) X5 ?_
        refine pu_ 7 (some 33) X5 ?_
        refine pu_ 8 (some 34) X5 ?_
        refine pu_ 9 (some 35) X5 ?_
        refine a6V (i := 10) (N := some 9) (bo_ 14 2047) rfl rfl (a2c X5.out (by kernel_rfl)) (by decide) (fun K hK => ?_)
        refine c4v 9 #[.int .u32 0, .int .u32 0, .int .u32 0, .slice none 0 0] 51 ?_
        intro J7 hg w20 hbox hb
        have a1M := a_ hbox
        have b4i := lb_ HB hg
        have b1z := lb_ HB hg
        obtain ⟨X7, a0Z⟩ := nn_ X0 hg
        obtain ⟨X8, a00⟩ := nn_ Y1 hg
        obtain ⟨H6, a01⟩ := nn_ P5 hg
        replace U1 := se_ U1 hg hb
        replace a5X := rb_ a5X hb
        replace X0 := U5 X0 hb
        replace Y1 := U5 Y1 hb
        replace P5 := U5 P5 hb
        replace HB := W9 HB hb
        clear hb hbox hg
        refine hK.out _ _ ⟨bc0 P5, bc1 P5, bc2 P5, bc3 P5⟩ (fun hHeld => ?_)
        clear hK K
        refine nm_ (some 9) ?_
        exact a8i (by simp only [a4M, Act.put, List.setIfInBounds_toArray, List.set_cons_zero, List.set_cons_succ]) (a9m (b5m, J7) _ ⟨hHeld, a5X.out, (by exact Kd.V6 U1.out (fun _ hk => ⟨hk.1.2, hk.2⟩)), X0.out, Y1.out, P5.out, a1M.out, b4i.out, b1z.out, X7.out, a0Z.out, X8.out, a00.out, H6.out, a01.out, HB.out⟩)
       ·skip
        refine c4v 9 #[.int .u32 0, .int .u32 0, .int .u32 0, .slice none 0 0] 51 ?_
        intro J7 hg w19 hbox hb
        have a1M := a_ hbox
        have b4i := lb_ HB hg
        have b1z := lb_ HB hg
        obtain ⟨X7, a0Z⟩ := nn_ X0 hg
        obtain ⟨X8, a00⟩ := nn_ Y1 hg
        obtain ⟨H6, a01⟩ := nn_ P5 hg
        replace U1 := se_ U1 hg hb
        replace X0 := U5 X0 hb
        replace Y1 := U5 Y1 hb
        replace P5 := U5 P5 hb
        replace HB := W9 HB hb
        clear hb hbox hg
        refine hK.out _ _ ⟨bc0 P5, bc1 P5, bc2 P5, bc3 P5⟩ (fun hHeld => ?_)
        clear hK K
        refine nm_ (some 9) ?_
        refine a6V (i := 5) (N := some 32) (bo_ 14 1087) rfl rfl (a2c X5.out (by kernel_rfl)) (by decide) (fun K hK => ?_)
        refine a4y Tryd.func62 (by kernel_rfl) rfl #[.slice A18 (l0.drop (Z7 : Int).toNat).length (c0 - Z7.toNat), .bool t107] (by rfl) rfl rfl (by (try simp only [List.map_toArray, List.map_cons, List.map_nil]); (rw [show (l0.drop (Z7 : Int).toNat).length = (l0.length - Z7.toNat) from List.length_drop] <;> rfl)) ?_
        with_reducible refine (a4F.calls k1 _ _ (l0.drop (Z7 : Int).toNat) t107 a6G a6Y t116 t117 b8L b5l _ ?Q5 ?Q7 A14.out).mono ?_
        (case Q5 => exact (Kd.D6 b8N.out HB.out))
        (case Q7 => exact c5d.out)
        rintro e w20 ⟨b5m, rfl, ho0, hb⟩
        refine ⟨_, rfl, ?_⟩
        have a5X := rl_ ho0 HB
        replace U1 := rS_ U1 ho0 hb
        replace X0 := U5 X0 hb
        replace Y1 := U5 Y1 hb
        replace P5 := U5 P5 hb
        replace a1M := U5 a1M hb
        replace HB := W9 HB hb
        (try clear hb)
        (try clear ho0)
        refine hK.out _ _ ⟨bc0 P5, bc1 P5, bc2 P5, bc3 P5⟩ (fun hHeld => ?_)
        clear hK K
        refine nm_ (some 32) ?_
        refine pu_ 6 (some 26) X5 ?_
        refine pu_ 7 (some 33) X5 ?_
        refine pu_ 8 (some 34) X5 ?_
        refine pu_ 9 (some 35) X5 ?_
        exact a8i (by simp only [a4M, Act.put, List.setIfInBounds_toArray, List.set_cons_zero, List.set_cons_succ]) (a9m (b5m, J7) _ ⟨hHeld, a5X.out, (by exact Kd.V6 U1.out (fun _ hk => ⟨hk.2, hk.1.2⟩)), X0.out, Y1.out, P5.out, a1M.out, b4i.out, b1z.out, X7.out, a0Z.out, X8.out, a00.out, H6.out, a01.out, HB.out⟩)
      rintro ⟨b5m, J7⟩ w21 ⟨hS_, h0_, h1_, h2_, h3_, h4_, h5_, h6_, h7_, h8_, h9_, b8O, b8P, b8Q, b8R, b8S⟩
      have n0_ : Aside0 (Kd.R (Kd.int .u8) 5 w21 w.heap.size (fun _ => True) b5m t117) := ⟨h0_⟩
      have n1_ : Aside0 (Kd.S k51 51 w21 w.heap.size (fun k_ => some k_ ≠ (b5m : Value).ownBlock ∧ k_ ≠ J7) u7 S9) := ⟨h1_⟩
      have n2_ : Aside0 (w21.heap[a4a]? = some (.cells #[.bool a4H, .bool a3h, .int .u32 a2k, .int .u32 a1U] 46 (0, 0))) := ⟨h2_⟩
      have n3_ : Aside0 (w21.heap[a5H]? = some (.cells #[.int .i64 a4I, .int .i64 a3i] 30 (0, 0))) := ⟨h3_⟩
      have n4_ : Aside0 (w21.heap[a1L]? = some (.cells #[.bool t107, .bool a8d, .int .u32 t109, .int .u32 b0D] 46 (0, 0))) := ⟨h4_⟩
      have n5_ : Aside0 (w21.heap[J7]? = some (.cells #[.int .u32 0, .int .u32 0, .int .u32 0, .slice none 0 0] 51 (0, 0))) := ⟨h5_⟩
      have n6_ : Aside0 (w.heap.size ≤ J7) := ⟨h6_⟩
      have n7_ : Aside0 (w.heap.size ≤ J7) := ⟨h7_⟩
      have n8_ : Aside0 (a4a ≠ J7) := ⟨h8_⟩
      have n9_ : Aside0 (J7 ≠ a4a) := ⟨h9_⟩
      have b4j : Aside0 (a5H ≠ J7) := ⟨b8O⟩
      have b4k : Aside0 (J7 ≠ a5H) := ⟨b8P⟩
      have b4l : Aside0 (a1L ≠ J7) := ⟨b8Q⟩
      have b4m : Aside0 (J7 ≠ a1L) := ⟨b8R⟩
      have b8T : Aside0 (Below w.heap.size w w21) := ⟨b8S⟩
      clear U1
      clear X0
      clear Y1
      clear P5
      clear HB
      clear h0_ h1_ h2_ h3_ h4_ h5_ h6_ h7_ h8_ h9_ b8O b8P b8Q b8R b8S
      have a5X := n0_
      have U1 := n1_
      have X0 := n2_
      have Y1 := n3_
      have P5 := n4_
      have a1M := n5_
      have b4i := n6_
      have b1z := n7_
      have X7 := n8_
      have a0Z := n9_
      have X8 := b4j
      have a00 := b4k
      have H6 := b4l
      have a01 := b4m
      have HB := b8T
      clear n0_ n1_ n2_ n3_ n4_ n5_ n6_ n7_ n8_ n9_ b4j b4k b4l b4m b8T
      have hHeld : w21.cell? ⟨a1L, 0, none⟩ = some (.bool t107) ∧ w21.cell? ⟨a1L, 1, none⟩ = some (.bool a8d) ∧ w21.cell? ⟨a1L, 2, none⟩ = some (.int .u32 t109) ∧ w21.cell? ⟨a1L, 3, none⟩ = some (.int .u32 b0D) := hS_
      obtain ⟨a5h, a5i, d4T⟩ := Kd.J4 a5X.out
      subst d4T
      refine a8i (a' := ?_) ?_ ?_
      rotate_left
      ·simp only [a4M, Act.put, List.setIfInBounds_toArray, List.set_cons_zero, List.set_cons_succ]
       rfl
      refine a6V (i := 11) (N := none) (bo_ 14 4095) rfl rfl (a2c X5.out (by kernel_rfl)) (by decide) (fun K hK => ?_)
      have g5M := bc0 a1M
      have f4m := l7 a1M.out 0
      have d9J := X7.out
      have d9K := X8.out
      have d9L := H6.out
      have d9M := a0Z.out
      have d9N := a00.out
      have d9O := a01.out
      have g5N := bc1 a1M
      have f4n := l7 a1M.out 1
      have d9P := X7.out
      have d9Q := X8.out
      have d9R := H6.out
      have d9S := a0Z.out
      have d9T := a00.out
      have d9U := a01.out
      have g5O := bc2 a1M
      have f4o := l7 a1M.out 2
      have d9V := X7.out
      have d9W := X8.out
      have d9X := H6.out
      have d9Y := a0Z.out
      have d9Z := a00.out
      have d90 := a01.out
      have g5P := bc3 a1M
      have f4p := l7 a1M.out 3
      have d91 := X7.out
      have d92 := X8.out
      have d93 := H6.out
      have d94 := a0Z.out
      have d95 := a00.out
      have d96 := a01.out
      refine b2H (w1 := ?_) (by rfl) rfl ?_ ?_
      rotate_left
      ·go_simp
       rfl
      refine hK.out _ _ ⟨((cell_far (p := ⟨J7, _, none⟩) H6.out _).trans (((cell_far (p := ⟨J7, _, none⟩) H6.out _).trans (((cell_far (p := ⟨J7, _, none⟩) H6.out _).trans (((cell_far (p := ⟨J7, _, none⟩) H6.out _).trans (hHeld.1)))))))), ((cell_far (p := ⟨J7, _, none⟩) H6.out _).trans (((cell_far (p := ⟨J7, _, none⟩) H6.out _).trans (((cell_far (p := ⟨J7, _, none⟩) H6.out _).trans (((cell_far (p := ⟨J7, _, none⟩) H6.out _).trans (hHeld.2.1)))))))), ((cell_far (p := ⟨J7, _, none⟩) H6.out _).trans (((cell_far (p := ⟨J7, _, none⟩) H6.out _).trans (((cell_far (p := ⟨J7, _, none⟩) H6.out _).trans (((cell_far (p := ⟨J7, _, none⟩) H6.out _).trans (hHeld.2.2.1)))))))), ((cell_far (p := ⟨J7, _, none⟩) H6.out _).trans (((cell_far (p := ⟨J7, _, none⟩) H6.out _).trans (((cell_far (p := ⟨J7, _, none⟩) H6.out _).trans (((cell_far (p := ⟨J7, _, none⟩) H6.out _).trans (hHeld.2.2.2))))))))⟩ (fun hHeld => ?_)
      clear hK K
      refine pu_ 12 (some 10) X5 ?_
      refine pu_ 13 (some 11) X5 ?_
      refine a7d (a6D X5.out (by kernel_rfl)) ?_
      have n0_ : Aside0 (Kd.S k51 51 ((((w21.setCell ⟨J7, 0, none⟩ (.int .u32 a6G)).setCell ⟨J7, 1, none⟩ (.int .u32 a6Y)).setCell ⟨J7, 2, none⟩ (.int .u32 t116)).setCell ⟨J7, 3, none⟩ (.slice a5h t117.length a5i)) w.heap.size (fun k_ => some k_ ≠ (.slice a5h t117.length a5i : Value).ownBlock ∧ k_ ≠ J7) u7 S9) := ⟨by exact Kd.V6 (Kd.Y6 (p := ⟨J7, 3, none⟩) (Kd.Y6 (p := ⟨J7, 2, none⟩) (Kd.Y6 (p := ⟨J7, 1, none⟩) (Kd.Y6 (p := ⟨J7, 0, none⟩) (Kd.V6 U1.out (fun k_ hk => (⟨hk, hk.2⟩ : _ ∧ k_ ≠ J7))) (fun _ hk => hk.2) (.int .u32 a6G)) (fun _ hk => hk.2) (.int .u32 a6Y)) (fun _ hk => hk.2) (.int .u32 t116)) (fun _ hk => hk.2) (.slice a5h t117.length a5i)) (fun _ hk => ⟨hk.1.1, hk.1.2⟩)⟩
      have n1_ : Aside0 (Kd.R (Kd.int .u8) 5 ((((w21.setCell ⟨J7, 0, none⟩ (.int .u32 a6G)).setCell ⟨J7, 1, none⟩ (.int .u32 a6Y)).setCell ⟨J7, 2, none⟩ (.int .u32 t116)).setCell ⟨J7, 3, none⟩ (.slice a5h t117.length a5i)) w.heap.size (fun _ => True) (.slice a5h t117.length a5i) t117) := ⟨by exact Kd.D8 (Kd.U7 (p := ⟨J7, 3, none⟩) (Kd.U7 (p := ⟨J7, 2, none⟩) (Kd.U7 (p := ⟨J7, 1, none⟩) (Kd.U7 (p := ⟨J7, 0, none⟩) (Kd.V7 a5X.out a1M.out (by decide)) (fun _ hk => hk.2) (.int .u32 a6G)) (fun _ hk => hk.2) (.int .u32 a6Y)) (fun _ hk => hk.2) (.int .u32 t116)) (fun _ hk => hk.2) (.slice a5h t117.length a5i)) (fun _ hk => trivial)⟩
      have n2_ : Aside0 (((((w21.setCell ⟨J7, 0, none⟩ (.int .u32 a6G)).setCell ⟨J7, 1, none⟩ (.int .u32 a6Y)).setCell ⟨J7, 2, none⟩ (.int .u32 t116)).setCell ⟨J7, 3, none⟩ (.slice a5h t117.length a5i)).heap[a4a]? = some (.cells #[.bool a4H, .bool a3h, .int .u32 a2k, .int .u32 a1U] 46 (0, 0))) := ⟨by refine o9 ?_ X7.out _; refine o9 ?_ X7.out _; refine o9 ?_ X7.out _; refine o9 ?_ X7.out _; exact X0.out⟩
      have n3_ : Aside0 (((((w21.setCell ⟨J7, 0, none⟩ (.int .u32 a6G)).setCell ⟨J7, 1, none⟩ (.int .u32 a6Y)).setCell ⟨J7, 2, none⟩ (.int .u32 t116)).setCell ⟨J7, 3, none⟩ (.slice a5h t117.length a5i)).heap[a5H]? = some (.cells #[.int .i64 a4I, .int .i64 a3i] 30 (0, 0))) := ⟨by refine o9 ?_ X8.out _; refine o9 ?_ X8.out _; refine o9 ?_ X8.out _; refine o9 ?_ X8.out _; exact Y1.out⟩
      have n4_ : Aside0 (((((w21.setCell ⟨J7, 0, none⟩ (.int .u32 a6G)).setCell ⟨J7, 1, none⟩ (.int .u32 a6Y)).setCell ⟨J7, 2, none⟩ (.int .u32 t116)).setCell ⟨J7, 3, none⟩ (.slice a5h t117.length a5i)).heap[a1L]? = some (.cells #[.bool t107, .bool a8d, .int .u32 t109, .int .u32 b0D] 46 (0, 0))) := ⟨by refine o9 ?_ H6.out _; refine o9 ?_ H6.out _; refine o9 ?_ H6.out _; refine o9 ?_ H6.out _; exact P5.out⟩
      have n5_ : Aside0 (((((w21.setCell ⟨J7, 0, none⟩ (.int .u32 a6G)).setCell ⟨J7, 1, none⟩ (.int .u32 a6Y)).setCell ⟨J7, 2, none⟩ (.int .u32 t116)).setCell ⟨J7, 3, none⟩ (.slice a5h t117.length a5i)).heap[J7]? = some (.cells #[.int .u32 a6G, .int .u32 a6Y, .int .u32 t116, .slice a5h t117.length a5i] 51 (0, 0))) := ⟨by refine l9 (cs := #[.int .u32 a6G, .int .u32 a6Y, .int .u32 t116, .slice none 0 0]) ?_ 3 _ rfl; refine l9 (cs := #[.int .u32 a6G, .int .u32 a6Y, .int .u32 0, .slice none 0 0]) ?_ 2 _ rfl; refine l9 (cs := #[.int .u32 a6G, .int .u32 0, .int .u32 0, .slice none 0 0]) ?_ 1 _ rfl; refine l9 (cs := #[.int .u32 0, .int .u32 0, .int .u32 0, .slice none 0 0]) ?_ 0 _ rfl; exact a1M.out⟩
      have n6_ : Aside0 (Below w.heap.size w ((((w21.setCell ⟨J7, 0, none⟩ (.int .u32 a6G)).setCell ⟨J7, 1, none⟩ (.int .u32 a6Y)).setCell ⟨J7, 2, none⟩ (.int .u32 t116)).setCell ⟨J7, 3, none⟩ (.slice a5h t117.length a5i))) := ⟨by repeat (with_reducible first | exact HB.out | refine o8 ?_ b1z.out)⟩
      (try clear U1)
      (try clear a5X)
      (try clear X0)
      (try clear Y1)
      (try clear P5)
      (try clear a1M)
      (try clear HB)
      generalize ((((w21.setCell ⟨J7, 0, none⟩ (.int .u32 a6G)).setCell ⟨J7, 1, none⟩ (.int .u32 a6Y)).setCell ⟨J7, 2, none⟩ (.int .u32 t116)).setCell ⟨J7, 3, none⟩ (.slice a5h t117.length a5i)) = w27 at n0_ n1_ n2_ n3_ n4_ n5_ n6_ ⊢
      have U1 := n0_
      have a5X := n1_
      have X0 := n2_
      have Y1 := n3_
      have P5 := n4_
      have a1M := n5_
      have HB := n6_
      clear n0_ n1_ n2_ n3_ n4_ n5_ n6_
      have e3w := a0Z.out
      have e3x := X7.out
      have e3y := a00.out
      have e3z := X8.out
      have e3A := a01.out
      have e3B := H6.out
      obtain ⟨b6S, b6T, b6U, c09, b6V, b6W, b6X, c1c⟩ := blk4 a1M.out
      try go_wp2_with (first | ((with_reducible refine G7 (b := .append) (xs := #[.tmp 43, .tmp 45]) rfl ?_); at_builtin; refine Kd.a90 k51 (w0 := w) w.heap.size rfl (.tmp 43) (.tmp 45) 47 51 (.agg #[(.int .u32 0), (.int .u32 0), (.int .u32 0), (.slice none 0 0)]) 40 rfl Tryd.underlying47 info51 rfl (by decide) (by omega) u7 S9 (⟨a6G, a6Y, t116, t117⟩ : S51) [.int .u32 a6G, .int .u32 a6Y, .int .u32 t116, .slice a5h t117.length a5i] (fun k_ => k_ ≠ J7) (fun k_ => some k_ = (.slice a5h t117.length a5i : Value).ownBlock) rfl rfl ?aP (fun k_ hk_ => ((Kd.D8 (ok' := fun k_ => (fun k_ => k_ ≠ J7) k_ ∧ some k_ ≠ (u7 : Value).ownBlock) (Kd.V7 (Kd.a0g (a5X.out) (Kd.a5q U1.out) (by decide)) a1M.out (by decide)) (fun k_ hk => ⟨hk.2, hk.1.2⟩))).1 k_ hk_.symm) ?aF ?aO ?aB ?aS ?aL ?_; (case aP => exact c1w _ _ _ (⟨a6G, a6Y, t116, t117⟩ : S51) (Kd.D8 (Kd.a2i rfl (Kd.D8 (ok' := fun k_ => (fun k_ => k_ ≠ J7) k_ ∧ some k_ ≠ (u7 : Value).ownBlock) (Kd.V7 (Kd.a0g (a5X.out) (Kd.a5q U1.out) (by decide)) a1M.out (by decide)) (fun k_ hk => ⟨hk.2, hk.1.2⟩))) (fun _ h_ => h_))); (case aB => exact HB.out); (case aF => exact (fun k_ hk => Kd.a1z a1M.out k_ hk)); (case aO => exact (by exact Kd.V6 U1.out (fun k_ hk => ⟨hk.2, fun e_ => hk.1 e_⟩))); (case aS => exact (y5 HB.out)); (case aL => have := c44.out; omega); intro v124 w32 ho hb hg hat; rw [← f4k.out] at ho; have f4q := a_ ho; replace X0 := a_ (F9 X0.out hg (Kd.b9Y U1.out X0.out (by decide))); replace Y1 := a_ (F9 Y1.out hg (Kd.b9Y U1.out Y1.out (by decide))); replace P5 := a_ (F9 P5.out hg (Kd.b9Y U1.out P5.out (by decide))); replace a1M := a_ (F9 a1M.out hg (Kd.c6W U1.out (fun _ hk => hk.2))); replace HB := a_ hb; clear U1; clear a5X; clear ho hb hg hat))
      go_roundg k1
      case measure => have := HK1.out; omega
      case rel => exact ⟨(g5L), (wrap64 (Z7 + b8L)), (a4H), (a3h), (a2k), (a1U), (a4I), (a3i), (by rfl), H', ⟨by have := HK1.out; omega⟩, ⟨by exact Kd.V6 f4q.out (fun _ hk => trivial)⟩, ⟨by exact X0.out⟩, ⟨by exact Y1.out⟩, ⟨by exact P5.out⟩, ⟨by exact HB.out⟩⟩
     ·rw [if_neg c15] at H
      have c9x := beq_eq_false_iff_ne.mpr c15
      have d4M := bne_iff_ne.mpr c15
      obtain ⟨rfl, rfl, rfl, rfl, rfl, rfl, rfl⟩ := s7_ H
      try go_wp2
      replace U1 := a_ (Kd.b8c U1.out)
      replace X0 := a_ (L9 X0.out)
      replace Y1 := a_ (L9 Y1.out)
      replace P5 := a_ (L9 P5.out)
      replace HB := a_ (D7 HB.out)
      obtain ⟨g5Q, c5e, _, c5f, _⟩ := info_parts info5
      obtain ⟨A34, e7D, d4U, d4V⟩ := a1D (P := Tryd.prog) (Value.int .u8) 0 22 5 .i64 Tryd.underlying22 c5e c5f A0 c0 l0 Z7 (Y9) (Y9) HC0.out
      have b8N := ci_ (Kd.a0K (h1 := fun _ => rfl) (d4U _ (Kd.a0p HR0.out)))
      have c5d := a_ d4V
      clear d4U d4V c5e c5f
      refine a4n (n := 14) (S := fun w' => w'.cell? ⟨a1L, 0, none⟩ = some (.bool t107) ∧ w'.cell? ⟨a1L, 1, none⟩ = some (.bool a8d) ∧ w'.cell? ⟨a1L, 2, none⟩ = some (.int .u32 t109) ∧ w'.cell? ⟨a1L, 3, none⟩ = some (.int .u32 b0D)) (ds := []) (bo_ 14 0) (by kernel_rfl) rfl rfl ⟨bc0 P5, bc1 P5, bc2 P5, bc3 P5⟩ (fun hHeld => ?_); refine a3g pcap_Read.c65 pcap_Read.b8K (fun X5 HW_ => ?_)
      generalize wr.drew = w33 at U1 X0 Y1 P5 HB b8N hHeld ⊢
      refine pu_ 0 (some 27) X5 ?_
      refine pu_ 1 (some 28) X5 ?_
      refine pu_ 2 (some 29) X5 ?_
      refine pu_ 3 (some 30) X5 ?_
      refine a1G (i := 4) (N := some 31) (v := ?_) (a' := ?_) (bo_ 14 31) rfl rfl (a0S X5.out HW_.out (by kernel_rfl)) (fun _ _ _ h => h) (Or.inl ⟨by rfl, ?_⟩) hHeld ?_ ?_
      rotate_left
      ·rintro w' ⟨s0, s1, s2, s3⟩
       go_simp
       with_reducible rfl
      rotate_left
      ·simp only [Act.put, List.setIfInBounds_toArray, List.set_cons_zero, List.set_cons_succ, a6w, a9Y]
       rfl
      refine c4A (σ := Value × Nat) 3 (bo_ 14 2047) (fun s_ => [(32, .tuple #[.agg #[.int .u32 a6G, .int .u32 a6Y, .int .u32 t116, s_.1], .int .i64 b8L, .int .i64 b5l]), (9, .pointer (some ⟨s_.2, 0, none⟩)), (26, .tuple #[.agg #[.int .u32 a6G, .int .u32 a6Y, .int .u32 t116, s_.1], .int .i64 b8L, .int .i64 b5l]), (33, .agg #[.int .u32 a6G, .int .u32 a6Y, .int .u32 t116, s_.1]), (34, .int .i64 b8L), (35, .int .i64 b5l)]) (fun s_ w' => (w'.cell? ⟨a1L, 0, none⟩ = some (.bool t107) ∧ w'.cell? ⟨a1L, 1, none⟩ = some (.bool a8d) ∧ w'.cell? ⟨a1L, 2, none⟩ = some (.int .u32 t109) ∧ w'.cell? ⟨a1L, 3, none⟩ = some (.int .u32 b0D)) ∧ (Kd.R (Kd.int .u8) 5 w' w.heap.size (fun _ => True) s_.1 t117) ∧ (Kd.S k51 51 w' w.heap.size (fun k_ => some k_ ≠ (s_.1 : Value).ownBlock ∧ k_ ≠ s_.2) u7 S9) ∧ (w'.heap[a4a]? = some (.cells #[.bool a4H, .bool a3h, .int .u32 a2k, .int .u32 a1U] 46 (0, 0))) ∧ (w'.heap[a5H]? = some (.cells #[.int .i64 a4I, .int .i64 a3i] 30 (0, 0))) ∧ (w'.heap[a1L]? = some (.cells #[.bool t107, .bool a8d, .int .u32 t109, .int .u32 b0D] 46 (0, 0))) ∧ (w'.heap[s_.2]? = some (.cells #[.int .u32 0, .int .u32 0, .int .u32 0, .slice none 0 0] 51 (0, 0))) ∧ (w.heap.size ≤ s_.2) ∧ (w.heap.size ≤ s_.2) ∧ (a4a ≠ s_.2) ∧ (s_.2 ≠ a4a) ∧ (a5H ≠ s_.2) ∧ (s_.2 ≠ a5H) ∧ (a1L ≠ s_.2) ∧ (s_.2 ≠ a1L) ∧ (Below w.heap.size w w')) ?_ ?_
      rotate_left
      ·intro a9m
       refine d39 (i := 5) (j := 10) (Ni := some 32) (Nj := some 9) (bo_ 14 63) (bo_ 14 1055) rfl rfl rfl rfl (b8b X5.out (by kernel_rfl)) (by decide) (by decide) (fun K hK => ?_) (fun K hK => ?_)
       ·skip
        refine a4y Tryd.func62 (by kernel_rfl) rfl #[.slice A34 (l0.drop (Z7 : Int).toNat).length (c0 - Z7.toNat), .bool t107] (by rfl) rfl rfl (by (try simp only [List.map_toArray, List.map_cons, List.map_nil]); (rw [show (l0.drop (Z7 : Int).toNat).length = (l0.length - Z7.toNat) from List.length_drop] <;> rfl)) ?_
        with_reducible refine (a4F.calls k1 _ _ (l0.drop (Z7 : Int).toNat) t107 a6G a6Y t116 t117 b8L b5l _ ?Q5 ?Q7 A14.out).mono ?_
        (case Q5 => exact (Kd.D6 b8N.out HB.out))
        (case Q7 => exact c5d.out)
        rintro e w35 ⟨b5m, rfl, ho0, hb⟩
        refine ⟨_, rfl, ?_⟩
        have a5X := rl_ ho0 HB
        replace U1 := rS_ U1 ho0 hb
        replace X0 := U5 X0 hb
        replace Y1 := U5 Y1 hb
        replace P5 := U5 P5 hb
        replace HB := W9 HB hb
        (try clear hb)
        (try clear ho0)
        refine hK.out _ _ ⟨bc0 P5, bc1 P5, bc2 P5, bc3 P5⟩ (fun hHeld => ?_)
        clear hK K
        refine nm_ (some 32) ?_
        refine pu_ 6 (some 26) X5 ?_
        refine pu_ 7 (some 33) X5 ?_
        refine pu_ 8 (some 34) X5 ?_
        refine pu_ 9 (some 35) X5 ?_
        refine a6V (i := 10) (N := some 9) (bo_ 14 2047) rfl rfl (a2c X5.out (by kernel_rfl)) (by decide) (fun K hK => ?_)
        refine c4v 9 #[.int .u32 0, .int .u32 0, .int .u32 0, .slice none 0 0] 51 ?_
        intro J7 hg w36 hbox hb
        have a1M := a_ hbox
        have b4i := lb_ HB hg
        have b1z := lb_ HB hg
        obtain ⟨X7, a0Z⟩ := nn_ X0 hg
        obtain ⟨X8, a00⟩ := nn_ Y1 hg
        obtain ⟨H6, a01⟩ := nn_ P5 hg
        replace U1 := se_ U1 hg hb
        replace a5X := rb_ a5X hb
        replace X0 := U5 X0 hb
        replace Y1 := U5 Y1 hb
        replace P5 := U5 P5 hb
        replace HB := W9 HB hb
        clear hb hbox hg
        refine hK.out _ _ ⟨bc0 P5, bc1 P5, bc2 P5, bc3 P5⟩ (fun hHeld => ?_)
        clear hK K
        refine nm_ (some 9) ?_
        exact a8i (by simp only [a4M, Act.put, List.setIfInBounds_toArray, List.set_cons_zero, List.set_cons_succ]) (a9m (b5m, J7) _ ⟨hHeld, a5X.out, (by exact Kd.V6 U1.out (fun _ hk => ⟨hk.1.2, hk.2⟩)), X0.out, Y1.out, P5.out, a1M.out, b4i.out, b1z.out, X7.out, a0Z.out, X8.out, a00.out, H6.out, a01.out, HB.out⟩)
       ·skip
        refine c4v 9 #[.int .u32 0, .int .u32 0, .int .u32 0, .slice none 0 0] 51 ?_
        intro J7 hg w35 hbox hb
        have a1M := a_ hbox
        have b4i := lb_ HB hg
        have b1z := lb_ HB hg
        obtain ⟨X7, a0Z⟩ := nn_ X0 hg
        obtain ⟨X8, a00⟩ := nn_ Y1 hg
        obtain ⟨H6, a01⟩ := nn_ P5 hg
        replace U1 := se_ U1 hg hb
        replace X0 := U5 X0 hb
        replace Y1 := U5 Y1 hb
        replace P5 := U5 P5 hb
        replace HB := W9 HB hb
        clear hb hbox hg
        refine hK.out _ _ ⟨bc0 P5, bc1 P5, bc2 P5, bc3 P5⟩ (fun hHeld => ?_)
        clear hK K
        refine nm_ (some 9) ?_
        refine a6V (i := 5) (N := some 32) (bo_ 14 1087) rfl rfl (a2c X5.out (by kernel_rfl)) (by decide) (fun K hK => ?_)
        refine a4y Tryd.func62 (by kernel_rfl) rfl #[.slice A34 (l0.drop (Z7 : Int).toNat).length (c0 - Z7.toNat), .bool t107] (by rfl) rfl rfl (by (try simp only [List.map_toArray, List.map_cons, List.map_nil]); (rw [show (l0.drop (Z7 : Int).toNat).length = (l0.length - Z7.toNat) from List.length_drop] <;> rfl)) ?_
        with_reducible refine (a4F.calls k1 _ _ (l0.drop (Z7 : Int).toNat) t107 a6G a6Y t116 t117 b8L b5l _ ?Q5 ?Q7 A14.out).mono ?_
        (case Q5 => exact (Kd.D6 b8N.out HB.out))
        (case Q7 => exact c5d.out)
        rintro e w36 ⟨b5m, rfl, ho0, hb⟩
        refine ⟨_, rfl, ?_⟩
        have a5X := rl_ ho0 HB
        replace U1 := rS_ U1 ho0 hb
        replace X0 := U5 X0 hb
        replace Y1 := U5 Y1 hb
        replace P5 := U5 P5 hb
        replace a1M := U5 a1M hb
        replace HB := W9 HB hb
        (try clear hb)
        (try clear ho0)
        refine hK.out _ _ ⟨bc0 P5, bc1 P5, bc2 P5, bc3 P5⟩ (fun hHeld => ?_)
        clear hK K
        refine nm_ (some 32) ?_
        refine pu_ 6 (some 26) X5 ?_
        refine pu_ 7 (some 33) X5 ?_
        refine pu_ 8 (some 34) X5 ?_
        refine pu_ 9 (some 35) X5 ?_
        exact a8i (by simp only [a4M, Act.put, List.setIfInBounds_toArray, List.set_cons_zero, List.set_cons_succ]) (a9m (b5m, J7) _ ⟨hHeld, a5X.out, (by exact Kd.V6 U1.out (fun _ hk => ⟨hk.2, hk.1.2⟩)), X0.out, Y1.out, P5.out, a1M.out, b4i.out, b1z.out, X7.out, a0Z.out, X8.out, a00.out, H6.out, a01.out, HB.out⟩)
      rintro ⟨b5m, J7⟩ w37 ⟨hS_, h0_, h1_, h2_, h3_, h4_, h5_, h6_, h7_, h8_, h9_, b8O, b8P, b8Q, b8R, b8S⟩
      have n0_ : Aside0 (Kd.R (Kd.int .u8) 5 w37 w.heap.size (fun _ => True) b5m t117) := ⟨h0_⟩
      have n1_ : Aside0 (Kd.S k51 51 w37 w.heap.size (fun k_ => some k_ ≠ (b5m : Value).ownBlock ∧ k_ ≠ J7) u7 S9) := ⟨h1_⟩
      have n2_ : Aside0 (w37.heap[a4a]? = some (.cells #[.bool a4H, .bool a3h, .int .u32 a2k, .int .u32 a1U] 46 (0, 0))) := ⟨h2_⟩
      have n3_ : Aside0 (w37.heap[a5H]? = some (.cells #[.int .i64 a4I, .int .i64 a3i] 30 (0, 0))) := ⟨h3_⟩
      have n4_ : Aside0 (w37.heap[a1L]? = some (.cells #[.bool t107, .bool a8d, .int .u32 t109, .int .u32 b0D] 46 (0, 0))) := ⟨h4_⟩
      have n5_ : Aside0 (w37.heap[J7]? = some (.cells #[.int .u32 0, .int .u32 0, .int .u32 0, .slice none 0 0] 51 (0, 0))) := ⟨h5_⟩
      have n6_ : Aside0 (w.heap.size ≤ J7) := ⟨h6_⟩
      have n7_ : Aside0 (w.heap.size ≤ J7) := ⟨h7_⟩
      have n8_ : Aside0 (a4a ≠ J7) := ⟨h8_⟩
      have n9_ : Aside0 (J7 ≠ a4a) := ⟨h9_⟩
      have b4j : Aside0 (a5H ≠ J7) := ⟨b8O⟩
      have b4k : Aside0 (J7 ≠ a5H) := ⟨b8P⟩
      have b4l : Aside0 (a1L ≠ J7) := ⟨b8Q⟩
      have b4m : Aside0 (J7 ≠ a1L) := ⟨b8R⟩
      have b8T : Aside0 (Below w.heap.size w w37) := ⟨b8S⟩
      clear U1
      clear X0
      clear Y1
      clear P5
      clear HB
      clear h0_ h1_ h2_ h3_ h4_ h5_ h6_ h7_ h8_ h9_ b8O b8P b8Q b8R b8S
      have a5X := n0_
      have U1 := n1_
      have X0 := n2_
      have Y1 := n3_
      have P5 := n4_
      have a1M := n5_
      have b4i := n6_
      have b1z := n7_
      have X7 := n8_
      have a0Z := n9_
      have X8 := b4j
      have a00 := b4k
      have H6 := b4l
      have a01 := b4m
      have HB := b8T
      clear n0_ n1_ n2_ n3_ n4_ n5_ n6_ n7_ n8_ n9_ b4j b4k b4l b4m b8T
      have hHeld : w37.cell? ⟨a1L, 0, none⟩ = some (.bool t107) ∧ w37.cell? ⟨a1L, 1, none⟩ = some (.bool a8d) ∧ w37.cell? ⟨a1L, 2, none⟩ = some (.int .u32 t109) ∧ w37.cell? ⟨a1L, 3, none⟩ = some (.int .u32 b0D) := hS_
      obtain ⟨e7E, e7F, e7G⟩ := Kd.J4 a5X.out
      subst e7G
      refine a8i (a' := ?_) ?_ ?_
      rotate_left
      ·simp only [a4M, Act.put, List.setIfInBounds_toArray, List.set_cons_zero, List.set_cons_succ]
       rfl
      refine a6V (i := 11) (N := none) (bo_ 14 4095) rfl rfl (a2c X5.out (by kernel_rfl)) (by decide) (fun K hK => ?_)
      have g5R := bc0 a1M
      have f4s := l7 a1M.out 0
      have d97 := X7.out
      have d98 := X8.out
      have d99 := H6.out
      have e0a := a0Z.out
      have e0b := a00.out
      have e0c := a01.out
      have g5S := bc1 a1M
      have f4t := l7 a1M.out 1
      have e0d := X7.out
      have e0e := X8.out
      have e0f := H6.out
      have e0g := a0Z.out
      have e0h := a00.out
      have e0i := a01.out
      have g5T := bc2 a1M
      have f4u := l7 a1M.out 2
      have e0j := X7.out
      have e0k := X8.out
      have e0l := H6.out
      have e0m := a0Z.out
      have e0n := a00.out
      have e0o := a01.out
      have g5U := bc3 a1M
      have f4v := l7 a1M.out 3
      have e0p := X7.out
      have e0q := X8.out
      have e0r := H6.out
      have e0s := a0Z.out
      have e0t := a00.out
      have e0u := a01.out
      refine b2H (w1 := ?_) (by rfl) rfl ?_ ?_
      rotate_left
      ·go_simp
       rfl
      refine hK.out _ _ ⟨((cell_far (p := ⟨J7, _, none⟩) H6.out _).trans (((cell_far (p := ⟨J7, _, none⟩) H6.out _).trans (((cell_far (p := ⟨J7, _, none⟩) H6.out _).trans (((cell_far (p := ⟨J7, _, none⟩) H6.out _).trans (hHeld.1)))))))), ((cell_far (p := ⟨J7, _, none⟩) H6.out _).trans (((cell_far (p := ⟨J7, _, none⟩) H6.out _).trans (((cell_far (p := ⟨J7, _, none⟩) H6.out _).trans (((cell_far (p := ⟨J7, _, none⟩) H6.out _).trans (hHeld.2.1)))))))), ((cell_far (p := ⟨J7, _, none⟩) H6.out _).trans (((cell_far (p := ⟨J7, _, none⟩) H6.out _).trans (((cell_far (p := ⟨J7, _, none⟩) H6.out _).trans (((cell_far (p := ⟨J7, _, none⟩) H6.out _).trans (hHeld.2.2.1)))))))), ((cell_far (p := ⟨J7, _, none⟩) H6.out _).trans (((cell_far (p := ⟨J7, _, none⟩) H6.out _).trans (((cell_far (p := ⟨J7, _, none⟩) H6.out _).trans (((cell_far (p := ⟨J7, _, none⟩) H6.out _).trans (hHeld.2.2.2))))))))⟩ (fun hHeld => ?_)
      clear hK K
      refine pu_ 12 (some 10) X5 ?_
      refine pu_ 13 (some 11) X5 ?_
      refine a7d (a6D X5.out (by kernel_rfl)) ?_
      have d3k := a97.out
      have d3l := a2H.out
      have d4W := a98.out
      have d4X := a2I.out
      have f4w := H6.out
      have f4x := a01.out
      obtain ⟨c1W, c1X, c1Y, e0v, c1Z, c2a, c2c, e0w⟩ := blk4 P5.out
      have f4y := a4G.out
      have f4z := a1T.out
      have f4A := X7.out
      have f4B := a0Z.out
      obtain ⟨c9G, c9H, c9I, e0x, c9J, c9K, c9L, e0y⟩ := blk4 X0.out
      have d4Y := X8.out
      have d4Z := a00.out
      obtain ⟨b7b, b7c, b7d, b7e⟩ := a3n Y1.out
      try go_wp2
      refine bodyPost_ret (a5p (rs := [.cell 2 46, .tmp 3, .cell 4 30]) rfl (by simp) (.cell a4a 46 #[.bool t107, .bool a8d, .int .u32 t109, .int .u32 b0D] (0, 0) _ rfl (by refine o9 ?_ a4G.out _; refine o9 ?_ a4G.out _; refine l9 (cs := #[.bool t107, .bool a8d, .int .u32 t109, .int .u32 a1U]) ?_ 3 _ rfl; refine l9 (cs := #[.bool t107, .bool a8d, .int .u32 a2k, .int .u32 a1U]) ?_ 2 _ rfl; refine l9 (cs := #[.bool t107, .bool a3h, .int .u32 a2k, .int .u32 a1U]) ?_ 1 _ rfl; refine l9 (cs := #[.bool a4H, .bool a3h, .int .u32 a2k, .int .u32 a1U]) ?_ 0 _ rfl; refine o9 ?_ X7.out _; refine o9 ?_ X7.out _; refine o9 ?_ X7.out _; refine o9 ?_ X7.out _; exact X0.out) Tryd.underlying46 rfl (by kernel_rfl) (.tmp (.cell a5H 30 #[.int .i64 Z7, .int .i64 b5l] (0, 0) _ rfl (by refine l9 (cs := #[.int .i64 Z7, .int .i64 a3i]) ?_ 1 _ rfl; refine l9 (cs := #[.int .i64 a4I, .int .i64 a3i]) ?_ 0 _ rfl; refine o9 ?_ a1T.out _; refine o9 ?_ a1T.out _; refine o9 ?_ a1T.out _; refine o9 ?_ a1T.out _; refine o9 ?_ X8.out _; refine o9 ?_ X8.out _; refine o9 ?_ X8.out _; refine o9 ?_ X8.out _; exact Y1.out) Tryd.underlying30 rfl (by kernel_rfl) .nil)))) rfl ?_
      exact ⟨_, by (rfl), by exact Kd.V6 (Kd.Y6 (p := ⟨a5H, 1, none⟩) (Kd.Y6 (p := ⟨a5H, 0, none⟩) (Kd.Y6 (p := ⟨a4a, 3, none⟩) (Kd.Y6 (p := ⟨a4a, 2, none⟩) (Kd.Y6 (p := ⟨a4a, 1, none⟩) (Kd.Y6 (p := ⟨a4a, 0, none⟩) (Kd.Y6 (p := ⟨J7, 3, none⟩) (Kd.Y6 (p := ⟨J7, 2, none⟩) (Kd.Y6 (p := ⟨J7, 1, none⟩) (Kd.Y6 (p := ⟨J7, 0, none⟩) (Kd.a3K (Kd.a3K (Kd.V6 U1.out (fun k_ hk => (⟨hk, hk.2⟩ : _ ∧ k_ ≠ J7))) X0.out (by decide)) Y1.out (by decide)) (fun _ hk => hk.1.1.2) (.int .u32 a6G)) (fun _ hk => hk.1.1.2) (.int .u32 a6Y)) (fun _ hk => hk.1.1.2) (.int .u32 t116)) (fun _ hk => hk.1.1.2) (.slice e7E t117.length e7F)) (fun _ hk => hk.1.2) (.bool t107)) (fun _ hk => hk.1.2) (.bool a8d)) (fun _ hk => hk.1.2) (.int .u32 t109)) (fun _ hk => hk.1.2) (.int .u32 b0D)) (fun _ hk => hk.2) (.int .i64 Z7)) (fun _ hk => hk.2) (.int .i64 b5l)) (fun _ hk => trivial), by repeat (with_reducible first | exact HB.out | refine o8 ?_ c9u.out | refine o8 ?_ c9v.out | refine o8 ?_ b1z.out)⟩
    ·rw [if_neg c11] at H
     have c0o := decide_eq_false c11
     clear c11
     obtain ⟨rfl, rfl, rfl, rfl, rfl, rfl, rfl⟩ := s7_ H
     have f4C := a97.out
     have f4D := a2H.out
     have f4E := a98.out
     have f4F := a2I.out
     obtain ⟨c9M, c9N, e0z, e0A, c9O, c9P, e0B, e0C⟩ := blk4 P5.out
     have f4G := a4G.out
     have f4H := a1T.out
     obtain ⟨c2d, c2e, c9Q, e0D, c2f, c2g, c9R, e0E⟩ := blk4 X0.out
     obtain ⟨c9S, c9T, c9U, c9V⟩ := a3n Y1.out
     go_wp2
     refine bodyPost_ret (a5p (rs := [.cell 2 46, .tmp 3, .cell 4 30]) rfl (by simp) (.cell a4a 46 #[.bool t107, .bool a8d, .int .u32 t109, .int .u32 b0D] (0, 0) _ rfl (by refine o9 ?_ a4G.out _; refine o9 ?_ a4G.out _; refine l9 (cs := #[.bool t107, .bool a8d, .int .u32 t109, .int .u32 a1U]) ?_ 3 _ rfl; refine l9 (cs := #[.bool t107, .bool a8d, .int .u32 a2k, .int .u32 a1U]) ?_ 2 _ rfl; refine l9 (cs := #[.bool t107, .bool a3h, .int .u32 a2k, .int .u32 a1U]) ?_ 1 _ rfl; refine l9 (cs := #[.bool a4H, .bool a3h, .int .u32 a2k, .int .u32 a1U]) ?_ 0 _ rfl; exact X0.out) Tryd.underlying46 rfl (by kernel_rfl) (.tmp (.cell a5H 30 #[.int .i64 0, .int .i64 0] (0, 0) _ rfl (by refine l9 (cs := #[.int .i64 0, .int .i64 a3i]) ?_ 1 _ rfl; refine l9 (cs := #[.int .i64 a4I, .int .i64 a3i]) ?_ 0 _ rfl; refine o9 ?_ a1T.out _; refine o9 ?_ a1T.out _; refine o9 ?_ a1T.out _; refine o9 ?_ a1T.out _; exact Y1.out) Tryd.underlying30 rfl (by kernel_rfl) .nil)))) rfl ?_
     exact ⟨_, by (rfl), by exact Kd.V6 (Kd.Y6 (p := ⟨a5H, 1, none⟩) (Kd.Y6 (p := ⟨a5H, 0, none⟩) (Kd.Y6 (p := ⟨a4a, 3, none⟩) (Kd.Y6 (p := ⟨a4a, 2, none⟩) (Kd.Y6 (p := ⟨a4a, 1, none⟩) (Kd.Y6 (p := ⟨a4a, 0, none⟩) (Kd.a3K (Kd.a3K U1.out X0.out (by decide)) Y1.out (by decide)) (fun _ hk => hk.1.2) (.bool t107)) (fun _ hk => hk.1.2) (.bool a8d)) (fun _ hk => hk.1.2) (.int .u32 t109)) (fun _ hk => hk.1.2) (.int .u32 b0D)) (fun _ hk => hk.2) (.int .i64 0)) (fun _ hk => hk.2) (.int .i64 0)) (fun _ hk => trivial), by repeat (with_reducible first | exact HB.out | refine o8 ?_ c9u.out | refine o8 ?_ c9v.out)⟩
 ·rw [if_neg c3] at H
  have a5g := beq_eq_false_iff_ne.mpr c3
  have b1b := bne_iff_ne.mpr c3
  obtain ⟨rfl, rfl, rfl, rfl, rfl, rfl, rfl⟩ := s7_ H
  go_enter Tryd.func42, Tryd.ntmps42
  go_wp2_with (first | (refine be_ 2 #[.bool false, .bool false, .int .u32 0, .int .u32 0] 46 ?_; intro a4a hg w58 hbox hb; have X0 := a_ hbox; have f4f := lb_ HB hg; have c9u := lb_ HB hg; replace HB := W9 HB hb; clear hb hbox hg) | (refine be_ 4 #[.int .i64 0, .int .i64 0] 30 ?_; intro a5H hg w59 hbox hb; have Y1 := a_ hbox; have f4g := lb_ HB hg; have c9v := lb_ HB hg; obtain ⟨a4G, a1T⟩ := nn_ X0 hg; replace X0 := U5 X0 hb; replace HB := W9 HB hb; clear hb hbox hg) | (refine gl_ (some 14) Tryd.func61 #[.slice A0 l0.length c0] ?_; (with_reducible refine (pcap_Head.calls k _ _ l0 t107 a8d t109 b0D d9H _ (Kd.D6 HR0.out HB.out) HC0.out A2.out).mono ?_); rintro e w60 ⟨rfl, hb⟩; refine ⟨_, rfl, ?_⟩; replace X0 := U5 X0 hb; replace Y1 := U5 Y1 hb; replace HB := W9 HB hb; (try clear hb)) | (refine be_ 5 #[.bool false, .bool false, .int .u32 0, .int .u32 0] 46 ?_; intro a1L hg w61 hbox hb; have P5 := a_ hbox; have f4h := lb_ HB hg; have d4K := lb_ HB hg; obtain ⟨a2H, a97⟩ := nn_ X0 hg; obtain ⟨a2I, a98⟩ := nn_ Y1 hg; replace X0 := U5 X0 hb; replace Y1 := U5 Y1 hb; replace HB := W9 HB hb; clear hb hbox hg; have e4B := a97.out; have e4C := a2H.out; have e3J := a98.out; have e3K := a2I.out; obtain ⟨c9W, c9X, c9Y, e0F, c9Z, c90, c94, e0G⟩ := blk4 P5.out; have e3L := a4G.out; have e3M := a1T.out; obtain ⟨c1g, c1h, c1i, c1j, c1k, c1l, c1m, c1o⟩ := blk4 X0.out; obtain ⟨e0H, e0I, e0J, e0K⟩ := a3n Y1.out))
  refine bodyPost_ret (a5p (rs := [.cell 2 46, .tmp 3, .cell 4 30]) rfl (by simp) (.cell a4a 46 #[.bool false, .bool false, .int .u32 0, .int .u32 0] (0, 0) _ rfl (by refine o9 ?_ a4G.out _; refine o9 ?_ a4G.out _; refine l9 (cs := #[.bool false, .bool false, .int .u32 0, .int .u32 0]) ?_ 3 _ rfl; refine l9 (cs := #[.bool false, .bool false, .int .u32 0, .int .u32 0]) ?_ 2 _ rfl; refine l9 (cs := #[.bool false, .bool false, .int .u32 0, .int .u32 0]) ?_ 1 _ rfl; refine l9 (cs := #[.bool false, .bool false, .int .u32 0, .int .u32 0]) ?_ 0 _ rfl; refine o9 ?_ a2H.out _; refine o9 ?_ a2H.out _; refine o9 ?_ a2H.out _; refine o9 ?_ a2H.out _; exact X0.out) Tryd.underlying46 rfl (by kernel_rfl) (.tmp (.cell a5H 30 #[.int .i64 0, .int .i64 d9H] (0, 0) _ rfl (by refine l9 (cs := #[.int .i64 0, .int .i64 0]) ?_ 1 _ rfl; refine l9 (cs := #[.int .i64 0, .int .i64 0]) ?_ 0 _ rfl; refine o9 ?_ a1T.out _; refine o9 ?_ a1T.out _; refine o9 ?_ a1T.out _; refine o9 ?_ a1T.out _; refine o9 ?_ a2I.out _; refine o9 ?_ a2I.out _; refine o9 ?_ a2I.out _; refine o9 ?_ a2I.out _; exact Y1.out) Tryd.underlying30 rfl (by kernel_rfl) .nil)))) rfl ?_
  exact ⟨_, by (rfl), by (exact Kd.a6k _ _ _ _ _), by repeat (with_reducible first | exact HB.out | refine o8 ?_ c9u.out | refine o8 ?_ c9v.out | refine o8 ?_ d4K.out)⟩

end Go.Proofs.YtgnonglkibhnhaaDoor.Print
