-- laid together by this session's own program (wip/tools/merge.py) of texts that its program laid
import Derived.Test.YtgnonglkibhnhaaDoorF54
import Derived.Test.YtgnonglkibhnhaaDoorM4
namespace Go.Proofs.YtgnonglkibhnhaaDoor.Print
open Go.RowKit Go.Proofs.YtgnonglkibhnhaaDoorW.PrintWords Go.Proofs.YtgnonglkibhnhaaDoorW.PrintLast Go.Proofs.YtgnonglkibhnhaaDoorW.PrintMore
attribute [local go_sem] a0d a0e a0V a0W X5 X6 a0f a0g
set_option linter.unusedVariables false
set_option linter.unusedSimpArgs false
set_option maxHeartbeats 16000000
set_option maxRecDepth 100000
def F8.l0 : Nat → List (S51) → List (S42) → Int → Int → Option (List Int × Int)
 | 0, _, _, _, _ => none
 | k + 1, x6, x10, x11, x12 => if x12 < x11 then (if 0 ≤ x12 then (if x12 < (x10.length : Int) then ((some (([(wrap64 (((y7 x10 x12).f0) - 1)) % 256] : List Int) : List Int)).bind fun c9z => ((a1q.f ((y7 x10 x12).f0) ((y7 x10 x12).f1) ((y7 x10 x12).f2)).bind fun b3Z => (if c9z.length + b3Z.length < 140737488355328 then ((some (c9z ++ b3Z : List Int)).bind fun b4D => (if x6.length < 3518437208883 then (F8.l0 k (x6 ++ [(⟨(x12) % 4294967296, 0, (b4D.length : Int) % 4294967296, b4D⟩ : S51)]) x10 x11 (wrap64 (x12 + 1))) else (none))) else (none)))) else (none)) else (none)) else ((pcap_Put.f k false false 65535 204 x6).bind fun e0I => (some (e0I.1, e0I.2)))
def F8.f (k : Nat) (G8 : Int) (O9 : Int) (l1 : List (S42)) : Option (List Int × Int) := F8.l0 k ([] : List (S51)) l1 (l1.length : Int) 0
def F8.T5 : Bool × List (List Nat × List Nat) := (true, [([], []), ([0], [0]), ([1], [1]), ([2], [2]), ([3], [3]), ([], []), ([5], [5]), ([4, 6, 6], [4, 6]), ([7, 7, 0, 1, 2, 3, 4, 5, 6, 7], [7])])
def F8.B5 : List Nat := [0, 1, 3, 7, 15, 0, 32, 127, 255]
theorem F8.g0G : a2l .any (opsOf Tryd.f30 5) = F8.T5 := by kernel_rfl
theorem F8.e76 : a1R F8.T5.2 F8.B5 = true := by kernel_rfl
theorem F8.calls (k : Nat) (G8 : Int) (O9 : Int) (A1 : Option Addr) (c1 : Nat) (l1 : List (S42)) (r1 : List Int) (r2 : Int) (w : World) (hr1 : Kd.C k42 w A1 l1.length l1) (hc1 : l1.length ≤ c1) (h : F8.f k G8 O9 l1 = some (r1, r2)) :
  Calls Tryd.prog 30 #[.agg #[], .slice A1 l1.length c1] w fun e w' => ∃ v0_ : Value, e = .returned (.tuple #[v0_, .int .i64 r2]) ∧ Kd.R (Kd.int .u8) 5 w' w.heap.size (fun _ => True) v0_ r1 ∧ Below w.heap.size w w' := by
 have b2i := Tryd.underlying30
 have e2w := Tryd.underlying65
 have b8P := Tryd.underlying42
 have d7b := Tryd.underlying51
 have c3q := Tryd.underlying46
 have HR1 := a_ hr1
 have HC1 := a_ hc1
 clear hr1 hc1
 have HB := a_ (Below.refl w.heap.size w)
 have H := h
 clear h
 unfold F8.f at H
 have H' := a_ H
 clear H
 go_enter Tryd.func30, Tryd.ntmps30
 go_wp2_with (first | (refine be_ 2 #[] 65 ?_; intro d2o hg w3 hbox hb; have a2v := a_ hbox; have g4T := lb_ HB hg; replace HB := Q8 HB hb; clear hb hbox hg))
 go_loopg [6, 12] k (fun kq v6 v12 w' => ∃ (a0w : List (S51)) (C9 : Int), v12 = .int .i64 C9 ∧ Aside0 (F8.l0 kq a0w l1 (l1.length : Int) C9 = some (r1, r2)) ∧ Aside0 (kq ≤ k) ∧ Aside0 (Kd.S k51 51 w' w.heap.size (fun _ => True) v6 a0w) ∧ Aside0 (w'.heap[d2o]? = some (.cells #[] 65 (0, 0))) ∧ Aside0 (Below w.heap.size w w'))
 case atStart => exact ⟨([] : List (S51)), (0), (by rfl), H', ⟨Nat.le_refl _⟩, ⟨by (exact Kd.a7k _ _ _ _ _)⟩, ⟨by exact a2v.out⟩, ⟨by exact HB.out⟩⟩
 case round =>
  clear H'; obtain ⟨a0w, C9, rfl, HA, HK1, a1X, a2v, HB⟩ := hrel
  cases gk with
  | zero => exact absurd HA.out (by simp [F8.l0])
  | succ k1 =>
   have H := HA.out; clear HA
   simp only [F8.l0] at H
   by_cases c4 : C9 < (l1.length : Int)
   ·rw [if_pos c4] at H; have a3x := dt_ c4; clear c4; have a7h := a2Q H; replace H := O6 H; have a5Y := a2Q H; replace H := O6 H; obtain ⟨c9z, d2p⟩ := is_ ((([(wrap64 (((y7 l1 C9).f0) - 1)) % 256] : List Int)) : List Int); rw [Option.bind_some, ← d2p] at H; have e0J := a_ d2p; clear d2p; obtain ⟨b3Z, A7, H⟩ := bd_ H
    (try dsimp only at H); have c8 := X4 H; replace H := O6 H; have b6V := a_ c8; clear c8; obtain ⟨b4D, d2q⟩ := is_ ((c9z ++ b3Z) : List Int); rw [Option.bind_some, ← d2q] at H; have e77 := a_ d2q; clear d2q; have c9 := X4 H; replace H := O6 H; have d2r := a_ c9; clear c9; obtain ⟨g0H, d2s⟩ := is_ ((a0w ++ [(⟨(C9) % 4294967296, 0, (b4D.length : Int) % 4294967296, b4D⟩ : S51)]) : List (S51)); rw [← d2s] at H; have e78 := a_ d2s; clear d2s; have H' := a_ H; clear H; have e3h : 0 ≤ (C9 : Int) := U9; have e3i : C9 < (l1.length : Int) := U9; obtain ⟨g4U, a5I, a5J, g0I, c6d, c6e, c6f, c6g, c6h⟩ := a0I HR1.out C9 e3h e3i
    cases g0I
    replace c6d := J9 HB c6d; replace c6e := J9 HB c6e; replace c6f := J9 HB c6f; have c6i := a_ c6h; have c6j := a_ c6g; clear c6h c6g; replace e3h := eq_true e3h; replace e3i := eq_true e3i
    try go_wp2_with (first | (refine be_ 8 #[.int .i64 0, .int .i64 0, .slice none 0 0] 42 ?_; intro a2R hg w10 hbox hb; have a01 := a_ hbox; have e79 := lb_ HB hg; obtain ⟨b0k, c9A⟩ := nn_ a2v hg; replace a1X := sb_ a1X hb; replace a2v := X8 a2v hb; replace HB := Q8 HB hb; clear hb hbox hg; have g4V := c9A.out; have g4W := b0k.out; obtain ⟨d7y, d7z, d7A, d7B, d7C, d7D⟩ := a0u a01.out))
    have n0_ : Aside0 (Kd.S k51 51 (((w10.setCell ⟨a2R, 0, none⟩ (.int .i64 ((y7 l1 C9).f0))).setCell ⟨a2R, 1, none⟩ (.int .i64 ((y7 l1 C9).f1))).setCell ⟨a2R, 2, none⟩ (.slice a5I ((y7 l1 C9).f2).length a5J)) w.heap.size (fun _ => True) u6 a0w) := ⟨by exact Kd.Y3 (Kd.a1m (p := ⟨a2R, 2, none⟩) (Kd.a1m (p := ⟨a2R, 1, none⟩) (Kd.a1m (p := ⟨a2R, 0, none⟩) (Kd.a4C a1X.out a01.out (by decide)) (fun _ hk => hk.2) (.int .i64 ((y7 l1 C9).f0))) (fun _ hk => hk.2) (.int .i64 ((y7 l1 C9).f1))) (fun _ hk => hk.2) (.slice a5I ((y7 l1 C9).f2).length a5J)) (fun _ hk => trivial)⟩; have n1_ : Aside0 ((((w10.setCell ⟨a2R, 0, none⟩ (.int .i64 ((y7 l1 C9).f0))).setCell ⟨a2R, 1, none⟩ (.int .i64 ((y7 l1 C9).f1))).setCell ⟨a2R, 2, none⟩ (.slice a5I ((y7 l1 C9).f2).length a5J)).heap[d2o]? = some (.cells #[] 65 (0, 0))) := ⟨E5 (E5 (E5 a2v.out b0k.out _) b0k.out _) b0k.out _⟩; have n2_ : Aside0 ((((w10.setCell ⟨a2R, 0, none⟩ (.int .i64 ((y7 l1 C9).f0))).setCell ⟨a2R, 1, none⟩ (.int .i64 ((y7 l1 C9).f1))).setCell ⟨a2R, 2, none⟩ (.slice a5I ((y7 l1 C9).f2).length a5J)).heap[a2R]? = some (.cells #[.int .i64 ((y7 l1 C9).f0), .int .i64 ((y7 l1 C9).f1), .slice a5I ((y7 l1 C9).f2).length a5J] 42 (0, 0))) := ⟨l9 (l9 (l9 a01.out 0 _ rfl) 1 _ rfl) 2 _ rfl⟩; have n3_ : Aside0 (Below w.heap.size w (((w10.setCell ⟨a2R, 0, none⟩ (.int .i64 ((y7 l1 C9).f0))).setCell ⟨a2R, 1, none⟩ (.int .i64 ((y7 l1 C9).f1))).setCell ⟨a2R, 2, none⟩ (.slice a5I ((y7 l1 C9).f2).length a5J))) := ⟨by repeat (with_reducible first | exact HB.out | refine o8 ?_ e79.out)⟩
    (try clear a1X)
    (try clear a2v)
    (try clear a01)
    (try clear HB)
    generalize (((w10.setCell ⟨a2R, 0, none⟩ (.int .i64 ((y7 l1 C9).f0))).setCell ⟨a2R, 1, none⟩ (.int .i64 ((y7 l1 C9).f1))).setCell ⟨a2R, 2, none⟩ (.slice a5I ((y7 l1 C9).f2).length a5J)) = w13 at n0_ n1_ n2_ n3_ ⊢; have a1X := n0_; have a2v := n1_; have a01 := n2_; have HB := n3_; clear n0_ n1_ n2_ n3_; replace a1X := a_ (Kd.c2J a1X.out); replace a2v := a_ (P6 a2v.out); replace a01 := a_ (P6 a01.out); replace HB := a_ (Z8 HB.out); refine a2U (n := 9) (S := fun w' => w'.cell? ⟨a2R, 0, none⟩ = some (.int .i64 ((y7 l1 C9).f0)) ∧ w'.cell? ⟨a2R, 1, none⟩ = some (.int .i64 ((y7 l1 C9).f1)) ∧ w'.cell? ⟨a2R, 2, none⟩ = some (.slice a5I ((y7 l1 C9).f2).length a5J)) (ds := []) (bo_ 9 0) (by kernel_rfl) rfl rfl ⟨bc0 a01, bc1 a01, bc2 a01⟩ (fun hHeld => ?_); refine a1Z F8.g0G F8.e76 (fun U6 HW_ => ?_); generalize w13.drew = w14 at a1X a2v a01 HB hHeld ⊢; refine pu_ 0 (some 17) U6 ?_; refine a0Y (i := 1) (N := some 18) (v := ?_) (a' := ?_) (bo_ 9 3) rfl rfl (Y9 U6.out HW_.out (by kernel_rfl)) (fun _ _ _ h => h) (Or.inl ⟨by rfl, ?_⟩) hHeld ?_ ?_
    rotate_left
    ·rintro w' ⟨s0, s1, s2⟩
     go_simp
     with_reducible rfl
    rotate_left
    ·simp only [Act.put, List.setIfInBounds_toArray, List.set_cons_zero, List.set_cons_succ, a0D, a1b]
     rfl
    refine pu_ 2 (some 19) U6 ?_; refine pu_ 3 (some 20) U6 ?_; refine a0Y (i := 5) (N := some 22) (v := ?_) (a' := ?_) (bo_ 9 47) rfl rfl (Y9 U6.out HW_.out (by kernel_rfl)) (fun _ _ _ h => h) (Or.inl ⟨by rfl, ?_⟩) hHeld ?_ ?_
    rotate_left
    ·rintro w' ⟨s0, s1, s2⟩
     go_simp
     with_reducible rfl
    rotate_left
    ·simp only [Act.put, List.setIfInBounds_toArray, List.set_cons_zero, List.set_cons_succ, a0D, a1b]
     rfl
    refine c4X (σ := Value × Value) 2 (bo_ 9 127) (fun s_ => [(21, s_.1), (23, s_.2)]) (fun s_ w' => (w'.cell? ⟨a2R, 0, none⟩ = some (.int .i64 ((y7 l1 C9).f0)) ∧ w'.cell? ⟨a2R, 1, none⟩ = some (.int .i64 ((y7 l1 C9).f1)) ∧ w'.cell? ⟨a2R, 2, none⟩ = some (.slice a5I ((y7 l1 C9).f2).length a5J)) ∧ (Kd.R (Kd.int .u8) 5 w' w.heap.size (fun k_ => some k_ ≠ (s_.2 : Value).ownBlock) s_.1 c9z) ∧ (Kd.R (Kd.int .u8) 5 w' w.heap.size (fun k_ => some k_ ≠ (s_.1 : Value).ownBlock) s_.2 b3Z) ∧ (Kd.S k51 51 w' w.heap.size (fun k_ => some k_ ≠ (s_.1 : Value).ownBlock ∧ some k_ ≠ (s_.2 : Value).ownBlock) u6 a0w) ∧ (w'.heap[d2o]? = some (.cells #[] 65 (0, 0))) ∧ (w'.heap[a2R]? = some (.cells #[.int .i64 ((y7 l1 C9).f0), .int .i64 ((y7 l1 C9).f1), .slice a5I ((y7 l1 C9).f2).length a5J] 42 (0, 0))) ∧ (Below w.heap.size w w')) ?_ ?_
    rotate_left
    ·intro a9M; refine d6x (i := 4) (j := 6) (Ni := some 21) (Nj := some 23) (bo_ 9 63) (bo_ 9 111) rfl rfl rfl rfl (b8C U6.out (by kernel_rfl)) (by decide) (by decide) (fun K hK => ?_) (fun K hK => ?_)
     ·skip
      refine Kd.a3S (Kd.int .u8) _ 5 ?hg (N := 21) ?hd (xs := ([(wrap64 (((y7 l1 C9).f0) - 1)) % 256] : List Int)) (inner := [.int .u8 ((wrap64 (((y7 l1 C9).f0) - 1)) % 256)]) (ok := fun _ => True) (okp := fun _ => True) ?hr ?hp (fun _ hk => hk) trivial (Below.refl _ _) (Nat.le_refl _) (by simp) ?_; (case hd => rfl); (case hg => rfl); (case hr => (go_simp; rfl)); (case hp => exact (J3.one (show Kd.M (Kd.int .u8) _ _ _ ((wrap64 (((y7 l1 C9).f0) - 1)) % 256) [.int .u8 ((wrap64 (((y7 l1 C9).f0) - 1)) % 256)] from rfl) (J3.none _ _))); intro d2t w15 c1z hb hg_ V8; clear hg_ V8; rw [← e0J.out] at c1z; have a9T := rl_ c1z HB; replace a1X := rS_ a1X c1z hb; replace a2v := X8 a2v hb; replace a01 := X8 a01 hb; replace HB := Q8 HB hb; clear hb c1z; refine hK.out _ _ ⟨bc0 a01, bc1 a01, bc2 a01⟩ (fun hHeld => ?_); clear hK K; refine nm_ (some 21) ?_; refine a4p (i := 6) (N := some 23) (bo_ 9 127) rfl rfl (a1l U6.out (by kernel_rfl)) (by decide) (fun K hK => ?_); refine a3c Tryd.func51 (by kernel_rfl) rfl #[.agg #[.int .i64 ((y7 l1 C9).f0), .int .i64 ((y7 l1 C9).f1), .slice a5I ((y7 l1 C9).f2).length a5J]] (by rfl) rfl rfl (by (try simp only [List.map_toArray, List.map_cons, List.map_nil]); (rfl)) ?_
      with_reducible refine (a1q.calls ((y7 l1 C9).f0) ((y7 l1 C9).f1) _ _ ((y7 l1 C9).f2) b3Z _ ?U1 ?U2 A7.out).mono ?_
      (case U1 => exact (Kd.E8 c6i.out HB.out))
      (case U2 => exact c6j.out)
      rintro e w17 ⟨d7E, rfl, ho0, hb⟩; refine ⟨_, rfl, ?_⟩; have a6V := rn_ ho0 a9T HB; replace a1X := rS_ a1X ho0 hb; replace a9T := rR_ a9T ho0 hb; replace a2v := X8 a2v hb; replace a01 := X8 a01 hb; replace HB := Q8 HB hb
      (try clear hb)
      (try clear ho0)
      refine hK.out _ _ ⟨bc0 a01, bc1 a01, bc2 a01⟩ (fun hHeld => ?_); clear hK K; refine nm_ (some 23) ?_; exact a7Q (by simp only [a4F, Act.put, List.setIfInBounds_toArray, List.set_cons_zero, List.set_cons_succ]) (a9M (d2t, d7E) _ ⟨hHeld, (by exact Kd.y9 a9T.out (fun _ hk => hk.2)), (by exact Kd.y9 a6V.out (fun _ hk => hk.2)), (by exact Kd.Y3 a1X.out (fun _ hk => ⟨hk.1.2, hk.2⟩)), a2v.out, a01.out, HB.out⟩)
     ·skip
      refine a3c Tryd.func51 (by kernel_rfl) rfl #[.agg #[.int .i64 ((y7 l1 C9).f0), .int .i64 ((y7 l1 C9).f1), .slice a5I ((y7 l1 C9).f2).length a5J]] (by rfl) rfl rfl (by (try simp only [List.map_toArray, List.map_cons, List.map_nil]); (rfl)) ?_
      with_reducible refine (a1q.calls ((y7 l1 C9).f0) ((y7 l1 C9).f1) _ _ ((y7 l1 C9).f2) b3Z _ ?U1 ?U2 A7.out).mono ?_
      (case U1 => exact (Kd.E8 c6i.out HB.out))
      (case U2 => exact c6j.out)
      rintro e w15 ⟨d7E, rfl, ho0, hb⟩; refine ⟨_, rfl, ?_⟩; have a6V := rl_ ho0 HB; replace a1X := rS_ a1X ho0 hb; replace a2v := X8 a2v hb; replace a01 := X8 a01 hb; replace HB := Q8 HB hb
      (try clear hb)
      (try clear ho0)
      refine hK.out _ _ ⟨bc0 a01, bc1 a01, bc2 a01⟩ (fun hHeld => ?_); clear hK K; refine nm_ (some 23) ?_; refine a4p (i := 4) (N := some 21) (bo_ 9 127) rfl rfl (a1l U6.out (by kernel_rfl)) (by decide) (fun K hK => ?_); refine Kd.a3S (Kd.int .u8) _ 5 ?hg (N := 21) ?hd (xs := ([(wrap64 (((y7 l1 C9).f0) - 1)) % 256] : List Int)) (inner := [.int .u8 ((wrap64 (((y7 l1 C9).f0) - 1)) % 256)]) (ok := fun _ => True) (okp := fun _ => True) ?hr ?hp (fun _ hk => hk) trivial (Below.refl _ _) (Nat.le_refl _) (by simp) ?_; (case hd => rfl); (case hg => rfl); (case hr => (go_simp; rfl)); (case hp => exact (J3.one (show Kd.M (Kd.int .u8) _ _ _ ((wrap64 (((y7 l1 C9).f0) - 1)) % 256) [.int .u8 ((wrap64 (((y7 l1 C9).f0) - 1)) % 256)] from rfl) (J3.none _ _))); intro d2t w16 d2u hb hg_ V8; clear hg_ V8; rw [← e0J.out] at d2u; have a9T := rn_ d2u a6V HB; replace a1X := rS_ a1X d2u hb; replace a6V := rR_ a6V d2u hb; replace a2v := X8 a2v hb; replace a01 := X8 a01 hb; replace HB := Q8 HB hb; clear hb d2u; refine hK.out _ _ ⟨bc0 a01, bc1 a01, bc2 a01⟩ (fun hHeld => ?_); clear hK K; refine nm_ (some 21) ?_; exact a7Q (by simp only [a4F, Act.put, List.setIfInBounds_toArray, List.set_cons_zero, List.set_cons_succ]) (a9M (d2t, d7E) _ ⟨hHeld, (by exact Kd.y9 a9T.out (fun _ hk => hk.2)), (by exact Kd.y9 a6V.out (fun _ hk => hk.2)), (by exact Kd.Y3 a1X.out (fun _ hk => ⟨hk.2, hk.1.2⟩)), a2v.out, a01.out, HB.out⟩)
    rintro ⟨d2t, d7E⟩ w18 ⟨hS_, h0_, h1_, h2_, h3_, h4_, h5_⟩; have n0_ := a_ h0_; have n1_ := a_ h1_; have n2_ := a_ h2_; have n3_ := a_ h3_; have n4_ := a_ h4_; have n5_ := a_ h5_; clear a1X a2v a01 HB h0_ h1_ h2_ h3_ h4_ h5_; have a9T := n0_; have a6V := n1_; have a1X := n2_; have a2v := n3_; have a01 := n4_; have HB := n5_; clear n0_ n1_ n2_ n3_ n4_ n5_; have hHeld : w18.cell? ⟨a2R, 0, none⟩ = some (.int .i64 ((y7 l1 C9).f0)) ∧ w18.cell? ⟨a2R, 1, none⟩ = some (.int .i64 ((y7 l1 C9).f1)) ∧ w18.cell? ⟨a2R, 2, none⟩ = some (.slice a5I ((y7 l1 C9).f2).length a5J) := hS_; obtain ⟨b30, b31, d2v⟩ := Kd.H6 a6V.out; subst d2v; refine a7Q (a' := ?_) ?_ ?_
    rotate_left
    ·simp only [a4F, Act.put, List.setIfInBounds_toArray, List.set_cons_zero, List.set_cons_succ]
     rfl
    refine a4p (i := 7) (N := some 24) (bo_ 9 255) rfl rfl (a1l U6.out (by kernel_rfl)) (by decide) (fun K hK => ?_); refine Kd.a6J (Kd.int .u8) (w0 := w) w.heap.size (by rfl) (.tmp 21) (.tmp 23) 22 5 (.int .u8 0) 1 rfl Tryd.underlying22 info5 rfl (by decide) (by omega) d2t c9z b3Z _ _ _ (fun k_ => some k_ ≠ (.slice b30 b3Z.length b31 : Value).ownBlock) (fun _ => False) rfl rfl ?aO ?aR (fun _ _ h => h) (fun _ h => h.elim) ?aF ?aB ?aS ?aL ?_
    (case aR => exact (Kd.F9 a6V.out).2.2)
    (case aB => exact HB.out)
    (case aF => exact (fun k_ hk => Kd.fresh' (Kd.U8 a6V.out) k_ hk))
    (case aO => exact a9T.out)
    (case aS => exact (o9 HB.out))
    (case aL => have := b6V.out; omega)
    intro g7Z w19 ho hb hg hat; rw [← e77.out] at ho; have c6k := a_ ho; replace a1X := a_ (Kd.c44 (ok := (fun k_ => some k_ ≠ (.slice b30 b3Z.length b31 : Value).ownBlock)) (by exact Kd.Y3 a1X.out (fun _ hk => ⟨hk.2, hk.1⟩)) hg hat); replace a2v := a_ (L9 a2v.out hg (Kd.a3L a9T.out a2v.out (by decide))); replace a01 := a_ (L9 a01.out hg (Kd.a3L a9T.out a01.out (by decide))); replace a6V := a_ (Kd.Q7 (ok := (fun _ => True)) (by exact Kd.y9 a6V.out (fun _ hk => ⟨trivial, hk⟩)) hg hat); replace HB := a_ hb; clear a9T ho hb hg hat; refine hK.out _ _ ⟨bc0 a01, bc1 a01, bc2 a01⟩ (fun hHeld => ?_); clear hK K; refine nm_ (some 24) ?_; refine pu_ 8 (some 9) U6 ?_; refine a4J (a4b U6.out (by kernel_rfl)) ?_; obtain ⟨b33, b34, c3B⟩ := Kd.H6 c6k.out; subst c3B
    try go_wp2_with (first | ((with_reducible refine D6 (b := .append) (xs := #[.tmp 25, .tmp 33]) rfl ?_); at_builtin; refine Kd.a9x k51 (w0 := w) w.heap.size rfl (.tmp 25) (.tmp 33) 47 51 (.agg #[(.int .u32 0), (.int .u32 0), (.int .u32 0), (.slice none 0 0)]) 40 rfl Tryd.underlying47 info51 rfl (by decide) (by omega) u6 a0w (⟨(C9) % 4294967296, 0, (b4D.length : Int) % 4294967296, b4D⟩ : S51) [.int .u32 ((C9) % 4294967296), .int .u32 0, .int .u32 ((b4D.length : Int) % 4294967296), .slice b33 b4D.length b34] (fun k_ => some k_ ≠ (.slice b30 b3Z.length b31 : Value).ownBlock) (fun k_ => some k_ = (.slice b33 b4D.length b34 : Value).ownBlock) rfl rfl ?aP (fun k_ hk_ => ((Kd.y9 (ok' := fun k_ => (fun k_ => some k_ ≠ (.slice b30 b3Z.length b31 : Value).ownBlock) k_ ∧ some k_ ≠ (u6 : Value).ownBlock) (Kd.V6 (c6k.out) (Kd.a4X a1X.out) (by decide)) (fun k_ hk => ⟨hk.1, hk.2⟩))).1 k_ hk_.symm) ?aF ?aO ?aB ?aS ?aL ?_; (case aP => exact c4Q _ _ _ (⟨(C9) % 4294967296, 0, (b4D.length : Int) % 4294967296, b4D⟩ : S51) (Kd.y9 (Kd.a2m rfl (Kd.y9 (ok' := fun k_ => (fun k_ => some k_ ≠ (.slice b30 b3Z.length b31 : Value).ownBlock) k_ ∧ some k_ ≠ (u6 : Value).ownBlock) (Kd.V6 (c6k.out) (Kd.a4X a1X.out) (by decide)) (fun k_ hk => ⟨hk.1, hk.2⟩))) (fun _ h_ => h_))); (case aB => exact HB.out); (case aF => exact (fun k_ hk => Kd.fresh' (Kd.U8 a6V.out) k_ hk)); (case aO => exact (by exact Kd.Y3 a1X.out (fun k_ hk => ⟨hk.1, fun e_ => hk.2 e_⟩))); (case aS => exact (o9 HB.out)); (case aL => have := d2r.out; omega); intro g70 w22 ho hb hg hat; rw [← e78.out] at ho; have e8a := a_ ho; replace a2v := a_ (L9 a2v.out hg (Kd.c2K a1X.out a2v.out (by decide))); replace a01 := a_ (L9 a01.out hg (Kd.c2K a1X.out a01.out (by decide))); replace a6V := a_ (Kd.b1Y a6V.out (Kd.a4X a1X.out) (by decide) hg); replace HB := a_ hb; clear a1X c6k ho hb hg hat))
    go_roundg k1
    case measure => have := HK1.out; omega
    case rel => exact ⟨(g0H), (wrap64 (C9 + 1)), (by rfl), H', ⟨by have := HK1.out; omega⟩, ⟨by exact Kd.Y3 e8a.out (fun _ hk => trivial)⟩, ⟨by exact a2v.out⟩, ⟨by exact HB.out⟩⟩
   ·rw [if_neg c4] at H; have a3x := df_ c4; clear c4; obtain ⟨⟨g0J, g0K⟩, A23, H⟩ := bd_ H
    (try dsimp only at H); obtain ⟨rfl, rfl⟩ := s2_ H; obtain ⟨b4y, b4z, b8Q⟩ := Kd.a8t a1X.out; subst b8Q
    go_wp2_with (first | (refine gl_ (some 38) Tryd.func54 #[.agg #[.bool false, .bool false, .int .u32 65535, .int .u32 204], .slice b4y a0w.length b4z] ?_; (with_reducible refine (pcap_Put.calls k1 false false 65535 204 _ _ a0w g0J g0K _ ((Kd.a4v a1X.out).2.2) ((Kd.a4v a1X.out).2.1) A23.out).mono ?_); rintro e w25 ⟨g71, rfl, ho0, hb⟩; refine ⟨_, rfl, ?_⟩; have e8b := rl_ ho0 HB; replace a1X := rS_ a1X ho0 hb; replace a2v := X8 a2v hb; replace HB := Q8 HB hb; (try clear hb); (try clear ho0)))
    go_ret2
    exact ⟨_, by (rfl), by exact e8b.out, by exact HB.out⟩
mutual
def F6.j0 : Nat → Int → List Int → Bool → Int → Option (Int)
 | 0, _, _, _, _ => none
 | k + 1, x0, x1, x2, x7 => (a0s.f x2).bind fun d7F => (F6.l0 k x1 x7 (Go.bits .and .u32 x0 d7F) 0)
def F6.l0 : Nat → List Int → Int → Int → Int → Option (Int)
 | 0, _, _, _, _ => none
 | k + 1, x1, x7, x8, x9 => if x9 < (x1.length : Int) then (if 0 ≤ x9 then (F6.l1 k x1 x7 (Go.bits .xor .u32 x8 ((rd x1 x9) % 4294967296)) x9 0) else (none)) else (some x8)
def F6.l1 : Nat → List Int → Int → Int → Int → Int → Option (Int)
 | 0, _, _, _, _, _ => none
 | k + 1, x1, x7, x8, x9, x10 => if x10 < 8 then (if (Int.tmod x8 2) = 1 then (F6.l1 k x1 x7 (Go.bits .xor .u32 ((Int.tdiv x8 2) % 4294967296) x7) x9 (wrap64 (x10 + 1))) else (F6.l1 k x1 x7 ((Int.tdiv x8 2) % 4294967296) x9 (wrap64 (x10 + 1)))) else (F6.l0 k x1 x7 x8 (wrap64 (x9 + 1)))
end
def F6.f (k : Nat) (a0 : Int) (l1 : List Int) (a2 : Bool) : Option (Int) := if a2 = true then (F6.j0 k a0 l1 a2 3988292384) else (F6.j0 k a0 l1 a2 33800)
theorem F6.calls (k : Nat) (a0 : Int) (A1 : Option Addr) (c1 : Nat) (l1 : List Int) (a2 : Bool) (r : Int) (w : World) (hr1 : Kd.C (Kd.int .u8) w A1 l1.length l1) (hc1 : l1.length ≤ c1) (h : F6.f k a0 l1 a2 = some r) :
  Calls Tryd.prog 94 #[.int .u32 a0, .slice A1 l1.length c1, .bool a2] w fun e w' => e = .returned (.int .u32 r) ∧ G6 w w' := by
 have HR1 := a_ hr1
 have HC1 := a_ hc1
 clear hr1 hc1
 have H := h
 clear h
 unfold F6.f at H
 have HC4 := a_ H
 clear H
 go_enter Tryd.func94, Tryd.ntmps94
 go_upto_if 12 with (fail)
 go_cut [7] (fun v7 wc => ∃ (kq : Nat) (c9B : Int), v7 = .int .u32 c9B ∧ Aside0 (F6.j0 kq a0 l1 a2 c9B = some r) ∧ Aside0 (kq ≤ k) ∧ G6 w wc)
 case first =>
  have H := HC4.out; clear HC4
  by_cases c5 : a2 = true
  ·subst c5; rw [if_pos rfl] at H; have H' := a_ H; clear H
   go_wp2
   go_meet
   case rel => exact ⟨_, (3988292384), (by rfl), H', ⟨by (omega)⟩, by exact G6.refl _⟩
  ·cases nt_ c5
   rw [if_neg a2O] at H; have H' := a_ H; clear H
   go_wp2
   go_meet
   case rel => exact ⟨_, (33800), (by rfl), H', ⟨by (omega)⟩, by exact G6.refl _⟩
 case rest =>
  clear HC4; obtain ⟨kq, c9B, rfl, HA, HJ3, ⟨mc3, rfl⟩⟩ := hcut
  cases kq with
  | zero => exact absurd HA.out (by simp [F6.j0])
  | succ kj3 =>
   have H := HA.out; clear HA
   simp only [F6.j0] at H
   obtain ⟨d7F, A6, H⟩ := bd_ H
   (try dsimp only at H); have H' := a_ H; clear H
   go_wp2_with (first | (refine gl_ (some 15) Tryd.func93 #[.bool a2] ?_; (with_reducible refine (a0s.calls a2 d7F _ A6.out).mono ?_); rintro e w' ⟨rfl, ⟨nd, rfl⟩⟩; refine ⟨_, rfl, ?_⟩))
   go_loopg [8, 9] kj3 (fun kq v8 v9 w' => ∃ (a9i : Int) (a8J : Int), v8 = .int .u32 a9i ∧ v9 = .int .i64 a8J ∧ Aside0 (F6.l0 kq l1 c9B a9i a8J = some r) ∧ Aside0 (kq ≤ kj3) ∧ G6 w w')
   case atStart => exact ⟨(Go.bits .and .u32 a0 d7F), (0), (by rfl), (by rfl), H', ⟨Nat.le_refl _⟩, by repeat (first | exact G6.refl _ | apply G6.step)⟩
   case round =>
    clear H'; obtain ⟨a9i, a8J, rfl, rfl, HA, HK2, ⟨m2, rfl⟩⟩ := hrel
    cases gk with
    | zero => exact absurd HA.out (by simp [F6.l0])
    | succ k2 =>
     have H := HA.out; clear HA
     simp only [F6.l0] at H
     by_cases c7 : a8J < (l1.length : Int)
     ·rw [if_pos c7] at H; have a5H := dt_ c7; clear c7; have a9G := a2Q H; replace H := O6 H; have H' := a_ H; clear H; obtain ⟨g4X, g0M, d7G, g0N, g0O⟩ := d7H HR1 a8J U9 U9
      cases g0M
      go_wp2
      go_loopg [8, 10] k2 (fun kq v8 v10 w' => ∃ (c3C : Int) (b79 : Int), v8 = .int .u32 c3C ∧ v10 = .int .i64 b79 ∧ Aside0 (F6.l1 kq l1 c9B c3C a8J b79 = some r) ∧ Aside0 (kq ≤ k2) ∧ G6 w w')
      case atStart => exact ⟨(Go.bits .xor .u32 a9i ((rd l1 a8J) % 4294967296)), (0), (by rfl), (by rfl), H', ⟨Nat.le_refl _⟩, by repeat (first | exact G6.refl _ | apply G6.step)⟩
      case round =>
       clear H'
       try clear a5H
       try clear a9G
       try clear d7G
       try clear g0N
       try clear g0O
       obtain ⟨c3C, b79, rfl, rfl, HA, HK3, ⟨m3, rfl⟩⟩ := hrel
       cases gk with
       | zero => exact absurd HA.out (by simp [F6.l1])
       | succ k3 =>
        have H := HA.out; clear HA
        simp only [F6.l1] at H
        by_cases c9 : b79 < 8
        ·rw [if_pos c9] at H; have a6P := dt_ c9; clear c9
         by_cases c10 : (Int.tmod c3C 2) = 1
         ·rw [if_pos c10] at H; obtain ⟨b2j, c08⟩ := bt_ c10; clear c10; have H' := a_ H; clear H
          go_wp2
          go_roundg k3
          case measure => have := HJ3.out; have := HK2.out; have := HK3.out; omega
          case rel => exact ⟨(Go.bits .xor .u32 ((Int.tdiv c3C 2) % 4294967296) c9B), (wrap64 (b79 + 1)), (by rfl), (by rfl), H', ⟨by have := HJ3.out; have := HK2.out; have := HK3.out; omega⟩, by repeat (first | exact G6.refl _ | apply G6.step)⟩
         ·rw [if_neg c10] at H; have b2j := bq_ c10; have c08 := bn_ c10; have H' := a_ H; clear H
          go_wp2
          go_roundg k3
          case measure => have := HJ3.out; have := HK2.out; have := HK3.out; omega
          case rel => exact ⟨((Int.tdiv c3C 2) % 4294967296), (wrap64 (b79 + 1)), (by rfl), (by rfl), H', ⟨by have := HJ3.out; have := HK2.out; have := HK3.out; omega⟩, by repeat (first | exact G6.refl _ | apply G6.step)⟩
        ·rw [if_neg c9] at H; have a6P := df_ c9; clear c9; have H' := a_ H; clear H
         go_wp2
         go_roundg k3
         case measure => have := HJ3.out; have := HK2.out; have := HK3.out; omega
         case rel => exact ⟨(c3C), (wrap64 (a8J + 1)), (by rfl), (by rfl), H', ⟨by have := HJ3.out; have := HK2.out; have := HK3.out; omega⟩, by repeat (first | exact G6.refl _ | apply G6.step)⟩
     ·rw [if_neg c7] at H; have a5H := df_ c7; clear c7; obtain rfl := oj_ H
      go_wp2
      go_ret
      exact ⟨by (rfl), by repeat (first | exact G6.refl _ | apply G6.step)⟩
def a2E.f (k : Nat) (l0 : List Int) (a1 : Bool) : Option (Int) := (a0s.f a1).bind fun e3j => ((a0s.f a1).bind fun d2y => ((F6.f k d2y l0 a1).bind fun e3k => (some ((e3j - e3k) % 4294967296))))
theorem a2E.calls (k : Nat) (A0 : Option Addr) (c0 : Nat) (l0 : List Int) (a1 : Bool) (r : Int) (w : World) (hr0 : Kd.C (Kd.int .u8) w A0 l0.length l0) (hc0 : l0.length ≤ c0) (h : a2E.f k l0 a1 = some r) :
  Calls Tryd.prog 76 #[.slice A0 l0.length c0, .bool a1] w fun e w' => e = .returned (.int .u32 r) ∧ G6 w w' := by
 have HR0 := a_ hr0
 have HC0 := a_ hc0
 clear hr0 hc0
 have H := h
 clear h
 unfold a2E.f at H
 obtain ⟨e3j, A3, H⟩ := bd_ H
 try dsimp only at H
 obtain ⟨d2y, A4, H⟩ := bd_ H
 try dsimp only at H
 obtain ⟨e3k, A5, H⟩ := bd_ H
 try dsimp only at H
 obtain rfl := oj_ H
 go_enter Tryd.func76, Tryd.ntmps76
 go_wp2_with (first | (refine gl_ (some 6) Tryd.func93 #[.bool a1] ?_; (with_reducible refine (a0s.calls a1 e3j _ A3.out).mono ?_); rintro e w' ⟨rfl, ⟨nd, rfl⟩⟩; refine ⟨_, rfl, ?_⟩) | (refine gl_ (some 8) Tryd.func93 #[.bool a1] ?_; (with_reducible refine (a0s.calls a1 d2y _ A4.out).mono ?_); rintro e w' ⟨rfl, ⟨nd, rfl⟩⟩; refine ⟨_, rfl, ?_⟩) | (refine gl_ (some 11) Tryd.func94 #[.int .u32 d2y, .slice A0 l0.length c0, .bool a1] ?_; (with_reducible refine (F6.calls k d2y _ _ l0 a1 e3k _ ?U1 ?U2 A5.out).mono ?_); (case U1 => exact HR0.out); (case U2 => exact HC0.out); rintro e w' ⟨rfl, ⟨nd, rfl⟩⟩; refine ⟨_, rfl, ?_⟩))
 go_ret
 exact ⟨by (rfl), by repeat (first | exact G6.refl _ | apply G6.step)⟩
def P7.l0 : Nat → Bool → List Int → Int → Int → Option (List Int)
 | 0, _, _, _, _ => none
 | k + 1, x1, x5, x6, x7 => (a1M.f x1).bind fun d2z => (if x7 < d2z then (if x5.length < 140737488355328 then (P7.l0 k x1 (x5 ++ [(Int.tmod x6 256) % 256]) ((Int.tdiv x6 256) % 4294967296) (wrap64 (x7 + 1))) else (none)) else (some x5))
def P7.f (k : Nat) (l0 : List Int) (a1 : Bool) : Option (List Int) := if ([] : List Int).length + l0.length < 140737488355328 then ((a2E.f k l0 a1).bind fun d7I => (P7.l0 k a1 (([] : List Int) ++ l0) d7I 0)) else (none)
theorem P7.calls (k : Nat) (A0 : Option Addr) (c0 : Nat) (l0 : List Int) (a1 : Bool) (r : List Int) (w : World) (hr0 : Kd.C (Kd.int .u8) w A0 l0.length l0) (hc0 : l0.length ≤ c0) (h : P7.f k l0 a1 = some r) :
  Calls Tryd.prog 57 #[.slice A0 l0.length c0, .bool a1] w fun e w' => ∃ v0_ : Value, e = .returned (v0_) ∧ Kd.R (Kd.int .u8) 5 w' w.heap.size (fun _ => True) v0_ r ∧ Below w.heap.size w w' := by
 have HR0 := a_ hr0
 have HC0 := a_ hc0
 clear hr0 hc0
 have HB := a_ (Below.refl w.heap.size w)
 have H := h
 clear h
 unfold P7.f at H
 have c3 := X4 H
 replace H := O6 H
 have c3E := a_ c3
 clear c3
 obtain ⟨g0P, d2A⟩ := is_ ((([] : List Int) ++ l0) : List Int)
 rw [← d2A] at H
 have e8c := a_ d2A
 clear d2A
 obtain ⟨d7I, A4, H⟩ := bd_ H
 try dsimp only at H
 have H' := a_ H
 clear H
 go_enter Tryd.func57, Tryd.ntmps57
 go_wp2_with (first | ((with_reducible refine D6 (b := .append) (xs := #[.tmp 8, .tmp 9]) rfl ?_); at_builtin; refine Kd.G9 (Kd.int .u8) (w0 := w) w.heap.size rfl (.tmp 8) (.tmp 9) 22 5 (.int .u8 0) 1 rfl Tryd.underlying22 info5 rfl (by decide) (by omega) (.slice none 0 0) ([] : List Int) l0 _ _ _ (fun _ => True) (fun _ => False) rfl rfl ?aO ?aR (fun _ _ h => h) (fun _ h => h.elim) ?aF ?aB ?aS ?aL ?_; (case aR => exact HR0.out); (case aB => exact HB.out); (case aF => exact (fun _ _ => trivial)); (case aO => exact (Kd.Y4 _ _ _ _ (fun _ => True))); (case aS => exact (o9 HB.out)); (case aL => have := c3E.out; omega); intro g72 w5 ho hb hg hat; rw [← e8c.out] at ho; have e8d := a_ ho; replace HB := a_ hb; clear ho hb hg hat) | (refine gl_ (some 13) Tryd.func76 #[.slice A0 l0.length c0, .bool a1] ?_; (with_reducible refine (a2E.calls k _ _ l0 a1 d7I _ (Kd.E8 HR0.out HB.out) HC0.out A4.out).mono ?_); rintro e w' ⟨rfl, ⟨nd, rfl⟩⟩; refine ⟨_, rfl, ?_⟩))
 go_loopg [5, 6, 7] k (fun kq v5 v6 v7 w' => ∃ (J7 : List Int) (a0w : Int) (P9 : Int), v6 = .int .u32 a0w ∧ v7 = .int .i64 P9 ∧ Aside0 (P7.l0 kq a1 J7 a0w P9 = some r) ∧ Aside0 (kq ≤ k) ∧ Aside0 (Kd.R (Kd.int .u8) 5 w' w.heap.size (fun _ => True) v5 J7) ∧ Aside0 (Below w.heap.size w w'))
 case atStart => exact ⟨(g0P), (d7I), (0), (by rfl), (by rfl), H', ⟨Nat.le_refl _⟩, ⟨by (with_reducible repeat (apply Kd.a1Q)); exact e8d.out⟩, ⟨by repeat (with_reducible first | exact HB.out | apply y5)⟩⟩
 case round =>
  clear H'; obtain ⟨J7, a0w, P9, rfl, rfl, HA, HK1, b0B, HB⟩ := hrel
  cases gk with
  | zero => exact absurd HA.out (by simp [P7.l0])
  | succ k1 =>
   have H := HA.out; clear HA
   simp only [P7.l0] at H
   obtain ⟨d2z, A6, H⟩ := bd_ H
   try dsimp only at H
   by_cases c7 : P9 < d2z
   ·rw [if_pos c7] at H; have a5H := dt_ c7; clear c7; have c8 := X4 H; replace H := O6 H; have b6V := a_ c8; clear c8; obtain ⟨g0Q, d2B⟩ := is_ ((J7 ++ [(Int.tmod a0w 256) % 256]) : List Int); rw [← d2B] at H; have e8e := a_ d2B; clear d2B; have H' := a_ H; clear H
    go_wp2_with (first | (refine gl_ (some 16) Tryd.func77 #[.bool a1] ?_; (with_reducible refine (a1M.calls a1 d2z _ A6.out).mono ?_); rintro e w' ⟨rfl, ⟨nd, rfl⟩⟩; refine ⟨_, rfl, ?_⟩) | ((with_reducible refine D6 (b := .append) (xs := #[.tmp 20, .tmp 24]) rfl ?_); at_builtin; refine Kd.a1F (Kd.int .u8) (w0 := w) w.heap.size rfl (.tmp 20) (.tmp 24) 22 5 (.int .u8 0) 1 rfl Tryd.underlying22 info5 rfl (by decide) (by omega) u5 J7 ((Int.tmod a0w 256) % 256) [.int .u8 ((Int.tmod a0w 256) % 256)] (fun _ => True) (fun _ => False) rfl rfl ?aP (fun _ hk => hk.elim) ?aF ?aO ?aB ?aS ?aL ?_; (case aP => exact rfl); (case aB => exact (by repeat (with_reducible first | exact HB.out | apply y5))); (case aF => exact (fun _ _ => trivial)); (case aO => exact (by (with_reducible repeat (apply Kd.a1Q)); exact b0B.out)); (case aS => exact (o9 (by repeat (with_reducible first | exact HB.out | apply y5)))); (case aL => have := b6V.out; omega); intro g73 w9 ho hb hg hat; rw [← e8e.out] at ho; have e8f := a_ ho; replace HB := a_ hb; clear b0B ho hb hg hat))
    go_roundg k1
    case measure => have := HK1.out; omega
    case rel => exact ⟨(g0Q), ((Int.tdiv a0w 256) % 4294967296), (wrap64 (P9 + 1)), (by rfl), (by rfl), H', ⟨by have := HK1.out; omega⟩, ⟨by exact e8f.out⟩, ⟨by exact HB.out⟩⟩
   ·rw [if_neg c7] at H; have a5H := df_ c7; clear c7; obtain rfl := oj_ H
    go_wp2_with (first | (refine gl_ (some 16) Tryd.func77 #[.bool a1] ?_; (with_reducible refine (a1M.calls a1 d2z _ A6.out).mono ?_); rintro e w' ⟨rfl, ⟨nd, rfl⟩⟩; refine ⟨_, rfl, ?_⟩))
    go_ret
    exact ⟨_, by (rfl), by (with_reducible repeat (apply Kd.a1Q)); exact b0B.out, by repeat (with_reducible first | exact HB.out | apply y5)⟩
def O7.l0 : Nat → List (List Int) → Int → Bool → List Int → Int → Option (List Int × Int)
 | 0, _, _, _, _, _ => none
 | k + 1, x0, x1, x2, x8, x9 => if x9 < (x0.length : Int) then (if 0 ≤ x9 then (if ((a0X x0 x9).length : Int) < 2 then (some (([] : List Int), 1)) else (if ((a0X x0 x9).length : Int) > 65535 then (some (([] : List Int), 4)) else ((P7.f k (a0X x0 x9) x2).bind fun b89 => ((O8.f k b89 x1).bind fun b7A => (if x8.length + b7A.length < 140737488355328 then ((some (x8 ++ b7A : List Int)).bind fun d2C => (if d2C.length < 140737488355328 then (O7.l0 k x0 x1 x2 (d2C ++ [126]) (wrap64 (x9 + 1))) else (none))) else (none)))))) else (none)) else (some (x8, 0))
def O7.f (k : Nat) (l0 : List (List Int)) (a1 : Int) (a2 : Bool) : Option (List Int × Int) := O7.l0 k l0 a1 a2 ([126] : List Int) 0
theorem O7.calls (k : Nat) (A0 : Option Addr) (c0 : Nat) (l0 : List (List Int)) (a1 : Int) (a2 : Bool) (r1 : List Int) (r2 : Int) (w : World) (hr0 : Kd.C (Kd.slice 5 (Kd.int .u8)) w A0 l0.length l0) (hc0 : l0.length ≤ c0) (h : O7.f k l0 a1 a2 = some (r1, r2)) :
  Calls Tryd.prog 32 #[.slice A0 l0.length c0, .int .u32 a1, .bool a2] w fun e w' => ∃ v0_ : Value, e = .returned (.tuple #[v0_, .int .i64 r2]) ∧ Kd.R (Kd.int .u8) 5 w' w.heap.size (fun _ => True) v0_ r1 ∧ Below w.heap.size w w' := by
 have HR0 := a_ hr0
 have HC0 := a_ hc0
 clear hr0 hc0
 have HB := a_ (Below.refl w.heap.size w)
 have H := h
 clear h
 unfold O7.f at H
 obtain ⟨g0R, d2D⟩ := is_ ([126] : List Int)
 rw [← d2D] at H
 have e8g := a_ d2D
 clear d2D
 have H' := a_ H
 clear H
 go_enter Tryd.func32, Tryd.ntmps32
 go_wp2_with (first | (refine b6t .u8 5 10 ([126] : List Int) ?_; intro g74 w4 ho5 hb; (rw [← e8g.out] at ho5); have e8h := rl_ ho5 HB; replace HB := Q8 HB hb; clear hb ho5))
 go_loopg [8, 9] k (fun kq v8 v9 w' => ∃ (a1h : List Int) (a4r : Int), v9 = .int .i64 a4r ∧ Aside0 (O7.l0 kq l0 a1 a2 a1h a4r = some (r1, r2)) ∧ Aside0 (kq ≤ k) ∧ Aside0 (Kd.R (Kd.int .u8) 5 w' w.heap.size (fun _ => True) v8 a1h) ∧ Aside0 (Below w.heap.size w w'))
 case atStart => exact ⟨(g0R), (0), (by rfl), H', ⟨Nat.le_refl _⟩, ⟨by exact e8h.out⟩, ⟨by exact HB.out⟩⟩
 case round =>
  clear H'; obtain ⟨a1h, a4r, rfl, HA, HK1, U4, HB⟩ := hrel
  cases gk with
  | zero => exact absurd HA.out (by simp [O7.l0])
  | succ k1 =>
   have H := HA.out; clear HA
   simp only [O7.l0] at H
   by_cases c6 : a4r < (l0.length : Int)
   ·rw [if_pos c6] at H; have a5Y := dt_ c6; clear c6; have a5H := a2Q H; replace H := O6 H
    by_cases c8 : ((a0X l0 a4r).length : Int) < 2
    ·rw [if_pos c8] at H; have a9G := dt_ c8; have c9t : decide ((a0X l0 a4r).length < 2) = true := dt_ (by omega); clear c8; obtain ⟨rfl, rfl⟩ := s2_ H; have b6W : 0 ≤ (a4r : Int) := U9; have b6X : a4r < (l0.length : Int) := U9; obtain ⟨c1A, c3F, c3G, d2E, a5f, a7m, a7n⟩ := a7N HR0.out a4r b6W b6X
     cases d2E
     replace a5f := J9 HB a5f; have c6l := a_ a7n; have c6m := a_ a7m; clear a7n a7m; replace b6W := eq_true b6W; replace b6X := eq_true b6X
     go_wp2
     go_ret2
     exact ⟨_, by (rfl), by (exact Kd.Y4 _ _ _ _ _), by exact HB.out⟩
    ·rw [if_neg c8] at H; have a9G := df_ c8; have c9t : decide ((a0X l0 a4r).length < 2) = false := df_ (by omega); clear c8
     by_cases c9 : ((a0X l0 a4r).length : Int) > 65535
     ·rw [if_pos c9] at H; have a6P : decide (65535 < ((a0X l0 a4r).length : Int)) = true := dt_ c9; have b1o : decide (65535 < (a0X l0 a4r).length) = true := dt_ (by omega); clear c9; obtain ⟨rfl, rfl⟩ := s2_ H; have b6W : 0 ≤ (a4r : Int) := U9; have b6X : a4r < (l0.length : Int) := U9; obtain ⟨c1A, c3F, c3G, d2E, a5f, a7m, a7n⟩ := a7N HR0.out a4r b6W b6X
      cases d2E
      replace a5f := J9 HB a5f; have c6l := a_ a7n; have c6m := a_ a7m; clear a7n a7m; replace b6W := eq_true b6W; replace b6X := eq_true b6X; have c3H : 0 ≤ (a4r : Int) := U9; have c3I : a4r < (l0.length : Int) := U9; obtain ⟨d2F, e3m, e3n, e3o, a8K, b2x, b2y⟩ := a7N HR0.out a4r c3H c3I; obtain rfl : c1A = d2F := (by injection e3o); replace a8K := J9 HB a8K; have d7J := a_ b2y; have d7K := a_ b2x; clear b2y b2x; replace c3H := eq_true c3H; replace c3I := eq_true c3I; have ea_ := oj_ (a5f.symm.trans a8K); injection ea_ with ea_ en_ ec_
      subst ea_; subst ec_; clear en_
      go_wp2
      go_ret2
      exact ⟨_, by (rfl), by (exact Kd.Y4 _ _ _ _ _), by exact HB.out⟩
     ·rw [if_neg c9] at H; have a6P : decide (65535 < ((a0X l0 a4r).length : Int)) = false := df_ c9; have b1o : decide (65535 < (a0X l0 a4r).length) = false := df_ (by omega); clear c9; obtain ⟨b89, A10, H⟩ := bd_ H
      (try dsimp only at H); obtain ⟨b7A, A11, H⟩ := bd_ H
      (try dsimp only at H); have c12 := X4 H; replace H := O6 H; have b8a := a_ c12; clear c12; obtain ⟨d2C, d2G⟩ := is_ ((a1h ++ b7A) : List Int); rw [Option.bind_some, ← d2G] at H; have e8i := a_ d2G; clear d2G; have c13 := X4 H; replace H := O6 H; have d2H := a_ c13; clear c13; obtain ⟨g0S, d2I⟩ := is_ ((d2C ++ [126]) : List Int); rw [← d2I] at H; have e8j := a_ d2I; clear d2I; have H' := a_ H; clear H; have b6W : 0 ≤ (a4r : Int) := U9; have b6X : a4r < (l0.length : Int) := U9; obtain ⟨c1A, c3F, c3G, d2E, a5f, a7m, a7n⟩ := a7N HR0.out a4r b6W b6X
      cases d2E
      replace a5f := J9 HB a5f; have c6l := a_ a7n; have c6m := a_ a7m; clear a7n a7m; replace b6W := eq_true b6W; replace b6X := eq_true b6X; have c3H : 0 ≤ (a4r : Int) := U9; have c3I : a4r < (l0.length : Int) := U9; obtain ⟨d2F, e3m, e3n, e3o, a8K, b2x, b2y⟩ := a7N HR0.out a4r c3H c3I; obtain rfl : c1A = d2F := (by injection e3o); replace a8K := J9 HB a8K; have d7J := a_ b2y; have d7K := a_ b2x; clear b2y b2x; replace c3H := eq_true c3H; replace c3I := eq_true c3I; have ea_ := oj_ (a5f.symm.trans a8K); injection ea_ with ea_ en_ ec_
      subst ea_; subst ec_; clear en_; have e3p : 0 ≤ (a4r : Int) := U9; have e3q : a4r < (l0.length : Int) := U9; obtain ⟨e8k, g0T, g0U, g0V, b9a, c6n, c6o⟩ := a7N HR0.out a4r e3p e3q; obtain rfl : c1A = e8k := (by injection g0V); replace b9a := J9 HB b9a; have d7L := a_ c6o; have d7M := a_ c6n; clear c6o c6n; replace e3p := eq_true e3p; replace e3q := eq_true e3q; have ea_ := oj_ (a5f.symm.trans b9a); injection ea_ with ea_ en_ ec_
      subst ea_; subst ec_; clear en_
      go_wp2_with (first | (refine gl_ (some 35) Tryd.func57 #[.slice c3F (a0X l0 a4r).length c3G, .bool a2] ?_; (with_reducible refine (P7.calls k1 _ _ (a0X l0 a4r) a2 b89 _ (Kd.E8 d7L.out HB.out) d7M.out A10.out).mono ?_); rintro e w14 ⟨g75, rfl, ho0, hb⟩; refine ⟨_, rfl, ?_⟩; have a9b := rn_ ho0 U4 HB; replace U4 := rR_ U4 ho0 hb; replace HB := Q8 HB hb; (try clear hb); (try clear ho0); obtain ⟨a8L, a8M, d2J⟩ := Kd.H6 a9b.out; subst d2J) | (refine gl_ (some 37) Tryd.func56 #[.slice a8L b89.length a8M, .int .u32 a1] ?_; (with_reducible refine (O8.calls k1 _ _ b89 a1 b7A _ ((Kd.F9 a9b.out).2.2) ((Kd.F9 a9b.out).2.1) A11.out).mono ?_); rintro e w16 ⟨g76, rfl, ho0, hb⟩; refine ⟨_, rfl, ?_⟩; have b4o := a_ (Kd.X3 (Kd.a03 (Kd.a03 ho0 (Kd.U8 U4.out)) (Kd.U8 a9b.out)) (o9 HB.out)); replace U4 := rR_ U4 ho0 hb; replace a9b := rR_ a9b ho0 hb; replace HB := Q8 HB hb; (try clear hb); (try clear ho0); obtain ⟨b35, b36, d2K⟩ := Kd.H6 b4o.out; subst d2K) | ((with_reducible refine D6 (b := .append) (xs := #[.tmp 29, .tmp 37]) rfl ?_); at_builtin; refine Kd.G9 (Kd.int .u8) (w0 := w) w.heap.size rfl (.tmp 29) (.tmp 37) 22 5 (.int .u8 0) 1 rfl Tryd.underlying22 info5 rfl (by decide) (by omega) u8 a1h b7A _ _ _ (fun k_ => some k_ ≠ (.slice a8L b89.length a8M : Value).ownBlock ∧ some k_ ≠ (.slice b35 b7A.length b36 : Value).ownBlock) (fun _ => False) rfl rfl ?aO ?aR (fun _ _ h => h) (fun _ h => h.elim) ?aF ?aB ?aS ?aL ?_; (case aR => exact (Kd.F9 b4o.out).2.2); (case aB => exact HB.out); (case aF => exact (fun k_ hk => ⟨Kd.fresh' (Kd.U8 a9b.out) k_ hk, Kd.fresh' (Kd.U8 b4o.out) k_ hk⟩)); (case aO => exact (by exact Kd.y9 U4.out (fun _ hk => ⟨hk.1.2, hk.2⟩))); (case aS => exact (o9 HB.out)); (case aL => have := b8a.out; omega); intro g0W w17 ho hb hg hat; rw [← e8i.out] at ho; have e0K := a_ ho; replace a9b := a_ (Kd.Q7 (ok := (fun k_ => some k_ ≠ (.slice b35 b7A.length b36 : Value).ownBlock)) (by exact Kd.y9 a9b.out (fun _ hk => ⟨hk.2, hk.1.2⟩)) hg hat); replace b4o := a_ (Kd.Q7 (ok := (fun k_ => some k_ ≠ (.slice a8L b89.length a8M : Value).ownBlock)) (by exact Kd.y9 b4o.out (fun _ hk => ⟨hk.2, hk.1.2⟩)) hg hat); replace HB := a_ hb; clear U4 ho hb hg hat) | ((with_reducible refine D6 (b := .append) (xs := #[.tmp 39, .tmp 40]) rfl ?_); at_builtin; refine Kd.a1F (Kd.int .u8) (w0 := w) w.heap.size rfl (.tmp 39) (.tmp 40) 22 5 (.int .u8 0) 1 rfl Tryd.underlying22 info5 rfl (by decide) (by omega) g0W d2C 126 [.int .u8 126] (fun k_ => some k_ ≠ (.slice a8L b89.length a8M : Value).ownBlock ∧ some k_ ≠ (.slice b35 b7A.length b36 : Value).ownBlock) (fun _ => False) rfl rfl ?aP (fun _ hk => hk.elim) ?aF ?aO ?aB ?aS ?aL ?_; (case aP => exact rfl); (case aB => exact HB.out); (case aF => exact (fun k_ hk => ⟨Kd.fresh' (Kd.U8 a9b.out) k_ hk, Kd.fresh' (Kd.U8 b4o.out) k_ hk⟩)); (case aO => exact e0K.out); (case aS => exact (o9 HB.out)); (case aL => have := d2H.out; omega); intro g77 w19 ho hb hg hat; rw [← e8j.out] at ho; have e8l := a_ ho; replace a9b := a_ (Kd.Q7 (ok := (fun k_ => some k_ ≠ (.slice b35 b7A.length b36 : Value).ownBlock)) a9b.out hg hat); replace b4o := a_ (Kd.Q7 (ok := (fun k_ => some k_ ≠ (.slice a8L b89.length a8M : Value).ownBlock)) b4o.out hg hat); replace HB := a_ hb; clear e0K ho hb hg hat))
      go_roundg k1
      case measure => have := HK1.out; omega
      case rel => exact ⟨(g0S), (wrap64 (a4r + 1)), (by rfl), H', ⟨by have := HK1.out; omega⟩, ⟨by exact Kd.y9 e8l.out (fun _ hk => trivial)⟩, ⟨by exact HB.out⟩⟩
   ·rw [if_neg c6] at H; have a5Y := df_ c6; clear c6; obtain ⟨rfl, rfl⟩ := s2_ H
    go_wp2
    go_ret2
    exact ⟨_, by (rfl), by exact U4.out, by exact HB.out⟩
structure y8.Inv (W : World) (base : Nat) (A : Option Addr) (n c : Nat) (big : Bool) (at_ : Int) (gb ga gg : Nat) : Prop where
 hb : W.heap[gb]? = some (.cells #[.slice A n c] 22 (0, 0))
 ha : W.heap[ga]? = some (.cells #[.int .i64 at_] 3 (0, 0))
 hg : W.heap[gg]? = some (.cells #[.bool big] 4 (0, 0))
 lb : base ≤ gb
 la : base ≤ ga
 lg : base ≤ gg
theorem y8.Inv.keep {W W1 : World} {base : Nat} {A : Option Addr} {n c : Nat} {big : Bool} {at_ : Int} {gb ga gg : Nat} (h : y8.Inv W base A n c big at_ gb ga gg) {g : Nat} (hk : a0J W W1 g none) (h1 : gb ≠ g) (h2 : ga ≠ g) (h3 : gg ≠ g) : y8.Inv W1 base A n c big at_ gb ga gg :=
 ⟨hk.blk h.hb h1 (by simp), hk.blk h.ha h2 (by simp), hk.blk h.hg h3 (by simp), h.lb, h.la, h.lg⟩
theorem y8.Inv.below {W W1 : World} {base : Nat} {A : Option Addr} {n c : Nat} {big : Bool} {at_ : Int} {gb ga gg : Nat} (h : y8.Inv W base A n c big at_ gb ga gg) (hb : Below W.heap.size W W1) : y8.Inv W1 base A n c big at_ gb ga gg :=
 ⟨Q5 h.hb hb, Q5 h.ha hb, Q5 h.hg hb, h.lb, h.la, h.lg⟩
theorem y8.Inv.far {W : World} {base : Nat} {A : Option Addr} {n c : Nat} {big : Bool} {at_ : Int} {gb ga gg : Nat} (h : y8.Inv W base A n c big at_ gb ga gg) {p : Addr} (h1 : gb ≠ p.block) (h2 : ga ≠ p.block) (h3 : gg ≠ p.block) (u : Value) : y8.Inv (W.setCell p u) base A n c big at_ gb ga gg :=
 ⟨E5 h.hb h1 u, E5 h.ha h2 u, E5 h.hg h3 u, h.lb, h.la, h.lg⟩
theorem y8.Inv.lower {W : World} {base base' : Nat} {A : Option Addr} {n c : Nat} {big : Bool} {at_ : Int} {gb ga gg : Nat} (h : y8.Inv W base A n c big at_ gb ga gg) (hb : base' ≤ base) : y8.Inv W base' A n c big at_ gb ga gg :=
 ⟨h.hb, h.ha, h.hg, Nat.le_trans hb h.lb, Nat.le_trans hb h.la, Nat.le_trans hb h.lg⟩
theorem y8.Inv.go {W : World} {base : Nat} {A : Option Addr} {n c : Nat} {big : Bool} {at_ at' : Int} {gb ga gg : Nat} (h : y8.Inv W base A n c big at_ gb ga gg) (nd : Nat) :
  y8.Inv ((W.drewN nd).setCell ⟨ga, 0, none⟩ (.int .i64 at')) base A n c big at' gb ga gg ∧ a0J W ((W.drewN nd).setCell ⟨ga, 0, none⟩ (.int .i64 at')) ga none ∧ (∀ w0 : World, Below w0.heap.size w0 W → w0.heap.size ≤ ga → Below w0.heap.size w0 ((W.drewN nd).setCell ⟨ga, 0, none⟩ (.int .i64 at'))) := by
 have n1 : gb ≠ ga := a4V h.hb h.ha (by decide)
 have n3 : gg ≠ ga := a4V h.hg h.ha (by decide)
 refine ⟨⟨E5 (p := ⟨ga, 0, none⟩) (a0r h.hb nd) n1 _, l9 (a0r h.ha nd) 0 _ rfl, E5 (p := ⟨ga, 0, none⟩) (a0r h.hg nd) n3 _, h.lb, h.la, h.lg⟩, ?_, fun w0 hb hl => o8 (y5 hb nd) hl⟩
 exact (a0J.of_below (y5 (Below.refl _ _) nd) ga none).e6G 0 _
theorem y8.calls (A : Option Addr) (n c : Nat) (big : Bool) (w : World) :
  Calls Tryd.prog 79 #[.slice A n c, .bool big] w fun e w' => ∃ gb ga gg, e = .returned (.func (.func 95) #[] #[.pointer (some ⟨gb, 0, none⟩), .pointer (some ⟨ga, 0, none⟩), .pointer (some ⟨gg, 0, none⟩)]) ∧ y8.Inv w' w.heap.size A n c big 0 gb ga gg ∧ Below w.heap.size w w' := by
 go_enter Tryd.func79, Tryd.ntmps79
 go_wp2
 go_ret
 refine ⟨w.heap.size, w.heap.size + 1 + 1, w.heap.size + 1, rfl, ⟨a7O (a7O (a8n w _) _) _, ?_, ?_, by omega, by omega, by omega⟩, Z7 (Z7 (Z7 (Below.refl _ _) _) _) _⟩
 ·have h := a8n ((w.alloc (.cells #[.slice A n c] 22)).alloc (.cells #[.bool big] 4)) (.cells #[.int .i64 0] 3)
  simpa using h
 ·refine a7O ?_ _; have h := a8n (w.alloc (.cells #[.slice A n c] 22)) (.cells #[.bool big] 4)
  simpa using h
def y8.num (k : Nat) (l : List Int) (big : Bool) (at_ size : Int) : Option Int := (a0i.f k ((l.take (at_ + size).toNat).drop at_.toNat) big).bind fun t => some (t.1 % 4294967296)
theorem y8.next (k : Nat) (A : Option Addr) (l : List Int) (c : Nat) (big : Bool) (at_ size : Int) (r : Int) (base gb ga gg : Nat) (W : World) (hI : y8.Inv W base A l.length c big at_ gb ga gg) (hC : Kd.C (Kd.int .u8) W A l.length l) (hc : l.length ≤ c) (h0 : 0 ≤ at_) (h1 : 0 ≤ size) (h2 : at_ + size ≤ l.length) (h : y8.num k l big at_ size = some r) :
  Calls Tryd.prog 95 #[.int .i64 size, .pointer (some ⟨gb, 0, none⟩), .pointer (some ⟨ga, 0, none⟩), .pointer (some ⟨gg, 0, none⟩)] W fun e w' => e = .returned (.int .u32 r) ∧ y8.Inv w' base A l.length c big (at_ + size) gb ga gg ∧ a0J W w' ga none ∧ (∀ w0 : World, Below w0.heap.size w0 W → w0.heap.size ≤ ga → Below w0.heap.size w0 w') := by
 obtain ⟨⟨t1, t2⟩, hg, hr⟩ := Option.bind_eq_some_iff.1 h
 have hr' : t1 % 4294967296 = r := oj_ hr
 have hm := hC.2.1
 have hc1 : W.cell? ⟨gb, 0, none⟩ = some (.slice A l.length c) := (D8 hI.hb 0).trans rfl
 have hc2 : W.cell? ⟨ga, 0, none⟩ = some (.int .i64 at_) := (D8 hI.ha 0).trans rfl
 have hc3 : W.cell? ⟨gg, 0, none⟩ = some (.bool big) := (D8 hI.hg 0).trans rfl
 have hf2 : W.frozen? ⟨ga, 0, none⟩ = false := l7 hI.ha 0
 obtain ⟨i0, hi0, _, hsz, _⟩ := info_parts info5
 obtain ⟨A8, hcut, hA8, hC8⟩ := b1T (P := Tryd.prog) (Value.int .u8) 0 22 5 .i64 .i64 Tryd.underlying22 hi0 hsz A c l at_ (at_ + size) h0 (by omega) h2 hc
 have HR := a_ (Kd.a2a (h1 := fun _ => rfl) (hA8 _ (Kd.a1L hC)))
 have HC := a_ hC8
 have HG := a_ hg
 have HE := a_ hr'
 have HI := a_ hI
 have hlen : ((l.take (at_ + size).toNat).drop at_.toNat).length = (at_ + size).toNat - at_.toNat := by
  rw [List.length_drop, List.length_take]
  omega
 have g0X : Aside0 (∀ a : Nat, Calls Tryd.prog 83 #[.slice A8 ((at_ + size).toNat - at_.toNat) (c - at_.toNat), .bool big] (W.drewN a) fun e w' => e = .returned (.tuple #[.int .u64 t1, .bool t2]) ∧ ∃ m, w' = W.drewN m) := ⟨fun a => by
  rw [← hlen]; exact Calls.quiet_of ((a0i.calls k _ _ ((l.take (at_ + size).toNat).drop at_.toNat) big t1 t2 _ (Kd.a8q HR.out a) HC.out HG.out).mono fun _ _ h => ⟨h.1, h.2.out⟩)⟩
 have hw : IntKind.i64.wrap (at_ + size) = at_ + size := IntWalk.i64_in _ (by omega)
 clear hI hC hc h hr hr' hg hA8 hC8 hi0 hsz hlen
 go_enter Tryd.func95, Tryd.ntmps95
 go_wp2
 go_quiet ((go_at_call 83; exact g0X.out _))
 go_wp2
 go_ret
 refine ⟨by rw [← HE.out]; rfl, HI.out.go nq⟩
theorem y8.range {k : Nat} {l : List Int} {big : Bool} {at_ size r : Int} (h : y8.num k l big at_ size = some r) : 0 ≤ r ∧ r < 4294967296 := by
 obtain ⟨t, _, hr⟩ := Option.bind_eq_some_iff.1 h
 have := oj_ hr
 omega
end Go.Proofs.YtgnonglkibhnhaaDoor.Print
