import Derived.Test.YtgnonglkibhnhaaDoorZ
import Derived.Test.YtgnonglkibhnhaaDoorM3
import Derived.Test.YtgnonglkibhnhaaDoorM4
namespace Go.Proofs.YtgnonglkibhnhaaDoor.Print
open Go.RowKit Go.Proofs.YtgnonglkibhnhaaDoorW.PrintWords Go.Proofs.YtgnonglkibhnhaaDoorW.PrintLast Go.Proofs.YtgnonglkibhnhaaDoorW.PrintMore
attribute [local go_sem] a0u a0v a1m a1n Y7 Y8 a0w a0x
set_option linter.unusedVariables false
set_option linter.unusedSimpArgs false

/-! ### pcap_Put: function 54 -/
mutual
def pcap_Put.j0 : Nat → List (S51) → Int → Bool → Bool → Int → Int → Option (List Int × Int)
 | 0, _, _, _, _, _, _ => none
 | k + 1, x1, x6, b0M, c2S, b7u, b7v => (a0H.f k b0M 4 ([x6] : List Int)).bind fun b6J => ((a0H.f k b0M 2 ([2, 4] : List Int)).bind fun b9c => ((a0H.f k b0M 4 ([0, 0, b7u, b7v] : List Int)).bind fun b93 => ((x9.f ([b6J, b9c, b93] : List (List Int))).bind fun d6Q => (pcap_Put.l0 k d6Q x1 (x1.length : Int) 0 b0M c2S b7u b7v))))
def pcap_Put.l0 : Nat → List Int → List (S51) → Int → Int → Bool → Bool → Int → Int → Option (List Int × Int)
 | 0, _, _, _, _, _, _, _, _ => none
 | k + 1, x7, x31, x32, x33, b0M, c2S, b7u, b7v => if x33 < x32 then (if 0 ≤ x33 then (if x33 < (x31.length : Int) then (if (((y9 x31 x33).f3).length : Int) > 131072 then (some (([] : List Int), 4)) else ((a0H.f k b0M 4 (([(y9 x31 x33).f0, (y9 x31 x33).f1, ((((y9 x31 x33).f3).length : Int)) % 4294967296, (y9 x31 x33).f2] : List Int))).bind fun c5M => (if x7.length + c5M.length < 140737488355328 then ((some (x7 ++ c5M : List Int)).bind fun d6S => (if d6S.length + ((y9 x31 x33).f3).length < 140737488355328 then (pcap_Put.l0 k (d6S ++ ((y9 x31 x33).f3)) x31 x32 (wrap64 (x33 + 1)) b0M c2S b7u b7v) else (none))) else (none)))) else (none)) else (none)) else (some (x7, 0))
end
def pcap_Put.f (k : Nat) (N7 : Bool) (a0b : Bool) (a2p : Int) (a2q : Int) (l1 : List (S51)) : Option (List Int × Int) := if a0b = true then (pcap_Put.j0 k l1 2712812621 N7 a0b a2p a2q) else (pcap_Put.j0 k l1 2712847316 N7 a0b a2p a2q)
def pcap_Put.T4 : Bool × List (List Nat × List Nat) := (true, [([], []), ([0], [0]), ([], []), ([2], [2]), ([1, 3], [1, 3]), ([], []), ([5], [5]), ([], []), ([6, 7, 4], [6, 7]), ([], []), ([9], [9]), ([], []), ([11], [11]), ([], []), ([13], [13]), ([12, 14], [12, 14]), ([10, 15, 8], [10, 15]), ([4, 8, 16], [4, 8, 16]), ([17, 16], [17]), ([18, 18, 0, 1, 2, 3, 4, 5, 6, 7, 8, 9, 10, 11, 12, 13, 14, 15, 16, 17, 18], [18])])
def pcap_Put.B4 : List Nat := [0, 1, 0, 4, 15, 0, 32, 0, 255, 0, 512, 0, 2048, 0, 8192, 30720, 65535, 131071, 262143, 524287]
theorem pcap_Put.e7S : a2N .any (opsOf Tryd.f54 4) = pcap_Put.T4 := by kernel_rfl
theorem pcap_Put.d41 : a2t pcap_Put.T4.2 pcap_Put.B4 = true := by kernel_rfl
set_option maxHeartbeats 8000000 in
set_option maxRecDepth 100000 in
theorem pcap_Put.calls (k : Nat) (N7 : Bool) (a0b : Bool) (a2p : Int) (a2q : Int) (A1 : Option Addr) (c1 : Nat) (l1 : List (S51)) (r1 : List Int) (r2 : Int) (w : World) (hr1 : Kd.C k51 w A1 l1.length l1) (hc1 : l1.length ≤ c1) (h : pcap_Put.f k N7 a0b a2p a2q l1 = some (r1, r2)) :
  Calls Tryd.prog 54 #[.agg #[.bool N7, .bool a0b, .int .u32 a2p, .int .u32 a2q], .slice A1 l1.length c1] w fun e w' => ∃ v0_ : Value, e = .returned (.tuple #[v0_, .int .i64 r2]) ∧ Kd.R (Kd.int .u8) 5 w' w.heap.size (fun _ => True) v0_ r1 ∧ Below w.heap.size w w' := by
 have c39 := Tryd.underlying46
 have d4I := Tryd.underlying51
 have HR1 := a_ hr1
 have HC1 := a_ hc1
 clear hr1 hc1
 have HB := a_ (Below.refl w.heap.size w)
 have H := h
 clear h
 unfold pcap_Put.f at H
 have HC3 := a_ H
 clear H
 go_enter Tryd.func54, Tryd.ntmps54
 go_upto_if 11 with (first | (refine be_ 2 #[.bool N7, .bool a0b, .int .u32 a2p, .int .u32 a2q] 46 ?_; intro a1N hg w4 hbox hb; have L8 := a_ hbox; have h4g := lb_ HB hg; replace HB := W9 HB hb; clear hb hbox hg; obtain ⟨b5x, b5y, b5z, c2O, b5A, b5B, b5C, c2P⟩ := blk4 L8.out))
 go_cut [6] (fun v6 wc => ∃ (kq : Nat) (b3f : Int), v6 = .int .u32 b3f ∧ Aside0 (pcap_Put.j0 kq l1 b3f N7 a0b a2p a2q = some (r1, r2)) ∧ Aside0 (kq ≤ k) ∧ Aside0 (wc.heap[a1N]? = some (.cells #[.bool N7, .bool a0b, .int .u32 a2p, .int .u32 a2q] 46 (0, 0))) ∧ Aside0 (Below w.heap.size w wc))
 case first =>
  have H := HC3.out
  clear HC3
  by_cases c6 : a0b = true
  ·subst c6
   rw [if_pos rfl] at H
   have H' := a_ H
   clear H
   go_wp2
   go_meet
   case rel => exact ⟨_, (2712812621), (by rfl), H', ⟨by (omega)⟩, ⟨by exact L8.out⟩, ⟨by exact HB.out⟩⟩
  ·cases nt_ c6
   rw [if_neg a5a] at H
   have H' := a_ H
   clear H
   go_wp2
   go_meet
   case rel => exact ⟨_, (2712847316), (by rfl), H', ⟨by (omega)⟩, ⟨by exact L8.out⟩, ⟨by exact HB.out⟩⟩
 case rest =>
  clear HC3
  try clear b5x
  try clear b5y
  try clear b5z
  try clear c2O
  try clear b5A
  try clear b5B
  try clear b5C
  try clear c2P
  obtain ⟨kq, b3f, rfl, HA, HJ2, L8, HB⟩ := hcut
  cases kq with
  | zero => exact absurd HA.out (by simp [pcap_Put.j0])
  | succ kj2 =>
   have H := HA.out
   clear HA
   simp only [pcap_Put.j0] at H
   obtain ⟨d2h, d6T⟩ := is_ (([b3f] : List Int))
   rw [← d6T] at H
   have f7V := a_ d6T
   clear d6T
   replace H := Option.bind_eq_some_iff.mp H
   obtain ⟨b6J, A70, H⟩ := H
   try dsimp only at H
   have A7 := a_ A70
   clear A70
   obtain ⟨c7L, d6U⟩ := is_ (([2, 4] : List Int))
   rw [← d6U] at H
   have f7W := a_ d6U
   clear d6U
   replace H := Option.bind_eq_some_iff.mp H
   obtain ⟨b9c, A80, H⟩ := H
   try dsimp only at H
   have A8 := a_ A80
   clear A80
   obtain ⟨c5N, d6V⟩ := is_ (([0, 0, a2p, a2q] : List Int))
   rw [← d6V] at H
   have f7X := a_ d6V
   clear d6V
   replace H := Option.bind_eq_some_iff.mp H
   obtain ⟨b93, A90, H⟩ := H
   try dsimp only at H
   have A9 := a_ A90
   clear A90
   obtain ⟨e2s, d6W⟩ := is_ (([b6J, b9c, b93] : List (List Int)))
   rw [← d6W] at H
   have f7Y := a_ d6W
   clear d6W
   replace H := Option.bind_eq_some_iff.mp H
   obtain ⟨d6Q, b7N, H⟩ := H
   try dsimp only at H
   have A10 := a_ b7N
   clear b7N
   have H' := a_ H
   clear H
   try go_wp2
   replace L8 := a_ (L9 L8.out)
   replace HB := a_ (D7 HB.out)
   refine a4n (n := 20) (S := fun w' => True) (ds := []) (bo_ 20 0) (by kernel_rfl) rfl rfl trivial (fun hHeld => ?_); refine a3g pcap_Put.e7S pcap_Put.d41 (fun X5 HW_ => ?_)
   generalize wc.drew = w11 at L8 HB hHeld ⊢
   refine pu_ 0 (some 12) X5 ?_
   refine pu_ 2 (some 14) X5 ?_
   refine pu_ 5 (some 17) X5 ?_
   refine pu_ 9 (some 21) X5 ?_
   refine pu_ 11 (some 23) X5 ?_
   refine pu_ 13 (some 25) X5 ?_
   refine e6Y [1, 3, 4, 6, 7, 8, 10, 12, 14, 15, 16, 17, 18, 19] (fun a0_ b a w' => ∃ (a3o : Value) (a5m : Value) (a3e : Value) (a5C : Value) (a2X : Value) (a5O : Value) (a5P : Value) (a4O : Value) (a6s : Value), a = a3t a0_ b [(1, 13, .bool N7), (3, 15, a3o), (4, 16, a5m), (6, 18, .bool N7), (7, 19, a3e), (8, 20, a5C), (10, 22, .bool N7), (12, 24, .int .u32 a2p), (14, 26, .int .u32 a2q), (15, 27, a2X), (16, 28, a5O), (17, 29, a5P), (18, 30, a4O), (19, 7, a6s)] ∧ (w'.heap[a1N]? = some (.cells #[.bool N7, .bool a0b, .int .u32 a2p, .int .u32 a2q] 46 (0, 0))) ∧ (Below w.heap.size w w') ∧ (b 3 = true → Kd.R (Kd.int .u32) 23 w' w.heap.size (fun _ => True) a3o d2h) ∧ (b 4 = true → b 17 = false → Kd.R (Kd.int .u8) 5 w' w.heap.size (fun _ => True) a5m b6J) ∧ (b 7 = true → Kd.R (Kd.int .u32) 23 w' w.heap.size (fun _ => True) a3e c7L) ∧ (b 8 = true → b 17 = false → Kd.R (Kd.int .u8) 5 w' w.heap.size (fun _ => True) a5C b9c) ∧ (b 15 = true → Kd.R (Kd.int .u32) 23 w' w.heap.size (fun _ => True) a2X c5N) ∧ (b 16 = true → b 17 = false → Kd.R (Kd.int .u8) 5 w' w.heap.size (fun _ => True) a5O b93) ∧ (b 17 = true → Kd.N (Kd.slice 5 (Kd.int .u8)) 22 w' w.heap.size (fun k_ => k_ ≠ a1N) a5P e2s) ∧ (b 18 = true → Kd.R (Kd.int .u8) 5 w' w.heap.size (fun _ => True) a4O d6Q) ∧ (b 19 = true → (a6s : Value) = a4O)) X5.out HW_.out (by kernel_rfl) (by kernel_rfl) ?_ ?_ ?_
   ·exact ⟨.bool false, .bool false, .bool false, .bool false, .bool false, .bool false, .bool false, .bool false, .bool false, by simp only [a3t, Bool.false_eq_true, if_false], L8.out, HB.out, fun h_ => absurd h_ (by decide), fun h_ => absurd h_ (by decide), fun h_ => absurd h_ (by decide), fun h_ => absurd h_ (by decide), fun h_ => absurd h_ (by decide), fun h_ => absurd h_ (by decide), fun h_ => absurd h_ (by decide), fun h_ => absurd h_ (by decide), fun h_ => absurd h_ (by decide)⟩
   ·skip
    clear L8 HB
    refine a1I ?_ ?_
    ·rintro b a w' ⟨a3o, a5m, a3e, a5C, a2X, a5O, a5P, a4O, a6s, ha, Y4, a4V, a0E, a1y, a0F, a2b, a0Q, a3M, a2w, a2W, a6f⟩ hb_ hon hoff
     refine ⟨_, rfl, fun K hK => ?_⟩
     have e12 : a.tmps[12]? = some (.pointer (some ⟨a1N, 0, none⟩)) := by rw [ha]; exact (a4o rfl).trans rfl
     replace ha := a_ ha
     have L8 := a_ Y4
     have HB := a_ a4V
     have e2t : w'.cell? ⟨a1N, 0, none⟩ = some (.bool N7) := bc0 L8
     have e2u : w'.cell? ⟨a1N, 1, none⟩ = some (.bool a0b) := bc1 L8
     have b88 : w'.cell? ⟨a1N, 2, none⟩ = some (.int .u32 a2p) := bc2 L8
     have e2v : w'.cell? ⟨a1N, 3, none⟩ = some (.int .u32 a2q) := bc3 L8
     refine b5e (w1 := w') (v := .bool N7) (by rfl) rfl ?_ ?_
     ·go_simp
     refine hK.out _ _ ⟨a3o, a5m, a3e, a5C, a2X, a5O, a5P, a4O, a6s, (by rw [ha.out]; exact a1J 0 hb_ rfl rfl rfl), Y4, a4V, a0E, ab_ (hoff 4 (by kernel_rfl)), a0F, ab_ (hoff 8 (by kernel_rfl)), a0Q, ab_ (hoff 16 (by kernel_rfl)), ab_ (hoff 17 (by kernel_rfl)), ab_ (hoff 18 (by kernel_rfl)), ab_ (hoff 19 (by kernel_rfl))⟩
    refine a1I ?_ ?_
    ·rintro b a w' ⟨a3o, a5m, a3e, a5C, a2X, a5O, a5P, a4O, a6s, ha, Y4, a4V, a0E, a1y, a0F, a2b, a0Q, a3M, a2w, a2W, a6f⟩ hb_ hon hoff
     refine ⟨_, rfl, fun K hK => ?_⟩
     have e14 : a.tmps[14]? = some (.int .u32 b3f) := by rw [ha]; exact (a4o rfl).trans rfl
     replace ha := a_ ha
     have L8 := a_ Y4
     have HB := a_ a4V
     refine Kd.a7p (Kd.int .u32) _ 23 ?hg (N := 15) ?hd (xs := ([b3f] : List Int)) (inner := [.int .u32 b3f]) (ok := fun _ => True) (okp := fun _ => True) ?hr ?hp (fun _ hk => hk) trivial (Below.refl _ _) (Nat.le_refl _) (by simp) ?_; (case hd => rfl); (case hg => rfl); (case hr => (go_simp; done)); (case hp => exact (N9.one (show Kd.M (Kd.int .u32) _ _ _ b3f [.int .u32 b3f] from rfl) (N9.none _ _)))
     intro a3o w12 b1G hb hg_ a1q
     clear hg_ a1q
     rw [← f7V.out] at b1G
     have n0_ := rl_ b1G HB
     have n1_ := U5 L8 hb
     have n2_ := W9 HB hb
     have b4C := fun (h0_ : b 7 = true) => (show Kd.R (Kd.int .u32) 23 w12 w.heap.size (fun _ => True) a3e c7L from by (exact Kd.D8 (Kd.a3P (by exact (a0F h0_)) (Kd.a0n b1G) hb) (fun _ h_ => by (trivial))))
     have b0N := fun (h0_ : b 15 = true) => (show Kd.R (Kd.int .u32) 23 w12 w.heap.size (fun _ => True) a2X c5N from by (exact Kd.D8 (Kd.a3P (by exact (a0Q h0_)) (Kd.a0n b1G) hb) (fun _ h_ => by (trivial))))
     clear L8
     clear HB
     have a2f := n0_
     have L8 := n1_
     have HB := n2_
     clear n0_ n1_ n2_
     clear hb b1G
     refine hK.out _ _ ⟨a3o, a5m, a3e, a5C, a2X, a5O, a5P, a4O, a6s, (by rw [ha.out]; exact a1J 1 hb_ rfl rfl rfl), L8.out, HB.out, fun _ => a2f.out, ab_ (hoff 4 (by kernel_rfl)), b4C, ab_ (hoff 8 (by kernel_rfl)), b0N, ab_ (hoff 16 (by kernel_rfl)), ab_ (hoff 17 (by kernel_rfl)), ab_ (hoff 18 (by kernel_rfl)), ab_ (hoff 19 (by kernel_rfl))⟩
    refine a1I ?_ ?_
    ·rintro b a w' ⟨a3o, a5m, a3e, a5C, a2X, a5O, a5P, a4O, a6s, ha, Y4, a4V, a0E, a1y, a0F, a2b, a0Q, a3M, a2w, a2W, a6f⟩ hb_ hon hoff
     refine ⟨_, rfl, fun K hK => ?_⟩
     have e13 : a.tmps[13]? = some (.bool N7) := by rw [ha]; exact a2j (e := (1, 13, .bool N7)) 0 rfl rfl (hon 1 (by kernel_rfl)) rfl
     have e15 : a.tmps[15]? = some (a3o) := by rw [ha]; exact a2j (e := (3, 15, a3o)) 1 rfl rfl (hon 3 (by kernel_rfl)) rfl
     replace ha := a_ ha
     have L8 := a_ Y4
     have HB := a_ a4V
     have a2f := a_ (a0E (hon 3 (by kernel_rfl)))
     obtain ⟨b5p, b5q, e8f⟩ := Kd.J4 a2f.out
     subst e8f
     refine a4y Tryd.func74 (by kernel_rfl) rfl #[.bool N7, .int .i64 4, .slice b5p d2h.length b5q] (by rfl) rfl rfl (by (simp only [List.map_toArray, List.map_cons, List.map_nil, Act.eval, Array.getD_eq_getD_getElem?, Option.getD_some, e13, e15]; done)) ?_
     with_reducible refine (a0H.calls kj2 N7 4 _ _ d2h b6J _ ?Q5 ?Q7 A7.out).mono ?_
     (case Q5 => exact (Kd.G5 a2f.out).2.2)
     (case Q7 => exact (Kd.G5 a2f.out).2.1)
     rintro e w16 ⟨a5m, rfl, ho0, hb⟩
     refine ⟨_, rfl, ?_⟩
     have n0_ := rb_ a2f hb
     have n1_ := rl_ ho0 HB
     have n2_ := U5 L8 hb
     have n3_ := W9 HB hb
     have b4C := fun (h0_ : b 7 = true) => (show Kd.R (Kd.int .u32) 23 w16 w.heap.size (fun _ => True) a3e c7L from by (exact (Kd.a1Y (by exact (a0F h0_)) hb)))
     have b0N := fun (h0_ : b 15 = true) => (show Kd.R (Kd.int .u32) 23 w16 w.heap.size (fun _ => True) a2X c5N from by (exact (Kd.a1Y (by exact (a0Q h0_)) hb)))
     clear a2f
     clear L8
     clear HB
     have a2f := n0_
     have a7T := n1_
     have L8 := n2_
     have HB := n3_
     clear n0_ n1_ n2_ n3_
     (try clear hb)
     (try clear ho0)
     refine hK.out _ _ ⟨.slice b5p d2h.length b5q, a5m, a3e, a5C, a2X, a5O, a5P, a4O, a6s, (by rw [ha.out]; exact a1J 2 hb_ rfl rfl rfl), L8.out, HB.out, fun _ => a2f.out, fun _ _ => a7T.out, b4C, ab_ (hoff 8 (by kernel_rfl)), b0N, ab_ (hoff 16 (by kernel_rfl)), ab_ (hoff 17 (by kernel_rfl)), ab_ (hoff 18 (by kernel_rfl)), ab_ (hoff 19 (by kernel_rfl))⟩
    refine a1I ?_ ?_
    ·rintro b a w' ⟨a3o, a5m, a3e, a5C, a2X, a5O, a5P, a4O, a6s, ha, Y4, a4V, a0E, a1y, a0F, a2b, a0Q, a3M, a2w, a2W, a6f⟩ hb_ hon hoff
     refine ⟨_, rfl, fun K hK => ?_⟩
     have e17 : a.tmps[17]? = some (.pointer (some ⟨a1N, 0, none⟩)) := by rw [ha]; exact (a4o rfl).trans rfl
     replace ha := a_ ha
     have L8 := a_ Y4
     have HB := a_ a4V
     have e2t : w'.cell? ⟨a1N, 0, none⟩ = some (.bool N7) := bc0 L8
     have e2u : w'.cell? ⟨a1N, 1, none⟩ = some (.bool a0b) := bc1 L8
     have b88 : w'.cell? ⟨a1N, 2, none⟩ = some (.int .u32 a2p) := bc2 L8
     have e2v : w'.cell? ⟨a1N, 3, none⟩ = some (.int .u32 a2q) := bc3 L8
     refine b5e (w1 := w') (v := .bool N7) (by rfl) rfl ?_ ?_
     ·go_simp
     refine hK.out _ _ ⟨a3o, a5m, a3e, a5C, a2X, a5O, a5P, a4O, a6s, (by rw [ha.out]; exact a1J 3 hb_ rfl rfl rfl), Y4, a4V, a0E, a1y, a0F, ab_ (hoff 8 (by kernel_rfl)), a0Q, ab_ (hoff 16 (by kernel_rfl)), ab_ (hoff 17 (by kernel_rfl)), ab_ (hoff 18 (by kernel_rfl)), ab_ (hoff 19 (by kernel_rfl))⟩
    refine a1I ?_ ?_
    ·rintro b a w' ⟨a3o, a5m, a3e, a5C, a2X, a5O, a5P, a4O, a6s, ha, Y4, a4V, a0E, a1y, a0F, a2b, a0Q, a3M, a2w, a2W, a6f⟩ hb_ hon hoff
     refine ⟨_, rfl, fun K hK => ?_⟩
     replace ha := a_ ha
     have L8 := a_ Y4
     have HB := a_ a4V
     refine Kd.a7p (Kd.int .u32) _ 23 ?hg (N := 19) ?hd (xs := ([2, 4] : List Int)) (inner := [.int .u32 2, .int .u32 4]) (ok := fun _ => True) (okp := fun _ => True) ?hr ?hp (fun _ hk => hk) trivial (Below.refl _ _) (Nat.le_refl _) (by simp) ?_; (case hd => rfl); (case hg => rfl); (case hr => (go_simp; done)); (case hp => exact (N9.one (show Kd.M (Kd.int .u32) _ _ _ 2 [.int .u32 2] from rfl) (N9.one (show Kd.M (Kd.int .u32) _ _ _ 4 [.int .u32 4] from rfl) (N9.none _ _))))
     intro a3e w12 b1G hb hg_ a1q
     clear hg_ a1q
     rw [← f7W.out] at b1G
     have n0_ := rl_ b1G HB
     have n1_ := U5 L8 hb
     have n2_ := W9 HB hb
     have c2T := fun (h0_ : b 3 = true) => (show Kd.R (Kd.int .u32) 23 w12 w.heap.size (fun _ => True) a3o d2h from by (exact Kd.D8 (Kd.a3P (by exact (a0E h0_)) (Kd.a0n b1G) hb) (fun _ h_ => by (trivial))))
     have c2V := fun (h0_ : b 4 = true) (h1_ : b 17 = false) => (show Kd.R (Kd.int .u8) 5 w12 w.heap.size (fun _ => True) a5m b6J from by (exact (Kd.a1Y (by exact (a1y h0_ h1_)) hb)))
     have b0N := fun (h0_ : b 15 = true) => (show Kd.R (Kd.int .u32) 23 w12 w.heap.size (fun _ => True) a2X c5N from by (exact Kd.D8 (Kd.a3P (by exact (a0Q h0_)) (Kd.a0n b1G) hb) (fun _ h_ => by (trivial))))
     clear L8
     clear HB
     have a3c := n0_
     have L8 := n1_
     have HB := n2_
     clear n0_ n1_ n2_
     clear hb b1G
     refine hK.out _ _ ⟨a3o, a5m, a3e, a5C, a2X, a5O, a5P, a4O, a6s, (by rw [ha.out]; exact a1J 4 hb_ rfl rfl rfl), L8.out, HB.out, c2T, c2V, fun _ => a3c.out, ab_ (hoff 8 (by kernel_rfl)), b0N, ab_ (hoff 16 (by kernel_rfl)), ab_ (hoff 17 (by kernel_rfl)), ab_ (hoff 18 (by kernel_rfl)), ab_ (hoff 19 (by kernel_rfl))⟩
    refine a1I ?_ ?_
    ·rintro b a w' ⟨a3o, a5m, a3e, a5C, a2X, a5O, a5P, a4O, a6s, ha, Y4, a4V, a0E, a1y, a0F, a2b, a0Q, a3M, a2w, a2W, a6f⟩ hb_ hon hoff
     refine ⟨_, rfl, fun K hK => ?_⟩
     have e18 : a.tmps[18]? = some (.bool N7) := by rw [ha]; exact a2j (e := (6, 18, .bool N7)) 3 rfl rfl (hon 6 (by kernel_rfl)) rfl
     have e19 : a.tmps[19]? = some (a3e) := by rw [ha]; exact a2j (e := (7, 19, a3e)) 4 rfl rfl (hon 7 (by kernel_rfl)) rfl
     replace ha := a_ ha
     have L8 := a_ Y4
     have HB := a_ a4V
     have a2f := a_ (a0E (hon 3 (by kernel_rfl)))
     have a7T := a_ (a1y (hon 4 (by kernel_rfl)) (hoff 17 (by kernel_rfl)))
     have a3c := a_ (a0F (hon 7 (by kernel_rfl)))
     obtain ⟨b1g, b1h, d5j⟩ := Kd.J4 a3c.out
     subst d5j
     refine a4y Tryd.func74 (by kernel_rfl) rfl #[.bool N7, .int .i64 2, .slice b1g c7L.length b1h] (by rfl) rfl rfl (by (simp only [List.map_toArray, List.map_cons, List.map_nil, Act.eval, Array.getD_eq_getD_getElem?, Option.getD_some, e18, e19]; done)) ?_
     with_reducible refine (a0H.calls kj2 N7 2 _ _ c7L b9c _ ?Q5 ?Q7 A8.out).mono ?_
     (case Q5 => exact (Kd.G5 a3c.out).2.2)
     (case Q7 => exact (Kd.G5 a3c.out).2.1)
     rintro e w20 ⟨a5C, rfl, ho0, hb⟩
     refine ⟨_, rfl, ?_⟩
     have n0_ := rb_ a2f hb
     have n1_ := rR_ a7T ho0 hb
     have n2_ := rb_ a3c hb
     have n3_ := rn_ ho0 a7T HB
     have n4_ := U5 L8 hb
     have n5_ := W9 HB hb
     have b0N := fun (h0_ : b 15 = true) => (show Kd.R (Kd.int .u32) 23 w20 w.heap.size (fun _ => True) a2X c5N from by (exact (Kd.a1Y (by exact (a0Q h0_)) hb)))
     clear a2f
     clear a7T
     clear a3c
     clear L8
     clear HB
     have a2f := n0_
     have a7T := n1_
     have a3c := n2_
     have b1H := n3_
     have L8 := n4_
     have HB := n5_
     clear n0_ n1_ n2_ n3_ n4_ n5_
     (try clear hb)
     (try clear ho0)
     refine hK.out _ _ ⟨a3o, a5m, .slice b1g c7L.length b1h, a5C, a2X, a5O, a5P, a4O, a6s, (by rw [ha.out]; exact a1J 5 hb_ rfl rfl rfl), L8.out, HB.out, fun _ => a2f.out, fun _ _ => (by (exact Kd.D8 a7T.out (fun _ hk => trivial))), fun _ => a3c.out, fun _ _ => (by (exact Kd.D8 b1H.out (fun _ hk => trivial))), b0N, ab_ (hoff 16 (by kernel_rfl)), ab_ (hoff 17 (by kernel_rfl)), ab_ (hoff 18 (by kernel_rfl)), ab_ (hoff 19 (by kernel_rfl))⟩
    refine a1I ?_ ?_
    ·rintro b a w' ⟨a3o, a5m, a3e, a5C, a2X, a5O, a5P, a4O, a6s, ha, Y4, a4V, a0E, a1y, a0F, a2b, a0Q, a3M, a2w, a2W, a6f⟩ hb_ hon hoff
     refine ⟨_, rfl, fun K hK => ?_⟩
     have e21 : a.tmps[21]? = some (.pointer (some ⟨a1N, 0, none⟩)) := by rw [ha]; exact (a4o rfl).trans rfl
     replace ha := a_ ha
     have L8 := a_ Y4
     have HB := a_ a4V
     have e2t : w'.cell? ⟨a1N, 0, none⟩ = some (.bool N7) := bc0 L8
     have e2u : w'.cell? ⟨a1N, 1, none⟩ = some (.bool a0b) := bc1 L8
     have b88 : w'.cell? ⟨a1N, 2, none⟩ = some (.int .u32 a2p) := bc2 L8
     have e2v : w'.cell? ⟨a1N, 3, none⟩ = some (.int .u32 a2q) := bc3 L8
     refine b5e (w1 := w') (v := .bool N7) (by rfl) rfl ?_ ?_
     ·go_simp
     refine hK.out _ _ ⟨a3o, a5m, a3e, a5C, a2X, a5O, a5P, a4O, a6s, (by rw [ha.out]; exact a1J 6 hb_ rfl rfl rfl), Y4, a4V, a0E, a1y, a0F, a2b, a0Q, ab_ (hoff 16 (by kernel_rfl)), ab_ (hoff 17 (by kernel_rfl)), ab_ (hoff 18 (by kernel_rfl)), ab_ (hoff 19 (by kernel_rfl))⟩
    refine a1I ?_ ?_
    ·rintro b a w' ⟨a3o, a5m, a3e, a5C, a2X, a5O, a5P, a4O, a6s, ha, Y4, a4V, a0E, a1y, a0F, a2b, a0Q, a3M, a2w, a2W, a6f⟩ hb_ hon hoff
     refine ⟨_, rfl, fun K hK => ?_⟩
     have e23 : a.tmps[23]? = some (.pointer (some ⟨a1N, 2, none⟩)) := by rw [ha]; exact (a4o rfl).trans rfl
     replace ha := a_ ha
     have L8 := a_ Y4
     have HB := a_ a4V
     have e2t : w'.cell? ⟨a1N, 0, none⟩ = some (.bool N7) := bc0 L8
     have e2u : w'.cell? ⟨a1N, 1, none⟩ = some (.bool a0b) := bc1 L8
     have b88 : w'.cell? ⟨a1N, 2, none⟩ = some (.int .u32 a2p) := bc2 L8
     have e2v : w'.cell? ⟨a1N, 3, none⟩ = some (.int .u32 a2q) := bc3 L8
     refine b5e (w1 := w') (v := .int .u32 a2p) (by rfl) rfl ?_ ?_
     ·go_simp
     refine hK.out _ _ ⟨a3o, a5m, a3e, a5C, a2X, a5O, a5P, a4O, a6s, (by rw [ha.out]; exact a1J 7 hb_ rfl rfl rfl), Y4, a4V, a0E, a1y, a0F, a2b, ab_ (hoff 15 (by kernel_rfl)), ab_ (hoff 16 (by kernel_rfl)), ab_ (hoff 17 (by kernel_rfl)), ab_ (hoff 18 (by kernel_rfl)), ab_ (hoff 19 (by kernel_rfl))⟩
    refine a1I ?_ ?_
    ·rintro b a w' ⟨a3o, a5m, a3e, a5C, a2X, a5O, a5P, a4O, a6s, ha, Y4, a4V, a0E, a1y, a0F, a2b, a0Q, a3M, a2w, a2W, a6f⟩ hb_ hon hoff
     refine ⟨_, rfl, fun K hK => ?_⟩
     have e25 : a.tmps[25]? = some (.pointer (some ⟨a1N, 3, none⟩)) := by rw [ha]; exact (a4o rfl).trans rfl
     replace ha := a_ ha
     have L8 := a_ Y4
     have HB := a_ a4V
     have e2t : w'.cell? ⟨a1N, 0, none⟩ = some (.bool N7) := bc0 L8
     have e2u : w'.cell? ⟨a1N, 1, none⟩ = some (.bool a0b) := bc1 L8
     have b88 : w'.cell? ⟨a1N, 2, none⟩ = some (.int .u32 a2p) := bc2 L8
     have e2v : w'.cell? ⟨a1N, 3, none⟩ = some (.int .u32 a2q) := bc3 L8
     refine b5e (w1 := w') (v := .int .u32 a2q) (by rfl) rfl ?_ ?_
     ·go_simp
     refine hK.out _ _ ⟨a3o, a5m, a3e, a5C, a2X, a5O, a5P, a4O, a6s, (by rw [ha.out]; exact a1J 8 hb_ rfl rfl rfl), Y4, a4V, a0E, a1y, a0F, a2b, ab_ (hoff 15 (by kernel_rfl)), ab_ (hoff 16 (by kernel_rfl)), ab_ (hoff 17 (by kernel_rfl)), ab_ (hoff 18 (by kernel_rfl)), ab_ (hoff 19 (by kernel_rfl))⟩
    refine a1I ?_ ?_
    ·rintro b a w' ⟨a3o, a5m, a3e, a5C, a2X, a5O, a5P, a4O, a6s, ha, Y4, a4V, a0E, a1y, a0F, a2b, a0Q, a3M, a2w, a2W, a6f⟩ hb_ hon hoff
     refine ⟨_, rfl, fun K hK => ?_⟩
     have e24 : a.tmps[24]? = some (.int .u32 a2p) := by rw [ha]; exact a2j (e := (12, 24, .int .u32 a2p)) 7 rfl rfl (hon 12 (by kernel_rfl)) rfl
     have e26 : a.tmps[26]? = some (.int .u32 a2q) := by rw [ha]; exact a2j (e := (14, 26, .int .u32 a2q)) 8 rfl rfl (hon 14 (by kernel_rfl)) rfl
     replace ha := a_ ha
     have L8 := a_ Y4
     have HB := a_ a4V
     refine Kd.a7p (Kd.int .u32) _ 23 ?hg (N := 27) ?hd (xs := ([0, 0, a2p, a2q] : List Int)) (inner := [.int .u32 0, .int .u32 0, .int .u32 a2p, .int .u32 a2q]) (ok := fun _ => True) (okp := fun _ => True) ?hr ?hp (fun _ hk => hk) trivial (Below.refl _ _) (Nat.le_refl _) (by simp) ?_; (case hd => rfl); (case hg => rfl); (case hr => (go_simp; done)); (case hp => exact (N9.one (show Kd.M (Kd.int .u32) _ _ _ 0 [.int .u32 0] from rfl) (N9.one (show Kd.M (Kd.int .u32) _ _ _ 0 [.int .u32 0] from rfl) (N9.one (show Kd.M (Kd.int .u32) _ _ _ a2p [.int .u32 a2p] from rfl) (N9.one (show Kd.M (Kd.int .u32) _ _ _ a2q [.int .u32 a2q] from rfl) (N9.none _ _))))))
     intro a2X w12 b1G hb hg_ a1q
     clear hg_ a1q
     rw [← f7X.out] at b1G
     have n0_ := rl_ b1G HB
     have n1_ := U5 L8 hb
     have n2_ := W9 HB hb
     have c2T := fun (h0_ : b 3 = true) => (show Kd.R (Kd.int .u32) 23 w12 w.heap.size (fun _ => True) a3o d2h from by (exact Kd.D8 (Kd.a3P (by exact (a0E h0_)) (Kd.a0n b1G) hb) (fun _ h_ => by (trivial))))
     have c2V := fun (h0_ : b 4 = true) (h1_ : b 17 = false) => (show Kd.R (Kd.int .u8) 5 w12 w.heap.size (fun _ => True) a5m b6J from by (exact (Kd.a1Y (by exact (a1y h0_ h1_)) hb)))
     have b4C := fun (h0_ : b 7 = true) => (show Kd.R (Kd.int .u32) 23 w12 w.heap.size (fun _ => True) a3e c7L from by (exact Kd.D8 (Kd.a3P (by exact (a0F h0_)) (Kd.a0n b1G) hb) (fun _ h_ => by (trivial))))
     have e2w := fun (h0_ : b 8 = true) (h1_ : b 17 = false) => (show Kd.R (Kd.int .u8) 5 w12 w.heap.size (fun _ => True) a5C b9c from by (exact (Kd.a1Y (by exact (a2b h0_ h1_)) hb)))
     clear L8
     clear HB
     have a4B := n0_
     have L8 := n1_
     have HB := n2_
     clear n0_ n1_ n2_
     clear hb b1G
     refine hK.out _ _ ⟨a3o, a5m, a3e, a5C, a2X, a5O, a5P, a4O, a6s, (by rw [ha.out]; exact a1J 9 hb_ rfl rfl rfl), L8.out, HB.out, c2T, c2V, b4C, e2w, fun _ => a4B.out, ab_ (hoff 16 (by kernel_rfl)), ab_ (hoff 17 (by kernel_rfl)), ab_ (hoff 18 (by kernel_rfl)), ab_ (hoff 19 (by kernel_rfl))⟩
    refine a1I ?_ ?_
    ·rintro b a w' ⟨a3o, a5m, a3e, a5C, a2X, a5O, a5P, a4O, a6s, ha, Y4, a4V, a0E, a1y, a0F, a2b, a0Q, a3M, a2w, a2W, a6f⟩ hb_ hon hoff
     refine ⟨_, rfl, fun K hK => ?_⟩
     have e22 : a.tmps[22]? = some (.bool N7) := by rw [ha]; exact a2j (e := (10, 22, .bool N7)) 6 rfl rfl (hon 10 (by kernel_rfl)) rfl
     have e27 : a.tmps[27]? = some (a2X) := by rw [ha]; exact a2j (e := (15, 27, a2X)) 9 rfl rfl (hon 15 (by kernel_rfl)) rfl
     replace ha := a_ ha
     have L8 := a_ Y4
     have HB := a_ a4V
     have a2f := a_ (a0E (hon 3 (by kernel_rfl)))
     have a7T := a_ (a1y (hon 4 (by kernel_rfl)) (hoff 17 (by kernel_rfl)))
     have a3c := a_ (a0F (hon 7 (by kernel_rfl)))
     have b1H := a_ (a2b (hon 8 (by kernel_rfl)) (hoff 17 (by kernel_rfl)))
     have a4B := a_ (a0Q (hon 15 (by kernel_rfl)))
     obtain ⟨b0c, b0d, c7f⟩ := Kd.J4 a4B.out
     subst c7f
     refine a4y Tryd.func74 (by kernel_rfl) rfl #[.bool N7, .int .i64 4, .slice b0c c5N.length b0d] (by rfl) rfl rfl (by (simp only [List.map_toArray, List.map_cons, List.map_nil, Act.eval, Array.getD_eq_getD_getElem?, Option.getD_some, e22, e27]; done)) ?_
     with_reducible refine (a0H.calls kj2 N7 4 _ _ c5N b93 _ ?Q5 ?Q7 A9.out).mono ?_
     (case Q5 => exact (Kd.G5 a4B.out).2.2)
     (case Q7 => exact (Kd.G5 a4B.out).2.1)
     rintro e w24 ⟨a5O, rfl, ho0, hb⟩
     refine ⟨_, rfl, ?_⟩
     have c0B := a_ (Kd.X4 (Kd.a2n (Kd.a2n ho0 (Kd.a0h a7T.out)) (Kd.a0h b1H.out)) (y5 HB.out))
     replace a2f := rb_ a2f hb
     replace a7T := rR_ a7T ho0 hb
     replace a3c := rb_ a3c hb
     replace b1H := rR_ b1H ho0 hb
     replace a4B := rb_ a4B hb
     replace L8 := U5 L8 hb
     replace HB := W9 HB hb
     (try clear hb)
     (try clear ho0)
     refine hK.out _ _ ⟨a3o, a5m, a3e, a5C, .slice b0c c5N.length b0d, a5O, a5P, a4O, a6s, (by rw [ha.out]; exact a1J 10 hb_ rfl rfl rfl), L8.out, HB.out, fun _ => a2f.out, fun _ _ => (by (exact Kd.D8 a7T.out (fun _ hk => trivial))), fun _ => a3c.out, fun _ _ => (by (exact Kd.D8 b1H.out (fun _ hk => trivial))), fun _ => a4B.out, fun _ _ => (by (exact Kd.D8 c0B.out (fun _ hk => trivial))), ab_ (hoff 17 (by kernel_rfl)), ab_ (hoff 18 (by kernel_rfl)), ab_ (hoff 19 (by kernel_rfl))⟩
    refine a1I ?_ ?_
    ·rintro b a w' ⟨a3o, a5m, a3e, a5C, a2X, a5O, a5P, a4O, a6s, ha, Y4, a4V, a0E, a1y, a0F, a2b, a0Q, a3M, a2w, a2W, a6f⟩ hb_ hon hoff
     refine ⟨_, rfl, fun K hK => ?_⟩
     have e16 : a.tmps[16]? = some (a5m) := by rw [ha]; exact a2j (e := (4, 16, a5m)) 2 rfl rfl (hon 4 (by kernel_rfl)) rfl
     have e20 : a.tmps[20]? = some (a5C) := by rw [ha]; exact a2j (e := (8, 20, a5C)) 5 rfl rfl (hon 8 (by kernel_rfl)) rfl
     have e28 : a.tmps[28]? = some (a5O) := by rw [ha]; exact a2j (e := (16, 28, a5O)) 10 rfl rfl (hon 16 (by kernel_rfl)) rfl
     replace ha := a_ ha
     have L8 := a_ Y4
     have HB := a_ a4V
     have a2f := a_ (a0E (hon 3 (by kernel_rfl)))
     have a7T := a_ (a1y (hon 4 (by kernel_rfl)) hb_)
     have a3c := a_ (a0F (hon 7 (by kernel_rfl)))
     have b1H := a_ (a2b (hon 8 (by kernel_rfl)) hb_)
     have a4B := a_ (a0Q (hon 15 (by kernel_rfl)))
     have c0B := a_ (a3M (hon 16 (by kernel_rfl)) hb_)
     obtain ⟨a5h, a5i, d4T⟩ := Kd.J4 a7T.out
     subst d4T
     obtain ⟨e9j, e9k, g81⟩ := Kd.J4 b1H.out
     subst g81
     obtain ⟨a9M, a9N, c7C⟩ := Kd.J4 c0B.out
     subst c7C
     refine Kd.c61 (Kd.slice 5 (Kd.int .u8)) _ 22 ?hg (N' := 29) ?hd (xs := ([b6J, b9c, b93] : List (List Int))) (inner := [.slice a5h b6J.length a5i, .slice e9j b9c.length e9k, .slice a9M b93.length a9N]) (ok := (fun k_ => some k_ ≠ (a3o : Value).ownBlock ∧ some k_ ≠ (a3e : Value).ownBlock ∧ some k_ ≠ (a2X : Value).ownBlock ∧ k_ ≠ a1N)) (okp := (fun k_ => some k_ ≠ (a3o : Value).ownBlock ∧ some k_ ≠ (a3e : Value).ownBlock ∧ some k_ ≠ (a2X : Value).ownBlock ∧ k_ ≠ a1N)) ?hr ?hp (fun _ hk => hk) ((show ∀ k_, w'.heap.size ≤ k_ → (fun k_ => some k_ ≠ (a3o : Value).ownBlock ∧ some k_ ≠ (a3e : Value).ownBlock ∧ some k_ ≠ (a2X : Value).ownBlock ∧ k_ ≠ a1N) k_ from fun k_ hk => ⟨Kd.fresh' (Kd.a0h a2f.out) k_ hk, Kd.fresh' (Kd.a0h a3c.out) k_ hk, Kd.fresh' (Kd.a0h a4B.out) k_ hk, Kd.a1z L8.out k_ hk⟩) _ (Nat.le_refl _)) (Below.refl _ _) (Nat.le_refl _) (by simp) ?_; (case hd => rfl); (case hg => rfl); (case hr => (go_simp; done)); (case hp => exact (N9.one (show Kd.FK (Kd.slice 5 (Kd.int .u8)) _ _ b6J [.slice a5h b6J.length a5i] from (Kd.a5e (Kd.G5 (Kd.D8 (ok' := (fun k_ => some k_ ≠ (a3o : Value).ownBlock ∧ some k_ ≠ (a3e : Value).ownBlock ∧ some k_ ≠ (a2X : Value).ownBlock ∧ k_ ≠ a1N)) (Kd.V7 (Kd.a0g (Kd.a0g (Kd.a0g (a7T.out) (Kd.a0Y a2f.out) (by decide)) (Kd.a0Y a3c.out) (by decide)) (Kd.a0Y a4B.out) (by decide)) L8.out (by decide)) (fun k_ hk => ⟨hk.1.1.1.2, ⟨hk.1.1.2, ⟨hk.1.2, hk.2⟩⟩⟩))).2.1 (Kd.R_F (Kd.D8 (ok' := (fun k_ => some k_ ≠ (a3o : Value).ownBlock ∧ some k_ ≠ (a3e : Value).ownBlock ∧ some k_ ≠ (a2X : Value).ownBlock ∧ k_ ≠ a1N)) (Kd.V7 (Kd.a0g (Kd.a0g (Kd.a0g (a7T.out) (Kd.a0Y a2f.out) (by decide)) (Kd.a0Y a3c.out) (by decide)) (Kd.a0Y a4B.out) (by decide)) L8.out (by decide)) (fun k_ hk => ⟨hk.1.1.1.2, ⟨hk.1.1.2, ⟨hk.1.2, hk.2⟩⟩⟩))))) (N9.one (show Kd.FK (Kd.slice 5 (Kd.int .u8)) _ _ b9c [.slice e9j b9c.length e9k] from (Kd.a5e (Kd.G5 (Kd.D8 (ok' := (fun k_ => some k_ ≠ (a3o : Value).ownBlock ∧ some k_ ≠ (a3e : Value).ownBlock ∧ some k_ ≠ (a2X : Value).ownBlock ∧ k_ ≠ a1N)) (Kd.V7 (Kd.a0g (Kd.a0g (Kd.a0g (b1H.out) (Kd.a0Y a2f.out) (by decide)) (Kd.a0Y a3c.out) (by decide)) (Kd.a0Y a4B.out) (by decide)) L8.out (by decide)) (fun k_ hk => ⟨hk.1.1.1.2, ⟨hk.1.1.2, ⟨hk.1.2, hk.2⟩⟩⟩))).2.1 (Kd.R_F (Kd.D8 (ok' := (fun k_ => some k_ ≠ (a3o : Value).ownBlock ∧ some k_ ≠ (a3e : Value).ownBlock ∧ some k_ ≠ (a2X : Value).ownBlock ∧ k_ ≠ a1N)) (Kd.V7 (Kd.a0g (Kd.a0g (Kd.a0g (b1H.out) (Kd.a0Y a2f.out) (by decide)) (Kd.a0Y a3c.out) (by decide)) (Kd.a0Y a4B.out) (by decide)) L8.out (by decide)) (fun k_ hk => ⟨hk.1.1.1.2, ⟨hk.1.1.2, ⟨hk.1.2, hk.2⟩⟩⟩))))) (N9.one (show Kd.FK (Kd.slice 5 (Kd.int .u8)) _ _ b93 [.slice a9M b93.length a9N] from (Kd.a5e (Kd.G5 (Kd.D8 (ok' := (fun k_ => some k_ ≠ (a3o : Value).ownBlock ∧ some k_ ≠ (a3e : Value).ownBlock ∧ some k_ ≠ (a2X : Value).ownBlock ∧ k_ ≠ a1N)) (Kd.V7 (Kd.a0g (Kd.a0g (Kd.a0g (c0B.out) (Kd.a0Y a2f.out) (by decide)) (Kd.a0Y a3c.out) (by decide)) (Kd.a0Y a4B.out) (by decide)) L8.out (by decide)) (fun k_ hk => ⟨hk.1.1.1.2, ⟨hk.1.1.2, ⟨hk.1.2, hk.2⟩⟩⟩))).2.1 (Kd.R_F (Kd.D8 (ok' := (fun k_ => some k_ ≠ (a3o : Value).ownBlock ∧ some k_ ≠ (a3e : Value).ownBlock ∧ some k_ ≠ (a2X : Value).ownBlock ∧ k_ ≠ a1N)) (Kd.V7 (Kd.a0g (Kd.a0g (Kd.a0g (c0B.out) (Kd.a0Y a2f.out) (by decide)) (Kd.a0Y a3c.out) (by decide)) (Kd.a0Y a4B.out) (by decide)) L8.out (by decide)) (fun k_ hk => ⟨hk.1.1.1.2, ⟨hk.1.1.2, ⟨hk.1.2, hk.2⟩⟩⟩))))) (N9.none _ _)))))
     intro a5P w28 c5O hb hg_ a1q
     clear hg_ a1q
     rw [← f7Y.out] at c5O
     have b2Z := a_ (Kd.a6b c5O (y5 HB.out))
     replace a2f := rb_ a2f hb
     replace a3c := rb_ a3c hb
     replace a4B := rb_ a4B hb
     replace L8 := U5 L8 hb
     replace HB := W9 HB hb
     clear a7T
     clear b1H
     clear c0B
     clear hb c5O
     refine hK.out _ _ ⟨a3o, .slice a5h b6J.length a5i, a3e, .slice e9j b9c.length e9k, a2X, .slice a9M b93.length a9N, a5P, a4O, a6s, (by rw [ha.out]; exact a1J 11 hb_ rfl rfl rfl), L8.out, HB.out, fun _ => a2f.out, fun _ h1_ => absurd ((b0C b 17).symm.trans h1_) (by decide), fun _ => a3c.out, fun _ h1_ => absurd ((b0C b 17).symm.trans h1_) (by decide), fun _ => a4B.out, fun _ h1_ => absurd ((b0C b 17).symm.trans h1_) (by decide), fun _ => (by (exact Kd.N8 b2Z.out (fun _ hk => hk.2.2.2))), ab_ (hoff 18 (by kernel_rfl)), ab_ (hoff 19 (by kernel_rfl))⟩
    refine a1I ?_ ?_
    ·rintro b a w' ⟨a3o, a5m, a3e, a5C, a2X, a5O, a5P, a4O, a6s, ha, Y4, a4V, a0E, a1y, a0F, a2b, a0Q, a3M, a2w, a2W, a6f⟩ hb_ hon hoff
     refine ⟨_, rfl, fun K hK => ?_⟩
     have e29 : a.tmps[29]? = some (a5P) := by rw [ha]; exact a2j (e := (17, 29, a5P)) 11 rfl rfl (hon 17 (by kernel_rfl)) rfl
     replace ha := a_ ha
     have L8 := a_ Y4
     have HB := a_ a4V
     have a2f := a_ (a0E (hon 3 (by kernel_rfl)))
     have a3c := a_ (a0F (hon 7 (by kernel_rfl)))
     have a4B := a_ (a0Q (hon 15 (by kernel_rfl)))
     have b2Z := a_ (a2w (hon 17 (by kernel_rfl)))
     obtain ⟨b1j, b0O, e9l⟩ := Kd.a3H b2Z.out
     subst e9l
     refine a4y Tryd.func73 (by kernel_rfl) rfl #[.slice b1j e2s.length b0O] (by rfl) rfl rfl (by (simp only [List.map_toArray, List.map_cons, List.map_nil, Act.eval, Array.getD_eq_getD_getElem?, Option.getD_some, e29]; done)) ?_
     with_reducible refine (x9.calls _ _ e2s d6Q _ ?Q5 ?Q7 A10.out).mono ?_
     (case Q5 => exact (Kd.V5 b2Z.out).2.2)
     (case Q7 => exact (Kd.V5 b2Z.out).2.1)
     rintro e w31 ⟨a4O, rfl, ho0, hb⟩
     refine ⟨_, rfl, ?_⟩
     have d04 := rl_ ho0 HB
     replace a2f := rb_ a2f hb
     replace a3c := rb_ a3c hb
     replace a4B := rb_ a4B hb
     replace b2Z := rN_ b2Z ho0 hb
     replace L8 := U5 L8 hb
     replace HB := W9 HB hb
     (try clear hb)
     (try clear ho0)
     refine hK.out _ _ ⟨a3o, a5m, a3e, a5C, a2X, a5O, .slice b1j e2s.length b0O, a4O, a6s, (by rw [ha.out]; exact a1J 12 hb_ rfl rfl rfl), L8.out, HB.out, fun _ => a2f.out, fun _ h1_ => absurd ((hon 17 (by kernel_rfl)).symm.trans h1_) (by decide), fun _ => a3c.out, fun _ h1_ => absurd ((hon 17 (by kernel_rfl)).symm.trans h1_) (by decide), fun _ => a4B.out, fun _ h1_ => absurd ((hon 17 (by kernel_rfl)).symm.trans h1_) (by decide), fun _ => (by (exact Kd.N8 b2Z.out (fun _ hk => hk.1))), fun _ => d04.out, ab_ (hoff 19 (by kernel_rfl))⟩
    refine a1I ?_ ?_
    ·rintro b a w' ⟨a3o, a5m, a3e, a5C, a2X, a5O, a5P, a4O, a6s, ha, Y4, a4V, a0E, a1y, a0F, a2b, a0Q, a3M, a2w, a2W, a6f⟩ hb_ hon hoff
     refine ⟨_, rfl, fun K hK => ?_⟩
     have e30 : a.tmps[30]? = some (a4O) := by rw [ha]; exact a2j (e := (18, 30, a4O)) 12 rfl rfl (hon 18 (by kernel_rfl)) rfl
     replace ha := a_ ha
     have L8 := a_ Y4
     have HB := a_ a4V
     have a2f := a_ (a0E (hon 3 (by kernel_rfl)))
     have a3c := a_ (a0F (hon 7 (by kernel_rfl)))
     have a4B := a_ (a0Q (hon 15 (by kernel_rfl)))
     have b2Z := a_ (a2w (hon 17 (by kernel_rfl)))
     have d04 := a_ (a2W (hon 18 (by kernel_rfl)))
     refine b5e (w1 := w') (v := a4O) (by rfl) rfl ?_ ?_
     ·go_simp
     refine hK.out _ _ ⟨a3o, a5m, a3e, a5C, a2X, a5O, a5P, a4O, (a4O), (by rw [ha.out]; exact a1J 13 hb_ rfl rfl rfl), Y4, a4V, a0E, fun _ h1_ => absurd ((hon 17 (by kernel_rfl)).symm.trans h1_) (by decide), a0F, fun _ h1_ => absurd ((hon 17 (by kernel_rfl)).symm.trans h1_) (by decide), a0Q, fun _ h1_ => absurd ((hon 17 (by kernel_rfl)).symm.trans h1_) (by decide), a2w, a2W, fun _ => rfl⟩
    exact d14
   rintro b a w31 hall ⟨a3o, a5m, a3e, a5C, a2X, a5O, a5P, a4O, a6s, ha, Y4, a4V, a0E, a1y, a0F, a2b, a0Q, a3M, a2w, a2W, a6f⟩
   clear L8 HB
   have f7Z := hall 1 (by kernel_rfl)
   have e9m := hall 3 (by kernel_rfl)
   have f8a := hall 4 (by kernel_rfl)
   have f8b := hall 6 (by kernel_rfl)
   have e9n := hall 7 (by kernel_rfl)
   have f8c := hall 8 (by kernel_rfl)
   have e5k := hall 10 (by kernel_rfl)
   have e5l := hall 12 (by kernel_rfl)
   have e5m := hall 14 (by kernel_rfl)
   have d6X := hall 15 (by kernel_rfl)
   have e5n := hall 16 (by kernel_rfl)
   have d6Y := hall 17 (by kernel_rfl)
   have d6Z := hall 18 (by kernel_rfl)
   have d60 := hall 19 (by kernel_rfl)
   subst ha
   obtain rfl := a6f d60
   simp only [a3t, f7Z, e9m, f8a, f8b, e9n, f8c, e5k, e5l, e5m, d6X, e5n, d6Y, d6Z, d60, if_true, Act.put, List.setIfInBounds_toArray, List.set_cons_zero, List.set_cons_succ]
   have L8 := a_ Y4
   clear Y4
   have HB := a_ a4V
   clear a4V
   have a2f := a_ (a0E e9m)
   clear a0E
   clear a1y
   have a3c := a_ (a0F e9n)
   clear a0F
   clear a2b
   have a4B := a_ (a0Q d6X)
   clear a0Q
   clear a3M
   have b2Z := a_ (a2w d6Y)
   clear a2w
   have d04 := a_ (a2W d6Z)
   clear a2W
   clear hall f7Z e9m f8a f8b e9n f8c e5k e5l e5m d6X e5n d6Y d6Z d60
   try go_wp2
   go_loopg [7, 33] kj2 (fun kq v7 v33 w' => ∃ (d61 : List Int) (a0J : Int), v33 = .int .i64 a0J ∧ Aside0 (pcap_Put.l0 kq d61 l1 (l1.length : Int) a0J N7 a0b a2p a2q = some (r1, r2)) ∧ Aside0 (kq ≤ kj2) ∧ Aside0 (Kd.R (Kd.int .u8) 5 w' w.heap.size (fun _ => True) v7 d61) ∧ Aside0 (w'.heap[a1N]? = some (.cells #[.bool N7, .bool a0b, .int .u32 a2p, .int .u32 a2q] 46 (0, 0))) ∧ Aside0 (Below w.heap.size w w'))
   case atStart => exact ⟨(d6Q), (0), (by rfl), H', ⟨Nat.le_refl _⟩, ⟨by exact d04.out⟩, ⟨by exact L8.out⟩, ⟨by exact HB.out⟩⟩
   case round =>
    clear H'
    obtain ⟨d61, a0J, rfl, HA, HK2, U1, L8, HB⟩ := hrel
    cases gk with
    | zero => exact absurd HA.out (by simp [pcap_Put.l0])
    | succ k2 =>
     have H := HA.out
     clear HA
     simp only [pcap_Put.l0] at H
     by_cases c32 : a0J < (l1.length : Int)
     ·rw [if_pos c32] at H
      have f8d := decide_eq_true c32
      clear c32
      have h4h := a4w H
      replace H := U9 H
      have e4S := a4w H
      replace H := U9 H
      by_cases c35 : (((y9 l1 a0J).f3).length : Int) > 131072
      ·rw [if_pos c35] at H
       have c4e := decide_eq_true c35
       have d3j : decide (131072 < ((y9 l1 a0J).f3).length) = true := decide_eq_true (by omega)
       clear c35
       obtain ⟨rfl, rfl⟩ := s2_ H
       have c7M : 0 ≤ (a0J : Int) := Y9
       have c7N : a0J < (l1.length : Int) := Y9
       obtain ⟨f8e, c7O, c7P, e9o, b4D, b4E, b4F, b4G, b4H, b4I⟩ := a7Z HR1.out a0J c7M c7N
       cases e9o
       replace b4D := cb_ HB b4D
       replace b4E := cb_ HB b4E
       replace b4F := cb_ HB b4F
       replace b4G := cb_ HB b4G
       have d05 := a_ b4I
       have e2x := a_ b4H
       clear b4I b4H
       replace c7M := eq_true c7M
       replace c7N := eq_true c7N
       go_wp2_with (first | (refine be_ 9 #[.int .u32 0, .int .u32 0, .int .u32 0, .slice none 0 0] 51 ?_; intro c0C hg w36 hbox hb; have a8W := a_ hbox; have d06 := lb_ HB hg; obtain ⟨a7v, b5G⟩ := nn_ L8 hg; replace U1 := rb_ U1 hb; replace L8 := U5 L8 hb; replace HB := W9 HB hb; clear hb hbox hg; have f09 := b5G.out; have f1b := a7v.out; obtain ⟨e2l, e2m, e2n, g2o, e2o, e2p, e2q, g2p⟩ := blk4 a8W.out))
       go_ret2
       exact ⟨_, by (rfl), by (exact Kd.a0I _ _ _ _ _), by repeat (with_reducible first | exact HB.out | refine o8 ?_ d06.out)⟩
      ·rw [if_neg c35] at H
       have c4e := decide_eq_false c35
       have d3j : decide (131072 < ((y9 l1 a0J).f3).length) = false := decide_eq_false (by omega)
       clear c35
       obtain ⟨f8f, d62⟩ := is_ ((([(y9 l1 a0J).f0, (y9 l1 a0J).f1, ((((y9 l1 a0J).f3).length : Int)) % 4294967296, (y9 l1 a0J).f2] : List Int)))
       rw [← d62] at H
       have f8g := a_ d62
       clear d62
       replace H := Option.bind_eq_some_iff.mp H
       obtain ⟨c5M, f8h, H⟩ := H
       try dsimp only at H
       have A39 := a_ f8h
       clear f8h
       have c40 := a0o H
       replace H := U9 H
       have f8i := a_ c40
       clear c40
       obtain ⟨d6S, d63⟩ := is_ ((d61 ++ c5M))
       rw [Option.bind_some, ← d63] at H
       have f8j := a_ d63
       clear d63
       have c41 := a0o H
       replace H := U9 H
       have f8k := a_ c41
       clear c41
       obtain ⟨g82, d64⟩ := is_ ((d6S ++ ((y9 l1 a0J).f3)))
       rw [← d64] at H
       have f8l := a_ d64
       clear d64
       have H' := a_ H
       clear H
       have c7M : 0 ≤ (a0J : Int) := Y9
       have c7N : a0J < (l1.length : Int) := Y9
       obtain ⟨f8e, c7O, c7P, e9o, b4D, b4E, b4F, b4G, b4H, b4I⟩ := a7Z HR1.out a0J c7M c7N
       cases e9o
       replace b4D := cb_ HB b4D
       replace b4E := cb_ HB b4E
       replace b4F := cb_ HB b4F
       replace b4G := cb_ HB b4G
       have d05 := a_ b4I
       have e2x := a_ b4H
       clear b4I b4H
       replace c7M := eq_true c7M
       replace c7N := eq_true c7N
       go_wp2_with (first | (refine be_ 9 #[.int .u32 0, .int .u32 0, .int .u32 0, .slice none 0 0] 51 ?_; intro c0C hg w42 hbox hb; have a8W := a_ hbox; have d06 := lb_ HB hg; obtain ⟨a7v, b5G⟩ := nn_ L8 hg; replace U1 := rb_ U1 hb; replace L8 := U5 L8 hb; replace HB := W9 HB hb; clear hb hbox hg; have d3k := b5G.out; have d3l := a7v.out; obtain ⟨c8O, c8P, e1V, g2q, c8Q, c8R, e1W, g2r⟩ := blk4 a8W.out; obtain ⟨d0p, d0q, e1u, g2s, d0r, d0s, e1v, g2t⟩ := blk4 L8.out) | ((with_reducible refine P9 (N := 54) rfl ?_); refine Kd.b03 (Kd.int .u32) _ 23 ?hg (N := 54) ?hd (xs := ([(y9 l1 a0J).f0, (y9 l1 a0J).f1, ((((y9 l1 a0J).f3).length : Int)) % 4294967296, (y9 l1 a0J).f2] : List Int)) (inner := [.int .u32 ((y9 l1 a0J).f0), .int .u32 ((y9 l1 a0J).f1), .int .u32 (((((y9 l1 a0J).f3).length : Int)) % 4294967296), .int .u32 ((y9 l1 a0J).f2)]) (ok := fun _ => True) (okp := fun _ => True) ?hr ?hp (fun _ hk => hk) trivial (Below.refl _ _) (Nat.le_refl _) (by simp) ?_; (case hd => rfl); (case hg => rfl); (case hr => (go_simp; done)); (case hp => exact (N9.one (show Kd.M (Kd.int .u32) _ _ _ ((y9 l1 a0J).f0) [.int .u32 ((y9 l1 a0J).f0)] from rfl) (N9.one (show Kd.M (Kd.int .u32) _ _ _ ((y9 l1 a0J).f1) [.int .u32 ((y9 l1 a0J).f1)] from rfl) (N9.one (show Kd.M (Kd.int .u32) _ _ _ (((((y9 l1 a0J).f3).length : Int)) % 4294967296) [.int .u32 (((((y9 l1 a0J).f3).length : Int)) % 4294967296)] from rfl) (N9.one (show Kd.M (Kd.int .u32) _ _ _ ((y9 l1 a0J).f2) [.int .u32 ((y9 l1 a0J).f2)] from rfl) (N9.none _ _)))))); intro h7q w46 e9p hb hg_ a1q; clear hg_ a1q; (rw [← f8g.out] at e9p); have b4J := a_ (Kd.X4 e9p (y5 (by repeat (with_reducible first | exact HB.out | refine o8 ?_ d06.out)))); replace U1 := a_ (Kd.a1Y (by exact (Kd.D8 (Kd.U7 (p := ⟨c0C, 3, none⟩) (Kd.U7 (p := ⟨c0C, 2, none⟩) (Kd.U7 (p := ⟨c0C, 1, none⟩) (Kd.U7 (p := ⟨c0C, 0, none⟩) (Kd.V7 U1.out a8W.out (by decide)) (fun _ hk => hk.2) (.int .u32 ((y9 l1 a0J).f0))) (fun _ hk => hk.2) (.int .u32 ((y9 l1 a0J).f1))) (fun _ hk => hk.2) (.int .u32 ((y9 l1 a0J).f2))) (fun _ hk => hk.2) (.slice c7O ((y9 l1 a0J).f3).length c7P)) (fun _ h_ => h_.1))) hb); replace L8 := a_ (J3 (g := a1N) (o := .cells #[.bool N7, .bool a0b, .int .u32 a2p, .int .u32 a2q] 46 (0, 0)) (by refine o9 ?_ a7v.out _; refine o9 ?_ a7v.out _; refine o9 ?_ a7v.out _; refine o9 ?_ a7v.out _; exact L8.out) hb); replace a8W := a_ (J3 (g := c0C) (o := .cells #[.int .u32 ((y9 l1 a0J).f0), .int .u32 ((y9 l1 a0J).f1), .int .u32 ((y9 l1 a0J).f2), .slice c7O ((y9 l1 a0J).f3).length c7P] 51 (0, 0)) (by refine l9 (cs := #[.int .u32 ((y9 l1 a0J).f0), .int .u32 ((y9 l1 a0J).f1), .int .u32 ((y9 l1 a0J).f2), .slice none 0 0]) ?_ 3 _ rfl; refine l9 (cs := #[.int .u32 ((y9 l1 a0J).f0), .int .u32 ((y9 l1 a0J).f1), .int .u32 0, .slice none 0 0]) ?_ 2 _ rfl; refine l9 (cs := #[.int .u32 ((y9 l1 a0J).f0), .int .u32 0, .int .u32 0, .slice none 0 0]) ?_ 1 _ rfl; refine l9 (cs := #[.int .u32 0, .int .u32 0, .int .u32 0, .slice none 0 0]) ?_ 0 _ rfl; exact a8W.out) hb); replace HB := a_ (G9 (by repeat (with_reducible first | exact HB.out | refine o8 ?_ d06.out)) hb); clear hb e9p; obtain ⟨e1w, e1x, e8t⟩ := Kd.J4 b4J.out; subst e8t) | (refine gl_ (some 55) Tryd.func74 #[.bool N7, .int .i64 4, .slice e1w f8f.length e1x] ?_; (with_reducible refine (a0H.calls k2 N7 4 _ _ f8f c5M _ ((Kd.G5 b4J.out).2.2) ((Kd.G5 b4J.out).2.1) A39.out).mono ?_); rintro e w49 ⟨h7r, rfl, ho0, hb⟩; refine ⟨_, rfl, ?_⟩; have b6g := rn_ ho0 U1 HB; replace U1 := rR_ U1 ho0 hb; replace b4J := rb_ b4J hb; replace L8 := U5 L8 hb; replace a8W := U5 a8W hb; replace HB := W9 HB hb; (try clear hb); (try clear ho0); obtain ⟨f8m, f8n, g83⟩ := Kd.J4 b6g.out; subst g83) | ((with_reducible refine G7 (b := .append) (xs := #[.tmp 41, .tmp 55]) rfl ?_); at_builtin; refine Kd.Q8 (Kd.int .u8) (w0 := w) w.heap.size rfl (.tmp 41) (.tmp 55) 22 5 (.int .u8 0) 1 rfl Tryd.underlying22 info5 rfl (by decide) (by omega) u7 d61 c5M _ _ _ (fun k_ => some k_ ≠ (.slice f8m c5M.length f8n : Value).ownBlock) (fun _ => False) rfl rfl ?aO ?aR (fun _ _ h => h) (fun _ h => h.elim) ?aF ?aB ?aS ?aL ?_; (case aR => exact (Kd.G5 b6g.out).2.2); (case aB => exact HB.out); (case aF => exact (fun k_ hk => Kd.fresh' (Kd.a0h b6g.out) k_ hk)); (case aO => exact (by exact Kd.D8 U1.out (fun _ hk => hk.2))); (case aS => exact (y5 HB.out)); (case aL => have := f8i.out; omega); intro g84 w50 ho hb hg hat; rw [← f8j.out] at ho; have c5P := a_ ho; replace L8 := a_ (F9 L8.out hg (Kd.a6B U1.out L8.out (by decide))); replace a8W := a_ (F9 a8W.out hg (Kd.a6B U1.out a8W.out (by decide))); replace b4J := a_ (Kd.b63 b4J.out (Kd.a0Y U1.out) (by decide) hg); replace b6g := a_ (Kd.a1f (ok := (fun _ => True)) b6g.out hg hat); replace HB := a_ hb; clear U1; clear ho hb hg hat; obtain ⟨e1X, e1Y, g2u, g2v, e1Z, e2a, g2w, g2x⟩ := blk4 a8W.out) | ((with_reducible refine G7 (b := .append) (xs := #[.tmp 57, .tmp 59]) rfl ?_); at_builtin; refine Kd.Q8 (Kd.int .u8) (w0 := w) w.heap.size rfl (.tmp 57) (.tmp 59) 22 5 (.int .u8 0) 1 rfl Tryd.underlying22 info5 rfl (by decide) (by omega) g84 d6S ((y9 l1 a0J).f3) _ _ _ (fun k_ => some k_ ≠ (.slice f8m c5M.length f8n : Value).ownBlock) (fun _ => False) rfl rfl ?aO ?aR (fun _ _ h => h) (fun _ h => h.elim) ?aF ?aB ?aS ?aL ?_; (case aR => exact (Kd.D6 d05.out HB.out)); (case aB => exact HB.out); (case aF => exact (fun k_ hk => Kd.fresh' (Kd.a0h b6g.out) k_ hk)); (case aO => exact c5P.out); (case aS => exact (y5 HB.out)); (case aL => have := f8k.out; omega); intro h7s w53 ho hb hg hat; rw [← f8l.out] at ho; have f8o := a_ ho; replace L8 := a_ (F9 L8.out hg (Kd.a6B c5P.out L8.out (by decide))); replace a8W := a_ (F9 a8W.out hg (Kd.a6B c5P.out a8W.out (by decide))); replace b4J := a_ (Kd.b63 b4J.out (Kd.a0Y c5P.out) (by decide) hg); replace b6g := a_ (Kd.a1f (ok := (fun _ => True)) b6g.out hg hat); replace HB := a_ hb; clear c5P; clear ho hb hg hat))
       go_roundg k2
       case measure => have := HJ2.out; have := HK2.out; omega
       case rel => exact ⟨(g82), (wrap64 (a0J + 1)), (by rfl), H', ⟨by have := HJ2.out; have := HK2.out; omega⟩, ⟨by exact Kd.D8 f8o.out (fun _ hk => trivial)⟩, ⟨by exact L8.out⟩, ⟨by exact HB.out⟩⟩
     ·rw [if_neg c32] at H
      have f8d := decide_eq_false c32
      clear c32
      obtain ⟨rfl, rfl⟩ := s2_ H
      go_wp2
      go_ret2
      exact ⟨_, by (rfl), by exact U1.out, by exact HB.out⟩

end Go.Proofs.YtgnonglkibhnhaaDoor.Print
