import Derived.RangeFuncFrom
import Derived.RangeFuncCalls
import Derived.OwnWalkIn
import Derived.TacticsInMore
import Derived.LoopNIn
import Derived.LoopIn
import Derived.Shelf.Abstract
import Derived.Test.YtgnonglkibhnhaaDoorZ
namespace Go.Proofs.YtgnonglkibhnhaaDoor.Print
open Go.RowKit Go.Proofs.YtgnonglkibhnhaaDoorW.PrintWords Go.Proofs.YtgnonglkibhnhaaDoorW.PrintLast Go.Proofs.YtgnonglkibhnhaaDoorW.PrintMore
attribute [local go_sem] a0d a0e a0V a0W X5 X6 a0f a0g
set_option linter.unusedVariables false
set_option linter.unusedSimpArgs false

/-! ### slices_Chunk_byte_byte: function 52 -/
attribute [local go_sem] Oper.semAt_some
theorem d5p {P : Program} (t e : TypeId) (kl kh km : IntKind) {i : TypeInfo} (ht : P.underlying t = some (.slice e)) (hi : P.info? e = some i) (size : Nat) (hsz : i.size = size) (A : Option Addr) (n c : Nat) (lo hi' mx : Int) (h0 : 0 ≤ lo) (h1 : lo ≤ hi') (h2 : hi' ≤ mx) (hc : mx ≤ c) :
  ∀ W : World, (Instr.slice t (.slice A n c) (some (.int kl lo)) (some (.int kh hi')) (some (.int km mx))).run P W = .ok (.slice (if mx.toNat = lo.toNat then A else A.map (·.add (lo.toNat * size))) (hi'.toNat - lo.toNat) (mx.toNat - lo.toNat)) W := by
 intro W
 have hel : P.elem t = e := by simp [Program.elem, ht]
 have hu : P.underlying t = some (.slice (P.elem t)) := by rw [hel]; exact ht
 rw [run_slice_lhm W t A n c hu kl kh km lo hi' mx h0 h1 h2 hc, hel]
 simp [sizeOf, typeInfo, hi, hsz, sliced, Result.andThen]
def Chunk.count (n : Nat) : Nat := (n + 65534) / 65535
def Chunk.val (A : Option Addr) (n j : Nat) : Value := .slice (A.map (·.add (j * 65535))) (min 65535 (n - j * 65535)) (min 65535 (n - j * 65535))
def Chunk.Keeps (bs bn : Nat) (W W' : World) : Prop := ∀ k, k = bs ∨ k = bn → W'.heap[k]? = W.heap[k]?
set_option maxHeartbeats 8000000 in
set_option maxRecDepth 100000 in
theorem Chunk.next (m l bs bn : Nat) (hm : 1 ≤ m) (A : Option Addr) (n c : Nat) (hA : 0 < n → ∃ ad, A = some ad) (hc : n ≤ c) (hn : n ≤ 140737488355328) (J Jx : List Nat → World → Prop)
  (hY : ∀ pre x W, J pre W → pre.length < Chunk.count n → YieldAt Fence.wide (m - 1) Tryd.prog l #[Chunk.val A n x] W fun e W' =>
   (e = .returned (.bool true) ∧ J (pre ++ [x]) W' ∧ Chunk.Keeps bs bn W W') ∨ (e = .returned (.bool false) ∧ Jx (pre ++ [x]) W'))
  (W : World) (hs : W.heap[bs]? = some (.cells #[.slice A n c] 22 (0, 0))) (hb : W.heap[bn]? = some (.cells #[.int .i64 65535] 3 (0, 0))) (hJ : ∀ pre w, J pre w → J pre w.drew) (h0 : J [] W) :
  CallsIn Fence.wide m Tryd.prog 70 #[.func (.yield l) #[] #[], .pointer (some ⟨bs, 0, none⟩), .pointer (some ⟨bn, 0, none⟩)] W fun e W' => (∃ v, e = .returned v) ∧
   ((∃ xs, xs = List.range (Chunk.count n) ∧ J xs W') ∨ (∃ pre : List Nat, True ∧ Jx pre W')) := by
 have hro : Fence.wide.round = none := rfl
 have HN := a_ hn
 have HC := a_ hc
 have HA := a_ hA
 have HY := a_ hY
 have HJ := a_ hJ
 obtain ⟨N, hN⟩ : ∃ N, N = Chunk.count n := ⟨_, rfl⟩
 have HNN : Aside0 (N * 65535 < n + 65535 ∧ n ≤ N * 65535) := ⟨by rw [hN]; unfold Chunk.count; omega⟩
 have HS0 := a_ hs
 have HB0 := a_ hb
 have HJ0 := a_ h0
 have HN2 := a_ hN
 clear hs hb hJ h0 hn hc hA hY hN
 refine callsIn_of_wp Tryd.func70 rfl trivial ?_ hro
 simp only [Tryd.ntmps70, List.size_toArray, List.length_cons, List.length_nil, Nat.reduceAdd, Nat.reduceSub, Array.replicate_succ, Array.replicate_zero, List.push_toArray, List.append_toArray, List.nil_append, List.cons_append]
 gi_wp2
 gi_loopw [4] (fun i wr => ∃ k q : Nat, k ≤ N ∧ i = .int .i64 (q : Int) ∧ Aside0 (q = k * 65535) ∧ Aside0 (J (List.range k) wr) ∧ Aside0 (Chunk.Keeps bs bn W wr))
  (fun i _ => N * 65535 - (intOf i).toNat)
 case atStart => exact ⟨0, 0, Nat.zero_le _, rfl, ⟨rfl⟩, ⟨HJ0.out⟩, ⟨fun _ _ => rfl⟩⟩
 case round =>
  obtain ⟨k, q, hk, rfl, HQ, hJs, hKs⟩ := hrel; have BS := a_ ((hKs.out bs (.inl rfl)).trans HS0.out); have BN := a_ ((hKs.out bn (.inr rfl)).trans HB0.out); have hcs := bc0 BS; have hcn := bc0 BN
  by_cases hlt : k < N
  ·have hkn : q < n := by have := HNN.out; have := HQ.out; omega
   obtain ⟨ad, rfl⟩ := HA.out (by omega); have c1 : decide ((q : Int) < (n : Int)) = true := dt_ (by omega); have c1n : decide (q < n) = true := dt_ hkn; have p2 : (0 : Int) ≤ (q : Int) := by omega
   have p3 : (q : Int) ≤ (n : Int) := by omega
   obtain ⟨i0, hi0, _, hsz, _⟩ := info_parts info5; have hcut := b1V (P := Tryd.prog) 22 5 .i64 Tryd.underlying22 hi0 1 hsz (some ad) n c (q : Int) p2 p3; obtain ⟨x16, hx16⟩ : ∃ x_ : Option Addr, x_ = (if c = (q : Int).toNat then (some ad) else ((some ad) : Option Addr).map (·.add ((q : Int).toNat * 1))) := ⟨_, rfl⟩; obtain ⟨n16, hn16⟩ : ∃ n_, n_ = n - (q : Int).toNat := ⟨_, rfl⟩; obtain ⟨c16, hc16⟩ : ∃ c_, c_ = c - (q : Int).toNat := ⟨_, rfl⟩; rw [← hx16, ← hn16, ← hc16] at hcut; rw [Int.toNat_natCast] at hn16; have h0q := a_ hn16; obtain ⟨en, hen⟩ : ∃ e_ : Nat, e_ = min 65535 n16 := ⟨_, rfl⟩; have HEN := a_ hen; have hmn : (if (n16 : Int) < 65535 then (n16 : Int) else 65535) = (en : Int) := by rw [hen]; split <;> omega
   have HMN := a_ hmn; obtain ⟨z, hz⟩ : ∃ z_ : Nat, z_ = q + en := ⟨_, rfl⟩; have HZ := a_ hz; have hzb : z ≤ n ∧ q ≤ z := by have := HNN.out; have := HQ.out; omega
   have hzw : IntKind.i64.wrap ((q : Int) + (en : Int)) = (z : Int) := by rw [IntWalk.i64_in _ (by have := HN.out; omega)]; omega
   have HZW := a_ hzw; have hfull : ∀ W : World, (Instr.slice 22 (.slice (some ad) n c) (some (.int .i64 (q : Int))) (some (.int .i64 (z : Int))) (some (.int .i64 (z : Int)))).run Tryd.prog W = .ok (Chunk.val (some ad) n k) W := by
    intro W; rw [d5p (P := Tryd.prog) 22 5 .i64 .i64 .i64 Tryd.underlying22 hi0 1 hsz (some ad) n c (q : Int) (z : Int) (z : Int) p2 (by omega) (by omega) (by have := HC.out; omega) W]
    simp only [Int.toNat_natCast]
    have hne : ¬ z = q := by have := HNN.out; have := HQ.out; omega
    rw [if_neg hne]; unfold Chunk.val; rw [show q * 1 = k * 65535 from by have := HQ.out; omega, show z - q = min 65535 (n - k * 65535) from by have := HQ.out; omega]
   have f1C := a_ hfull; clear hx16 hc16 hi0 hsz hn16 hen hmn hz hzw hfull hzb
   gi_wp2
   refine wpIn_wide.2 ?_; refine a2U (n := 7) (S := fun w' => w'.cell? ⟨bs, 0, none⟩ = some (.slice (some ad) n c) ∧ w'.cell? ⟨bn, 0, none⟩ = some (.int .i64 65535)) (ds := []) (bo_ 7 0) (by kernel_rfl) rfl rfl ⟨hcs, hcn⟩ (fun hHeld => ?_); refine a3l (i := 2) (N := some 15) (bo_ 7 4) rfl rfl (by kernel_rfl) (fun _ _ _ h => h) (.inl ⟨rfl, by intro w'; go_simp; with_reducible rfl⟩) rfl ?_; refine a0Y (i := 0) (N := some 13) (v := ?_) (a' := ?_) (bo_ 7 5) rfl rfl (by kernel_rfl) (fun _ _ _ h => h) (Or.inl ⟨by rfl, ?_⟩) hHeld ?_ ?_
   rotate_left
   ·rintro w' ⟨s0, s1⟩
    go_simp
    with_reducible rfl
   rotate_left
   ·simp only [Act.put, List.setIfInBounds_toArray, List.set_cons_zero, List.set_cons_succ, a0D, a1b]
    rfl
   refine a0Y (i := 1) (N := some 14) (v := ?_) (a' := ?_) (bo_ 7 7) rfl rfl (by kernel_rfl) (fun _ _ _ h => h) (Or.inl ⟨by rfl, ?_⟩) hHeld ?_ ?_
   rotate_left
   ·rintro w' ⟨s0, s1⟩
    go_simp
    with_reducible rfl
   rotate_left
   ·simp only [Act.put, List.setIfInBounds_toArray, List.set_cons_zero, List.set_cons_succ, a0D, a1b]
    rfl
   refine a3l (i := 3) (N := some 16) (bo_ 7 15) rfl rfl (by kernel_rfl) (fun _ _ _ h => h) (.inl ⟨rfl, by intro w'; go_simp; with_reducible rfl⟩) rfl ?_; refine a3l (i := 4) (N := some 17) (bo_ 7 31) rfl rfl (by kernel_rfl) (fun _ _ _ h => h) (.inl ⟨rfl, by intro w'; go_simp; with_reducible rfl⟩) rfl ?_; refine a3l (i := 5) (N := some 18) (bo_ 7 63) rfl rfl (by kernel_rfl) (fun _ _ _ h => h) (.inl ⟨rfl, by intro w'; go_simp; with_reducible rfl⟩) rfl ?_; refine a3l (i := 6) (N := some 5) (bo_ 7 127) rfl rfl (by kernel_rfl) (fun _ _ _ h => h) (.inl ⟨rfl, by intro w'; go_simp; with_reducible rfl⟩) rfl ?_; refine a4J (by kernel_rfl) ?_

   have hcs2 : wr.drew.cell? ⟨bs, 0, none⟩ = some (.slice (some ad) n c) := hcs; have f1D : wr.drew.cell? ⟨bn, 0, none⟩ = some (.int .i64 65535) := hcn; have HJD := a_ (HJ.out _ _ hJs.out); have HKD : Aside0 (Chunk.Keeps bs bn W wr.drew) := ⟨hKs.out⟩; generalize wr.drew = wd at hcs2 f1D HJD HKD ⊢; rw [HMN.out]; obtain ⟨fn, tmps, assign, body, hy, hR⟩ := HY.out (List.range k) k wd HJD.out (by rw [List.length_range, ← HN2.out]; exact hlt); have hfull := f1C.out; have hzw := HZW.out; clear hcut hcs hcn
   gi_wp2
   refine hR.mono ?_; rintro e W3 (⟨rfl, hJ3, hk3⟩ | ⟨rfl, hJx3⟩)
   ·have h0v : W3.cell? ⟨bn, 0, none⟩ = some (.int .i64 65535) := (D8 ((hk3 bn (.inr rfl)).trans ((HKD.out bn (.inr rfl)).trans HB0.out)) 0).trans rfl; have h0w : IntKind.i64.wrap ((q : Int) + 65535) = ((q + 65535 : Nat) : Int) := by rw [IntWalk.i64_in _ (by have := HN.out; omega)]; omega
    clear hy hfull hzw hcs2 f1D
    gi_wp2
    go_roundw
    case rel => exact ⟨k + 1, q + 65535, by omega, by (rfl), ⟨by have := HQ.out; omega⟩, ⟨by rw [List.range_succ]; exact hJ3⟩, ⟨fun k_ hk_ => (hk3 k_ hk_).trans (HKD.out k_ hk_)⟩⟩
    case measure => have := HNN.out; have := HQ.out; simp [intOf]; omega
   ·gi_wp2
    refine bodyPost_ret (results_none rfl _ _ _) rfl ?_; exact ⟨⟨_, rfl⟩, .inr ⟨_, trivial, hJx3⟩⟩
  ·have hkn : ¬ q < n := by have := HNN.out; have := HQ.out; omega
   have c1 : decide ((q : Int) < (n : Int)) = false := df_ (by omega); have c1n : decide (q < n) = false := df_ hkn; obtain rfl : k = N := by omega
   gi_wp2
   go_end0
   exact ⟨⟨_, rfl⟩, .inl ⟨_, by rw [HN2.out], hJs.out⟩⟩
theorem Chunk.stops (m bs bn : Nat) (hm : 1 ≤ m) (A : Option Addr) (n c : Nat) (hA : 0 < n → ∃ ad, A = some ad) (hc : n ≤ c) (hn : n ≤ 140737488355328) (w : World) (hs : w.heap[bs]? = some (.cells #[.slice A n c] 22 (0, 0))) (hb : w.heap[bn]? = some (.cells #[.int .i64 65535] 3 (0, 0))) :
  SeqStopsK Fence.wide m Tryd.prog 70 #[.pointer (some ⟨bs, 0, none⟩), .pointer (some ⟨bn, 0, none⟩)] (fun j : Nat => #[Chunk.val A n j]) (Chunk.Keeps bs bn) (fun xs => xs = List.range (Chunk.count n)) (fun _ => True) (Chunk.count n) w := fun l J Jx W hW hJ _ hY h0 =>
 Chunk.next m l bs bn hm A n c hA hc hn J Jx hY W ((hW.block bs (a0B hs)).trans hs) ((hW.block bn (a0B hb)).trans hb) (fun pre w h => hJ pre w w.drew none h (a4U (a1K (Below.refl _ _)) none) (fun r e => by cases e)) h0
theorem b3e.calls (A : Option Addr) (n c : Nat) (w : World) :
  Calls Tryd.prog 52 #[.slice A n c, .int .i64 65535] w fun e w' => e = .returned (.func (.func 70) #[] #[.pointer (some ⟨w.heap.size, 0, none⟩), .pointer (some ⟨w.heap.size + 1, 0, none⟩)]) ∧ w'.heap[w.heap.size]? = some (.cells #[.slice A n c] 22 (0, 0)) ∧ w'.heap[w.heap.size + 1]? = some (.cells #[.int .i64 65535] 3 (0, 0)) ∧ Below w.heap.size w w' := by
 go_enter Tryd.func52, Tryd.ntmps52
 go_wp2
 go_ret
 have h1 := heap_alloc_new w (.cells #[.slice A n c] 22)
 have h2 := heap_alloc_new (w.alloc (.cells #[.slice A n c] 22)) (.cells #[.int .i64 65535] 3)
 refine ⟨by simp, a7O h1 _, by simpa using h2, Z7 (Z7 (Below.refl _ _) _) _⟩

end Go.Proofs.YtgnonglkibhnhaaDoor.Print
