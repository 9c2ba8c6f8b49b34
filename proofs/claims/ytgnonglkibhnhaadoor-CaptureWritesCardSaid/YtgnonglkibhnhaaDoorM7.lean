-- laid together by this session's own program (wip/tools/merge.py) of texts that its program laid
import Derived.Test.YtgnonglkibhnhaaDoorM2
namespace Go.Proofs.YtgnonglkibhnhaaDoor.Print
open Go.RowKit Go.Proofs.YtgnonglkibhnhaaDoorW.PrintWords Go.Proofs.YtgnonglkibhnhaaDoorW.PrintLast Go.Proofs.YtgnonglkibhnhaaDoorW.PrintMore
attribute [local go_sem] a0d a0e a0V a0W X5 X6 a0f a0g
set_option linter.unusedVariables false
set_option linter.unusedSimpArgs false
set_option maxHeartbeats 16000000
set_option maxRecDepth 100000
def a5i.f (l0 : List Int) (a1 : Int) : Option (List Int) := if 0 ≤ (mn (mx a1 0) (l0.length : Int)) then (if (mn (mx a1 0) (l0.length : Int)) ≤ (l0.length : Int) then ((N8.f (l0.drop ((mn (mx a1 0) (l0.length : Int)) : Int).toNat)).bind fun t141 => (some t141)) else (none)) else (none)
theorem a5i.calls (A0 : Option Addr) (c0 : Nat) (l0 : List Int) (a1 : Int) (r : List Int) (w : World) (hr0 : Kd.C (Kd.int .u8) w A0 l0.length l0) (hc0 : l0.length ≤ c0) (h : a5i.f l0 a1 = some r) :
  Calls Tryd.prog 82 #[.slice A0 l0.length c0, .int .i64 a1] w fun e w' => ∃ v0_ : Value, e = .returned (v0_) ∧ Kd.R (Kd.int .u8) 5 w' w.heap.size (fun _ => True) v0_ r ∧ Below w.heap.size w w' := by
 have HR0 := a_ hr0
 have HC0 := a_ hc0
 clear hr0 hc0
 have HB := a_ (Below.refl w.heap.size w)
 have H := h
 clear h
 unfold a5i.f at H
 obtain ⟨ji3, e4X⟩ := si_ ((mx a1 0))
 rw [e4X] at H
 (try (have g6e : 0 ≤ ji3 := by (rw [← e4X]; unfold mx; (repeat' split) <;> omega)))
 (try (have g6f : 0 ≤ ji3 := by omega))
 have g6g : (if a1 < 0 then 0 else a1) = ji3 := e4X
 obtain ⟨ji4, f06⟩ := si_ ((mn (ji3) (l0.length : Int)))
 rw [f06] at H
 have g6h : (if (l0.length : Int) < (ji3) then (l0.length : Int) else (ji3)) = ji4 := f06
 have c5 := X4 H
 replace H := O6 H
 have a7h := eq_true c5
 have b3X := dt_ c5
 clear c5
 have c6 := X4 H
 replace H := O6 H
 have a5Y := eq_true c6
 have b2w := dt_ c6
 clear c6
 obtain ⟨t141, A7, H⟩ := bd_ H
 try dsimp only at H
 obtain rfl := oj_ H
 obtain ⟨i08, d4X, _, d4Y, _⟩ := info_parts info5
 obtain ⟨A8, f0W, hA8, hC8⟩ := a2q (P := Tryd.prog) (Value.int .u8) 0 22 5 .i64 Tryd.underlying22 d4X d4Y A0 c0 l0 (ji4) (U9) (U9) HC0.out
 have f07 := ci_ (Kd.a2a (h1 := fun _ => rfl) (hA8 _ (Kd.a1L HR0.out)))
 have f08 := a_ hC8
 clear hA8 hC8 d4X d4Y
 go_enter Tryd.func82, Tryd.ntmps82
 go_wp2_with (first | (refine gl_ (some 12) Tryd.func96 #[.slice A8 (l0.drop ((ji4) : Int).toNat).length (c0 - (ji4).toNat)] ?_ (hargs := by (try simp only [List.map_toArray, List.map_cons, List.map_nil]); (rw [show (l0.drop ((ji4) : Int).toNat).length = (l0.length - (ji4).toNat) from List.length_drop] <;> rfl)); (with_reducible refine (N8.calls _ _ (l0.drop ((ji4) : Int).toNat) t141 _ f07.out f08.out A7.out).mono ?_); rintro e w9 ⟨g9O, rfl, ho0, hb⟩; refine ⟨_, rfl, ?_⟩; have f09 := rl_ ho0 HB; replace HB := Q8 HB hb; (try clear hb); (try clear ho0)))
 go_ret
 exact ⟨_, by (rfl), by exact f09.out, by exact HB.out⟩
structure DF where
 inn : Bool
 held : List Int
 tg : Int
 ta : Int
 ts : Int
 tl : Int
 tw : Int
 done : List (List Int)
def DF.init : DF := ⟨false, [], 0, 0, 0, 0, 0, []⟩
def DF.fn : Bool → Nat → Value
 | true, p => .func (.func 84) #[.pointer (some ⟨p, 0, none⟩)] #[]
 | false, p => .func (.func 65) #[.pointer (some ⟨p, 0, none⟩)] #[]
def DF.cells (m : Int) (wide : Bool) (p : Nat) (vh vd : Value) (s : DF) : Array Value := #[.int .u32 m, .bool wide, DF.fn s.inn p, vh, .int .i64 s.tg, .int .i64 s.ta, .int .i64 s.ts, .int .i64 s.tl, .int .i64 s.tw, vd]
structure DFI (B D : Nat) (W : World) (p : Nat) (vh vd : Value) (m : Int) (wide : Bool) (s : DF) : Prop where
 blk : W.heap[p]? = some (.cells (DF.cells m wide p vh vd s) 120 (0, 0))
 held : Kd.R (Kd.int .u8) 5 W B (fun k => k ≠ p ∧ some k ≠ vd.ownBlock) vh s.held
 done : Kd.S (Kd.slice 5 (Kd.int .u8)) 22 W D (fun k => k ≠ p ∧ some k ≠ vh.ownBlock) vd s.done
 le : B ≤ p
theorem DFI.below {B D : Nat} {W W1 : World} {p : Nat} {vh vd : Value} {m : Int} {wide : Bool} {s : DF} (h : DFI B D W p vh vd m wide s) (hb : Below W.heap.size W W1) : DFI B D W1 p vh vd m wide s := ⟨Q5 h.blk hb, Kd.a1P h.held hb, Kd.a4W h.done hb, h.le⟩
theorem DFI.drewN {B D : Nat} {W : World} {p : Nat} {vh vd : Value} {m : Int} {wide : Bool} {s : DF} (h : DFI B D W p vh vd m wide s) (n : Nat) : DFI B D (W.drewN n) p vh vd m wide s := h.below (y5 (Below.refl _ _) n)
theorem DFI.set {B D : Nat} {W : World} {p : Nat} {vh vd : Value} {m : Int} {wide : Bool} {s : DF} (h : DFI B D W p vh vd m wide s) (j : Nat) (u : Value) (s' : DF) (he : (DF.cells m wide p vh vd s).setIfInBounds j u = DF.cells m wide p vh vd s') (h1 : s'.held = s.held) (h2 : s'.done = s.done) : DFI B D (W.setCell ⟨p, j, none⟩ u) p vh vd m wide s' :=
 ⟨by rw [← he]; exact a3F h.blk j u, by rw [h1]; exact Kd.V4 h.held (fun k hk => hk.1) u, by rw [h2]; exact Kd.a1m h.done (fun k hk => hk.1) u, h.le⟩
theorem DFI.cell {B D : Nat} {W : World} {p : Nat} {vh vd : Value} {m : Int} {wide : Bool} {s : DF} (h : DFI B D W p vh vd m wide s) (j : Nat) (u : Value) (he : (DF.cells m wide p vh vd s)[j]? = some u) : W.cell? ⟨p, j, none⟩ = some u := (D8 h.blk j).trans he
theorem DFI.free {B D : Nat} {W : World} {p : Nat} {vh vd : Value} {m : Int} {wide : Bool} {s : DF} (h : DFI B D W p vh vd m wide s) (j : Nat) : W.frozen? ⟨p, j, none⟩ = false := l7 h.blk j
structure DFK (B : Nat) (W W' : World) (S : Nat → Prop) : Prop where
 bel : Below B W W'
 kept : Kept W W' S
theorem DFK.below {B : Nat} {W W' W2 : World} {S : Nat → Prop} (h : DFK B W W' S) (hB : B ≤ W.heap.size) (hb : Below W'.heap.size W' W2) : DFK B W W2 S := ⟨h.bel.trans (hb.mono (Nat.le_trans hB h.kept.1)), h.kept.below hb⟩
theorem DFK.refl (B : Nat) (W : World) (S : Nat → Prop) : DFK B W W S := ⟨Below.refl _ _, Kept.refl _ _⟩
theorem DFK.set {B : Nat} {W W' : World} {S : Nat → Prop} (h : DFK B W W' S) {p : Nat} (hp : S p) (hB : B ≤ p) (j : Nat) (u : Value) : DFK B W (W'.setCell ⟨p, j, none⟩ u) S := ⟨h.bel.setCell hB u, h.kept.setCell (Or.inl hp) u⟩
theorem DFK.grown {B D : Nat} {W W' W2 : World} {S : Nat → Prop} {row : Option Nat} (h : DFK B W W' S) (hB : B ≤ D) (hb : Below D W' W2) (hg : W'.grownBy W2 row) (hr : ∀ k, row = some k → S k) : DFK B W W2 S := ⟨h.bel.trans (hb.mono hB), h.kept.b1R hg (fun k hk => Or.inl (hr k hk))⟩
theorem DFK.trans {B : Nat} {w W W2 : World} {S S2 : Nat → Prop} (h : DFK B w W S) (h2 : DFK B W W2 S2) (hs : ∀ k, S2 k → S k ∨ w.heap.size ≤ k) : DFK B w W2 S := ⟨h.bel.trans h2.bel, h.kept.then_ h2.kept hs⟩
theorem DFK.drewN {B : Nat} {W W' : World} {S : Nat → Prop} (h : DFK B W W' S) (n : Nat) : DFK B W (W'.drewN n) S := ⟨h.bel.trans (y5 (Below.refl _ _) n), h.kept.drewN n⟩
theorem b0j.calls (m : Int) (wide : Bool) (w : World) :
  Calls Tryd.prog 45 #[.int .u32 m, .bool wide] w fun e w' => e = .returned (.pointer (some ⟨w.heap.size, 0, none⟩)) ∧ Aside0 (∀ D, DFI w.heap.size D w' w.heap.size (.slice none 0 0) (.slice none 0 0) m wide DF.init) ∧ Aside0 (Below w.heap.size w w') := by
 have hu := Tryd.underlying120
 go_enter Tryd.func45, Tryd.ntmps45
 go_wp2
 go_ret
 exact ⟨rfl, ⟨fun D => ⟨heap_alloc_new w _, Kd.Y4 _ _ _ _ _, Kd.a7k _ _ _ _ _, Nat.le_refl _⟩⟩, ⟨Z7 (Below.refl _ _) _⟩⟩
theorem a3t.flag (B D p : Nat) (vh vd : Value) (m : Int) (wide : Bool) (s : DF) (W : World) (h : DFI B D W p vh vd m wide s) (hB : B ≤ W.heap.size) (hs : s.inn = false) :
  Calls Tryd.prog 65 #[.pointer (some ⟨p, 0, none⟩), .int .u8 126] W fun e W' => e = .returned (.tuple #[]) ∧ Aside0 (DFI B D W' p vh vd m wide { s with inn := true }) ∧ Aside0 (DFK B W W' (fun k => k = p)) := by
 have HH := a_ h
 have HBB := a_ hB
 have hu := Tryd.underlying120
 have hc2 := h.cell 2 _ rfl
 have hf2 := h.free 2
 have HS := a_ hs
 clear h hB hs
 go_enter Tryd.func65, Tryd.ntmps65
 go_wp2
 go_end0
 exact ⟨rfl, ⟨HH.out.set 2 _ { s with inn := true } (by unfold DF.cells; rfl) rfl rfl⟩, ⟨DFK.set (S := fun k => k = p) (DFK.refl B W _) (show p = p from rfl) HH.out.le 2 _⟩⟩
theorem a3t.other (c : Int) (hc : c ≠ 126) (p : Nat) (W : World) :
  Calls Tryd.prog 65 #[.pointer (some ⟨p, 0, none⟩), .int .u8 c] W fun e W' => e = .returned (.tuple #[]) ∧ W' = W := by
 have h1 : (c == 126) = false := by simpa using hc
 have h2 : decide (c = 126) = false := by simpa using hc
 clear hc
 go_enter Tryd.func65, Tryd.ntmps65
 go_wp2
 go_end0
 exact ⟨rfl, rfl⟩
def a0c.l0 : Nat → Int → List Int → Bool → List Int → Int → Int → Option (List Int × Bool)
 | 0, _, _, _, _, _, _ => none
 | k + 1, x1, x6, x7, x10, x11, x12 => if x12 < x11 then (if 0 ≤ x12 then (if x12 < (x10.length : Int) then (if (rd x10 x12) = 126 then (some (([] : List Int), false)) else ((a3v.f x1 (rd x10 x12)).bind fun t182 => (if t182 = true then (a0c.l0 k x1 x6 x7 x10 x11 (wrap64 (x12 + 1))) else (if x7 = true then (if x6.length < 140737488355328 then (a0c.l0 k x1 (x6 ++ [Go.bits .xor .u8 (rd x10 x12) 32]) false x10 x11 (wrap64 (x12 + 1))) else (none)) else (if (rd x10 x12) = 125 then (a0c.l0 k x1 x6 true x10 x11 (wrap64 (x12 + 1))) else (if x6.length < 140737488355328 then (a0c.l0 k x1 (x6 ++ [rd x10 x12]) x7 x10 x11 (wrap64 (x12 + 1))) else (none))))))) else (none)) else (none)) else (if x7 = true then (some (([] : List Int), false)) else (some (x6, true)))
def a0c.f (k : Nat) (l0 : List Int) (a1 : Int) : Option (List Int × Bool) := a0c.l0 k a1 ([] : List Int) false l0 (l0.length : Int) 0
theorem a0c.calls (k : Nat) (A0 : Option Addr) (c0 : Nat) (l0 : List Int) (a1 : Int) (r1 : List Int) (r2 : Bool) (w : World) (hr0 : Kd.C (Kd.int .u8) w A0 l0.length l0) (hc0 : l0.length ≤ c0) (h : a0c.f k l0 a1 = some (r1, r2)) :
  Calls Tryd.prog 106 #[.slice A0 l0.length c0, .int .u32 a1] w fun e w' => ∃ v0_ : Value, e = .returned (.tuple #[v0_, .bool r2]) ∧ Kd.R (Kd.int .u8) 5 w' w.heap.size (fun _ => True) v0_ r1 ∧ Below w.heap.size w w' := by
 have HR0 := a_ hr0
 have HC0 := a_ hc0
 clear hr0 hc0
 have HB := a_ (Below.refl w.heap.size w)
 have H := h
 clear h
 unfold a0c.f at H
 have H' := a_ H
 clear H
 go_enter Tryd.func106, Tryd.ntmps106
 go_wp2
 go_loopg [6, 7, 12] k (fun kq v6 v7 v12 w' => ∃ (a0w : List Int) (P9 : Bool) (C9 : Int), v7 = .bool P9 ∧ v12 = .int .i64 C9 ∧ Aside0 (a0c.l0 kq a1 a0w P9 l0 (l0.length : Int) C9 = some (r1, r2)) ∧ Aside0 (kq ≤ k) ∧ Aside0 (Kd.R (Kd.int .u8) 5 w' w.heap.size (fun _ => True) v6 a0w) ∧ Aside0 (Below w.heap.size w w'))
 case atStart => exact ⟨([] : List Int), (false), (0), (by rfl), (by rfl), H', ⟨Nat.le_refl _⟩, ⟨by (exact Kd.Y4 _ _ _ _ _)⟩, ⟨by exact HB.out⟩⟩
 case round =>
  clear H'; obtain ⟨a0w, P9, C9, rfl, rfl, HA, HK1, a1X, HB⟩ := hrel
  cases gk with
  | zero => exact absurd HA.out (by simp [a0c.l0])
  | succ k1 =>
   have H := HA.out; clear HA
   simp only [a0c.l0] at H
   by_cases c3 : C9 < (l0.length : Int)
   ·rw [if_pos c3] at H; have a3w := dt_ c3; clear c3; have a3x := a2Q H; replace H := O6 H; have a7h := a2Q H; replace H := O6 H
    by_cases c6 : (rd l0 C9) = 126
    ·rw [if_pos c6] at H; obtain ⟨a5Y, b2w⟩ := bt_ c6; clear c6; obtain ⟨rfl, rfl⟩ := s2_ H; have a8W : 0 ≤ (C9 : Int) := U9; have a8X : C9 < (l0.length : Int) := U9; obtain ⟨c7C, e181, a3K⟩ := Kd.a0x HR0.out C9 a8W a8X
     cases e181
     replace a3K := J9 HB a3K; replace a8W := eq_true a8W; replace a8X := eq_true a8X
     go_wp2
     go_ret2
     exact ⟨_, by (rfl), by (exact Kd.Y4 _ _ _ _ _), by exact HB.out⟩
    ·rw [if_neg c6] at H; have a5Y := bq_ c6; have b2w := bn_ c6; obtain ⟨t182, A7, H⟩ := bd_ H
     try dsimp only at H
     by_cases c8 : t182 = true
     ·subst c8; rw [if_pos rfl] at H; have H' := a_ H; clear H; have a8W : 0 ≤ (C9 : Int) := U9; have a8X : C9 < (l0.length : Int) := U9; obtain ⟨c7C, e181, a3K⟩ := Kd.a0x HR0.out C9 a8W a8X
      cases e181
      replace a3K := J9 HB a3K; replace a8W := eq_true a8W; replace a8X := eq_true a8X
      go_wp2_with (first | (refine gl_ (some 26) Tryd.func111 #[.int .u32 a1, .int .u8 (rd l0 C9)] ?_; (with_reducible refine (a3v.calls a1 (rd l0 C9) true _ A7.out).mono ?_); rintro e w' ⟨rfl, ⟨nd, rfl⟩⟩; refine ⟨_, rfl, ?_⟩))
      go_roundg k1
      case measure => have := HK1.out; omega
      case rel => exact ⟨(a0w), (P9), (wrap64 (C9 + 1)), (by rfl), (by rfl), H', ⟨by have := HK1.out; omega⟩, ⟨by (with_reducible repeat (apply Kd.a1Q)); exact a1X.out⟩, ⟨by repeat (with_reducible first | exact HB.out | apply y5)⟩⟩
     ·cases nt_ c8
      rw [if_neg a2O] at H
      by_cases c9 : P9 = true
      ·subst c9; rw [if_pos rfl] at H; have c10 := X4 H; replace H := O6 H; have c1J := a_ c10; clear c10; obtain ⟨g2h, d43⟩ := is_ ((a0w ++ [Go.bits .xor .u8 (rd l0 C9) 32]) : List Int); rw [← d43] at H; have f1b := a_ d43; clear d43; have H' := a_ H; clear H; have a8W : 0 ≤ (C9 : Int) := U9; have a8X : C9 < (l0.length : Int) := U9; obtain ⟨c7C, e181, a3K⟩ := Kd.a0x HR0.out C9 a8W a8X
       cases e181
       replace a3K := J9 HB a3K; replace a8W := eq_true a8W; replace a8X := eq_true a8X
       go_wp2_with (first | (refine gl_ (some 26) Tryd.func111 #[.int .u32 a1, .int .u8 (rd l0 C9)] ?_; (with_reducible refine (a3v.calls a1 (rd l0 C9) false _ A7.out).mono ?_); rintro e w' ⟨rfl, ⟨nd, rfl⟩⟩; refine ⟨_, rfl, ?_⟩) | ((with_reducible refine D6 (b := .append) (xs := #[.tmp 29, .tmp 32]) rfl ?_); at_builtin; refine Kd.a1F (Kd.int .u8) (w0 := w) w.heap.size rfl (.tmp 29) (.tmp 32) 22 5 (.int .u8 0) 1 rfl Tryd.underlying22 info5 rfl (by decide) (by omega) u6 a0w (Go.bits .xor .u8 (rd l0 C9) 32) [.int .u8 (Go.bits .xor .u8 (rd l0 C9) 32)] (fun _ => True) (fun _ => False) rfl rfl ?aP (fun _ hk => hk.elim) ?aF ?aO ?aB ?aS ?aL ?_; (case aP => exact rfl); (case aB => exact (by repeat (with_reducible first | exact HB.out | apply y5))); (case aF => exact (fun _ _ => trivial)); (case aO => exact (by (with_reducible repeat (apply Kd.a1Q)); exact a1X.out)); (case aS => exact (o9 (by repeat (with_reducible first | exact HB.out | apply y5)))); (case aL => have := c1J.out; omega); intro g9P w11 ho hb hg hat; rw [← f1b.out] at ho; have f1c := a_ ho; replace HB := a_ hb; clear a1X ho hb hg hat))
       go_roundg k1
       case measure => have := HK1.out; omega
       case rel => exact ⟨(g2h), (false), (wrap64 (C9 + 1)), (by rfl), (by rfl), H', ⟨by have := HK1.out; omega⟩, ⟨by exact f1c.out⟩, ⟨by exact HB.out⟩⟩
      ·cases nt_ c9
       rw [if_neg a2O] at H
       by_cases c12 : (rd l0 C9) = 125
       ·rw [if_pos c12] at H; obtain ⟨b2r, b4n⟩ := bt_ c12; clear c12; have H' := a_ H; clear H; have a8W : 0 ≤ (C9 : Int) := U9; have a8X : C9 < (l0.length : Int) := U9; obtain ⟨c7C, e181, a3K⟩ := Kd.a0x HR0.out C9 a8W a8X
        cases e181
        replace a3K := J9 HB a3K; replace a8W := eq_true a8W; replace a8X := eq_true a8X
        go_wp2_with (first | (refine gl_ (some 26) Tryd.func111 #[.int .u32 a1, .int .u8 (rd l0 C9)] ?_; (with_reducible refine (a3v.calls a1 (rd l0 C9) false _ A7.out).mono ?_); rintro e w' ⟨rfl, ⟨nd, rfl⟩⟩; refine ⟨_, rfl, ?_⟩))
        go_roundg k1
        case measure => have := HK1.out; omega
        case rel => exact ⟨(a0w), (true), (wrap64 (C9 + 1)), (by rfl), (by rfl), H', ⟨by have := HK1.out; omega⟩, ⟨by (with_reducible repeat (apply Kd.a1Q)); exact a1X.out⟩, ⟨by repeat (with_reducible first | exact HB.out | apply y5)⟩⟩
       ·rw [if_neg c12] at H; have b2r := bq_ c12; have b4n := bn_ c12; have c13 := X4 H; replace H := O6 H; have d2H := a_ c13; clear c13; obtain ⟨g2i, d44⟩ := is_ ((a0w ++ [rd l0 C9]) : List Int); rw [← d44] at H; have f1d := a_ d44; clear d44; have H' := a_ H; clear H; have a8W : 0 ≤ (C9 : Int) := U9; have a8X : C9 < (l0.length : Int) := U9; obtain ⟨c7C, e181, a3K⟩ := Kd.a0x HR0.out C9 a8W a8X
        cases e181
        replace a3K := J9 HB a3K; replace a8W := eq_true a8W; replace a8X := eq_true a8X
        go_wp2_with (first | (refine gl_ (some 26) Tryd.func111 #[.int .u32 a1, .int .u8 (rd l0 C9)] ?_; (with_reducible refine (a3v.calls a1 (rd l0 C9) false _ A7.out).mono ?_); rintro e w' ⟨rfl, ⟨nd, rfl⟩⟩; refine ⟨_, rfl, ?_⟩) | ((with_reducible refine D6 (b := .append) (xs := #[.tmp 16, .tmp 18]) rfl ?_); at_builtin; refine Kd.a1F (Kd.int .u8) (w0 := w) w.heap.size rfl (.tmp 16) (.tmp 18) 22 5 (.int .u8 0) 1 rfl Tryd.underlying22 info5 rfl (by decide) (by omega) u6 a0w (rd l0 C9) [.int .u8 (rd l0 C9)] (fun _ => True) (fun _ => False) rfl rfl ?aP (fun _ hk => hk.elim) ?aF ?aO ?aB ?aS ?aL ?_; (case aP => exact rfl); (case aB => exact (by repeat (with_reducible first | exact HB.out | apply y5))); (case aF => exact (fun _ _ => trivial)); (case aO => exact (by (with_reducible repeat (apply Kd.a1Q)); exact a1X.out)); (case aS => exact (o9 (by repeat (with_reducible first | exact HB.out | apply y5)))); (case aL => have := d2H.out; omega); intro g9Q w14 ho hb hg hat; rw [← f1d.out] at ho; have f1e := a_ ho; replace HB := a_ hb; clear a1X ho hb hg hat))
        go_roundg k1
        case measure => have := HK1.out; omega
        case rel => exact ⟨(g2i), (false), (wrap64 (C9 + 1)), (by rfl), (by rfl), H', ⟨by have := HK1.out; omega⟩, ⟨by exact f1e.out⟩, ⟨by exact HB.out⟩⟩
   ·rw [if_neg c3] at H; have a3w := df_ c3; clear c3
    by_cases c15 : P9 = true
    ·subst c15; rw [if_pos rfl] at H; obtain ⟨rfl, rfl⟩ := s2_ H
     go_wp2
     go_ret2
     exact ⟨_, by (rfl), by (exact Kd.Y4 _ _ _ _ _), by exact HB.out⟩
    ·cases nt_ c15
     rw [if_neg a2O] at H; obtain ⟨rfl, rfl⟩ := s2_ H
     go_wp2
     go_ret2
     exact ⟨_, by (rfl), by exact a1X.out, by exact HB.out⟩
def a8h.f (l0 : List Int) (a1 : Bool) : Option (Bool) := if a1 = true then ((a2j.f a1).bind fun c4z => (if (l0.length : Int) ≥ c4z then ((a2Y.f a1).bind fun d9a => ((Y0.f d9a l0 a1).bind fun e4Z => (some (e4Z == 3736805603)))) else (some false))) else ((a2j.f a1).bind fun c4A => (if (l0.length : Int) ≥ c4A then ((a2Y.f a1).bind fun t193 => ((Y0.f t193 l0 a1).bind fun t194 => (some (t194 == 61624)))) else (some false)))
theorem a8h.calls (A0 : Option Addr) (c0 : Nat) (l0 : List Int) (a1 : Bool) (r : Bool) (w : World) (hr0 : Kd.C (Kd.int .u8) w A0 l0.length l0) (hc0 : l0.length ≤ c0) (h : a8h.f l0 a1 = some r) :
  Calls Tryd.prog 112 #[.slice A0 l0.length c0, .bool a1] w fun e w' => e = .returned (.bool r) ∧ Below w.heap.size w w' := by
 have HR0 := a_ hr0
 have HC0 := a_ hc0
 clear hr0 hc0
 have HB := a_ (Below.refl w.heap.size w)
 have H := h
 clear h
 unfold a8h.f at H
 by_cases c3 : a1 = true
 ·subst c3; rw [if_pos rfl] at H; obtain ⟨c4z, A4, H⟩ := bd_ H
  try dsimp only at H
  by_cases c5 : (l0.length : Int) ≥ c4z
  ·rw [if_pos c5] at H; have a7h : decide (c4z ≤ (l0.length : Int)) = true := dt_ c5; clear c5; obtain ⟨d9a, A6, H⟩ := bd_ H
   (try dsimp only at H); obtain ⟨e4Z, A7, H⟩ := bd_ H
   (try dsimp only at H); obtain rfl := oj_ H
   go_enter Tryd.func112, Tryd.ntmps112
   go_wp2_with (first | (refine gl_ (some 10) Tryd.func105 #[.bool true] ?_; (with_reducible refine (a2j.calls true c4z _ A4.out).mono ?_); rintro e w' ⟨rfl, ⟨nd, rfl⟩⟩; refine ⟨_, rfl, ?_⟩) | (go_at_call 110; (with_reducible refine (a2Y.calls true d9a _ A6.out).mono ?_); rintro e w' ⟨rfl, ⟨nd, rfl⟩⟩) | (go_at_call 109; (with_reducible refine (Y0.calls d9a _ _ l0 true e4Z _ ?U1 ?U2 A7.out).mono ?_); (case U1 => exact HR0.out); (case U2 => exact HC0.out); rintro e w8 ⟨rfl, hb⟩; replace HB := a_ (L8 (by repeat (with_reducible first | exact HB.out | apply y5)) hb); (try clear hb)))
   go_ret
   exact ⟨by (rfl), by exact HB.out⟩
  ·rw [if_neg c5] at H; have a7h : decide (c4z ≤ (l0.length : Int)) = false := df_ c5; clear c5; obtain rfl := oj_ H
   go_enter Tryd.func112, Tryd.ntmps112
   go_wp2_with (first | (refine gl_ (some 10) Tryd.func105 #[.bool true] ?_; (with_reducible refine (a2j.calls true c4z _ A4.out).mono ?_); rintro e w' ⟨rfl, ⟨nd, rfl⟩⟩; refine ⟨_, rfl, ?_⟩))
   go_ret
   exact ⟨by (rfl), by repeat (with_reducible first | exact HB.out | apply y5)⟩
 ·cases nt_ c3
  rw [if_neg a2O] at H; obtain ⟨c4A, A9, H⟩ := bd_ H
  try dsimp only at H
  by_cases c10 : (l0.length : Int) ≥ c4A
  ·rw [if_pos c10] at H; have b2j : decide (c4A ≤ (l0.length : Int)) = true := dt_ c10; clear c10; obtain ⟨t193, A11, H⟩ := bd_ H
   (try dsimp only at H); obtain ⟨t194, A12, H⟩ := bd_ H
   (try dsimp only at H); obtain rfl := oj_ H
   go_enter Tryd.func112, Tryd.ntmps112
   go_wp2_with (first | (refine gl_ (some 10) Tryd.func105 #[.bool false] ?_; (with_reducible refine (a2j.calls false c4A _ A9.out).mono ?_); rintro e w' ⟨rfl, ⟨nd, rfl⟩⟩; refine ⟨_, rfl, ?_⟩) | (go_at_call 110; (with_reducible refine (a2Y.calls false t193 _ A11.out).mono ?_); rintro e w' ⟨rfl, ⟨nd, rfl⟩⟩) | (go_at_call 109; (with_reducible refine (Y0.calls t193 _ _ l0 false t194 _ ?U1 ?U2 A12.out).mono ?_); (case U1 => exact HR0.out); (case U2 => exact HC0.out); rintro e w13 ⟨rfl, hb⟩; replace HB := a_ (L8 (by repeat (with_reducible first | exact HB.out | apply y5)) hb); (try clear hb)))
   go_ret
   exact ⟨by (rfl), by exact HB.out⟩
  ·rw [if_neg c10] at H; have b2j : decide (c4A ≤ (l0.length : Int)) = false := df_ c10; clear c10; obtain rfl := oj_ H
   go_enter Tryd.func112, Tryd.ntmps112
   go_wp2_with (first | (refine gl_ (some 10) Tryd.func105 #[.bool false] ?_; (with_reducible refine (a2j.calls false c4A _ A9.out).mono ?_); rintro e w' ⟨rfl, ⟨nd, rfl⟩⟩; refine ⟨_, rfl, ?_⟩))
   go_ret
   exact ⟨by (rfl), by repeat (with_reducible first | exact HB.out | apply y5)⟩
def a9Z.f (l0 : List Int) (a1 : Bool) : Option (List Int × Bool) := (a8h.f l0 a1).bind fun e5a => (if e5a = true then ((a2j.f a1).bind fun t196 => (if 0 ≤ (wrap64 ((l0.length : Int) - t196)) then (if (wrap64 ((l0.length : Int) - t196)) ≤ (l0.length : Int) then ((N8.f (l0.take ((wrap64 ((l0.length : Int) - t196)) : Int).toNat)).bind fun t198 => (some (t198, true))) else (none)) else (none))) else (some (([] : List Int), false)))
theorem a9Z.calls (A0 : Option Addr) (c0 : Nat) (l0 : List Int) (a1 : Bool) (r1 : List Int) (r2 : Bool) (w : World) (hr0 : Kd.C (Kd.int .u8) w A0 l0.length l0) (hc0 : l0.length ≤ c0) (h : a9Z.f l0 a1 = some (r1, r2)) :
  Calls Tryd.prog 107 #[.slice A0 l0.length c0, .bool a1] w fun e w' => ∃ v0_ : Value, e = .returned (.tuple #[v0_, .bool r2]) ∧ Kd.R (Kd.int .u8) 5 w' w.heap.size (fun _ => True) v0_ r1 ∧ Below w.heap.size w w' := by
 have HR0 := a_ hr0
 have HC0 := a_ hc0
 clear hr0 hc0
 have HB := a_ (Below.refl w.heap.size w)
 have H := h
 clear h
 unfold a9Z.f at H
 obtain ⟨e5a, A3, H⟩ := bd_ H
 try dsimp only at H
 by_cases c4 : e5a = true
 ·subst c4; rw [if_pos rfl] at H; obtain ⟨t196, A5, H⟩ := bd_ H
  (try dsimp only at H); obtain ⟨ji6, d35⟩ := si_ ((wrap64 ((l0.length : Int) - t196))); rw [d35] at H; have e9K : (IntKind.i64.wrap ((l0.length : Int) - t196)) = ji6 := (a0D _).trans d35; have c7 := X4 H; replace H := O6 H; have a5H := eq_true c7; have b3Y := dt_ c7; clear c7; have c8 := X4 H; replace H := O6 H; have a9G := eq_true c8; have c9t := dt_ c8; clear c8; obtain ⟨t198, A9, H⟩ := bd_ H
  (try dsimp only at H); obtain ⟨rfl, rfl⟩ := s2_ H
  go_enter Tryd.func107, Tryd.ntmps107
  go_wp2_with (first | (refine gl_ (some 8) Tryd.func112 #[.slice A0 l0.length c0, .bool a1] ?_; (with_reducible refine (a8h.calls _ _ l0 a1 true _ HR0.out HC0.out A3.out).mono ?_); rintro e w10 ⟨rfl, hb⟩; refine ⟨_, rfl, ?_⟩; replace HB := Q8 HB hb; (try clear hb)) | (refine gl_ (some 14) Tryd.func105 #[.bool a1] ?_; (with_reducible refine (a2j.calls a1 t196 _ A5.out).mono ?_); rintro e w' ⟨rfl, ⟨nd, rfl⟩⟩; refine ⟨_, rfl, ?_⟩; obtain ⟨g9R, e1a, _, e1b, _⟩ := info_parts info5; obtain ⟨g2j, f1f, f1g⟩ := b7s (P := Tryd.prog) (Value.int .u8) 0 22 5 .i64 Tryd.underlying22 e1a e1b A0 c0 l0 (ji6) (U9) (U9) HC0.out; have f1h := ci_ (Kd.a2a (h1 := fun _ => rfl) (f1f _ (Kd.a1L HR0.out))); have f1i := a_ f1g; clear f1f f1g e1a e1b) | (refine gl_ (some 17) Tryd.func96 #[.slice A0 (l0.take ((ji6) : Int).toNat).length c0] ?_ (hargs := by (try simp only [List.map_toArray, List.map_cons, List.map_nil]); (rw [show (l0.take ((ji6) : Int).toNat).length = (ji6).toNat from (by rw [List.length_take]; have h_ : ((ji6) : Int) ≤ (l0.length : Int) := U9; omega)] <;> rfl)); (with_reducible refine (N8.calls _ _ (l0.take ((ji6) : Int).toNat) t198 _ ?U1 ?U2 A9.out).mono ?_); (case U1 => repeat ((exact (Kd.E8 f1h.out (by repeat (with_reducible first | exact HB.out | apply y5)))))); (case U2 => exact f1i.out); rintro e w12 ⟨g9S, rfl, ho0, hb⟩; refine ⟨_, rfl, ?_⟩; have f1j := a_ (Kd.X3 ho0 (o9 (by repeat (with_reducible first | exact HB.out | apply y5)))); replace HB := a_ (L8 (by repeat (with_reducible first | exact HB.out | apply y5)) hb); (try clear hb); (try clear ho0)))
  go_ret2
  exact ⟨_, by (rfl), by exact f1j.out, by exact HB.out⟩
 ·cases nt_ c4
  rw [if_neg a2O] at H; obtain ⟨rfl, rfl⟩ := s2_ H
  go_enter Tryd.func107, Tryd.ntmps107
  go_wp2_with (first | (refine gl_ (some 8) Tryd.func112 #[.slice A0 l0.length c0, .bool a1] ?_; (with_reducible refine (a8h.calls _ _ l0 a1 false _ HR0.out HC0.out A3.out).mono ?_); rintro e w13 ⟨rfl, hb⟩; refine ⟨_, rfl, ?_⟩; replace HB := Q8 HB hb; (try clear hb)))
  go_ret2
  exact ⟨_, by (rfl), by (exact Kd.Y4 _ _ _ _ _), by exact HB.out⟩
def DF.size (wide : Bool) : Int := if wide = true then 4 else 2
def DF.close (k : Nat) (m : Int) (wide : Bool) (s : DF) : Option DF :=
 (a0c.f k s.held m).bind fun x =>
  if x.2 = true then
   if x.1.length = 0 then some s
   else if (x.1.length : Int) < DF.size wide + 2 then some { s with ts := wrap64 (s.ts + 1) }
   else if (x.1.length : Int) > DF.size wide + 65535 then some { s with tl := wrap64 (s.tl + 1) }
   else (a9Z.f x.1 wide).bind fun y =>
    if y.2 = true then if s.done.length < 5864062014805 then some { s with tg := wrap64 (s.tg + 1), done := s.done ++ [y.1] } else none
    else some { s with tw := wrap64 (s.tw + 1) }
  else some { s with ta := wrap64 (s.ta + 1) }
theorem DF.e5b (wide : Bool) : a2j.f wide = some (DF.size wide) := by cases wide <;> rfl
theorem DF.size_le (wide : Bool) : 2 ≤ DF.size wide ∧ DF.size wide ≤ 4 := by cases wide <;> decide
theorem a90.calls (k : Nat) (B D p : Nat) (vh vd : Value) (m : Int) (wide : Bool) (s s' : DF) (W : World) (h : DFI B D W p vh vd m wide s) (hB : B ≤ D) (hD : D ≤ W.heap.size) (hs : DF.close k m wide s = some s') :
  Calls Tryd.prog 98 #[.pointer (some ⟨p, 0, none⟩), vh] W fun e W' => e = .returned (.tuple #[]) ∧ Aside0 (∃ vd', DFI B D W' p vh vd' m wide s' ∧ DFK B W W' (fun k => k = p ∨ some k = vd.ownBlock)) := by
 have hu := Tryd.underlying120
 have hu2 := Tryd.underlying118
 unfold DF.close at hs
 obtain ⟨⟨x, xo⟩, hx, hs⟩ := Option.bind_eq_some_iff.1 hs
 have hz := DF.size_le wide
 have hzf := DF.e5b wide
 generalize DF.size wide = z at hs hz hzf
 have HZF := a_ hzf
 clear hzf
 obtain ⟨hz1, hz2⟩ := hz
 obtain ⟨Ah, ch, rfl, hle, hC⟩ := Kd.b1U h.held
 have HLE := a_ hle
 have HC := a_ hC
 have HX := a_ hx
 have HS := a_ hs
 have HH := a_ h
 have HBB := a_ hB
 have HD := a_ hD
 have hc0 : W.cell? ⟨p, 0, none⟩ = some (.int .u32 m) := h.cell 0 _ rfl
 have hf0 := h.free 0
 have hc1 : W.cell? ⟨p, 1, none⟩ = some (.bool wide) := h.cell 1 _ rfl
 have hf1 := h.free 1
 have hc4 : W.cell? ⟨p, 4, none⟩ = some (.int .i64 s.tg) := h.cell 4 _ rfl
 have hf4 := h.free 4
 have hc5 : W.cell? ⟨p, 5, none⟩ = some (.int .i64 s.ta) := h.cell 5 _ rfl
 have hf5 := h.free 5
 have hc6 : W.cell? ⟨p, 6, none⟩ = some (.int .i64 s.ts) := h.cell 6 _ rfl
 have hf6 := h.free 6
 have hc7 : W.cell? ⟨p, 7, none⟩ = some (.int .i64 s.tl) := h.cell 7 _ rfl
 have hf7 := h.free 7
 have hc8 : W.cell? ⟨p, 8, none⟩ = some (.int .i64 s.tw) := h.cell 8 _ rfl
 have hf8 := h.free 8
 have hc9 : W.cell? ⟨p, 9, none⟩ = some (vd) := h.cell 9 _ rfl
 have hf9 := h.free 9
 clear h hs hx hle hC hB hD
 go_enter Tryd.func98, Tryd.ntmps98
 go_wp2_with (fail)
 refine (a0c.calls k Ah ch s.held m x xo W HC.out HLE.out HX.out).mono ?_
 rintro e w1 ⟨vx, rfl, hox, hb⟩
 have HH1 := a_ (HH.out.below hb)
 have HK1 := a_ (DFK.below (S := fun k => k = p ∨ some k = vd.ownBlock) (DFK.refl B W _) (Nat.le_trans HBB.out HD.out) hb)
 have HD1 := a_ (Nat.le_trans HD.out hb.size)
 obtain ⟨Ax, cx, rfl⟩ := Kd.H6 hox
 have HOX := a_ hox
 have LX := a_ (Kd.F9 hox).2.2.2.1
 clear hox hb hc0 hf0 hc1 hf1 hc4 hf4 hc5 hf5 hc6 hf6 hc7 hf7 hc8 hf8 hc9 hf9
 have hc0 : w1.cell? ⟨p, 0, none⟩ = some (.int .u32 m) := HH1.out.cell 0 _ rfl
 have hf0 := HH1.out.free 0
 have hc1 : w1.cell? ⟨p, 1, none⟩ = some (.bool wide) := HH1.out.cell 1 _ rfl
 have hf1 := HH1.out.free 1
 have hc4 : w1.cell? ⟨p, 4, none⟩ = some (.int .i64 s.tg) := HH1.out.cell 4 _ rfl
 have hf4 := HH1.out.free 4
 have hc5 : w1.cell? ⟨p, 5, none⟩ = some (.int .i64 s.ta) := HH1.out.cell 5 _ rfl
 have hf5 := HH1.out.free 5
 have hc6 : w1.cell? ⟨p, 6, none⟩ = some (.int .i64 s.ts) := HH1.out.cell 6 _ rfl
 have hf6 := HH1.out.free 6
 have hc7 : w1.cell? ⟨p, 7, none⟩ = some (.int .i64 s.tl) := HH1.out.cell 7 _ rfl
 have hf7 := HH1.out.free 7
 have hc8 : w1.cell? ⟨p, 8, none⟩ = some (.int .i64 s.tw) := HH1.out.cell 8 _ rfl
 have hf8 := HH1.out.free 8
 have hc9 : w1.cell? ⟨p, 9, none⟩ = some (vd) := HH1.out.cell 9 _ rfl
 have hf9 := HH1.out.free 9
 go_wp2_with (fail)
 refine (a2j.calls wide _ _ HZF.out).mono ?_
 rintro e w2 ⟨rfl, ⟨nd, rfl⟩⟩
 cases xo with
 | false =>
  have hs := HS.out; rw [if_neg (by decide)] at hs; obtain rfl := oj_ hs; clear hs HS
  go_wp2
  go_end0
  exact ⟨rfl, ⟨_, (HH1.out.drewN nd).set 5 _ { s with ta := wrap64 (s.ta + 1) } rfl rfl rfl, (HK1.out.drewN nd).set (Or.inl rfl) HH1.out.le 5 _⟩⟩
 | true =>
  have hs := HS.out; rw [if_pos rfl] at hs; clear HS
  by_cases hx0 : x.length = 0
  ·rw [if_pos hx0] at hs; obtain rfl := oj_ hs; obtain rfl := List.eq_nil_of_length_eq_zero hx0; clear hs hx0
   simp only [List.length_nil]
   go_wp2
   go_end0
   exact ⟨rfl, ⟨_, HH1.out.drewN nd, HK1.out.drewN nd⟩⟩
  ·rw [if_neg hx0] at hs; have e0 : ((x.length : Int) == 0) = false := by simpa using hx0
   have e1 : decide ((x.length : Int) = 0) = false := by simpa using hx0
   have e2 : (x.length == 0) = false := by simpa using hx0
   have e3 : ¬ (x = []) := fun e_ => hx0 (by rw [e_]; rfl)
   by_cases hx1 : (x.length : Int) < z + 2
   ·rw [if_pos hx1] at hs; obtain rfl := oj_ hs; have f1 : decide ((x.length : Int) < z + 2) = true := dt_ hx1; clear hs hx0
    go_wp2
    go_end0
    exact ⟨rfl, ⟨_, (HH1.out.drewN nd).set 6 _ { s with ts := wrap64 (s.ts + 1) } rfl rfl rfl, (HK1.out.drewN nd).set (Or.inl rfl) HH1.out.le 6 _⟩⟩
   ·rw [if_neg hx1] at hs; have f1 : decide ((x.length : Int) < z + 2) = false := df_ hx1
    by_cases hx2 : (x.length : Int) > z + 65535
    ·rw [if_pos hx2] at hs; obtain rfl := oj_ hs; have f2 : decide (z + 65535 < (x.length : Int)) = true := dt_ hx2; clear hs hx0
     go_wp2
     go_end0
     exact ⟨rfl, ⟨_, (HH1.out.drewN nd).set 7 _ { s with tl := wrap64 (s.tl + 1) } rfl rfl rfl, (HK1.out.drewN nd).set (Or.inl rfl) HH1.out.le 7 _⟩⟩
    ·rw [if_neg hx2] at hs; have f2 : decide (z + 65535 < (x.length : Int)) = false := df_ hx2; obtain ⟨⟨y, yo⟩, hy, hs⟩ := Option.bind_eq_some_iff.1 hs; have HY := a_ hy; have HS := a_ hs; clear hs hx0 hy
     go_wp2_with (fail)
     refine (a9Z.calls Ax cx x wide y yo _ (Kd.a8q (Kd.F9 HOX.out).2.2 nd) (Kd.F9 HOX.out).2.1 HY.out).mono ?_; rintro e w3 ⟨vy, rfl, hoy, hb⟩; have HH3 := a_ ((HH1.out.drewN nd).below hb); have HK3 := a_ (DFK.below (HK1.out.drewN nd) (Nat.le_trans HBB.out HD.out) hb); have SD := a_ (Kd.e0d (HH1.out.drewN nd).done hb); have LP : Aside0 (p < (w1.drewN nd).heap.size) := ⟨a0B (HH1.out.drewN nd).blk⟩; have LH := a_ (Kd.U8 (HH1.out.drewN nd).held); have LV := a_ (Kd.c8U (HH1.out.drewN nd).done); have LY := a_ (Kd.a1d hoy); have L31 := a_ hb.size; have HD3 := a_ (Nat.le_trans HD1.out hb.size); obtain ⟨Ay, cy, rfl⟩ := Kd.H6 hoy; have HOY := a_ (Kd.X3 hoy HD1.out); clear hoy hb hc0 hf0 hc1 hf1 hc4 hf4 hc5 hf5 hc6 hf6 hc7 hf7 hc8 hf8 hc9 hf9; have hc4 : w3.cell? ⟨p, 4, none⟩ = some (.int .i64 s.tg) := HH3.out.cell 4 _ rfl; have hf4 := HH3.out.free 4; have hc8 : w3.cell? ⟨p, 8, none⟩ = some (.int .i64 s.tw) := HH3.out.cell 8 _ rfl; have hf8 := HH3.out.free 8; have hc9 : w3.cell? ⟨p, 9, none⟩ = some (vd) := HH3.out.cell 9 _ rfl; have hf9 := HH3.out.free 9
     cases yo with
     | false =>
      have hs := HS.out; rw [if_neg (by decide)] at hs; obtain rfl := oj_ hs; clear hs HS
      go_wp2
      refine bodyPost_ret (results_none rfl _ _ _) rfl ?_; exact ⟨rfl, ⟨_, HH3.out.set 8 _ { s with tw := wrap64 (s.tw + 1) } rfl rfl rfl, HK3.out.set (Or.inl rfl) HH3.out.le 8 _⟩⟩
     | true =>
      have hs := HS.out; rw [if_pos rfl] at hs; clear HS
      by_cases hl : s.done.length < 5864062014805
      ·rw [if_pos hl] at hs; obtain rfl := oj_ hs; have HL := a_ hl; clear hs hl; have H4 : Aside0 (DFI B D (w3.setCell ⟨p, 4, none⟩ (.int .i64 (wrap64 (s.tg + 1)))) p (.slice Ah s.held.length ch) vd m wide { s with tg := wrap64 (s.tg + 1) }) := ⟨HH3.out.set 4 _ { s with tg := wrap64 (s.tg + 1) } rfl rfl rfl⟩; have SD4 := a_ (Kd.a1m (p := ⟨p, 4, none⟩) SD.out (fun k hk => hk.1.1) (.int .i64 (wrap64 (s.tg + 1)))); have HY4 := a_ (Kd.V4 (p := ⟨p, 4, none⟩) (Kd.U7 HOY.out HH3.out.blk (by decide)) (fun k hk => hk.2) (.int .i64 (wrap64 (s.tg + 1)))); have HK4 := a_ (HK3.out.set (Or.inl rfl) HH3.out.le 4 (.int .i64 (wrap64 (s.tg + 1))))
       go_wp2_with (((with_reducible refine D6 (b := .append) (xs := #[.tmp 56, .tmp 58]) rfl ?_); at_builtin; refine Kd.a9x (Kd.slice 5 (Kd.int .u8)) (w0 := w3.setCell ⟨p, 4, none⟩ (.int .i64 (wrap64 (s.tg + 1)))) D rfl (.tmp 56) (.tmp 58) 74 22 (.slice none 0 0) 24 rfl Tryd.underlying74 info22 rfl (by decide) (by omega) vd s.done y [.slice Ay y.length cy] (fun k => k ≠ p ∧ some k ≠ (.slice Ah s.held.length ch : Value).ownBlock) (fun k => some k = (.slice Ay y.length cy : Value).ownBlock) rfl ?aX ?aP ?aK ?aF ?aO ?aB ?aS ?aL ?_; (case aX => exact congrArg (fun n : Nat => Value.slice (some ⟨n, 0, none⟩) 1 1) (show w3.heap.size = (w3.setCell _ _).heap.size from by simp only [World.setCell, Array.size_modify])); (case aP => exact Kd.e6H (Kd.a2m rfl HY4.out)); (case aK => exact fun k hk => ⟨⟨fun e_ => by have h1 := LY.out k hk.symm; have h2 := LP.out; omega, fun e_ => by have h1 := LY.out k hk.symm; have h2 := LH.out k e_.symm; omega⟩, fun e_ => by have h1 := LY.out k hk.symm; have h2 := LV.out k e_.symm; omega⟩); (case aF => exact fun k hk => ⟨fun e_ => by have h1 := L31.out; have h2 := LP.out; simp only [World.setCell, Array.size_modify] at hk; omega, fun e_ => by have h1 := L31.out; have h2 := LH.out k e_.symm; simp only [World.setCell, Array.size_modify] at hk; omega⟩); (case aO => exact Kd.Y3 SD4.out (fun k hk => ⟨hk.1, fun e_ => by have h1 := LY.out k e_.symm; have h2 := hk.2; omega⟩)); (case aB => exact Below.refl _ _); (case aS => simp only [World.setCell, Array.size_modify]; exact HD3.out); (case aL => have := HL.out; omega); intro v5 w5 ho hb hg hat; obtain ⟨A5, c5, eo5⟩ := Kd.a8t ho; subst eo5; have BK5 := a_ (L9 H4.out.blk hg (Kd.c2K SD4.out H4.out.blk (by decide))); have HO5 := a_ ho; have HB5 := a_ hb; have HG5 := a_ hg; have hc5 : w5.cell? ⟨p, 9, none⟩ = some vd := (D8 BK5.out 9).trans rfl; have hf5 := l7 BK5.out 9; clear ho hb hg hat))
       go_end0
       have ho6 := HO5.out
       simp only [List.length_append, List.length_singleton] at ho6
       have HO6 := a_ ho6; refine ⟨rfl, ⟨.slice A5 (s.done.length + 1) c5, ⟨?_, ?_, ?_, HH3.out.le⟩, ?_⟩⟩
       ·exact a3F BK5.out 9 _
       ·exact Kd.V4 (Kd.y9 (Kd.V6 (Kd.b8w H4.out.held HG5.out (fun k hk => hk.2)) (Kd.a4X HO6.out) (by decide)) (fun k hk => ⟨hk.1.1, hk.2⟩)) (fun k hk => hk.1) _
       ·exact Kd.a1m HO6.out (fun k hk => hk.1) _
       ·exact DFK.set (DFK.grown HK4.out HBB.out HB5.out HG5.out (fun k hk => Or.inr hk.symm)) (Or.inl rfl) HH3.out.le 9 _
      ·rw [if_neg hl] at hs
       cases hs
theorem DF.c4B {k : Nat} {m : Int} {wide : Bool} {s s' : DF} (h : DF.close k m wide s = some s') : s'.held = s.held ∧ s'.inn = s.inn := by
 unfold DF.close at h
 obtain ⟨x, _, h⟩ := Option.bind_eq_some_iff.1 h
 by_cases h1 : x.2 = true
 ·rw [if_pos h1] at h
  by_cases h2 : x.1.length = 0
  ·rw [if_pos h2] at h; obtain rfl := oj_ h; exact ⟨rfl, rfl⟩
  ·rw [if_neg h2] at h
   by_cases h3 : (x.1.length : Int) < DF.size wide + 2
   ·rw [if_pos h3] at h; obtain rfl := oj_ h; exact ⟨rfl, rfl⟩
   ·rw [if_neg h3] at h
    by_cases h4 : (x.1.length : Int) > DF.size wide + 65535
    ·rw [if_pos h4] at h; obtain rfl := oj_ h; exact ⟨rfl, rfl⟩
    ·rw [if_neg h4] at h; obtain ⟨y, _, h⟩ := Option.bind_eq_some_iff.1 h
     by_cases h5 : y.2 = true
     ·rw [if_pos h5] at h
      by_cases h6 : s.done.length < 5864062014805
      ·rw [if_pos h6] at h; obtain rfl := oj_ h; exact ⟨rfl, rfl⟩
      ·rw [if_neg h6] at h
       cases h
     ·rw [if_neg h5] at h; obtain rfl := oj_ h; exact ⟨rfl, rfl⟩
 ·rw [if_neg h1] at h; obtain rfl := oj_ h; exact ⟨rfl, rfl⟩
theorem a3E.more (B D p : Nat) (vh vd : Value) (m : Int) (wide : Bool) (s : DF) (c : Int) (W : World) (h : DFI B D W p vh vd m wide s) (hc : c ≠ 126) (hB : B ≤ W.heap.size) (hl : s.held.length < 140737488355328) :
  Calls Tryd.prog 84 #[.pointer (some ⟨p, 0, none⟩), .int .u8 c] W fun e W' => e = .returned (.tuple #[]) ∧ Aside0 (∃ vh', DFI B D W' p vh' vd m wide { s with held := s.held ++ [c] } ∧ DFK B W W' (fun k => k = p ∨ some k = vh.ownBlock) ∧ (vh'.ownBlock = vh.ownBlock ∨ ∃ b, vh'.ownBlock = some b ∧ W.heap.size ≤ b)) := by
 have hu := Tryd.underlying120
 have h1 : (c != 126) = true := by simpa using hc
 have h2 : decide (c = 126) = false := by simpa using hc
 have h3 : (c == 126) = false := by simpa using hc
 have HBB := a_ hB
 have HL := a_ hl
 have HH := a_ h
 have LP : Aside0 (p < W.heap.size) := ⟨a0B h.blk⟩
 have LV := a_ (Kd.c8U h.done)
 have hc3 : W.cell? ⟨p, 3, none⟩ = some vh := h.cell 3 _ rfl
 have hf3 := h.free 3
 clear h hc hB hl
 go_enter Tryd.func84, Tryd.ntmps84
 go_wp2_with (((with_reducible refine D6 (b := .append) (xs := #[.tmp 10, .tmp 12]) rfl ?_); at_builtin; refine Kd.a1F (Kd.int .u8) (w0 := W) B rfl (.tmp 10) (.tmp 12) 22 5 (.int .u8 0) 1 rfl Tryd.underlying22 info5 rfl (by decide) (by omega) vh s.held c [.int .u8 c] (fun k => k ≠ p ∧ some k ≠ vd.ownBlock) (fun _ => False) rfl rfl ?aP (fun _ hk => hk.elim) ?aF ?aO ?aB ?aS ?aL ?_; (case aP => exact rfl); (case aB => exact Below.refl _ _); (case aF => exact fun k hk => ⟨fun e_ => by have h_ := LP.out; omega, fun e_ => by have h_ := LV.out k e_.symm; omega⟩); (case aO => exact HH.out.held); (case aS => exact HBB.out); (case aL => have := HL.out; omega); intro v5 w5 ho hb hg hat; obtain ⟨A5, c5, eo5⟩ := Kd.H6 ho; subst eo5; have BK5 := a_ (L9 HH.out.blk hg (Kd.a3L HH.out.held HH.out.blk (by decide))); have HO5 := a_ ho; have HB5 := a_ hb; have HG5 := a_ hg; have HA5 := a_ hat; have hc5 := bc3 BK5; have hf5 := l7 BK5.out 3; clear ho hb hg hat))
 refine bodyPost_ret (results_none rfl _ _ _) rfl ?_
 have ho6 := HO5.out
 have ha6 := HA5.out
 simp only [List.length_append, List.length_singleton] at ho6 ha6
 refine ⟨rfl, ⟨.slice A5 (s.held.length + 1) c5, ⟨?_, ?_, ?_, HH.out.le⟩, ?_, ha6⟩⟩
 ·exact a3F BK5.out 3 _
 ·exact Kd.V4 ho6 (fun k hk => hk.1) _
 ·exact Kd.a1m (Kd.Y3 (Kd.c44 (Kd.Y3 HH.out.done (fun k hk => ⟨hk.1, hk.2⟩)) HG5.out ha6) (fun k hk => hk)) (fun k hk => hk.1) _
 ·exact DFK.set (S := fun k => k = p ∨ some k = vh.ownBlock) (DFK.grown (DFK.refl B W (fun k => k = p ∨ some k = vh.ownBlock)) (Nat.le_refl _) HB5.out HG5.out (fun k hk => Or.inr hk.symm)) (Or.inl (show p = p from rfl)) HH.out.le 3 _
theorem a3E.flag (k : Nat) (B D p : Nat) (vh vd : Value) (m : Int) (wide : Bool) (s s' : DF) (W : World) (h : DFI B D W p vh vd m wide s) (hB : B ≤ D) (hD : D ≤ W.heap.size) (hs : DF.close k m wide s = some s') :
  Calls Tryd.prog 84 #[.pointer (some ⟨p, 0, none⟩), .int .u8 126] W fun e W' => e = .returned (.tuple #[]) ∧ Aside0 (∃ vh' vd', DFI B D W' p vh' vd' m wide { s' with held := [] } ∧ DFK B W W' (fun k => k = p ∨ some k = vd.ownBlock) ∧ vh'.ownBlock = vh.ownBlock) := by
 have hu := Tryd.underlying120
 have hsh := DF.c4B hs
 obtain ⟨Ah, ch, rfl, hle, hC⟩ := Kd.b1U h.held
 have HLE := a_ hle
 have hc3 : W.cell? ⟨p, 3, none⟩ = some (.slice Ah s.held.length ch) := h.cell 3 _ rfl
 have hf3 := h.free 3
 have HBB := a_ hB
 have HD := a_ hD
 have HS := a_ hs
 have HSH := a_ hsh
 have HH := a_ h
 clear h hB hD hs hsh hle hC
 go_enter Tryd.func84, Tryd.ntmps84
 go_wp2_with (fail)
 refine (a90.calls k B D p _ vd m wide s s' W HH.out HBB.out HD.out HS.out).mono ?_
 rintro e w1 ⟨rfl, ⟨vd1, hh, hk⟩⟩
 have HH1 := a_ hh
 have HK1 := a_ hk
 clear hc3 hf3 hh hk
 have hc3 : w1.cell? ⟨p, 3, none⟩ = some (.slice Ah s.held.length ch) := HH1.out.cell 3 _ rfl
 have hf3 := HH1.out.free 3
 go_wp2
 go_end0
 refine ⟨rfl, ⟨.slice Ah 0 ch, vd1, ⟨?_, ?_, ?_, HH1.out.le⟩, ?_, ?_⟩⟩
 ·exact a3F HH1.out.blk 3 _
 ·exact Kd.V4 (Kd.d0j HH1.out.held (Nat.zero_le _)) (fun k hk => hk.1) _
 ·exact Kd.a1m (Kd.Y3 HH1.out.done (fun k hk => ⟨hk.1, fun e_ => hk.2 (by rw [e_]; cases Ah <;> rfl)⟩)) (fun k hk => hk.1) _
 ·exact HK1.out.set (Or.inl rfl) HH1.out.le 3 _
 ·cases Ah <;> rfl
def DF.step (k : Nat) (m : Int) (wide : Bool) (s : DF) (c : Int) : Option DF :=
 if s.inn = true then
  if c = 126 then (DF.close k m wide s).bind fun s' => some { s' with held := [] }
  else if s.held.length < 140737488355328 then some { s with held := s.held ++ [c] } else none
 else if c = 126 then some { s with inn := true } else some s
def DF.feed (k : Nat) (m : Int) (wide : Bool) : DF → List Int → Option DF
 | s, [] => some s
 | s, c :: l => (DF.step k m wide s c).bind fun s' => DF.feed k m wide s' l
structure DFR (k B : Nat) (w W : World) (p : Nat) (vh0 : Value) (m : Int) (wide : Bool) (r : List Int) (sr : DF) : Prop where
 mk ::
 out : ∃ (vh vd : Value) (s : DF), DFI B w.heap.size W p vh vd m wide s ∧ DFK B w W (fun k => k = p ∨ some k = vh0.ownBlock) ∧ (vh.ownBlock = vh0.ownBlock ∨ ∃ b, vh.ownBlock = some b ∧ w.heap.size ≤ b) ∧ DF.feed k m wide s r = some sr
theorem DFI.d68 {B D D' : Nat} {W : World} {p : Nat} {vh : Value} {m : Int} {wide : Bool} {s : DF} (h : DFI B D W p vh (.slice none 0 0) m wide s) (hd : s.done = []) : DFI B D' W p vh (.slice none 0 0) m wide s := ⟨h.blk, h.held, by rw [hd]; exact Kd.a7k _ _ _ _ _, h.le⟩
theorem DF.changed {B p : Nat} {w W : World} {vh0 vh vd : Value} {m : Int} {wide : Bool} {s : DF} (h : DFI B w.heap.size W p vh vd m wide s) (hv : vh.ownBlock = vh0.ownBlock ∨ ∃ b, vh.ownBlock = some b ∧ w.heap.size ≤ b) (k : Nat) (hk : k = p ∨ some k = vh.ownBlock ∨ some k = vd.ownBlock) : (k = p ∨ some k = vh0.ownBlock) ∨ w.heap.size ≤ k := by
 rcases hk with hk | hk | hk
 ·exact .inl (.inl hk)
 ·rcases hv with hv | ⟨b, hv, hb⟩
  ·exact .inl (.inr (hk.trans hv))
  ·rw [hv] at hk; injection hk with hk
   subst hk; exact .inr hb
 ·exact .inr (Kd.e1V h.done k hk.symm)
theorem DF.moved {w W : World} {vh0 vh vh' : Value} (hv : vh.ownBlock = vh0.ownBlock ∨ ∃ b, vh.ownBlock = some b ∧ w.heap.size ≤ b) (hle : w.heap.size ≤ W.heap.size) (h : vh'.ownBlock = vh.ownBlock ∨ ∃ b, vh'.ownBlock = some b ∧ W.heap.size ≤ b) : vh'.ownBlock = vh0.ownBlock ∨ ∃ b, vh'.ownBlock = some b ∧ w.heap.size ≤ b := by
 rcases h with h | ⟨b, h, hb⟩
 ·rw [h]; exact hv
 ·exact .inr ⟨b, h, Nat.le_trans hle hb⟩
theorem a6j.calls (k B p : Nat) (vh0 : Value) (m : Int) (wide : Bool) (s sr : DF) (A0 : Option Addr) (c0 : Nat) (l0 : List Int) (w : World) (hD : DFI B w.heap.size w p vh0 (.slice none 0 0) m wide s) (hB : B ≤ w.heap.size) (hA : Kd.F (Kd.int .u8) w (fun k => k ≠ p ∧ some k ≠ vh0.ownBlock) A0 l0.length l0) (hs : DF.feed k m wide s l0 = some sr) :
  Calls Tryd.prog 46 #[.pointer (some ⟨p, 0, none⟩), .slice A0 l0.length c0] w fun e w' => ∃ v0 : Value, e = .returned v0 ∧ Aside0 (∃ vh', (∀ D, DFI B D w' p vh' (.slice none 0 0) m wide { sr with done := [] }) ∧ Kd.S (Kd.slice 5 (Kd.int .u8)) 22 w' w.heap.size (fun k => k ≠ p ∧ some k ≠ vh'.ownBlock) v0 sr.done ∧ DFK B w w' (fun k => k = p ∨ some k = vh0.ownBlock) ∧ (vh'.ownBlock = vh0.ownBlock ∨ ∃ b, vh'.ownBlock = some b ∧ w.heap.size ≤ b)) := by
 have hu := Tryd.underlying120
 have HN := a_ (Kd.e6Q hA)
 have HBB := a_ hB
 have HA := a_ hA
 have HR : Aside0 (DFR k B w w p vh0 m wide (l0.drop 0) sr) := ⟨⟨⟨vh0, _, s, hD, DFK.refl _ _ _, .inl rfl, by rw [List.drop_zero]; exact hs⟩⟩⟩
 clear hD hB hA hs
 go_enter Tryd.func46, Tryd.ntmps46
 go_wp2
 go_loopg [10] l0.length (fun kq v10 w' => ∃ j : Nat, Aside0 (kq + j = l0.length) ∧ v10 = .int .i64 (j : Int) ∧ Aside0 (DFR k B w w' p vh0 m wide (l0.drop j) sr))
 case atStart => exact ⟨0, ⟨rfl⟩, rfl, HR⟩
 case round =>
  obtain ⟨j, HJ, rfl, HI⟩ := hrel; clear HR; have hj := HJ.out; have hn := HN.out; obtain ⟨vh, vd, s, hI, hK, hV, hF⟩ := HI.out.out; have HV := a_ hV; have HK := a_ hK; have HD := a_ hI; clear HI; have hc2 : wr.cell? ⟨p, 2, none⟩ = some (DF.fn s.inn p) := hI.cell 2 _ rfl; have hf2 := hI.free 2
  by_cases hlt : j < l0.length
  ·obtain ⟨k1, rfl⟩ : ∃ k1, gk = k1 + 1 := ⟨gk - 1, by omega⟩; have p1 : 0 ≤ (j : Int) := by omega
   have q1 : (j : Int) < (l0.length : Int) := by omega
   obtain ⟨ad, e1, hx⟩ := Kd.a0x (Kd.d0B (Kd.e1W HA.out hK.kept (fun k hk hs => hs.elim hk.1 hk.2))) (j : Int) p1 q1
   cases e1
   simp only [Int.toNat_natCast] at hx
   obtain ⟨c, hcd⟩ : ∃ c, c = rd l0 (j : Int) := ⟨_, rfl⟩; have hdr : l0.drop j = c :: l0.drop (j + 1) := by
    rw [List.drop_eq_getElem_cons hlt, hcd]; unfold rd; rw [Int.toNat_natCast, List.getD_eq_getElem?_getD, List.getElem?_eq_getElem hlt]
    rfl
   rw [hdr, DF.feed] at hF; rw [← hcd] at hx; obtain ⟨s1, hs1, hF⟩ := Option.bind_eq_some_iff.1 hF; have HF := a_ hF; have HWW := a_ hK.kept.1; clear hI hK hV hF hdr hcd; unfold DF.step at hs1
   cases hi : s.inn with
   | true =>
    rw [hi] at hc2; rw [if_pos hi] at hs1; replace hc2 : wr.cell? ⟨p, 2, none⟩ = some (.func (.func 84) #[.pointer (some ⟨p, 0, none⟩)] #[]) := hc2
    by_cases b9T : c = 126
    ·subst b9T; rw [if_pos rfl] at hs1; obtain ⟨s2, hs2, hs1⟩ := Option.bind_eq_some_iff.1 hs1; obtain rfl := oj_ hs1; have HS2 := a_ hs2; have HI := a_ hi; clear hs1 hs2 hi
     go_wp2_with (fail)
     refine (a3E.flag k B w.heap.size p vh vd m wide s s2 _ HD.out HBB.out HWW.out HS2.out).mono ?_; rintro e w1 ⟨rfl, ⟨vh1, vd1, hh, hk, hv⟩⟩; have HR1 : Aside0 (DFR k B w w1 p vh0 m wide (l0.drop (j + 1)) sr) := ⟨⟨⟨vh1, vd1, _, hh, DFK.trans HK.out hk (fun k hk => DF.changed HD.out HV.out k (hk.elim Or.inl (fun h => Or.inr (Or.inr h)))), by rw [hv]; exact HV.out, HF.out⟩⟩⟩; clear hh hk hv hc2 hf2
     go_wp2
     go_roundg k1
     case measure => omega
     case rel => exact ⟨j + 1, ⟨by have := HJ.out; omega⟩, by go_num, HR1⟩
    ·rw [if_neg b9T] at hs1
     by_cases hl : s.held.length < 140737488355328
     ·rw [if_pos hl] at hs1; obtain rfl := oj_ hs1; have HI := a_ hi; have HL := a_ hl; have HC := a_ b9T; clear hs1 hi hl b9T
      go_wp2_with (fail)
      refine (a3E.more B w.heap.size p vh vd m wide s c _ HD.out HC.out (Nat.le_trans HBB.out HWW.out) HL.out).mono ?_; rintro e w1 ⟨rfl, ⟨vh1, hh, hk, hv⟩⟩; have HR1 : Aside0 (DFR k B w w1 p vh0 m wide (l0.drop (j + 1)) sr) := ⟨⟨⟨vh1, vd, _, hh, DFK.trans HK.out hk (fun k hk => DF.changed HD.out HV.out k (hk.elim Or.inl (fun h => Or.inr (Or.inl h)))), DF.moved HV.out HWW.out hv, HF.out⟩⟩⟩; clear hh hk hv hc2 hf2
      go_wp2
      go_roundg k1
      case measure => omega
      case rel => exact ⟨j + 1, ⟨by have := HJ.out; omega⟩, by go_num, HR1⟩
     ·rw [if_neg hl] at hs1
      cases hs1
   | false =>
    rw [hi] at hc2; rw [if_neg (by rw [hi]; decide)] at hs1; replace hc2 : wr.cell? ⟨p, 2, none⟩ = some (.func (.func 65) #[.pointer (some ⟨p, 0, none⟩)] #[]) := hc2; have HI := a_ hi; clear hi
    by_cases b9T : c = 126
    ·subst b9T; rw [if_pos rfl] at hs1; obtain rfl := oj_ hs1; clear hs1
     go_wp2_with (fail)
     refine (a3t.flag B w.heap.size p vh vd m wide s _ HD.out (Nat.le_trans HBB.out HWW.out) HI.out).mono ?_; rintro e w1 ⟨rfl, ⟨hh⟩, ⟨hk⟩⟩; have HR1 : Aside0 (DFR k B w w1 p vh0 m wide (l0.drop (j + 1)) sr) := ⟨⟨⟨vh, vd, _, hh, DFK.trans HK.out hk (fun k hk => .inl (.inl hk)), HV.out, HF.out⟩⟩⟩; clear hh hk hc2 hf2
     go_wp2
     go_roundg k1
     case measure => omega
     case rel => exact ⟨j + 1, ⟨by have := HJ.out; omega⟩, by go_num, HR1⟩
    ·rw [if_neg b9T] at hs1; obtain rfl := oj_ hs1; have HC := a_ b9T; clear hs1 b9T
     go_wp2_with (fail)
     refine (a3t.other c HC.out p _).mono ?_; rintro e w1 ⟨rfl, rfl⟩; have HR1 : Aside0 (DFR k B w w1 p vh0 m wide (l0.drop (j + 1)) sr) := ⟨⟨⟨vh, vd, _, HD.out, HK.out, HV.out, HF.out⟩⟩⟩; clear hc2 hf2
     go_wp2
     go_roundg k1
     case measure => omega
     case rel => exact ⟨j + 1, ⟨by have := HJ.out; omega⟩, by go_num, HR1⟩
  ·have hdr : l0.drop j = [] := List.drop_eq_nil_of_le (by omega); rw [hdr] at hF; obtain rfl := oj_ hF; have hc9 : wr.cell? ⟨p, 9, none⟩ = some vd := HD.out.cell 9 _ rfl; have hf9 := HD.out.free 9; clear hI hK hV hF hdr
   go_wp2
   go_ret
   refine ⟨_, rfl, ⟨vh, fun D => ⟨?_, ?_, Kd.a7k _ _ _ _ _, HD.out.le⟩, ?_, ?_, HV.out⟩⟩
   ·exact a3F HD.out.blk 9 _
   ·exact Kd.V4 (Kd.y9 HD.out.held (fun k hk => ⟨hk.1, by simp [Value.ownBlock]⟩)) (fun k hk => hk.1) _
   ·exact Kd.a1m HD.out.done (fun k hk => hk.1) _
   ·exact HK.out.set (Or.inl rfl) HD.out.le 9 _
end Go.Proofs.YtgnonglkibhnhaaDoor.Print
