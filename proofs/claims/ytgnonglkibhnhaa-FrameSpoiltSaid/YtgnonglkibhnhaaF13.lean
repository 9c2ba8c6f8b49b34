-- laid by this session's own program (wip/mkprint.sh) for this claim
import Derived.Test.Ytgnonglkibhnhaa0
namespace Go.Proofs.Ytgnonglkibhnhaa.Print
open Go.RowKit Go.Proofs.YtgnonglkibhnhaaW.PrintWords Go.Proofs.YtgnonglkibhnhaaW.PrintLast Go.Proofs.YtgnonglkibhnhaaW.PrintMore
attribute [local go_sem] max2_int min2_int max_two min_two max_three min_three max_four min_four   -- for this text's walks alone
set_option linter.unusedVariables false
set_option linter.unusedSimpArgs false

/-! ### frame_New: function 13 -/
/-- What a deframer is in: behind a flag, what it holds, its counts, what is done. -/
structure DF where
  inn : Bool
  held : List Int
  tg : Int
  ta : Int
  ts : Int
  tl : Int
  tw : Int
  done : List (List Int)
def DF.init : DF := ⟨false, [], 0, 0, 0, 0, 0, []⟩
def DF.fn : Bool → Nat → Value
  | true, p => .func (.func 38) #[.pointer (some ⟨p, 0, none⟩)] #[]
  | false, p => .func (.func 25) #[.pointer (some ⟨p, 0, none⟩)] #[]
def DF.cells (m : Int) (wide : Bool) (p : Nat) (vh vd : Value) (s : DF) : Array Value := #[.int .u32 m, .bool wide, DF.fn s.inn p, vh, .int .i64 s.tg, .int .i64 s.ta, .int .i64 s.ts, .int .i64 s.tl, .int .i64 s.tw, vd]
/-- A deframer in memory: its block p, the row that it holds (from B on), what is done (from D on). -/
structure DFI (B D : Nat) (W : World) (p : Nat) (vh vd : Value) (m : Int) (wide : Bool) (s : DF) : Prop where
  blk : W.heap[p]? = some (.cells (DF.cells m wide p vh vd s) 56 (0, 0))
  held : Kd.R (Kd.int .u8) 5 W B (fun k => k ≠ p ∧ some k ≠ vd.ownBlock) vh s.held
  done : Kd.S (Kd.slice 5 (Kd.int .u8)) 26 W D (fun k => k ≠ p ∧ some k ≠ vh.ownBlock) vd s.done
  le : B ≤ p
theorem DFI.below {B D : Nat} {W W1 : World} {p : Nat} {vh vd : Value} {m : Int} {wide : Bool} {s : DF} (h : DFI B D W p vh vd m wide s) (hb : Below W.heap.size W W1) : DFI B D W1 p vh vd m wide s := ⟨blk_below h.blk hb, Kd.R_below h.held hb, Kd.S_below h.done hb, h.le⟩
theorem DFI.drewN {B D : Nat} {W : World} {p : Nat} {vh vd : Value} {m : Int} {wide : Bool} {s : DF} (h : DFI B D W p vh vd m wide s) (n : Nat) : DFI B D (W.drewN n) p vh vd m wide s := h.below (pw_below_drewN (Below.refl _ _) n)
/-- A store into the deframer's own block, that leaves what it holds and what is done. -/
theorem DFI.set {B D : Nat} {W : World} {p : Nat} {vh vd : Value} {m : Int} {wide : Bool} {s : DF} (h : DFI B D W p vh vd m wide s) (j : Nat) (u : Value) (s' : DF) (he : (DF.cells m wide p vh vd s).setIfInBounds j u = DF.cells m wide p vh vd s') (h1 : s'.held = s.held) (h2 : s'.done = s.done) : DFI B D (W.setCell ⟨p, j, none⟩ u) p vh vd m wide s' :=
  ⟨by rw [← he]; exact blk_set h.blk j u, by rw [h1]; exact Kd.R_far h.held (fun k hk => hk.1) u, by rw [h2]; exact Kd.S_far h.done (fun k hk => hk.1) u, h.le⟩
theorem DFI.cell {B D : Nat} {W : World} {p : Nat} {vh vd : Value} {m : Int} {wide : Bool} {s : DF} (h : DFI B D W p vh vd m wide s) (j : Nat) (u : Value) (he : (DF.cells m wide p vh vd s)[j]? = some u) : W.cell? ⟨p, j, none⟩ = some u := (blk_cell h.blk j).trans he
theorem DFI.free {B D : Nat} {W : World} {p : Nat} {vh vd : Value} {m : Int} {wide : Bool} {s : DF} (h : DFI B D W p vh vd m wide s) (j : Nat) : W.frozen? ⟨p, j, none⟩ = false := blk_frozen h.blk j
/-- What a call with the deframer may have written: its block, the row that it held. -/
structure DFK (B : Nat) (W W' : World) (S : Nat → Prop) : Prop where
  bel : Below B W W'
  kept : Kept W W' S
theorem DFK.below {B : Nat} {W W' W2 : World} {S : Nat → Prop} (h : DFK B W W' S) (hB : B ≤ W.heap.size) (hb : Below W'.heap.size W' W2) : DFK B W W2 S := ⟨h.bel.trans (hb.mono (Nat.le_trans hB h.kept.1)), h.kept.below hb⟩
theorem DFK.refl (B : Nat) (W : World) (S : Nat → Prop) : DFK B W W S := ⟨Below.refl _ _, Kept.refl _ _⟩
theorem DFK.set {B : Nat} {W W' : World} {S : Nat → Prop} (h : DFK B W W' S) {p : Nat} (hp : S p) (hB : B ≤ p) (j : Nat) (u : Value) : DFK B W (W'.setCell ⟨p, j, none⟩ u) S := ⟨h.bel.setCell hB u, h.kept.setCell (Or.inl hp) u⟩
theorem DFK.grown {B D : Nat} {W W' W2 : World} {S : Nat → Prop} {row : Option Nat} (h : DFK B W W' S) (hB : B ≤ D) (hb : Below D W' W2) (hg : W'.grownBy W2 row) (hr : ∀ k, row = some k → S k) : DFK B W W2 S := ⟨h.bel.trans (hb.mono hB), h.kept.of_grown hg (fun k hk => Or.inl (hr k hk))⟩
theorem DFK.trans {B : Nat} {w W W2 : World} {S S2 : Nat → Prop} (h : DFK B w W S) (h2 : DFK B W W2 S2) (hs : ∀ k, S2 k → S k ∨ w.heap.size ≤ k) : DFK B w W2 S := ⟨h.bel.trans h2.bel, h.kept.then_ h2.kept hs⟩
theorem DFK.drewN {B : Nat} {W W' : World} {S : Nat → Prop} (h : DFK B W W' S) (n : Nat) : DFK B W (W'.drewN n) S := ⟨h.bel.trans (pw_below_drewN (Below.refl _ _) n), h.kept.drewN n⟩
set_option maxHeartbeats 8000000 in
set_option maxRecDepth 100000 in
theorem frame_New.calls (m : Int) (wide : Bool) (w : World) :
    Calls Try.prog 13 #[.int .u32 m, .bool wide] w fun e w' => e = .returned (.pointer (some ⟨w.heap.size, 0, none⟩)) ∧ Aside0 (∀ D, DFI w.heap.size D w' w.heap.size (.slice none 0 0) (.slice none 0 0) m wide DF.init) ∧ Aside0 (Below w.heap.size w w') := by
  have hu := Try.underlying56
  go_enter Try.func13, Try.ntmps13
  go_wp2
  go_ret
  exact ⟨rfl, ⟨fun D => ⟨heap_alloc_new w _, Kd.R_nil _ _ _ _ _, Kd.S_nil _ _ _ _ _, Nat.le_refl _⟩⟩, ⟨below_alloc (Below.refl _ _) _⟩⟩

end Go.Proofs.Ytgnonglkibhnhaa.Print
