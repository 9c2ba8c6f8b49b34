import Derived.Test.YtgnonglkibhnhaaDoorF23
namespace Go.Proofs.YtgnonglkibhnhaaDoor.Print
open Go.RowKit Go.Proofs.YtgnonglkibhnhaaDoorW.PrintWords Go.Proofs.YtgnonglkibhnhaaDoorW.PrintLast Go.Proofs.YtgnonglkibhnhaaDoorW.PrintMore
attribute [local go_sem] a0d a0e a0V a0W X5 X6 a0f a0g
set_option linter.unusedVariables false
set_option linter.unusedSimpArgs false

/-! ### capture_notes_read: function 24 -/
attribute [local go_sem high] b2q
theorem DFI.lower {B B' D : Nat} {W : World} {p : Nat} {vh vd : Value} {m : Int} {wide : Bool} {s : DF} (h : DFI B D W p vh vd m wide s) (hb : B' ≤ B) : DFI B' D W p vh vd m wide s := ⟨h.blk, Kd.X3 h.held hb, h.done, Nat.le_trans hb h.le⟩
theorem DFI.kept {B D : Nat} {W W' : World} {p : Nat} {vh : Value} {m : Int} {wide : Bool} {s : DF} {S : Nat → Prop} (h : DFI B D W p vh (.slice none 0 0) m wide s) (hd : s.done = []) (hk : Kept W W' S) (hp : ¬ S p) (hv : ∀ k, vh.ownBlock = some k → ¬ S k) : DFI B D W' p vh (.slice none 0 0) m wide s :=
 ⟨a5T h.blk hk hp, Kd.y9 (Kd.d0A (Kd.d0L rfl h.held) hk (fun k e => hv k e.1.symm)) (fun _ e => e.2), by rw [hd]; exact Kd.a7k _ _ _ _ _, h.le⟩
theorem DFI.typed {B D : Nat} {W : World} {p : Nat} {vh vd : Value} {m : Int} {wide : Bool} {s : DF} (h : DFI B D W p vh vd m wide s) (k : Nat) (hk : vh.ownBlock = some k) : ∃ cells, W.heap[k]? = some (.cells cells 5 (0, 0)) := Kd.a0L h.held k hk
theorem DFI.ne {B D : Nat} {W : World} {p q : Nat} {vh vd u : Value} {m : Int} {wide : Bool} {s : DF} {t : Nat} {cells : Array Value} (h : DFI B D W p vh vd m wide s) (hq : W.heap[q]? = some (.cells cells t (0, 0))) (ht : t ≠ 5) : vh.ownBlock ≠ some q := by
 intro e
 obtain ⟨c, hc⟩ := h.typed q e
 rw [hc] at hq
 injection hq with hq
 injection hq with _ hq
 exact ht hq.symm
structure NR (w1 W : World) (p1 p2 : Nat) (vh1 vh2 v : Value) (m2 : Int) (wide : Bool) (s g : DF) (out : List (S42)) : Prop where
 d1 : DFI w1.heap.size 0 W p1 vh1 (.slice none 0 0) 0 wide s
 d2 : DFI w1.heap.size 0 W p2 vh2 (.slice none 0 0) m2 wide g
 n1 : s.done = []
 n2 : g.done = []
 row : Kd.S k42 42 W w1.heap.size (fun k => some k ≠ vh1.ownBlock ∧ some k ≠ vh2.ownBlock) v out
 np : p1 ≠ p2
 nv : ∀ k, vh1.ownBlock = some k → vh2.ownBlock ≠ some k
 bel : Below w1.heap.size w1 W
theorem NR.below {w1 W W' : World} {p1 p2 : Nat} {vh1 vh2 v : Value} {m2 : Int} {wide : Bool} {s g : DF} {out : List (S42)} (h : NR w1 W p1 p2 vh1 vh2 v m2 wide s g out) (hb : Below W.heap.size W W') : NR w1 W' p1 p2 vh1 vh2 v m2 wide s g out :=
 ⟨h.d1.below hb, h.d2.below hb, h.n1, h.n2, Kd.a4W h.row hb, h.np, h.nv, L8 h.bel hb⟩
theorem NR.any {W : World} {p : Nat} {vh : Value} {m : Int} {wide : Bool} {s : DF} {B : Nat} (h : DFI B 0 W p vh (.slice none 0 0) m wide s) (hd : s.done = []) (D : Nat) : DFI B D W p vh (.slice none 0 0) m wide s := DFI.d68 h hd
theorem NR.e7v {w1 W W' : World} {p1 p2 : Nat} {vh1 vh2 v vh' : Value} {m2 : Int} {wide : Bool} {s g s' : DF} {out : List (S42)} (h : NR w1 W p1 p2 vh1 vh2 v m2 wide s g out) (hd : DFI w1.heap.size 0 W' p1 vh' (.slice none 0 0) 0 wide s') (hn : s'.done = []) (hk : DFK w1.heap.size W W' (fun k => k = p1 ∨ some k = vh1.ownBlock)) (hv : vh'.ownBlock = vh1.ownBlock ∨ ∃ b, vh'.ownBlock = some b ∧ W.heap.size ≤ b) : NR w1 W' p1 p2 vh' vh2 v m2 wide s' g out := by
 have hr := Kd.b8D (Kd.a4C h.row h.d1.blk (by decide)) hk.kept (fun k ho hs => hs.elim (fun e => ho.2 e) (fun e => ho.1.1 e))
 refine ⟨hd, h.d2.kept h.n2 hk.kept (fun e => e.elim (fun e => h.np e.symm) (fun e => h.d1.ne (u := v) h.d2.blk (by decide) e.symm)) (fun k e hs => hs.elim (fun e2 => h.d2.ne (u := v) h.d1.blk (by decide) (by rw [← e2]; exact e)) (fun e2 => h.nv k e2.symm e)), hn, h.n2, ?_, h.np, ?_, h.bel.trans hk.bel⟩
 ·rcases hv with hv | ⟨b, hv, hb⟩
  ·exact Kd.Y3 hr (fun k ho => ⟨by rw [hv]; exact ho.1.1, ho.1.2⟩)
  ·have hr2 := Kd.b8D (Kd.Y3 (ok' := fun k => (some k ≠ vh1.ownBlock ∧ some k ≠ vh2.ownBlock) ∧ k ≠ p1 ∧ k < W.heap.size) (Kd.a2G (Kd.a4C h.row h.d1.blk (by decide))) (fun k hk => ⟨hk.1.1, hk.1.2, hk.2.2.1⟩)) hk.kept (fun k ho hs => hs.elim (fun e => ho.2.1 e) (fun e => ho.1.1 e)); exact Kd.Y3 hr2 (fun k ho => ⟨by rw [hv]; intro e; injection e with e; omega, ho.1.2⟩)
 ·intro k e
  rcases hv with hv | ⟨b, hv, hb⟩
  ·exact h.nv k (by rw [← hv]; exact e)
  ·intro e2; rw [hv] at e; injection e with e
   have := Kd.U8 h.d2.held k e2
   omega
theorem NR.e7w {w1 W W' : World} {p1 p2 : Nat} {vh1 vh2 v vh' : Value} {m2 : Int} {wide : Bool} {s g g' : DF} {out : List (S42)} (h : NR w1 W p1 p2 vh1 vh2 v m2 wide s g out) (hd : DFI w1.heap.size 0 W' p2 vh' (.slice none 0 0) m2 wide g') (hn : g'.done = []) (hk : DFK w1.heap.size W W' (fun k => k = p2 ∨ some k = vh2.ownBlock)) (hv : vh'.ownBlock = vh2.ownBlock ∨ ∃ b, vh'.ownBlock = some b ∧ W.heap.size ≤ b) : NR w1 W' p1 p2 vh1 vh' v m2 wide s g' out := by
 have hr := Kd.b8D (Kd.a4C h.row h.d2.blk (by decide)) hk.kept (fun k ho hs => hs.elim (fun e => ho.2 e) (fun e => ho.1.2 e))
 refine ⟨h.d1.kept h.n1 hk.kept (fun e => e.elim (fun e => h.np e) (fun e => h.d2.ne (u := v) h.d1.blk (by decide) e.symm)) (fun k e hs => hs.elim (fun e2 => h.d1.ne (u := v) h.d2.blk (by decide) (by rw [← e2]; exact e)) (fun e2 => h.nv k e e2.symm)), hd, h.n1, hn, ?_, h.np, ?_, h.bel.trans hk.bel⟩
 ·rcases hv with hv | ⟨b, hv, hb⟩
  ·exact Kd.Y3 hr (fun k ho => ⟨ho.1.1, by rw [hv]; exact ho.1.2⟩)
  ·have hr2 := Kd.b8D (Kd.Y3 (ok' := fun k => (some k ≠ vh1.ownBlock ∧ some k ≠ vh2.ownBlock) ∧ k ≠ p2 ∧ k < W.heap.size) (Kd.a2G (Kd.a4C h.row h.d2.blk (by decide))) (fun k hk => ⟨hk.1.1, hk.1.2, hk.2.2.1⟩)) hk.kept (fun k ho hs => hs.elim (fun e => ho.2.1 e) (fun e => ho.1.2 e)); exact Kd.Y3 hr2 (fun k ho => ⟨ho.1.1, by rw [hv]; intro e; injection e with e; omega⟩)
 ·intro k e
  rcases hv with hv | ⟨b, hv, hb⟩
  ·rw [hv]; exact h.nv k e
  ·intro e2; rw [hv] at e2; injection e2 with e2
   have := Kd.U8 h.d1.held k e
   omega
theorem NR.item {w1 W W' : World} {p1 p2 : Nat} {vh1 vh2 v v' : Value} {m2 : Int} {wide : Bool} {s g : DF} {out out' : List (S42)} (h : NR w1 W p1 p2 vh1 vh2 v m2 wide s g out) (hl : Longer W W' w1.heap.size (fun k => some k ≠ vh1.ownBlock ∧ some k ≠ vh2.ownBlock) v v' out') (hb : Below w1.heap.size W W') : NR w1 W' p1 p2 vh1 vh2 v' m2 wide s g out' := by
 have hK : Kept W W' (fun k => v.ownBlock = some k) := Kept.b1R hl.grown (Kept.refl _ _) (fun k hk => .inl hk)
 have ht := Kd.a4X h.row
 have no : ∀ {q t : Nat} {cells : Array Value}, W.heap[q]? = some (.cells cells t (0, 0)) → t ≠ 42 → v.ownBlock ≠ some q := by
  intro q t cells hq hne e; obtain ⟨c, hc⟩ := ht q e; rw [hc] at hq; injection hq with hq
  injection hq with _ hq
  exact hne hq.symm
 refine ⟨h.d1.kept h.n1 hK (no h.d1.blk (by decide)) (fun k e => ?_), h.d2.kept h.n2 hK (no h.d2.blk (by decide)) (fun k e => ?_), h.n1, h.n2, hl.row, h.np, h.nv, h.bel.trans hb⟩
 ·obtain ⟨c, hc⟩ := h.d1.typed k e; exact no hc (by decide)
 ·obtain ⟨c, hc⟩ := h.d2.typed k e; exact no hc (by decide)
theorem NR.ok {w1 W : World} {p1 p2 : Nat} {vh1 vh2 v : Value} {m2 : Int} {wide : Bool} {s g : DF} {out : List (S42)} (h : NR w1 W p1 p2 vh1 vh2 v m2 wide s g out) (k : Nat) (hk : W.heap.size ≤ k) : some k ≠ vh1.ownBlock ∧ some k ≠ vh2.ownBlock :=
 ⟨fun e => by have := Kd.U8 h.d1.held k e.symm; omega, fun e => by have := Kd.U8 h.d2.held k e.symm; omega⟩
theorem NR.new1 {w1 W W' : World} {p1 p2 : Nat} {vh1 vh2 v : Value} {m2 : Int} {wide : Bool} {s g : DF} {out : List (S42)} (h : NR w1 W p1 p2 vh1 vh2 v m2 wide s g out) (hd : ∀ D, DFI W.heap.size D W' W.heap.size (.slice none 0 0) (.slice none 0 0) 0 wide DF.init) (hb : Below W.heap.size W W') : NR w1 W' W.heap.size p2 (.slice none 0 0) vh2 v m2 wide DF.init g out :=
 ⟨(hd 0).lower h.bel.size, h.d2.below hb, rfl, h.n2, Kd.Y3 (Kd.a4W h.row hb) (fun k ho => ⟨by simp [Value.ownBlock], ho.2⟩), fun e => by have := a0B h.d2.blk; omega, fun k e => by simp [Value.ownBlock] at e, L8 h.bel hb⟩
theorem NR.new2 {w1 W W' : World} {p1 p2 : Nat} {vh1 vh2 v : Value} {m2 : Int} {wide : Bool} {s g : DF} {out : List (S42)} (h : NR w1 W p1 p2 vh1 vh2 v m2 wide s g out) (hd : ∀ D, DFI W.heap.size D W' W.heap.size (.slice none 0 0) (.slice none 0 0) m2 wide DF.init) (hb : Below W.heap.size W W') : NR w1 W' p1 W.heap.size vh1 (.slice none 0 0) v m2 wide s DF.init out :=
 ⟨h.d1.below hb, (hd 0).lower h.bel.size, h.n1, rfl, Kd.Y3 (Kd.a4W h.row hb) (fun k ho => ⟨ho.1, by simp [Value.ownBlock]⟩), fun e => by have := a0B h.d1.blk; omega, fun k e e2 => by simp [Value.ownBlock] at e2, L8 h.bel hb⟩
def capture_notes_read.each (k : Nat) (dir : Int) : List (List Int) → List (S42) → Option (List (S42))
 | [], out => some out
 | b :: m, out => (a1S.f k out dir b).bind fun o => capture_notes_read.each k dir m o
def capture_notes_read.go (k : Nat) (b3T : Int) (wide : Bool) : List (S58) → DF → DF → List (S42) → Option (List (S42))
 | [], _, _, out => some out
 | x :: m, s, g, out =>
  if x.f0 = 1 then (DF.feed k 0 wide s x.f2).bind fun s' => (capture_notes_read.each k 2 s'.done out).bind fun o => capture_notes_read.go k b3T wide m { s' with done := [] } g o
  else if x.f0 = 2 then (DF.feed k b3T wide g x.f2).bind fun g' => (capture_notes_read.each k 1 g'.done out).bind fun o => capture_notes_read.go k b3T wide m s { g' with done := [] } o
  else if x.f0 = 3 then capture_notes_read.go k b3T wide m DF.init g out
  else if x.f0 = 4 then capture_notes_read.go k b3T wide m s DF.init out
  else capture_notes_read.go k b3T wide m s g out
def capture_notes_read.f (k : Nat) (l1 : List Int) (b3T : Int) (wide : Bool) : Option (List (S42) × Int × Int) := (a3g.f k l1).bind fun t => if (!(t.2.1 == 0) || (!(t.2.2 == 0))) = true then some ([], t.2.1, t.2.2) else (capture_notes_read.go k b3T wide t.1 DF.init DF.init []).bind fun o => some (o, 0, 0)
theorem capture_notes_read.d1G (l : List (S58)) (j : Nat) (h : j < l.length) : l.drop j = D5 l (j : Int) :: l.drop (j + 1) := by
 rw [List.drop_eq_getElem_cons h]
 unfold D5
 rw [Int.toNat_natCast, List.getD_eq_getElem?_getD, List.getElem?_eq_getElem h]
 rfl
theorem capture_notes_read.c5A (l : List (List Int)) (j : Nat) (h : j < l.length) : l.drop j = a0X l (j : Int) :: l.drop (j + 1) := by
 rw [List.drop_eq_getElem_cons h]
 unfold a0X
 rw [Int.toNat_natCast, List.getD_eq_getElem?_getD, List.getElem?_eq_getElem h]
 rfl
set_option maxHeartbeats 16000000 in
set_option maxRecDepth 100000 in
theorem capture_notes_read.calls (k : Nat) (A1 : Option Addr) (c1 : Nat) (l1 : List Int) (a05 : Int) (a06 : Int) (a07 : Int) (a08 : Int) (a09 : ByteArray) (a1a : ByteArray) (a0y : Int) (Y7 : Int) (Y1 : Bool) (r1 : List (S42)) (r2 r3 : Int) (w : World) (hG0 : Kd.C b1a w (some ⟨0, 0, none⟩) 8 G7) (hr1 : Kd.C (Kd.int .u8) w A1 l1.length l1) (hc1 : l1.length ≤ c1) (h : capture_notes_read.f k l1 Y7 Y1 = some (r1, r2, r3)) :
  Calls Tryd.prog 24 #[.agg #[], .slice A1 l1.length c1, .agg #[.int .i64 a05, .int .i64 a06, .int .i64 a07, .int .i64 a08, .string a09, .string a1a, .int .i64 a0y, .int .u32 Y7, .bool Y1]] w fun e w' => ∃ v0_ : Value, e = .returned (.tuple #[v0_, .agg #[.int .i64 r2, .int .i64 r3]]) ∧ Kd.S k42 42 w' w.heap.size (fun _ => True) v0_ r1 ∧ Below w.heap.size w w' := by
 have b2i := Tryd.underlying30
 have c3k := Tryd.underlying25
 have e2x := Tryd.underlying67
 have c1h := Tryd.underlying58
 obtain ⟨⟨l, f1, f2⟩, ht, h⟩ := Option.bind_eq_some_iff.1 h
 replace h : (if (!(f1 == 0) || (!(f2 == 0))) = true then some (([] : List (S42)), f1, f2) else (capture_notes_read.go k Y7 Y1 l DF.init DF.init []).bind fun o => some (o, 0, 0)) = some (r1, r2, r3) := h
 have HT := a_ ht
 have HG0 := a_ hG0
 have HR1 := a_ hr1
 have HC1 := a_ hc1
 have HB := a_ (Below.refl w.heap.size w)
 have HH := a_ h
 clear hG0 hr1 hc1 ht h
 go_enter Tryd.func24, Tryd.ntmps24
 go_upto_region 2 with (first | (refine be_ 3 #[] 67 ?_; intro g3 hg w3 hbox hb; have HB3 := Q8 HB hb; clear hg hbox hb) | (refine be_ 5 #[.int .i64 a05, .int .i64 a06, .int .i64 a07, .int .i64 a08, .string a09, .string a1a, .int .i64 a0y, .int .u32 Y7, .bool Y1] 25 ?_; intro g5 hg w5 hbox hb; have HB5 := Q8 HB3 hb; have BK5 := a_ hbox; clear hg hbox hb) | (refine be_ 7 #[.int .i64 0, .int .i64 0] 30 ?_; intro g7 hg w7 hbox hb; have HB7 := Q8 HB5 hb; have b2o := X8 BK5 hb; have BK7 := a_ hbox; have GE7 : Aside0 (w.heap.size ≤ g7) := ⟨by rw [hg]; exact HB5.out.size⟩; clear hg hbox hb) | (go_at_call 44; refine (a3g.calls k A1 c1 l1 l f1 f2 _ (Kd.E8 HG0.out HB7.out) (Kd.E8 HR1.out HB7.out) HC1.out HT.out).mono ?_; rintro e w8 ⟨vl, rfl, hl, hb⟩; have HB8 := Q8 HB7 hb; have a7T := X8 b2o hb; have b0z := X8 BK7 hb; have HL := a_ hl; obtain ⟨Al, cl, el⟩ := Kd.a8t HL.out; subst el; clear hl hb) | (refine be_ 9 #[.int .i64 0, .int .i64 0] 30 ?_; intro g9 hg w9 hbox hb; have BK9 := a_ hbox; have HB9 := a_ hb; have GE9 : Aside0 (w8.heap.size ≤ g9) := ⟨by rw [hg]; exact Nat.le_refl _⟩; have e7x := bc0 BK9; have d1H := l7 BK9.out 0; have e7y := bc1 BK9; have e7z := l7 BK9.out 1; clear hg hbox hb))
 have b6z := a_ (show ((w9.setCell ⟨g9, 0, none⟩ (.int .i64 f1)).setCell ⟨g9, 1, none⟩ (.int .i64 f2)).heap[g9]? = some (.cells #[.int .i64 f1, .int .i64 f2] 30 (0, 0)) from by refine l9 (cs := #[.int .i64 f1, .int .i64 0]) ?_ 1 _ rfl; refine l9 (cs := #[.int .i64 0, .int .i64 0]) ?_ 0 _ rfl; exact BK9.out)
 have HBr := a_ (o8 (j := 1) (v := .int .i64 f2) (o8 (j := 0) (v := .int .i64 f1) HB9.out GE9.out) GE9.out)
 generalize (w9.setCell ⟨g9, 0, none⟩ (.int .i64 f1)).setCell ⟨g9, 1, none⟩ (.int .i64 f2) = w10 at b6z HBr ⊢
 clear BK9 HB9 e7x d1H e7y e7z GE9 HB HB3 HB5 HB7 BK5 b2o BK7
 have b0A := a_ (Q5 a7T.out HBr.out)
 have a9h := a_ (Q5 b0z.out HBr.out)
 have a8F := a_ (L8 HB8.out HBr.out)
 obtain ⟨b6A, b6B⟩ := e7A b6z.out
 by_cases hf : (!(f1 == 0) || (!(f2 == 0))) = true
 ·have h := HH.out; rw [if_pos hf] at h
  simp only [Option.some.injEq, Prod.mk.injEq] at h
  obtain ⟨rfl, rfl, rfl⟩ := h; clear HH
  go_wp2
  refine a2U (n := 3) (S := fun w' => w'.cell? ⟨g9, 0, none⟩ = some (.int .i64 f1) ∧ w'.cell? ⟨g9, 1, none⟩ = some (.int .i64 f2)) (ds := [2]) #[false, false, false] (by kernel_rfl) rfl rfl ⟨((D8 (P6 b6z.out) 0).trans rfl), ((D8 (P6 b6z.out) 1).trans rfl)⟩ (fun hHeld => ?_); refine a3l (i := 1) (N := some 6) #[false, true, false] rfl rfl (by kernel_rfl) (fun _ _ _ h => h) (.inl ⟨rfl, by intro w'; go_simp; with_reducible rfl⟩) rfl ?_; refine a0Y (i := 0) (N := some 27) (v := ?_) (a' := ?_) #[true, true, false] rfl rfl (by kernel_rfl) (fun _ _ _ h => h) (Or.inl ⟨by rfl, ?_⟩) hHeld ?_ ?_
  rotate_left
  ·rintro w' ⟨s0, s1⟩
   go_simp
   with_reducible rfl
  rotate_left
  ·simp only [Act.put, List.setIfInBounds_toArray, List.set_cons_zero, List.set_cons_succ, a0D, a1b]
   rfl
  refine c4W (i := 2) (N := none) #[true, true, true] rfl rfl (by kernel_rfl) (by decide) (fun K hK => ?_); have b6x := bc0 a9h; have b1q := l7 a9h.out 0; have b6y := bc1 a9h; have b1r := l7 a9h.out 1; refine b57 (w1 := ?_) (by rfl) rfl ?_ ?_
  rotate_left
  ·go_simp
   rfl
  refine hK.out _ _ ?_; clear hK K; refine a4J (by kernel_rfl) ?_

  try go_wp2
  refine bodyPost_ret (a2T rfl _ _ g7 30 #[.int .i64 f1, .int .i64 f2] (0, 0) _ rfl (l9 (l9 (P6 a9h.out) 0 _ rfl) 1 _ rfl) b2i rfl (by kernel_rfl)) rfl ?_; exact ⟨_, rfl, Kd.a7k _ _ _ _ _, o8 (o8 (Z8 a8F.out) GE7.out) GE7.out⟩
 ·have h := HH.out; rw [if_neg hf] at h; have hf2 : (!(f1 == 0) || (!(f2 == 0))) = false := by simpa using hf
  obtain ⟨o, ho, h⟩ := Option.bind_eq_some_iff.1 h
  simp only [Option.some.injEq, Prod.mk.injEq] at h
  obtain ⟨rfl, rfl, rfl⟩ := h; have HO := a_ ho; clear HH ho hf
  go_wp2
  clear hf2 b6A b6B; refine a2U (n := 10) (S := fun w' => w'.cell? ⟨g5, 8, none⟩ = some (.bool Y1) ∧ w'.cell? ⟨g5, 7, none⟩ = some (.int .u32 Y7)) (ds := []) (bo_ 10 0) (by kernel_rfl) rfl rfl ⟨((D8 (P6 b0A.out) 8).trans rfl), ((D8 (P6 b0A.out) 7).trans rfl)⟩ (fun hHeld => ?_); refine a3l (i := 0) (N := some 28) (bo_ 10 1) rfl rfl (by kernel_rfl) (fun _ _ _ h => h) (.inl ⟨rfl, by intro w'; go_simp; with_reducible rfl⟩) rfl ?_; refine a3l (i := 3) (N := some 31) (bo_ 10 9) rfl rfl (by kernel_rfl) (fun _ _ _ h => h) (.inl ⟨rfl, by intro w'; go_simp; with_reducible rfl⟩) rfl ?_; refine a3l (i := 5) (N := some 33) (bo_ 10 41) rfl rfl (by kernel_rfl) (fun _ _ _ h => h) (.inl ⟨rfl, by intro w'; go_simp; with_reducible rfl⟩) rfl ?_; refine a0Y (i := 1) (N := some 29) (v := ?_) (a' := ?_) (bo_ 10 43) rfl rfl (by kernel_rfl) (fun _ _ _ h => h) (Or.inl ⟨by rfl, ?_⟩) hHeld ?_ ?_
  rotate_left
  ·rintro w' ⟨s0, s1⟩
   go_simp
   with_reducible rfl
  rotate_left
  ·simp only [Act.put, List.setIfInBounds_toArray, List.set_cons_zero, List.set_cons_succ, a0D, a1b]
   rfl
  refine a0Y (i := 4) (N := some 32) (v := ?_) (a' := ?_) (bo_ 10 59) rfl rfl (by kernel_rfl) (fun _ _ _ h => h) (Or.inl ⟨by rfl, ?_⟩) hHeld ?_ ?_
  rotate_left
  ·rintro w' ⟨s0, s1⟩
   go_simp
   with_reducible rfl
  rotate_left
  ·simp only [Act.put, List.setIfInBounds_toArray, List.set_cons_zero, List.set_cons_succ, a0D, a1b]
   rfl
  refine a0Y (i := 6) (N := some 34) (v := ?_) (a' := ?_) (bo_ 10 123) rfl rfl (by kernel_rfl) (fun _ _ _ h => h) (Or.inl ⟨by rfl, ?_⟩) hHeld ?_ ?_
  rotate_left
  ·rintro w' ⟨s0, s1⟩
   go_simp
   with_reducible rfl
  rotate_left
  ·simp only [Act.put, List.setIfInBounds_toArray, List.set_cons_zero, List.set_cons_succ, a0D, a1b]
   rfl
  refine a4p (i := 2) (N := some 30) (bo_ 10 127) rfl rfl (by kernel_rfl) (by decide) (fun K hK => ?_); refine a3c Tryd.func45 (by kernel_rfl) rfl #[.int .u32 0, .bool Y1] (by rfl) rfl rfl (by simp only [List.map_toArray, List.map_cons, List.map_nil]; rfl) ?_
  with_reducible refine (b0j.calls 0 Y1 _).mono ?_
  rintro e w11 ⟨rfl, ⟨hd⟩, ⟨hb⟩⟩; refine ⟨_, rfl, ?_⟩; have HD1 := a_ (hd 0); have c1i := a_ (Q5 (P6 b0A.out) hb); have HBn := a_ (L8 (a1K HBr.out) hb); clear hd hb; refine hK.out _ _ ⟨((D8 (c1i.out) 8).trans rfl), ((D8 (c1i.out) 7).trans rfl)⟩ (fun hHeld => ?_); clear hK K; refine nm_ (some 30) ?_; refine a4p (i := 7) (N := some 35) (bo_ 10 255) rfl rfl (by kernel_rfl) (by decide) (fun K hK => ?_); refine a3c Tryd.func45 (by kernel_rfl) rfl #[.int .u32 Y7, .bool Y1] (by rfl) rfl rfl (by simp only [List.map_toArray, List.map_cons, List.map_nil]; rfl) ?_
  with_reducible refine (b0j.calls Y7 Y1 _).mono ?_
  rintro e w12 ⟨rfl, ⟨hd⟩, ⟨hb⟩⟩; refine ⟨_, rfl, ?_⟩; have e2z := X8 c1i hb; have HN : Aside0 (NR w8 w12 w10.drew.heap.size w11.heap.size (.slice none 0 0) (.slice none 0 0) (.slice none 0 0) Y7 Y1 DF.init DF.init []) := ⟨⟨(HD1.out.lower (a1K HBr.out).size).below hb, (hd 0).lower HBn.out.size, rfl, rfl, Kd.a7k _ _ _ _ _, fun e_ => by have := a0B HD1.out.blk; omega, fun k_ e_ => by simp [Value.ownBlock] at e_, L8 HBn.out hb⟩⟩; clear hd hb; refine hK.out _ _ ⟨((D8 (e2z.out) 8).trans rfl), ((D8 (e2z.out) 7).trans rfl)⟩ (fun hHeld => ?_); clear hK K; refine nm_ (some 35) ?_; refine a3l (i := 8) (N := some 11) (bo_ 10 511) rfl rfl (by kernel_rfl) (fun _ _ _ h => h) (.inl ⟨rfl, by intro w'; go_simp; with_reducible rfl⟩) rfl ?_; refine a3l (i := 9) (N := some 12) (bo_ 10 1023) rfl rfl (by kernel_rfl) (fun _ _ _ h => h) (.inl ⟨rfl, by intro w'; go_simp; with_reducible rfl⟩) rfl ?_; refine a4J (by kernel_rfl) ?_

  clear HD1 c1i HBn e2z; have HGO : Aside0 (capture_notes_read.go k Y7 Y1 (l.drop 0) DF.init DF.init [] = some o) := ⟨by rw [List.drop_zero]; exact HO.out⟩; have hml := Kd.b7K (Kd.a4v HL.out).2.2
  go_wp2
  go_loopg [10, 11, 12, 38] l.length (fun kq v10 v11 v12 v38 w' => ∃ (j p1 p2 : Nat) (vh1 vh2 : Value) (s g : DF) (out : List (S42)), kq + j = l.length ∧ v11 = .pointer (some ⟨p1, 0, none⟩) ∧ v12 = .pointer (some ⟨p2, 0, none⟩) ∧ v38 = .int .i64 (j : Int) ∧ Aside0 (NR w8 w' p1 p2 vh1 vh2 v10 Y7 Y1 s g out) ∧ Aside0 (capture_notes_read.go k Y7 Y1 (l.drop j) s g out = some o))
  case atStart => exact ⟨0, _, _, _, _, _, _, _, rfl, rfl, rfl, rfl, HN, HGO⟩
  case round =>
   obtain ⟨j, p1, p2, vh1, vh2, s, g, out, hj, rfl, rfl, rfl, HI, HGJ⟩ := hrel; clear HN HGO
   by_cases hlt : j < l.length
   ·obtain ⟨k1, rfl⟩ : ∃ k1, gk = k1 + 1 := ⟨gk - 1, by omega⟩; have c1_ : decide ((j : Int) < (l.length : Int)) = true := dt_ (by omega); have p1_ : (0 : Int) ≤ (j : Int) := by omega
    have q1_ : (j : Int) < (l.length : Int) := by omega
    obtain ⟨ad, Ax, cx, e0, hx0, hx1, hx2, hlx, hix⟩ := a6H (Kd.a4v HL.out).2.2 (j : Int) p1_ q1_; have hgo := HGJ.out; rw [capture_notes_read.d1G l j hlt, capture_notes_read.go] at hgo; generalize D5 l (j : Int) = x at hx0 hx1 hx2 hlx hix hgo
    cases e0
    rw [Int.toNat_natCast] at hx0 hx1 hx2; replace hx0 := (HI.out.bel.cell (World.block_lt_of_cell? w8 _ hx0)).trans hx0; replace hx1 := (HI.out.bel.cell (World.block_lt_of_cell? w8 _ hx1)).trans hx1; replace hx2 := (HI.out.bel.cell (World.block_lt_of_cell? w8 _ hx2)).trans hx2; have HIX := a_ (Kd.C_F (Kd.d0z .u8) hix); clear hlx hix HGJ; have HGJ := a_ hgo; clear hgo
    go_upto_region 9 with ((refine be_ 14 #[.int .i64 0, .int .u32 0, .slice none 0 0] 58 ?_; intro g14 hg w14 hbox hb; have a5A := a_ hbox; have c1k := a_ hb; have b4C : Aside0 (wr.heap.size ≤ g14) := ⟨by rw [hg]; exact Nat.le_refl _⟩; replace hx0 := J9 ⟨hb⟩ hx0; replace hx1 := J9 ⟨hb⟩ hx1; replace hx2 := J9 ⟨hb⟩ hx2; have b6C := bc0 a5A; have b6D := l7 a5A.out 0; have b6E := bc1 a5A; have b6F := l7 a5A.out 1; have b6G := bc2 a5A; have b6H := l7 a5A.out 2; clear hg hbox hb))
    have b6I := a_ (show (((w14.setCell ⟨g14, 0, none⟩ (.int .i64 x.f0)).setCell ⟨g14, 1, none⟩ (.int .u32 x.f1)).setCell ⟨g14, 2, none⟩ (.slice Ax x.f2.length cx)).heap[g14]? = some (.cells #[.int .i64 x.f0, .int .u32 x.f1, .slice Ax x.f2.length cx] 58 (0, 0)) from by refine l9 (cs := #[.int .i64 x.f0, .int .u32 x.f1, .slice none 0 0]) ?_ 2 _ rfl; refine l9 (cs := #[.int .i64 x.f0, .int .u32 0, .slice none 0 0]) ?_ 1 _ rfl; refine l9 (cs := #[.int .i64 0, .int .u32 0, .slice none 0 0]) ?_ 0 _ rfl; exact a5A.out); have HBx := a_ (o8 (j := 2) (v := .slice Ax x.f2.length cx) (o8 (j := 1) (v := .int .u32 x.f1) (o8 (j := 0) (v := .int .i64 x.f0) c1k.out b4C.out) b4C.out) b4C.out); generalize ((w14.setCell ⟨g14, 0, none⟩ (.int .i64 x.f0)).setCell ⟨g14, 1, none⟩ (.int .u32 x.f1)).setCell ⟨g14, 2, none⟩ (.slice Ax x.f2.length cx) = w15 at b6I HBx ⊢; clear a5A c1k hx0 hx1 hx2 b6C b6D b6E b6F b6G b6H; have a5B := a_ (HI.out.below HBx.out); have b80 := bc0 b6I; have f8a := bc2 b6I; have d1I := a_ ((a5B.out.bel.block g5 (a0B a7T.out)).trans a7T.out); have c5y := bc7 d1I; have c5z := bc8 d1I; clear HI
    by_cases e1 : x.f0 = 1
    ·have hgo := HGJ.out; rw [if_pos e1] at hgo; clear HGJ; obtain ⟨s', hs', hgo⟩ := Option.bind_eq_some_iff.1 hgo; obtain ⟨o1, ho1, hgo⟩ := Option.bind_eq_some_iff.1 hgo; have HS' := a_ hs'; have HO1 := a_ ho1; have HGN := a_ hgo; clear hs' ho1 hgo; rw [e1] at b80; have FX1 := a_ (Kd.b1e (Kd.b4Q HIX.out a5B.out.bel) (ok' := fun k_ => k_ ≠ p1 ∧ some k_ ≠ vh1.ownBlock) (fun k_ hk_ => ⟨fun e_ => by have := a5B.out.d1.le; omega, fun e_ => by have := Kd.a1d a5B.out.d1.held k_ e_.symm; omega⟩))
     go_wp2_with (go_at_call 46; refine (a6j.calls k w8.heap.size p1 vh1 0 Y1 s s' Ax cx x.f2 _ (NR.any a5B.out.d1 a5B.out.n1 _) a5B.out.bel.size FX1.out HS'.out).mono ?_; rintro e w16 ⟨v0, rfl, ⟨vh', hd, ho, hk, hv⟩⟩; have a6U := a_ (a5B.out.e7v (hd 0) rfl hk hv); have b81 := a_ (Kd.Y3 (ok' := fun _ => True) ho (fun _ _ => trivial)); obtain ⟨Av, cv, ev⟩ := Kd.a8t b81.out; subst ev; clear hd ho hk hv)
     have hmv := Kd.b7K (Kd.a4v b81.out).2.2; have d1J : Aside0 (capture_notes_read.each k 2 (s'.done.drop 0) out = some o1) := ⟨by rw [List.drop_zero]; exact HO1.out⟩
     go_loopg [10, 51] s'.done.length (fun kq v10 vi w' => ∃ (i : Nat) (out' : List (S42)), kq + i = s'.done.length ∧ vi = .int .i64 (i : Int) ∧ Aside0 (NR w8 w' p1 p2 vh' vh2 v10 Y7 Y1 { s' with done := [] } g out') ∧ Aside0 (Kd.S (Kd.slice 5 (Kd.int .u8)) 22 w' w15.heap.size (fun _ => True) (.slice Av s'.done.length cv) s'.done) ∧ Aside0 (capture_notes_read.each k 2 (s'.done.drop i) out' = some o1))
     case atStart => exact ⟨0, out, rfl, rfl, a6U, b81, d1J⟩
     case round =>
      clear a6U b81 d1J; obtain ⟨i, out', hi, rfl, HI, HV, HE⟩ := hrel
      by_cases hit : i < s'.done.length
      ·obtain ⟨k2, rfl⟩ : ∃ k2, gk = k2 + 1 := ⟨gk - 1, by omega⟩; have c2 : decide ((i : Int) < (s'.done.length : Int)) = true := dt_ (by omega); have p2_ : (0 : Int) ≤ (i : Int) := by omega
       have q2_ : (i : Int) < (s'.done.length : Int) := by omega
       obtain ⟨av, Af, cf, e0, hy, hlf, hif⟩ := a7N (Kd.a4v HV.out).2.2 (i : Int) p2_ q2_; have he := HE.out; rw [capture_notes_read.c5A s'.done i hit, capture_notes_read.each] at he; generalize a0X s'.done (i : Int) = b at hy hlf hif he; obtain ⟨o2, ho2, he⟩ := Option.bind_eq_some_iff.1 he
       cases e0
       rw [Int.toNat_natCast] at hy; have HLF := a_ hlf; have HIF := a_ hif; have HO2 := a_ ho2; have HE2 := a_ he; clear hlf hif ho2 he
       go_wp2_with (go_at_call 43; refine (a1S.calls k w8.heap.size _ _ out' 2 Af cf b o2 _ HI.out.row HI.out.ok HI.out.bel.size HIF.out HLF.out HO2.out).mono ?_; rintro e w17 ⟨v', rfl, ⟨hl⟩, ⟨hb⟩⟩; have a9J := a_ (HI.out.item hl hb); have e2E := a_ (Kd.c4Z HV.out (Kd.a4X HI.out.row) (by decide) hl.grown); clear hl hb)
       go_roundg k2
       case measure => omega
       case rel => exact ⟨i + 1, o2, by omega, by go_num, a9J, e2E, HE2⟩
      ·have c2 : decide ((i : Int) < (s'.done.length : Int)) = false := df_ (by omega); have he := HE.out; rw [List.drop_of_length_le (by omega), capture_notes_read.each] at he; obtain rfl := oj_ he
       go_wp2
       go_roundg k1
       case measure => omega
       case rel => exact ⟨j + 1, p1, p2, vh', vh2, { s' with done := [] }, g, out', by omega, rfl, rfl, by go_num, HI, HGN⟩
    ·by_cases e2 : x.f0 = 2
     ·have hgo := HGJ.out; rw [if_neg e1, if_pos e2] at hgo; clear HGJ; obtain ⟨s', hs', hgo⟩ := Option.bind_eq_some_iff.1 hgo; obtain ⟨o1, ho1, hgo⟩ := Option.bind_eq_some_iff.1 hgo; have HS' := a_ hs'; have HO1 := a_ ho1; have HGN := a_ hgo; clear hs' ho1 hgo; rw [e2] at b80; have FX1 := a_ (Kd.b1e (Kd.b4Q HIX.out a5B.out.bel) (ok' := fun k_ => k_ ≠ p2 ∧ some k_ ≠ vh2.ownBlock) (fun k_ hk_ => ⟨fun e_ => by have := a5B.out.d2.le; omega, fun e_ => by have := Kd.a1d a5B.out.d2.held k_ e_.symm; omega⟩))
      go_wp2_with (go_at_call 46; refine (a6j.calls k w8.heap.size p2 vh2 Y7 Y1 g s' Ax cx x.f2 _ (NR.any a5B.out.d2 a5B.out.n2 _) a5B.out.bel.size FX1.out HS'.out).mono ?_; rintro e w16 ⟨v0, rfl, ⟨vh', hd, ho, hk, hv⟩⟩; have a6U := a_ (a5B.out.e7w (hd 0) rfl hk hv); have b81 := a_ (Kd.Y3 (ok' := fun _ => True) ho (fun _ _ => trivial)); obtain ⟨Av, cv, ev⟩ := Kd.a8t b81.out; subst ev; clear hd ho hk hv)
      have hmv := Kd.b7K (Kd.a4v b81.out).2.2; have d1J : Aside0 (capture_notes_read.each k 1 (s'.done.drop 0) out = some o1) := ⟨by rw [List.drop_zero]; exact HO1.out⟩
      go_loopg [10, 66] s'.done.length (fun kq v10 vi w' => ∃ (i : Nat) (out' : List (S42)), kq + i = s'.done.length ∧ vi = .int .i64 (i : Int) ∧ Aside0 (NR w8 w' p1 p2 vh1 vh' v10 Y7 Y1 s { s' with done := [] } out') ∧ Aside0 (Kd.S (Kd.slice 5 (Kd.int .u8)) 22 w' w15.heap.size (fun _ => True) (.slice Av s'.done.length cv) s'.done) ∧ Aside0 (capture_notes_read.each k 1 (s'.done.drop i) out' = some o1))
      case atStart => exact ⟨0, out, rfl, rfl, a6U, b81, d1J⟩
      case round =>
       clear a6U b81 d1J; obtain ⟨i, out', hi, rfl, HI, HV, HE⟩ := hrel
       by_cases hit : i < s'.done.length
       ·obtain ⟨k2, rfl⟩ : ∃ k2, gk = k2 + 1 := ⟨gk - 1, by omega⟩; have c2 : decide ((i : Int) < (s'.done.length : Int)) = true := dt_ (by omega); have p2_ : (0 : Int) ≤ (i : Int) := by omega
        have q2_ : (i : Int) < (s'.done.length : Int) := by omega
        obtain ⟨av, Af, cf, e0, hy, hlf, hif⟩ := a7N (Kd.a4v HV.out).2.2 (i : Int) p2_ q2_; have he := HE.out; rw [capture_notes_read.c5A s'.done i hit, capture_notes_read.each] at he; generalize a0X s'.done (i : Int) = b at hy hlf hif he; obtain ⟨o2, ho2, he⟩ := Option.bind_eq_some_iff.1 he
        cases e0
        rw [Int.toNat_natCast] at hy; have HLF := a_ hlf; have HIF := a_ hif; have HO2 := a_ ho2; have HE2 := a_ he; clear hlf hif ho2 he
        go_wp2_with (go_at_call 43; refine (a1S.calls k w8.heap.size _ _ out' 1 Af cf b o2 _ HI.out.row HI.out.ok HI.out.bel.size HIF.out HLF.out HO2.out).mono ?_; rintro e w17 ⟨v', rfl, ⟨hl⟩, ⟨hb⟩⟩; have a9J := a_ (HI.out.item hl hb); have e2E := a_ (Kd.c4Z HV.out (Kd.a4X HI.out.row) (by decide) hl.grown); clear hl hb)
        go_roundg k2
        case measure => omega
        case rel => exact ⟨i + 1, o2, by omega, by go_num, a9J, e2E, HE2⟩
       ·have c2 : decide ((i : Int) < (s'.done.length : Int)) = false := df_ (by omega); have he := HE.out; rw [List.drop_of_length_le (by omega), capture_notes_read.each] at he; obtain rfl := oj_ he
        go_wp2
        go_roundg k1
        case measure => omega
        case rel => exact ⟨j + 1, p1, p2, vh1, vh', s, { s' with done := [] }, out', by omega, rfl, rfl, by go_num, HI, HGN⟩
     ·by_cases e3 : x.f0 = 3
      ·have hgo := HGJ.out; rw [if_neg e1, if_neg e2, if_pos e3] at hgo; clear HGJ; have HGN := a_ hgo; clear hgo; rw [e3] at b80
       go_wp2_with (go_at_call 45; refine (b0j.calls 0 Y1 _).mono ?_; rintro e w16 ⟨rfl, ⟨hd⟩, ⟨hb⟩⟩; have a6U := a_ (a5B.out.new1 hd hb); clear hd hb)
       go_roundg k1
       case measure => omega
       case rel => exact ⟨j + 1, _, p2, _, vh2, DF.init, g, out, by omega, rfl, rfl, by go_num, a6U, HGN⟩
      ·by_cases e4 : x.f0 = 4
       ·have hgo := HGJ.out; rw [if_neg e1, if_neg e2, if_neg e3, if_pos e4] at hgo; clear HGJ; have HGN := a_ hgo; clear hgo; rw [e4] at b80
        go_wp2_with (go_at_call 45; refine (b0j.calls Y7 Y1 _).mono ?_; rintro e w16 ⟨rfl, ⟨hd⟩, ⟨hb⟩⟩; have a6U := a_ (a5B.out.new2 hd hb); clear hd hb)
        go_roundg k1
        case measure => omega
        case rel => exact ⟨j + 1, p1, _, vh1, _, s, DF.init, out, by omega, rfl, rfl, by go_num, a6U, HGN⟩
       ·have hgo := HGJ.out; rw [if_neg e1, if_neg e2, if_neg e3, if_neg e4] at hgo; have HGN := a_ hgo; clear HGJ hgo; have d1 : decide (x.f0 = 1) = false := df_ e1; have d2 : decide (x.f0 = 2) = false := df_ e2; have d3 : decide (x.f0 = 3) = false := df_ e3; have d4 : decide (x.f0 = 4) = false := df_ e4; have b1 : (x.f0 == 1) = false := by simpa using e1
        have b2 : (x.f0 == 2) = false := by simpa using e2
        have b3 : (x.f0 == 3) = false := by simpa using e3
        have b4 : (x.f0 == 4) = false := by simpa using e4
        go_wp2
        go_roundg k1
        case measure => omega
        case rel => exact ⟨j + 1, p1, p2, vh1, vh2, s, g, out, by omega, rfl, rfl, by go_num, a5B, HGN⟩
   ·have c1_ : decide ((j : Int) < (l.length : Int)) = false := df_ (by omega); have hgo := HGJ.out; rw [List.drop_of_length_le (by omega), capture_notes_read.go] at hgo; obtain rfl := oj_ hgo; have b1s := a_ ((HI.out.bel.block g7 (a0B b0z.out)).trans b0z.out); have b6x := bc0 b1s; have b1q := l7 b1s.out 0; have b6y := bc1 b1s; have b1r := l7 b1s.out 1; have HBW := a_ (L8 HB8.out HI.out.bel)
    go_wp2
    refine bodyPost_ret (a2T rfl _ _ g7 30 #[.int .i64 0, .int .i64 0] (0, 0) _ rfl (l9 (l9 b1s.out 0 _ rfl) 1 _ rfl) b2i rfl (by kernel_rfl)) rfl ?_; exact ⟨_, rfl, Kd.Y3 (ok' := fun _ => True) (Kd.b4P (Kd.b4h (Kd.b4h HI.out.row b1s.out (by decide) 0 _) (a3F b1s.out 0 _) (by decide) 1 _) HB8.out.size) (fun _ _ => trivial), o8 (o8 HBW.out GE7.out) GE7.out⟩

end Go.Proofs.YtgnonglkibhnhaaDoor.Print
