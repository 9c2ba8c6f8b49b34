import Derived.Test.YtgnonglkibhnhaaDoorM9
namespace Go.Proofs.YtgnonglkibhnhaaDoor.Print
open Go.RowKit Go.Proofs.YtgnonglkibhnhaaDoorW.PrintWords Go.Proofs.YtgnonglkibhnhaaDoorW.PrintLast Go.Proofs.YtgnonglkibhnhaaDoorW.PrintMore
attribute [local go_sem] a0o a0p a0R a0S Y5 Y6 a0q a0r
set_option linter.unusedVariables false
set_option linter.unusedSimpArgs false

/-! ### umpireref11_notes: function 26 -/
structure NQ (w1 W : World) (vs vg vo : Value) (sent got : List Int) (out : List (S42)) : Prop where
 s : Kd.R (Kd.int .u8) 5 W w1.heap.size (fun _ => True) vs sent
 g : Kd.R (Kd.int .u8) 5 W w1.heap.size (fun _ => True) vg got
 row : Kd.S k42 42 W w1.heap.size (fun k => some k ≠ vs.ownBlock ∧ some k ≠ vg.ownBlock) vo out
 nv : ∀ k, vs.ownBlock = some k → vg.ownBlock ≠ some k
 bel : Below w1.heap.size w1 W
theorem NQ.cell {w1 W : World} {vs vg vo : Value} {sent got : List Int} {out : List (S42)} (h : NQ w1 W vs vg vo sent got out) {a : Addr} {v : Value} (hc : w1.cell? a = some v) : W.cell? a = some v := (h.bel.cell (World.block_lt_of_cell? w1 _ hc)).trans hc
theorem NQ.below {w1 W W' : World} {vs vg vo : Value} {sent got : List Int} {out : List (S42)} (h : NQ w1 W vs vg vo sent got out) (hb : Below W.heap.size W W') : NQ w1 W' vs vg vo sent got out :=
 ⟨Kd.a2a h.s hb, Kd.a2a h.g hb, Kd.a4s h.row hb, h.nv, J6 h.bel hb⟩
theorem NQ.g78 {w1 W : World} {vs vg vo : Value} {sent got : List Int} {out : List (S42)} (h : NQ w1 W vs vg vo sent got out) : NQ w1 W (.slice none 0 0) vg vo [] got out :=
 ⟨Kd.Y2 _ _ _ _ _, h.g, Kd.N7 h.row (fun k ho => ⟨by simp [Value.ownBlock], ho.2⟩), fun k e => by simp [Value.ownBlock] at e, h.bel⟩
theorem NQ.g79 {w1 W : World} {vs vg vo : Value} {sent got : List Int} {out : List (S42)} (h : NQ w1 W vs vg vo sent got out) : NQ w1 W vs (.slice none 0 0) vo sent [] out :=
 ⟨h.s, Kd.Y2 _ _ _ _ _, Kd.N7 h.row (fun k ho => ⟨ho.1, by simp [Value.ownBlock]⟩), fun k e e2 => by simp [Value.ownBlock] at e2, h.bel⟩
theorem NQ.f8w {w1 W W' : World} {vs vs' vg vo : Value} {sent sent' got : List Int} {out : List (S42)} (h : NQ w1 W vs vg vo sent got out) (hr : Kd.R (Kd.int .u8) 5 W' w1.heap.size (fun _ => True) vs' sent') (hb : Below w1.heap.size w1 W') (hg : W.grownBy W' vs.ownBlock) (hat : vs'.ownBlock = vs.ownBlock ∨ ∃ b, vs'.ownBlock = some b ∧ W.heap.size ≤ b) : NQ w1 W' vs' vg vo sent' got out := by
 refine ⟨hr, Kd.D7 (Kd.b4P (Kd.b8l rfl h.g) hg (fun k e he => h.nv k he.symm e.1.symm)) (fun _ _ => trivial), ?_, ?_, hb⟩
 ·exact Kd.N7 (Kd.b0V (ok := fun k => some k ≠ vg.ownBlock) (Kd.N7 h.row (fun k ho => ⟨ho.2, ho.1⟩)) hg hat) (fun k ho => ⟨ho.2, ho.1⟩)
 ·intro k e
  rcases hat with hat | ⟨b, hat, hle⟩
  ·exact h.nv k (by rw [← hat]; exact e)
  ·intro e2; rw [hat] at e; injection e with e
   have := Kd.a0i h.g k e2
   omega
theorem NQ.f8x {w1 W W' : World} {vs vg vg' vo : Value} {sent got got' : List Int} {out : List (S42)} (h : NQ w1 W vs vg vo sent got out) (hr : Kd.R (Kd.int .u8) 5 W' w1.heap.size (fun _ => True) vg' got') (hb : Below w1.heap.size w1 W') (hg : W.grownBy W' vg.ownBlock) (hat : vg'.ownBlock = vg.ownBlock ∨ ∃ b, vg'.ownBlock = some b ∧ W.heap.size ≤ b) : NQ w1 W' vs vg' vo sent got' out := by
 refine ⟨Kd.D7 (Kd.b4P (Kd.b8l rfl h.s) hg (fun k e he => h.nv k e.1.symm he.symm)) (fun _ _ => trivial), hr, ?_, ?_, hb⟩
 ·exact Kd.b0V (ok := fun k => some k ≠ vs.ownBlock) h.row hg hat
 ·intro k e
  rcases hat with hat | ⟨b, hat, hle⟩
  ·rw [hat]; exact h.nv k e
  ·intro e2; rw [hat] at e2; injection e2 with e2
   have := Kd.a0i h.s k e
   omega
theorem NQ.item {w1 W W' : World} {vs vg vo vo' : Value} {sent got : List Int} {out out' : List (S42)} (h : NQ w1 W vs vg vo sent got out) (hl : Longer W W' w1.heap.size (fun k => some k ≠ vs.ownBlock ∧ some k ≠ vg.ownBlock) vo vo' out') (hb : Below w1.heap.size W W') : NQ w1 W' vs vg vo' sent got out' :=
 ⟨Kd.b2R h.s (Kd.a2A h.row) (by decide) hl.grown, Kd.b2R h.g (Kd.a2A h.row) (by decide) hl.grown, hl.row, h.nv, h.bel.trans hb⟩
theorem NQ.ok {w1 W : World} {vs vg vo : Value} {sent got : List Int} {out : List (S42)} (h : NQ w1 W vs vg vo sent got out) (k : Nat) (hk : W.heap.size ≤ k) : some k ≠ vs.ownBlock ∧ some k ≠ vg.ownBlock :=
 ⟨fun e => by have := Kd.a0i h.s k e.symm; omega, fun e => by have := Kd.a0i h.g k e.symm; omega⟩
def umpireref11_notes.each (k : Nat) (dir : Int) : List (List Int) → List (S42) → Option (List (S42))
 | [], out => some out
 | b :: m, out => (J9.f k out dir b).bind fun o => umpireref11_notes.each k dir m o
def umpireref11_notes.go (k : Nat) (a9U : Int) (wide : Bool) : List (S58) → List Int → List Int → List (S42) → Option (List (S42))
 | [], _, _, out => some out
 | x :: m, sent, got, out =>
  if x.f0 = 3 then umpireref11_notes.go k a9U wide m [] got out
  else if x.f0 = 4 then umpireref11_notes.go k a9U wide m sent [] out
  else if x.f0 = 1 then (X8.f k sent 0 wide).bind fun was => if sent.length + x.f2.length < 140737488355328 then (X8.f k (sent ++ x.f2) 0 wide).bind fun now => (umpireref11_notes.each k 2 (now.drop was.length) out).bind fun o => umpireref11_notes.go k a9U wide m (sent ++ x.f2) got o else none
  else if x.f0 = 2 then (X8.f k got a9U wide).bind fun was => if got.length + x.f2.length < 140737488355328 then (X8.f k (got ++ x.f2) a9U wide).bind fun now => (umpireref11_notes.each k 1 (now.drop was.length) out).bind fun o => umpireref11_notes.go k a9U wide m sent (got ++ x.f2) o else none
  else umpireref11_notes.go k a9U wide m sent got out
def umpireref11_notes.f (k : Nat) (l0 : List Int) (c3s : Int) (c3t : Int) (c3u : Int) (c3v : Int) (c3w : ByteArray) (c3x : ByteArray) (b5q : Int) (b4n : Int) (b2o : Bool) : Option (List (S42) × Int × Int) := (V8.f k l0).bind fun t => if t.2.2 = 0 then (umpireref11_notes.go k b4n b2o t.1 [] [] []).bind fun o => some (o, t.2.1, t.2.2) else some ([], t.2.1, t.2.2)
theorem umpireref11_notes.b9F (l : List (S58)) (j : Nat) (h : j < l.length) : l.drop j = F8 l (j : Int) :: l.drop (j + 1) := by
 rw [List.drop_eq_getElem_cons h]
 unfold F8
 rw [Int.toNat_natCast, List.getD_eq_getElem?_getD, List.getElem?_eq_getElem h]
 rfl
theorem umpireref11_notes.b5O (l : List (List Int)) (j : Nat) (h : j < l.length) : l.drop j = a18 l (j : Int) :: l.drop (j + 1) := by
 rw [List.drop_eq_getElem_cons h]
 unfold a18
 rw [Int.toNat_natCast, List.getD_eq_getElem?_getD, List.getElem?_eq_getElem h]
 rfl
set_option maxHeartbeats 16000000 in
set_option maxRecDepth 100000 in
theorem umpireref11_notes.calls (k : Nat) (A0 : Option Addr) (c0 : Nat) (l0 : List Int) (c3s : Int) (c3t : Int) (c3u : Int) (c3v : Int) (c3w : ByteArray) (c3x : ByteArray) (b5q : Int) (b4n : Int) (b2o : Bool) (r1 : List (S42)) (r2 r3 : Int) (w : World) (hr0 : Kd.C (Kd.int .u8) w A0 l0.length l0) (hc0 : l0.length ≤ c0) (h : umpireref11_notes.f k l0 c3s c3t c3u c3v c3w c3x b5q b4n b2o = some (r1, r2, r3)) :
  Calls Tryd.prog 26 #[.slice A0 l0.length c0, .agg #[.int .i64 c3s, .int .i64 c3t, .int .i64 c3u, .int .i64 c3v, .string c3w, .string c3x, .int .i64 b5q, .int .u32 b4n, .bool b2o]] w fun e w' => ∃ v0_ : Value, e = .returned (.tuple #[v0_, .agg #[.int .i64 r2, .int .i64 r3]]) ∧ Kd.S k42 42 w' w.heap.size (fun _ => True) v0_ r1 ∧ Below w.heap.size w w' := by
 have a8e := Tryd.underlying30
 have c2n := Tryd.underlying25
 have c7K := Tryd.underlying58
 obtain ⟨⟨l, f1, f2⟩, ht, h⟩ := Option.bind_eq_some_iff.1 h
 replace h : (if f2 = 0 then (umpireref11_notes.go k b4n b2o l [] [] []).bind fun o => some (o, f1, f2) else some (([] : List (S42)), f1, f2)) = some (r1, r2, r3) := h
 have HT := a_ ht
 have HR0 := a_ hr0
 have HC0 := a_ hc0
 have HB := a_ (Below.refl w.heap.size w)
 have HH := a_ h
 clear hr0 hc0 ht h
 go_enter Tryd.func26, Tryd.ntmps26
 go_upto_region 2 with (first | (refine be_ 3 #[.int .i64 c3s, .int .i64 c3t, .int .i64 c3u, .int .i64 c3v, .string c3w, .string c3x, .int .i64 b5q, .int .u32 b4n, .bool b2o] 25 ?_; intro g3 hg w3 hbox hb; have HB3 := V3 HB hb; have BK3 := a_ hbox; clear hg hbox hb) | (refine be_ 5 #[.int .i64 0, .int .i64 0] 30 ?_; intro g5 hg w5 hbox hb; have HB5 := V3 HB3 hb; have d6J := X3 BK3 hb; have BK5 := a_ hbox; have GE5 : Aside0 (w.heap.size ≤ g5) := ⟨by rw [hg]; exact HB3.out.size⟩; clear hg hbox hb) | (go_at_call 20; refine (V8.calls k A0 c0 l0 l f1 f2 _ (Kd.y9 HR0.out HB5.out) HC0.out HT.out).mono ?_; rintro e w8 ⟨vl, rfl, hl, hb⟩; have HB8 := V3 HB5 hb; have d6K := X3 d6J hb; have b0f := X3 BK5 hb; have HL8 := a_ hl; obtain ⟨Al, cl, el⟩ := Kd.a6m HL8.out; subst el; clear hl hb) | (refine be_ 7 #[.int .i64 0, .int .i64 0] 30 ?_; intro g7 hg w9 hbox hb; have BK7 := a_ hbox; have HB9 := a_ hb; have GE7 : Aside0 (w8.heap.size ≤ g7) := ⟨by rw [hg]; exact Nat.le_refl _⟩; have d8n := bc0 BK7; have c5W := l7 BK7.out 0; have d8o := bc1 BK7; have d8p := l7 BK7.out 1; clear hg hbox hb))
 have b1K := a_ (show ((w9.setCell ⟨g7, 0, none⟩ (.int .i64 f1)).setCell ⟨g7, 1, none⟩ (.int .i64 f2)).heap[g7]? = some (.cells #[.int .i64 f1, .int .i64 f2] 30 (0, 0)) from by refine l9 (cs := #[.int .i64 f1, .int .i64 0]) ?_ 1 _ rfl; refine l9 (cs := #[.int .i64 0, .int .i64 0]) ?_ 0 _ rfl; exact BK7.out)
 have HBr := a_ (o7 (j := 1) (v := .int .i64 f2) (o7 (j := 0) (v := .int .i64 f1) HB9.out GE7.out) GE7.out)
 generalize (w9.setCell ⟨g7, 0, none⟩ (.int .i64 f1)).setCell ⟨g7, 1, none⟩ (.int .i64 f2) = w10 at b1K HBr ⊢
 clear BK7 HB9 d8n c5W d8o d8p GE7 HB HB3 HB5 BK3 d6J BK5
 have d6N := a_ (L6 d6K.out HBr.out)
 have a4U := a_ (L6 b0f.out HBr.out)
 have HL := a_ (Kd.a4s HL8.out HBr.out)
 have a7c := a_ (J6 HB8.out HBr.out)
 clear d6K b0f HL8 HBr
 obtain ⟨b4C, b4D⟩ := e0I b1K.out
 by_cases hf : f2 = 0
 ·have h := HH.out; rw [if_pos hf] at h; obtain ⟨o, ho, h⟩ := Option.bind_eq_some_iff.1 h
  simp only [Option.some.injEq, Prod.mk.injEq] at h
  obtain ⟨rfl, rfl, rfl⟩ := h; have HO := a_ ho; clear HH ho; subst hf; have HGO : Aside0 (umpireref11_notes.go k b4n b2o (l.drop 0) [] [] [] = some o) := ⟨by rw [List.drop_zero]; exact HO.out⟩; have hml := Kd.b3E (Kd.a1J HL.out).2.2; have d32 := bc7 d6N; have d33 := bc8 d6N; have HN0 : Aside0 (NQ w10 w10 (.slice none 0 0) (.slice none 0 0) (.slice none 0 0) [] [] []) := ⟨⟨Kd.Y2 _ _ _ _ _, Kd.Y2 _ _ _ _ _, Kd.a5p _ _ _ _ _, fun k_ e_ => by simp [Value.ownBlock] at e_, Below.refl _ _⟩⟩; clear HO d6N
  go_wp2
  clear b4C b4D
  go_loopg [8, 9, 10, 11] l.length (fun kq v8 v9 v10 v11 w' => ∃ (j : Nat) (sent got : List Int) (out : List (S42)), kq + j = l.length ∧ v11 = .int .i64 (j : Int) ∧ Aside0 (NQ w10 w' v9 v10 v8 sent got out) ∧ Aside0 (umpireref11_notes.go k b4n b2o (l.drop j) sent got out = some o))
  case atStart => exact ⟨0, [], [], [], rfl, rfl, HN0, HGO⟩
  case round =>
   obtain ⟨j, sent, got, out, hj, rfl, HI, HGJ⟩ := hrel; clear HN0 HGO
   by_cases hlt : j < l.length
   ·obtain ⟨k1, rfl⟩ : ∃ k1, gk = k1 + 1 := ⟨gk - 1, by omega⟩; have c1_ : decide ((j : Int) < (l.length : Int)) = true := dt_ (by omega); have p1_ : (0 : Int) ≤ (j : Int) := by omega
    have q1_ : (j : Int) < (l.length : Int) := by omega
    obtain ⟨ad, Ax, cx, e0, b9U, f0W, d9e, hlx, hix⟩ := b6a (Kd.a1J HL.out).2.2 (j : Int) p1_ q1_; have hgo := HGJ.out; rw [umpireref11_notes.b9F l j hlt, umpireref11_notes.go] at hgo; generalize F8 l (j : Int) = x at b9U f0W d9e hlx hix hgo
    cases e0
    rw [Int.toNat_natCast] at b9U f0W d9e; have hx0 := HI.out.cell b9U; have hx2 := HI.out.cell d9e; have HIX := a_ hix; clear hlx hix HGJ f0W
    by_cases e3 : x.f0 = 3
    ·rw [if_pos e3] at hgo; have HGN := a_ hgo; clear hgo; rw [e3] at hx0
     go_wp2
     go_roundg k1
     case measure => omega
     case rel => exact ⟨j + 1, [], got, out, by omega, by go_num, ⟨HI.out.g78⟩, HGN⟩
    ·rw [if_neg e3] at hgo
     by_cases e4 : x.f0 = 4
     ·rw [if_pos e4] at hgo; have HGN := a_ hgo; clear hgo; rw [e4] at hx0
      go_wp2
      go_roundg k1
      case measure => omega
      case rel => exact ⟨j + 1, sent, [], out, by omega, by go_num, ⟨HI.out.g79⟩, HGN⟩
     ·rw [if_neg e4] at hgo
      by_cases e1 : x.f0 = 1
      ·rw [if_pos e1] at hgo; rw [e1] at b9U hx0; obtain ⟨was, d9f, hgo⟩ := Option.bind_eq_some_iff.1 hgo; have hlim : sent.length + x.f2.length < 140737488355328 := by
        by_cases hlim : sent.length + x.f2.length < 140737488355328
        ·exact hlim
        ·rw [if_neg hlim] at hgo; cases hgo
       rw [if_pos hlim] at hgo; obtain ⟨now, c82, hgo⟩ := Option.bind_eq_some_iff.1 hgo; obtain ⟨o1, ho1, hgo⟩ := Option.bind_eq_some_iff.1 hgo; obtain ⟨y, hy⟩ : ∃ y, y = sent ++ x.f2 := ⟨_, rfl⟩; rw [← hy] at c82 hgo; have HW := a_ d9f; have HN := a_ c82; have HO1 := a_ ho1; have HGN := a_ hgo; have HY := a_ hy; have f0X := a_ hlim; clear d9f c82 ho1 hgo hy hlim; obtain ⟨Av, cv, ev⟩ := Kd.G7 HI.out.s; subst ev; have b2F := HI.out.cell d32; have b2G := HI.out.cell d33
       go_wp2_with (first | (go_at_call 48; (with_reducible refine (X8.calls k (fun k_ => True ∧ some k_ ≠ u8.ownBlock) Av cv sent 0 b2o was _ ?hs HW.out).mono ?_); (case hs => exact Kd.R_V (Kd.X5 HI.out.s (Kd.a2A HI.out.row) (by decide))); rintro e w12 ⟨v12, rfl, hn, hb⟩; have a9X := a_ (HI.out.below hb); obtain ⟨Aw, cw, ew⟩ := Kd.a4c hn; subst ew; clear hn hb hx0 hx2 b2F b2G; have hx0 := a9X.out.cell b9U; have hx2 := a9X.out.cell d9e; have b2F := a9X.out.cell d32; have b2G := a9X.out.cell d33) | ((with_reducible refine E8 (b := .append) (xs := #[.tmp 56, .tmp 61]) rfl ?_); at_builtin; refine Kd.P7 (Kd.int .u8) (w0 := w10) w10.heap.size rfl (.tmp 56) (.tmp 61) 22 5 (.int .u8 0) 1 rfl Tryd.underlying22 info5 rfl (by decide) (by omega) (.slice Av sent.length cv) sent x.f2 _ _ _ (fun _ => True) (fun _ => False) rfl rfl a9X.out.s ?aR (fun _ _ h => h) (fun _ h => h.elim) (fun _ _ => trivial) a9X.out.bel a9X.out.bel.size ?aL ?_; (case aR => exact Kd.y9 HIX.out a9X.out.bel); (case aL => have := f0X.out; omega); intro v13 w13 ho hb hg hat; rw [← HY.out] at ho; have b1o := a_ (a9X.out.f8w ho hb hg hat); obtain ⟨As, cs, es⟩ := Kd.G7 b1o.out.s; subst es; clear ho hb hg hat hx0 hx2 b2F b2G; have hx0 := b1o.out.cell b9U; have b2F := b1o.out.cell d32; have b2G := b1o.out.cell d33) | (go_at_call 48; (with_reducible refine (X8.calls k (fun k_ => True ∧ some k_ ≠ u8.ownBlock) As cs y 0 b2o now _ ?hs HN.out).mono ?_); (case hs => exact Kd.R_V (Kd.X5 b1o.out.s (Kd.a2A b1o.out.row) (by decide))); rintro e w14 ⟨v14, rfl, hn, hb⟩; have d9g := a_ (b1o.out.below hb); have HV := a_ (Kd.O9 (ok' := fun k_ => True ∧ some k_ ≠ u8.ownBlock) hn (fun k_ hk_ => hk_.elim id (fun hk_ => ⟨trivial, fun he_ => by have := Kd.b93 b1o.out.row k_ he_.symm; omega⟩))); obtain ⟨An, cn, en⟩ := Kd.a4c HV.out; subst en; clear hn hb hx0 b2F b2G))
       have hmv := Kd.b3E (Kd.a0s HV.out).2.2; have HE : Aside0 (umpireref11_notes.each k 2 (now.drop was.length) out = some o1) := HO1; obtain ⟨q, hq⟩ : ∃ q, q = now.length - was.length := ⟨_, rfl⟩
       go_loopg [8, 14] q (fun kq v8 vi w' => ∃ (i : Nat) (out' : List (S42)), (kq + i = q + was.length ∧ was.length ≤ i) ∧ vi = .int .i64 (i : Int) ∧ Aside0 (NQ w10 w' (.slice As y.length cs) u10 v8 y got out') ∧ Aside0 (Kd.N (Kd.slice 5 (Kd.int .u8)) 22 w' w13.heap.size (fun k_ => True ∧ some k_ ≠ v8.ownBlock) (.slice An now.length cn) now) ∧ Aside0 (umpireref11_notes.each k 2 (now.drop i) out' = some o1))
       case atStart => exact ⟨was.length, out, ⟨rfl, Nat.le_refl _⟩, rfl, d9g, HV, HE⟩
       case round =>
        clear d9g HV HE HI a9X b1o HW HN HO1; obtain ⟨i, out', ⟨hi, hiw⟩, rfl, HI, HV, HE⟩ := hrel
        by_cases hit : i < now.length
        ·obtain ⟨k2, rfl⟩ : ∃ k2, gk = k2 + 1 := ⟨gk - 1, by omega⟩; have c2 : decide ((i : Int) < (now.length : Int)) = true := dt_ (by omega); have p2_ : (0 : Int) ≤ (i : Int) := by omega
         have q2_ : (i : Int) < (now.length : Int) := by omega
         obtain ⟨av, Af, cf, e0, hyc, hlf, hif⟩ := b3D (Kd.a0s HV.out).2.2 (i : Int) p2_ q2_; have he := HE.out; rw [umpireref11_notes.b5O now i hit, umpireref11_notes.each] at he; generalize a18 now (i : Int) = b at hyc hlf hif he; obtain ⟨o2, ho2, he⟩ := Option.bind_eq_some_iff.1 he
         cases e0
         rw [Int.toNat_natCast] at hyc; have HLF := a_ hlf; have HIF := a_ hif; have HO2 := a_ ho2; have HE2 := a_ he; clear hlf hif ho2 he
         go_wp2_with (go_at_call 47; refine (J9.calls k w10.heap.size _ _ out' 2 Af cf b o2 _ HI.out.row HI.out.ok HI.out.bel.size HIF.out HLF.out HO2.out).mono ?_; rintro e w17 ⟨v', rfl, ⟨hl⟩, ⟨hb⟩⟩; have a7o := a_ (HI.out.item hl hb); have c8O := a_ (Kd.c1I HV.out hl.grown hl.at_); clear hl hb)
         go_roundg k2
         case measure => omega
         case rel => exact ⟨i + 1, o2, ⟨by omega, by omega⟩, by go_num, a7o, c8O, HE2⟩
        ·have c2 : decide ((i : Int) < (now.length : Int)) = false := df_ (by omega); have he := HE.out; rw [List.drop_of_length_le (by omega), umpireref11_notes.each] at he; obtain rfl := oj_ he; have hx0 := HI.out.cell b9U; clear hiw hi
         go_wp2
         go_roundg k1
         case measure => omega
         case rel => exact ⟨j + 1, y, got, out', by omega, by go_num, HI, HGN⟩
      ·rw [if_neg e1] at hgo
       by_cases e2 : x.f0 = 2
       ·rw [if_pos e2] at hgo; rw [e2] at b9U hx0; obtain ⟨was, d9f, hgo⟩ := Option.bind_eq_some_iff.1 hgo; have hlim : got.length + x.f2.length < 140737488355328 := by
         by_cases hlim : got.length + x.f2.length < 140737488355328
         ·exact hlim
         ·rw [if_neg hlim] at hgo; cases hgo
        rw [if_pos hlim] at hgo; obtain ⟨now, c82, hgo⟩ := Option.bind_eq_some_iff.1 hgo; obtain ⟨o1, ho1, hgo⟩ := Option.bind_eq_some_iff.1 hgo; obtain ⟨y, hy⟩ : ∃ y, y = got ++ x.f2 := ⟨_, rfl⟩; rw [← hy] at c82 hgo; have HW := a_ d9f; have HN := a_ c82; have HO1 := a_ ho1; have HGN := a_ hgo; have HY := a_ hy; have f0X := a_ hlim; clear d9f c82 ho1 hgo hy hlim; obtain ⟨Av, cv, ev⟩ := Kd.G7 HI.out.g; subst ev; have b2F := HI.out.cell d32; have b2G := HI.out.cell d33
        go_wp2_with (first | (go_at_call 48; (with_reducible refine (X8.calls k (fun k_ => True ∧ some k_ ≠ u8.ownBlock) Av cv got b4n b2o was _ ?hs HW.out).mono ?_); (case hs => exact Kd.R_V (Kd.X5 HI.out.g (Kd.a2A HI.out.row) (by decide))); rintro e w12 ⟨v12, rfl, hn, hb⟩; have a9X := a_ (HI.out.below hb); obtain ⟨Aw, cw, ew⟩ := Kd.a4c hn; subst ew; clear hn hb hx0 hx2 b2F b2G; have hx0 := a9X.out.cell b9U; have hx2 := a9X.out.cell d9e; have b2F := a9X.out.cell d32; have b2G := a9X.out.cell d33) | ((with_reducible refine E8 (b := .append) (xs := #[.tmp 93, .tmp 98]) rfl ?_); at_builtin; refine Kd.P7 (Kd.int .u8) (w0 := w10) w10.heap.size rfl (.tmp 93) (.tmp 98) 22 5 (.int .u8 0) 1 rfl Tryd.underlying22 info5 rfl (by decide) (by omega) (.slice Av got.length cv) got x.f2 _ _ _ (fun _ => True) (fun _ => False) rfl rfl a9X.out.g ?aR (fun _ _ h => h) (fun _ h => h.elim) (fun _ _ => trivial) a9X.out.bel a9X.out.bel.size ?aL ?_; (case aR => exact Kd.y9 HIX.out a9X.out.bel); (case aL => have := f0X.out; omega); intro v13 w13 ho hb hg hat; rw [← HY.out] at ho; have b1o := a_ (a9X.out.f8x ho hb hg hat); obtain ⟨As, cs, es⟩ := Kd.G7 b1o.out.g; subst es; clear ho hb hg hat hx0 hx2 b2F b2G; have hx0 := b1o.out.cell b9U; have b2F := b1o.out.cell d32; have b2G := b1o.out.cell d33) | (go_at_call 48; (with_reducible refine (X8.calls k (fun k_ => True ∧ some k_ ≠ u8.ownBlock) As cs y b4n b2o now _ ?hs HN.out).mono ?_); (case hs => exact Kd.R_V (Kd.X5 b1o.out.g (Kd.a2A b1o.out.row) (by decide))); rintro e w14 ⟨v14, rfl, hn, hb⟩; have d9g := a_ (b1o.out.below hb); have HV := a_ (Kd.O9 (ok' := fun k_ => True ∧ some k_ ≠ u8.ownBlock) hn (fun k_ hk_ => hk_.elim id (fun hk_ => ⟨trivial, fun he_ => by have := Kd.b93 b1o.out.row k_ he_.symm; omega⟩))); obtain ⟨An, cn, en⟩ := Kd.a4c HV.out; subst en; clear hn hb hx0 b2F b2G))
        have hmv := Kd.b3E (Kd.a0s HV.out).2.2; have HE : Aside0 (umpireref11_notes.each k 1 (now.drop was.length) out = some o1) := HO1; obtain ⟨q, hq⟩ : ∃ q, q = now.length - was.length := ⟨_, rfl⟩
        go_loopg [8, 17] q (fun kq v8 vi w' => ∃ (i : Nat) (out' : List (S42)), (kq + i = q + was.length ∧ was.length ≤ i) ∧ vi = .int .i64 (i : Int) ∧ Aside0 (NQ w10 w' u9 (.slice As y.length cs) v8 sent y out') ∧ Aside0 (Kd.N (Kd.slice 5 (Kd.int .u8)) 22 w' w13.heap.size (fun k_ => True ∧ some k_ ≠ v8.ownBlock) (.slice An now.length cn) now) ∧ Aside0 (umpireref11_notes.each k 1 (now.drop i) out' = some o1))
        case atStart => exact ⟨was.length, out, ⟨rfl, Nat.le_refl _⟩, rfl, d9g, HV, HE⟩
        case round =>
         clear d9g HV HE HI a9X b1o HW HN HO1; obtain ⟨i, out', ⟨hi, hiw⟩, rfl, HI, HV, HE⟩ := hrel
         by_cases hit : i < now.length
         ·obtain ⟨k2, rfl⟩ : ∃ k2, gk = k2 + 1 := ⟨gk - 1, by omega⟩; have c2 : decide ((i : Int) < (now.length : Int)) = true := dt_ (by omega); have p2_ : (0 : Int) ≤ (i : Int) := by omega
          have q2_ : (i : Int) < (now.length : Int) := by omega
          obtain ⟨av, Af, cf, e0, hyc, hlf, hif⟩ := b3D (Kd.a0s HV.out).2.2 (i : Int) p2_ q2_; have he := HE.out; rw [umpireref11_notes.b5O now i hit, umpireref11_notes.each] at he; generalize a18 now (i : Int) = b at hyc hlf hif he; obtain ⟨o2, ho2, he⟩ := Option.bind_eq_some_iff.1 he
          cases e0
          rw [Int.toNat_natCast] at hyc; have HLF := a_ hlf; have HIF := a_ hif; have HO2 := a_ ho2; have HE2 := a_ he; clear hlf hif ho2 he
          go_wp2_with (go_at_call 47; refine (J9.calls k w10.heap.size _ _ out' 1 Af cf b o2 _ HI.out.row HI.out.ok HI.out.bel.size HIF.out HLF.out HO2.out).mono ?_; rintro e w17 ⟨v', rfl, ⟨hl⟩, ⟨hb⟩⟩; have a7o := a_ (HI.out.item hl hb); have c8O := a_ (Kd.c1I HV.out hl.grown hl.at_); clear hl hb)
          go_roundg k2
          case measure => omega
          case rel => exact ⟨i + 1, o2, ⟨by omega, by omega⟩, by go_num, a7o, c8O, HE2⟩
         ·have c2 : decide ((i : Int) < (now.length : Int)) = false := df_ (by omega); have he := HE.out; rw [List.drop_of_length_le (by omega), umpireref11_notes.each] at he; obtain rfl := oj_ he; have hx0 := HI.out.cell b9U; clear hiw hi
          go_wp2
          go_roundg k1
          case measure => omega
          case rel => exact ⟨j + 1, sent, y, out', by omega, by go_num, HI, HGN⟩
       ·rw [if_neg e2] at hgo; have HGN := a_ hgo; clear hgo; have d1 : decide (x.f0 = 1) = false := df_ e1; have b1 : (x.f0 == 1) = false := by simpa using e1
        have d2 : decide (x.f0 = 2) = false := df_ e2; have b2 : (x.f0 == 2) = false := by simpa using e2
        have d3 : decide (x.f0 = 3) = false := df_ e3; have b3 : (x.f0 == 3) = false := by simpa using e3
        have d4 : decide (x.f0 = 4) = false := df_ e4; have b4 : (x.f0 == 4) = false := by simpa using e4
        go_wp2
        go_roundg k1
        case measure => omega
        case rel => exact ⟨j + 1, sent, got, out, by omega, by go_num, HI, HGN⟩
   ·have c1_ : decide ((j : Int) < (l.length : Int)) = false := df_ (by omega); have hgo := HGJ.out; rw [List.drop_of_length_le (by omega), umpireref11_notes.go] at hgo; obtain rfl := oj_ hgo; have b4o := a_ ((HI.out.bel.block g5 (a0u a4U.out)).trans a4U.out); have f8z := a_ ((HI.out.bel.block g7 (a0u b1K.out)).trans b1K.out); have HBW := a_ (J6 a7c.out HI.out.bel)
    go_wp2
    refine a2E (n := 4) (S := fun w' => w'.cell? ⟨g7, 0, none⟩ = some (.int .i64 f1) ∧ w'.cell? ⟨g7, 1, none⟩ = some (.int .i64 0)) (ds := [3]) (bo_ 4 0) (by kernel_rfl) rfl rfl ⟨((D6 (G9 f8z.out) 0).trans rfl), ((D6 (G9 f8z.out) 1).trans rfl)⟩ (fun hHeld => ?_); refine a2H (i := 0) (N := some 119) (bo_ 4 1) rfl rfl (by kernel_rfl) (fun _ _ _ h => h) (.inl ⟨rfl, by intro w'; go_simp; with_reducible rfl⟩) rfl ?_; refine a2H (i := 2) (N := some 4) (bo_ 4 5) rfl rfl (by kernel_rfl) (fun _ _ _ h => h) (.inl ⟨rfl, by intro w'; go_simp; with_reducible rfl⟩) rfl ?_; refine a1H (i := 1) (N := some 120) (v := ?_) (a' := ?_) (bo_ 4 7) rfl rfl (by kernel_rfl) (fun _ _ _ h => h) (Or.inl ⟨by rfl, ?_⟩) hHeld ?_ ?_
    rotate_left
    ·rintro w' ⟨s0, s1⟩
     go_simp
     with_reducible rfl
    rotate_left
    ·simp only [Act.put, List.setIfInBounds_toArray, List.set_cons_zero, List.set_cons_succ, a0J, a2b]
     rfl
    refine b1Q (i := 3) (N := none) (bo_ 4 15) rfl rfl (by kernel_rfl) (by decide) (fun K hK => ?_); have d1d := bc0 b4o; have c3y := l7 b4o.out 0; have d1e := bc1 b4o; have c3z := l7 b4o.out 1; refine a7H (w1 := ?_) (by rfl) rfl ?_ ?_
    rotate_left
    ·go_simp
     rfl
    refine hK.out _ _ ?_; clear hK K; refine a4D (by kernel_rfl) ?_

    try go_wp2
    refine bodyPost_ret (a0v rfl _ _ g5 30 #[.int .i64 f1, .int .i64 0] (0, 0) _ rfl (l9 (l9 (G9 b4o.out) 0 _ rfl) 1 _ rfl) a8e rfl (by kernel_rfl)) rfl ?_; exact ⟨_, rfl, Kd.N7 (ok' := fun _ => True) (Kd.a7C (Kd.b1r (Kd.b1r (Kd.b39 HI.out.row) (G9 b4o.out) (by decide) 0 _) (a3Z (G9 b4o.out) 0 _) (by decide) 1 _) a7c.out.size) (fun _ _ => trivial), o7 (o7 (Y4 HBW.out) GE5.out) GE5.out⟩
 ·have h := HH.out; rw [if_neg hf] at h
  simp only [Option.some.injEq, Prod.mk.injEq] at h
  obtain ⟨rfl, rfl, rfl⟩ := h; clear HH; have hf2 : (f2 != 0) = true := by simpa using hf
  have hf3 : (f2 == 0) = false := by simpa using hf
  go_wp2
  refine a2E (n := 3) (S := fun w' => w'.cell? ⟨g7, 0, none⟩ = some (.int .i64 f1) ∧ w'.cell? ⟨g7, 1, none⟩ = some (.int .i64 f2)) (ds := [2]) #[false, false, false] (by kernel_rfl) rfl rfl ⟨((D6 (G9 b1K.out) 0).trans rfl), ((D6 (G9 b1K.out) 1).trans rfl)⟩ (fun hHeld => ?_); refine a2H (i := 1) (N := some 4) #[false, true, false] rfl rfl (by kernel_rfl) (fun _ _ _ h => h) (.inl ⟨rfl, by intro w'; go_simp; with_reducible rfl⟩) rfl ?_; refine a1H (i := 0) (N := some 26) (v := ?_) (a' := ?_) #[true, true, false] rfl rfl (by kernel_rfl) (fun _ _ _ h => h) (Or.inl ⟨by rfl, ?_⟩) hHeld ?_ ?_
  rotate_left
  ·rintro w' ⟨s0, s1⟩
   go_simp
   with_reducible rfl
  rotate_left
  ·simp only [Act.put, List.setIfInBounds_toArray, List.set_cons_zero, List.set_cons_succ, a0J, a2b]
   rfl
  refine b1Q (i := 2) (N := none) #[true, true, true] rfl rfl (by kernel_rfl) (by decide) (fun K hK => ?_); have d1d := bc0 a4U; have c3y := l7 a4U.out 0; have d1e := bc1 a4U; have c3z := l7 a4U.out 1; refine a7H (w1 := ?_) (by rfl) rfl ?_ ?_
  rotate_left
  ·go_simp
   rfl
  refine hK.out _ _ ?_; clear hK K; refine a4D (by kernel_rfl) ?_

  try go_wp2
  refine bodyPost_ret (a0v rfl _ _ g5 30 #[.int .i64 f1, .int .i64 f2] (0, 0) _ rfl (l9 (l9 (G9 a4U.out) 0 _ rfl) 1 _ rfl) a8e rfl (by kernel_rfl)) rfl ?_; exact ⟨_, rfl, Kd.a5p _ _ _ _ _, o7 (o7 (Y4 a7c.out) GE5.out) GE5.out⟩

end Go.Proofs.YtgnonglkibhnhaaDoor.Print
