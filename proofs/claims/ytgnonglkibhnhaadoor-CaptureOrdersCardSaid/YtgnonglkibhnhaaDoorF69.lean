import Derived.Test.YtgnonglkibhnhaaDoorZ
import Derived.Test.YtgnonglkibhnhaaDoorM1
namespace Go.Proofs.YtgnonglkibhnhaaDoor.Print
open Go.RowKit Go.Proofs.YtgnonglkibhnhaaDoorW.PrintWords Go.Proofs.YtgnonglkibhnhaaDoorW.PrintLast Go.Proofs.YtgnonglkibhnhaaDoorW.PrintMore
attribute [local go_sem] a0u a0v a1m a1n Y7 Y8 a0w a0x
set_option linter.unusedVariables false
set_option linter.unusedSimpArgs false

/-! ### head_Put: function 69 -/
def head_Put.f (a0 : Int) (a1 : Bool) (a2 : Bool) : Option (List Int × Int) := (a0a.f a0).bind fun e87 => (if e87 = true then (if a1 = true then ((some (([255, 3] : List Int) : List Int)).bind fun b1i => (if ([] : List Int).length + b1i.length < 140737488355328 then ((some (([] : List Int) ++ b1i : List Int)).bind fun b5E => (if a2 = true then (if a0 < 256 then (if b5E.length < 140737488355328 then (some ((b5E ++ [(a0) % 256]), 0)) else (none)) else ((some (([(a0 / 256) % 256, (a0) % 256] : List Int) : List Int)).bind fun c7D => (if b5E.length + c7D.length < 140737488355328 then (some ((b5E ++ c7D), 0)) else (none)))) else ((some (([(a0 / 256) % 256, (a0) % 256] : List Int) : List Int)).bind fun c7E => (if b5E.length + c7E.length < 140737488355328 then (some ((b5E ++ c7E), 0)) else (none))))) else (none))) else (if a2 = true then (if a0 < 256 then (if ([] : List Int).length < 140737488355328 then (some ((([] : List Int) ++ [(a0) % 256]), 0)) else (none)) else ((some (([(a0 / 256) % 256, (a0) % 256] : List Int) : List Int)).bind fun c7F => (if ([] : List Int).length + c7F.length < 140737488355328 then (some ((([] : List Int) ++ c7F), 0)) else (none)))) else ((some (([(a0 / 256) % 256, (a0) % 256] : List Int) : List Int)).bind fun c7G => (if ([] : List Int).length + c7G.length < 140737488355328 then (some ((([] : List Int) ++ c7G), 0)) else (none))))) else (some (([] : List Int), 1)))
set_option maxHeartbeats 8000000 in
set_option maxRecDepth 100000 in
theorem head_Put.calls (a0 : Int) (a1 : Bool) (a2 : Bool) (r1 : List Int) (r2 : Int) (w : World) (h : head_Put.f a0 a1 a2 = some (r1, r2)) :
  Calls Tryd.prog 69 #[.int .i64 a0, .bool a1, .bool a2] w fun e w' => ∃ v0_ : Value, e = .returned (.tuple #[v0_, .int .i64 r2]) ∧ Kd.R (Kd.int .u8) 5 w' w.heap.size (fun _ => True) v0_ r1 ∧ Below w.heap.size w w' := by
 have HB := a_ (Below.refl w.heap.size w)
 have H := h
 clear h
 unfold head_Put.f at H
 replace H := Option.bind_eq_some_iff.mp H
 obtain ⟨e87, A40, H⟩ := H
 try dsimp only at H
 have A4 := a_ A40
 clear A40
 by_cases c5 : e87 = true
 ·subst c5
  rw [if_pos rfl] at H
  by_cases c6 : a1 = true
  ·subst c6
   rw [if_pos rfl] at H
   obtain ⟨b1i, d6k⟩ := is_ (([255, 3] : List Int))
   rw [Option.bind_some, ← d6k] at H
   have d6l := a_ d6k
   clear d6k
   have c7 := a0o H
   replace H := U9 H
   have e88 := a_ c7
   clear c7
   obtain ⟨b5E, d6m⟩ := is_ ((([] : List Int) ++ b1i))
   rw [Option.bind_some, ← d6m] at H
   have d6n := a_ d6m
   clear d6m
   by_cases c8 : a2 = true
   ·subst c8
    rw [if_pos rfl] at H
    by_cases c9 : a0 < 256
    ·rw [if_pos c9] at H
     have b5i := decide_eq_true c9
     clear c9
     have c10 := a0o H
     replace H := U9 H
     have c5q := a_ c10
     clear c10
     obtain ⟨h6J, d6o⟩ := is_ ((b5E ++ [(a0) % 256]))
     rw [← d6o] at H
     have f7d := a_ d6o
     clear d6o
     obtain ⟨rfl, rfl⟩ := s2_ H
     go_enter Tryd.func69, Tryd.ntmps69
     go_wp2_with (first | (refine gl_ (some 10) Tryd.func33 #[.int .i64 a0] ?_; (with_reducible refine (a0a.calls a0 true _ A4.out).mono ?_); rintro e w' ⟨rfl, ⟨nd, rfl⟩⟩; refine ⟨_, rfl, ?_⟩) | (refine d1N .u8 5 14 ([255, 3] : List Int) ?_; intro f7e w11 e89 hb; (rw [← d6l.out] at e89); have a2C := a_ (Kd.X4 e89 (y5 (by repeat (with_reducible first | exact HB.out | apply o7)))); replace HB := a_ (G9 (by repeat (with_reducible first | exact HB.out | apply o7)) hb); clear hb e89; obtain ⟨b6E, b6F, e7Y⟩ := Kd.J4 a2C.out; subst e7Y) | ((with_reducible refine G7 (b := .append) (xs := #[.tmp 13, .tmp 14]) rfl ?_); at_builtin; refine Kd.Q8 (Kd.int .u8) (w0 := w) w.heap.size rfl (.tmp 13) (.tmp 14) 22 5 (.int .u8 0) 1 rfl Tryd.underlying22 info5 rfl (by decide) (by omega) (.slice none 0 0) ([] : List Int) b1i _ _ _ (fun k_ => some k_ ≠ (.slice b6E b1i.length b6F : Value).ownBlock) (fun _ => False) rfl rfl ?aO ?aR (fun _ _ h => h) (fun _ h => h.elim) ?aF ?aB ?aS ?aL ?_; (case aR => exact (Kd.G5 a2C.out).2.2); (case aB => exact HB.out); (case aF => exact (fun k_ hk => Kd.fresh' (Kd.a0h a2C.out) k_ hk)); (case aO => exact ((Kd.a0I _ _ _ _ (fun k_ => some k_ ≠ (.slice b6E b1i.length b6F : Value).ownBlock)))); (case aS => exact (y5 HB.out)); (case aL => have := e88.out; omega); intro d6p w13 ho hb hg hat; rw [← d6n.out] at ho; have a9y := a_ ho; replace a2C := a_ (Kd.a1f (Kd.a7O a2C.out) hg hat); replace HB := a_ hb; clear ho hb hg hat) | ((with_reducible refine G7 (b := .append) (xs := #[.tmp 21, .tmp 24]) rfl ?_); at_builtin; refine Kd.a5c (Kd.int .u8) (w0 := w) w.heap.size rfl (.tmp 21) (.tmp 24) 22 5 (.int .u8 0) 1 rfl Tryd.underlying22 info5 rfl (by decide) (by omega) d6p b5E ((a0) % 256) [.int .u8 ((a0) % 256)] (fun k_ => some k_ ≠ (.slice b6E b1i.length b6F : Value).ownBlock) (fun _ => False) rfl rfl ?aP (fun _ hk => hk.elim) ?aF ?aO ?aB ?aS ?aL ?_; (case aP => exact rfl); (case aB => exact HB.out); (case aF => exact (fun k_ hk => Kd.fresh' (Kd.a0h a2C.out) k_ hk)); (case aO => exact a9y.out); (case aS => exact (y5 HB.out)); (case aL => have := c5q.out; omega); intro h6K w15 ho hb hg hat; rw [← f7d.out] at ho; have f7f := a_ ho; replace a2C := a_ (Kd.a1f (ok := (fun _ => True)) a2C.out hg hat); replace HB := a_ hb; clear a9y; clear ho hb hg hat))
     go_ret2
     exact ⟨_, by (rfl), by exact Kd.D8 f7f.out (fun _ hk => trivial), by exact HB.out⟩
    ·rw [if_neg c9] at H
     have b5i := decide_eq_false c9
     clear c9
     obtain ⟨c7D, d6q⟩ := is_ (([(a0 / 256) % 256, (a0) % 256] : List Int))
     rw [Option.bind_some, ← d6q] at H
     have f7g := a_ d6q
     clear d6q
     have c16 := a0o H
     replace H := U9 H
     have c44 := a_ c16
     clear c16
     obtain ⟨h6L, d6r⟩ := is_ ((b5E ++ c7D))
     rw [← d6r] at H
     have f7h := a_ d6r
     clear d6r
     obtain ⟨rfl, rfl⟩ := s2_ H
     go_enter Tryd.func69, Tryd.ntmps69
     go_wp2_with (first | (refine gl_ (some 10) Tryd.func33 #[.int .i64 a0] ?_; (with_reducible refine (a0a.calls a0 true _ A4.out).mono ?_); rintro e w' ⟨rfl, ⟨nd, rfl⟩⟩; refine ⟨_, rfl, ?_⟩) | (refine d1N .u8 5 14 ([255, 3] : List Int) ?_; intro f7e w17 b92 hb; (rw [← d6l.out] at b92); have a2C := a_ (Kd.X4 b92 (y5 (by repeat (with_reducible first | exact HB.out | apply o7)))); replace HB := a_ (G9 (by repeat (with_reducible first | exact HB.out | apply o7)) hb); clear hb b92; obtain ⟨b5r, b5s, d5k⟩ := Kd.J4 a2C.out; subst d5k) | ((with_reducible refine G7 (b := .append) (xs := #[.tmp 13, .tmp 14]) rfl ?_); at_builtin; refine Kd.Q8 (Kd.int .u8) (w0 := w) w.heap.size rfl (.tmp 13) (.tmp 14) 22 5 (.int .u8 0) 1 rfl Tryd.underlying22 info5 rfl (by decide) (by omega) (.slice none 0 0) ([] : List Int) b1i _ _ _ (fun k_ => some k_ ≠ (.slice b5r b1i.length b5s : Value).ownBlock) (fun _ => False) rfl rfl ?aO ?aR (fun _ _ h => h) (fun _ h => h.elim) ?aF ?aB ?aS ?aL ?_; (case aR => exact (Kd.G5 a2C.out).2.2); (case aB => exact HB.out); (case aF => exact (fun k_ hk => Kd.fresh' (Kd.a0h a2C.out) k_ hk)); (case aO => exact ((Kd.a0I _ _ _ _ (fun k_ => some k_ ≠ (.slice b5r b1i.length b5s : Value).ownBlock)))); (case aS => exact (y5 HB.out)); (case aL => have := e88.out; omega); intro d6p w19 ho hb hg hat; rw [← d6n.out] at ho; have a9y := a_ ho; replace a2C := a_ (Kd.a1f (Kd.a7O a2C.out) hg hat); replace HB := a_ hb; clear ho hb hg hat) | ((with_reducible refine P9 (N := 32) rfl ?_); refine Kd.b03 (Kd.int .u8) _ 5 ?hg (N := 32) ?hd (xs := ([(a0 / 256) % 256, (a0) % 256] : List Int)) (inner := [.int .u8 ((a0 / 256) % 256), .int .u8 ((a0) % 256)]) (ok := fun _ => True) (okp := fun _ => True) ?hr ?hp (fun _ hk => hk) trivial (Below.refl _ _) (Nat.le_refl _) (by simp) ?_; (case hd => rfl); (case hg => rfl); (case hr => (go_simp; done)); (case hp => exact (N9.one (show Kd.M (Kd.int .u8) _ _ _ ((a0 / 256) % 256) [.int .u8 ((a0 / 256) % 256)] from rfl) (N9.one (show Kd.M (Kd.int .u8) _ _ _ ((a0) % 256) [.int .u8 ((a0) % 256)] from rfl) (N9.none _ _)))); intro h6M w21 d6s hb hg_ a1q; clear hg_ a1q; (rw [← f7g.out] at d6s); have c5B := a_ (Kd.X4 (Kd.a2n (Kd.a2n d6s (Kd.a0h a2C.out)) (Kd.a0h a9y.out)) (y5 HB.out)); replace a2C := rR_ a2C d6s hb; replace a9y := rR_ a9y d6s hb; replace HB := W9 HB hb; clear hb d6s; obtain ⟨b6q, b6r, c08⟩ := Kd.J4 c5B.out; subst c08) | ((with_reducible refine G7 (b := .append) (xs := #[.tmp 26, .tmp 32]) rfl ?_); at_builtin; refine Kd.Q8 (Kd.int .u8) (w0 := w) w.heap.size rfl (.tmp 26) (.tmp 32) 22 5 (.int .u8 0) 1 rfl Tryd.underlying22 info5 rfl (by decide) (by omega) d6p b5E c7D _ _ _ (fun k_ => some k_ ≠ (.slice b5r b1i.length b5s : Value).ownBlock ∧ some k_ ≠ (.slice b6q c7D.length b6r : Value).ownBlock) (fun _ => False) rfl rfl ?aO ?aR (fun _ _ h => h) (fun _ h => h.elim) ?aF ?aB ?aS ?aL ?_; (case aR => exact (Kd.G5 c5B.out).2.2); (case aB => exact HB.out); (case aF => exact (fun k_ hk => ⟨Kd.fresh' (Kd.a0h a2C.out) k_ hk, Kd.fresh' (Kd.a0h c5B.out) k_ hk⟩)); (case aO => exact a9y.out); (case aS => exact (y5 HB.out)); (case aL => have := c44.out; omega); intro h6N w23 ho hb hg hat; rw [← f7h.out] at ho; have f7i := a_ ho; replace a2C := a_ (Kd.a1f (ok := (fun k_ => some k_ ≠ (.slice b6q c7D.length b6r : Value).ownBlock)) (by exact Kd.D8 a2C.out (fun _ hk => ⟨hk.2, hk.1.2⟩)) hg hat); replace c5B := a_ (Kd.a1f (ok := (fun k_ => some k_ ≠ (.slice b5r b1i.length b5s : Value).ownBlock)) (by exact Kd.D8 c5B.out (fun _ hk => ⟨hk.1.2, hk.2⟩)) hg hat); replace HB := a_ hb; clear a9y; clear ho hb hg hat))
     go_ret2
     exact ⟨_, by (rfl), by exact Kd.D8 f7i.out (fun _ hk => trivial), by exact HB.out⟩
   ·cases nt_ c8
    rw [if_neg a5a] at H
    obtain ⟨c7E, d6t⟩ := is_ (([(a0 / 256) % 256, (a0) % 256] : List Int))
    rw [Option.bind_some, ← d6t] at H
    have f7j := a_ d6t
    clear d6t
    have c25 := a0o H
    replace H := U9 H
    have f7k := a_ c25
    clear c25
    obtain ⟨h6O, d6u⟩ := is_ ((b5E ++ c7E))
    rw [← d6u] at H
    have f7l := a_ d6u
    clear d6u
    obtain ⟨rfl, rfl⟩ := s2_ H
    go_enter Tryd.func69, Tryd.ntmps69
    go_wp2_with (first | (refine gl_ (some 10) Tryd.func33 #[.int .i64 a0] ?_; (with_reducible refine (a0a.calls a0 true _ A4.out).mono ?_); rintro e w' ⟨rfl, ⟨nd, rfl⟩⟩; refine ⟨_, rfl, ?_⟩) | (refine d1N .u8 5 14 ([255, 3] : List Int) ?_; intro f7e w26 e9a hb; (rw [← d6l.out] at e9a); have a2C := a_ (Kd.X4 e9a (y5 (by repeat (with_reducible first | exact HB.out | apply o7)))); replace HB := a_ (G9 (by repeat (with_reducible first | exact HB.out | apply o7)) hb); clear hb e9a; obtain ⟨c5C, c5E, e9b⟩ := Kd.J4 a2C.out; subst e9b) | ((with_reducible refine G7 (b := .append) (xs := #[.tmp 13, .tmp 14]) rfl ?_); at_builtin; refine Kd.Q8 (Kd.int .u8) (w0 := w) w.heap.size rfl (.tmp 13) (.tmp 14) 22 5 (.int .u8 0) 1 rfl Tryd.underlying22 info5 rfl (by decide) (by omega) (.slice none 0 0) ([] : List Int) b1i _ _ _ (fun k_ => some k_ ≠ (.slice c5C b1i.length c5E : Value).ownBlock) (fun _ => False) rfl rfl ?aO ?aR (fun _ _ h => h) (fun _ h => h.elim) ?aF ?aB ?aS ?aL ?_; (case aR => exact (Kd.G5 a2C.out).2.2); (case aB => exact HB.out); (case aF => exact (fun k_ hk => Kd.fresh' (Kd.a0h a2C.out) k_ hk)); (case aO => exact ((Kd.a0I _ _ _ _ (fun k_ => some k_ ≠ (.slice c5C b1i.length c5E : Value).ownBlock)))); (case aS => exact (y5 HB.out)); (case aL => have := e88.out; omega); intro d6p w28 ho hb hg hat; rw [← d6n.out] at ho; have a9y := a_ ho; replace a2C := a_ (Kd.a1f (Kd.a7O a2C.out) hg hat); replace HB := a_ hb; clear ho hb hg hat) | ((with_reducible refine P9 (N := 32) rfl ?_); refine Kd.b03 (Kd.int .u8) _ 5 ?hg (N := 32) ?hd (xs := ([(a0 / 256) % 256, (a0) % 256] : List Int)) (inner := [.int .u8 ((a0 / 256) % 256), .int .u8 ((a0) % 256)]) (ok := fun _ => True) (okp := fun _ => True) ?hr ?hp (fun _ hk => hk) trivial (Below.refl _ _) (Nat.le_refl _) (by simp) ?_; (case hd => rfl); (case hg => rfl); (case hr => (go_simp; done)); (case hp => exact (N9.one (show Kd.M (Kd.int .u8) _ _ _ ((a0 / 256) % 256) [.int .u8 ((a0 / 256) % 256)] from rfl) (N9.one (show Kd.M (Kd.int .u8) _ _ _ ((a0) % 256) [.int .u8 ((a0) % 256)] from rfl) (N9.none _ _)))); intro h6P w30 d6v hb hg_ a1q; clear hg_ a1q; (rw [← f7j.out] at d6v); have c5F := a_ (Kd.X4 (Kd.a2n (Kd.a2n d6v (Kd.a0h a2C.out)) (Kd.a0h a9y.out)) (y5 HB.out)); replace a2C := rR_ a2C d6v hb; replace a9y := rR_ a9y d6v hb; replace HB := W9 HB hb; clear hb d6v; obtain ⟨a8S, a8T, e9c⟩ := Kd.J4 c5F.out; subst e9c) | ((with_reducible refine G7 (b := .append) (xs := #[.tmp 26, .tmp 32]) rfl ?_); at_builtin; refine Kd.Q8 (Kd.int .u8) (w0 := w) w.heap.size rfl (.tmp 26) (.tmp 32) 22 5 (.int .u8 0) 1 rfl Tryd.underlying22 info5 rfl (by decide) (by omega) d6p b5E c7E _ _ _ (fun k_ => some k_ ≠ (.slice c5C b1i.length c5E : Value).ownBlock ∧ some k_ ≠ (.slice a8S c7E.length a8T : Value).ownBlock) (fun _ => False) rfl rfl ?aO ?aR (fun _ _ h => h) (fun _ h => h.elim) ?aF ?aB ?aS ?aL ?_; (case aR => exact (Kd.G5 c5F.out).2.2); (case aB => exact HB.out); (case aF => exact (fun k_ hk => ⟨Kd.fresh' (Kd.a0h a2C.out) k_ hk, Kd.fresh' (Kd.a0h c5F.out) k_ hk⟩)); (case aO => exact a9y.out); (case aS => exact (y5 HB.out)); (case aL => have := f7k.out; omega); intro h6R w32 ho hb hg hat; rw [← f7l.out] at ho; have f7m := a_ ho; replace a2C := a_ (Kd.a1f (ok := (fun k_ => some k_ ≠ (.slice a8S c7E.length a8T : Value).ownBlock)) (by exact Kd.D8 a2C.out (fun _ hk => ⟨hk.2, hk.1.2⟩)) hg hat); replace c5F := a_ (Kd.a1f (ok := (fun k_ => some k_ ≠ (.slice c5C b1i.length c5E : Value).ownBlock)) (by exact Kd.D8 c5F.out (fun _ hk => ⟨hk.1.2, hk.2⟩)) hg hat); replace HB := a_ hb; clear a9y; clear ho hb hg hat))
    go_ret2
    exact ⟨_, by (rfl), by exact Kd.D8 f7m.out (fun _ hk => trivial), by exact HB.out⟩
  ·cases nt_ c6
   rw [if_neg a5a] at H
   by_cases c34 : a2 = true
   ·subst c34
    rw [if_pos rfl] at H
    by_cases c35 : a0 < 256
    ·rw [if_pos c35] at H
     have c4e := decide_eq_true c35
     clear c35
     have c36 := a0o H
     replace H := U9 H
     have d6w := a_ c36
     clear c36
     obtain ⟨h6S, d6x⟩ := is_ ((([] : List Int) ++ [(a0) % 256]))
     rw [← d6x] at H
     have f7n := a_ d6x
     clear d6x
     obtain ⟨rfl, rfl⟩ := s2_ H
     go_enter Tryd.func69, Tryd.ntmps69
     go_wp2_with (first | (refine gl_ (some 10) Tryd.func33 #[.int .i64 a0] ?_; (with_reducible refine (a0a.calls a0 true _ A4.out).mono ?_); rintro e w' ⟨rfl, ⟨nd, rfl⟩⟩; refine ⟨_, rfl, ?_⟩) | ((with_reducible refine G7 (b := .append) (xs := #[.tmp 21, .tmp 24]) rfl ?_); at_builtin; refine Kd.a5c (Kd.int .u8) (w0 := w) w.heap.size rfl (.tmp 21) (.tmp 24) 22 5 (.int .u8 0) 1 rfl Tryd.underlying22 info5 rfl (by decide) (by omega) (.slice none 0 0) ([] : List Int) ((a0) % 256) [.int .u8 ((a0) % 256)] (fun _ => True) (fun _ => False) rfl rfl ?aP (fun _ hk => hk.elim) ?aF ?aO ?aB ?aS ?aL ?_; (case aP => exact rfl); (case aB => exact (by repeat (with_reducible first | exact HB.out | apply o7))); (case aF => exact (fun _ _ => trivial)); (case aO => exact (Kd.a0I _ _ _ _ (fun _ => True))); (case aS => exact (y5 (by repeat (with_reducible first | exact HB.out | apply o7)))); (case aL => have := d6w.out; omega); intro h6T w37 ho hb hg hat; rw [← f7n.out] at ho; have f7o := a_ ho; replace HB := a_ hb; clear ho hb hg hat))
     go_ret2
     exact ⟨_, by (rfl), by exact f7o.out, by exact HB.out⟩
    ·rw [if_neg c35] at H
     have c4e := decide_eq_false c35
     clear c35
     obtain ⟨c7F, d6y⟩ := is_ (([(a0 / 256) % 256, (a0) % 256] : List Int))
     rw [Option.bind_some, ← d6y] at H
     have f7p := a_ d6y
     clear d6y
     have c38 := a0o H
     replace H := U9 H
     have f7q := a_ c38
     clear c38
     obtain ⟨h6U, d6z⟩ := is_ ((([] : List Int) ++ c7F))
     rw [← d6z] at H
     have f7r := a_ d6z
     clear d6z
     obtain ⟨rfl, rfl⟩ := s2_ H
     go_enter Tryd.func69, Tryd.ntmps69
     go_wp2_with (first | (refine gl_ (some 10) Tryd.func33 #[.int .i64 a0] ?_; (with_reducible refine (a0a.calls a0 true _ A4.out).mono ?_); rintro e w' ⟨rfl, ⟨nd, rfl⟩⟩; refine ⟨_, rfl, ?_⟩) | ((with_reducible refine P9 (N := 32) rfl ?_); refine Kd.b03 (Kd.int .u8) _ 5 ?hg (N := 32) ?hd (xs := ([(a0 / 256) % 256, (a0) % 256] : List Int)) (inner := [.int .u8 ((a0 / 256) % 256), .int .u8 ((a0) % 256)]) (ok := fun _ => True) (okp := fun _ => True) ?hr ?hp (fun _ hk => hk) trivial (Below.refl _ _) (Nat.le_refl _) (by simp) ?_; (case hd => rfl); (case hg => rfl); (case hr => (go_simp; done)); (case hp => exact (N9.one (show Kd.M (Kd.int .u8) _ _ _ ((a0 / 256) % 256) [.int .u8 ((a0 / 256) % 256)] from rfl) (N9.one (show Kd.M (Kd.int .u8) _ _ _ ((a0) % 256) [.int .u8 ((a0) % 256)] from rfl) (N9.none _ _)))); intro h6V w39 e9d hb hg_ a1q; clear hg_ a1q; (rw [← f7p.out] at e9d); have c5G := a_ (Kd.X4 e9d (y5 (by repeat (with_reducible first | exact HB.out | apply o7)))); replace HB := a_ (G9 (by repeat (with_reducible first | exact HB.out | apply o7)) hb); clear hb e9d; obtain ⟨f7s, f7t, g8L⟩ := Kd.J4 c5G.out; subst g8L) | ((with_reducible refine G7 (b := .append) (xs := #[.tmp 26, .tmp 32]) rfl ?_); at_builtin; refine Kd.Q8 (Kd.int .u8) (w0 := w) w.heap.size rfl (.tmp 26) (.tmp 32) 22 5 (.int .u8 0) 1 rfl Tryd.underlying22 info5 rfl (by decide) (by omega) (.slice none 0 0) ([] : List Int) c7F _ _ _ (fun k_ => some k_ ≠ (.slice f7s c7F.length f7t : Value).ownBlock) (fun _ => False) rfl rfl ?aO ?aR (fun _ _ h => h) (fun _ h => h.elim) ?aF ?aB ?aS ?aL ?_; (case aR => exact (Kd.G5 c5G.out).2.2); (case aB => exact HB.out); (case aF => exact (fun k_ hk => Kd.fresh' (Kd.a0h c5G.out) k_ hk)); (case aO => exact ((Kd.a0I _ _ _ _ (fun k_ => some k_ ≠ (.slice f7s c7F.length f7t : Value).ownBlock)))); (case aS => exact (y5 HB.out)); (case aL => have := f7q.out; omega); intro h6W w41 ho hb hg hat; rw [← f7r.out] at ho; have f7u := a_ ho; replace c5G := a_ (Kd.a1f (Kd.a7O c5G.out) hg hat); replace HB := a_ hb; clear ho hb hg hat))
     go_ret2
     exact ⟨_, by (rfl), by exact Kd.D8 f7u.out (fun _ hk => trivial), by exact HB.out⟩
   ·cases nt_ c34
    rw [if_neg a5a] at H
    obtain ⟨c7G, d6A⟩ := is_ (([(a0 / 256) % 256, (a0) % 256] : List Int))
    rw [Option.bind_some, ← d6A] at H
    have f7v := a_ d6A
    clear d6A
    have c43 := a0o H
    replace H := U9 H
    have f7w := a_ c43
    clear c43
    obtain ⟨h6Y, d6B⟩ := is_ ((([] : List Int) ++ c7G))
    rw [← d6B] at H
    have f7x := a_ d6B
    clear d6B
    obtain ⟨rfl, rfl⟩ := s2_ H
    go_enter Tryd.func69, Tryd.ntmps69
    go_wp2_with (first | (refine gl_ (some 10) Tryd.func33 #[.int .i64 a0] ?_; (with_reducible refine (a0a.calls a0 true _ A4.out).mono ?_); rintro e w' ⟨rfl, ⟨nd, rfl⟩⟩; refine ⟨_, rfl, ?_⟩) | ((with_reducible refine P9 (N := 32) rfl ?_); refine Kd.b03 (Kd.int .u8) _ 5 ?hg (N := 32) ?hd (xs := ([(a0 / 256) % 256, (a0) % 256] : List Int)) (inner := [.int .u8 ((a0 / 256) % 256), .int .u8 ((a0) % 256)]) (ok := fun _ => True) (okp := fun _ => True) ?hr ?hp (fun _ hk => hk) trivial (Below.refl _ _) (Nat.le_refl _) (by simp) ?_; (case hd => rfl); (case hg => rfl); (case hr => (go_simp; done)); (case hp => exact (N9.one (show Kd.M (Kd.int .u8) _ _ _ ((a0 / 256) % 256) [.int .u8 ((a0 / 256) % 256)] from rfl) (N9.one (show Kd.M (Kd.int .u8) _ _ _ ((a0) % 256) [.int .u8 ((a0) % 256)] from rfl) (N9.none _ _)))); intro h6Z w44 e9e hb hg_ a1q; clear hg_ a1q; (rw [← f7v.out] at e9e); have c5H := a_ (Kd.X4 e9e (y5 (by repeat (with_reducible first | exact HB.out | apply o7)))); replace HB := a_ (G9 (by repeat (with_reducible first | exact HB.out | apply o7)) hb); clear hb e9e; obtain ⟨f7y, f7z, g8M⟩ := Kd.J4 c5H.out; subst g8M) | ((with_reducible refine G7 (b := .append) (xs := #[.tmp 26, .tmp 32]) rfl ?_); at_builtin; refine Kd.Q8 (Kd.int .u8) (w0 := w) w.heap.size rfl (.tmp 26) (.tmp 32) 22 5 (.int .u8 0) 1 rfl Tryd.underlying22 info5 rfl (by decide) (by omega) (.slice none 0 0) ([] : List Int) c7G _ _ _ (fun k_ => some k_ ≠ (.slice f7y c7G.length f7z : Value).ownBlock) (fun _ => False) rfl rfl ?aO ?aR (fun _ _ h => h) (fun _ h => h.elim) ?aF ?aB ?aS ?aL ?_; (case aR => exact (Kd.G5 c5H.out).2.2); (case aB => exact HB.out); (case aF => exact (fun k_ hk => Kd.fresh' (Kd.a0h c5H.out) k_ hk)); (case aO => exact ((Kd.a0I _ _ _ _ (fun k_ => some k_ ≠ (.slice f7y c7G.length f7z : Value).ownBlock)))); (case aS => exact (y5 HB.out)); (case aL => have := f7w.out; omega); intro h61 w46 ho hb hg hat; rw [← f7x.out] at ho; have f7A := a_ ho; replace c5H := a_ (Kd.a1f (Kd.a7O c5H.out) hg hat); replace HB := a_ hb; clear ho hb hg hat))
    go_ret2
    exact ⟨_, by (rfl), by exact Kd.D8 f7A.out (fun _ hk => trivial), by exact HB.out⟩
 ·cases nt_ c5
  rw [if_neg a5a] at H
  obtain ⟨rfl, rfl⟩ := s2_ H
  go_enter Tryd.func69, Tryd.ntmps69
  go_wp2_with (first | (refine gl_ (some 10) Tryd.func33 #[.int .i64 a0] ?_; (with_reducible refine (a0a.calls a0 false _ A4.out).mono ?_); rintro e w' ⟨rfl, ⟨nd, rfl⟩⟩; refine ⟨_, rfl, ?_⟩))
  go_ret2
  exact ⟨_, by (rfl), by (exact Kd.a0I _ _ _ _ _), by repeat (with_reducible first | exact HB.out | apply o7)⟩

end Go.Proofs.YtgnonglkibhnhaaDoor.Print
