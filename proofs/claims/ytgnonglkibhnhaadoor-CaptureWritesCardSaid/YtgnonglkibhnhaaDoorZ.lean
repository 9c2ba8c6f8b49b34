/- Short words for what the printed texts say over and over (tools/minify.py). -/
import Derived.Test.YtgnonglkibhnhaaDoor0
namespace Go.Proofs.YtgnonglkibhnhaaDoor.Print
open Go.RowKit Go.Proofs.YtgnonglkibhnhaaDoorW.PrintWords Go.Proofs.YtgnonglkibhnhaaDoorW.PrintLast Go.Proofs.YtgnonglkibhnhaaDoorW.PrintMore
theorem a_ {p : Prop} (h : p) : Aside0 p := ⟨h⟩
theorem neb {w : World} {g g' : Nat} {o : Obj} (h : w.heap[g]? = some o) (e : g' = w.heap.size) : g ≠ g' := by rw [e]; exact Nat.ne_of_lt (a0B h)
theorem nbe {w : World} {g g' : Nat} {o : Obj} (h : w.heap[g]? = some o) (e : g' = w.heap.size) : g' ≠ g := by rw [e]; exact Nat.ne_of_gt (a0B h)
theorem g1A {w W : World} {g : Nat} (h : Below w.heap.size w W) (e : g = W.heap.size) : w.heap.size ≤ g := by rw [e]; exact o9 h
theorem a4e {w : World} {g : Nat} {t : TypeId} {v0 v1 : Value} (h : w.heap[g]? = some (.cells #[v0, v1] t (0, 0))) : w.cell? ⟨g, 0, none⟩ = some v0 ∧ w.cell? ⟨g, 1, none⟩ = some v1 ∧ w.frozen? ⟨g, 0, none⟩ = false ∧ w.frozen? ⟨g, 1, none⟩ = false := ⟨(D8 h 0).trans rfl, (D8 h 1).trans rfl, l7 h 0, l7 h 1⟩
theorem e7A {w : World} {g : Nat} {t : TypeId} {v0 v1 : Value} (h : w.heap[g]? = some (.cells #[v0, v1] t (0, 0))) : w.cell? ⟨g, 0, none⟩ = some v0 ∧ w.cell? ⟨g, 1, none⟩ = some v1 := ⟨(D8 h 0).trans rfl, (D8 h 1).trans rfl⟩
theorem a0u {w : World} {g : Nat} {t : TypeId} {v0 v1 v2 : Value} (h : w.heap[g]? = some (.cells #[v0, v1, v2] t (0, 0))) : w.cell? ⟨g, 0, none⟩ = some v0 ∧ w.cell? ⟨g, 1, none⟩ = some v1 ∧ w.cell? ⟨g, 2, none⟩ = some v2 ∧ w.frozen? ⟨g, 0, none⟩ = false ∧ w.frozen? ⟨g, 1, none⟩ = false ∧ w.frozen? ⟨g, 2, none⟩ = false := ⟨(D8 h 0).trans rfl, (D8 h 1).trans rfl, (D8 h 2).trans rfl, l7 h 0, l7 h 1, l7 h 2⟩
theorem g1z {w : World} {g : Nat} {t : TypeId} {v0 v1 v2 : Value} (h : w.heap[g]? = some (.cells #[v0, v1, v2] t (0, 0))) : w.cell? ⟨g, 0, none⟩ = some v0 ∧ w.cell? ⟨g, 1, none⟩ = some v1 ∧ w.cell? ⟨g, 2, none⟩ = some v2 := ⟨(D8 h 0).trans rfl, (D8 h 1).trans rfl, (D8 h 2).trans rfl⟩
theorem blk4 {w : World} {g : Nat} {t : TypeId} {v0 v1 v2 v3 : Value} (h : w.heap[g]? = some (.cells #[v0, v1, v2, v3] t (0, 0))) : w.cell? ⟨g, 0, none⟩ = some v0 ∧ w.cell? ⟨g, 1, none⟩ = some v1 ∧ w.cell? ⟨g, 2, none⟩ = some v2 ∧ w.cell? ⟨g, 3, none⟩ = some v3 ∧ w.frozen? ⟨g, 0, none⟩ = false ∧ w.frozen? ⟨g, 1, none⟩ = false ∧ w.frozen? ⟨g, 2, none⟩ = false ∧ w.frozen? ⟨g, 3, none⟩ = false := ⟨(D8 h 0).trans rfl, (D8 h 1).trans rfl, (D8 h 2).trans rfl, (D8 h 3).trans rfl, l7 h 0, l7 h 1, l7 h 2, l7 h 3⟩
theorem e4o {w : World} {g : Nat} {t : TypeId} {v0 v1 v2 v3 v4 v5 v6 v7 v8 : Value} (h : w.heap[g]? = some (.cells #[v0, v1, v2, v3, v4, v5, v6, v7, v8] t (0, 0))) : w.cell? ⟨g, 0, none⟩ = some v0 ∧ w.cell? ⟨g, 1, none⟩ = some v1 ∧ w.cell? ⟨g, 2, none⟩ = some v2 ∧ w.cell? ⟨g, 3, none⟩ = some v3 ∧ w.cell? ⟨g, 4, none⟩ = some v4 ∧ w.cell? ⟨g, 5, none⟩ = some v5 ∧ w.cell? ⟨g, 6, none⟩ = some v6 ∧ w.cell? ⟨g, 7, none⟩ = some v7 ∧ w.cell? ⟨g, 8, none⟩ = some v8 ∧ w.frozen? ⟨g, 0, none⟩ = false ∧ w.frozen? ⟨g, 1, none⟩ = false ∧ w.frozen? ⟨g, 2, none⟩ = false ∧ w.frozen? ⟨g, 3, none⟩ = false ∧ w.frozen? ⟨g, 4, none⟩ = false ∧ w.frozen? ⟨g, 5, none⟩ = false ∧ w.frozen? ⟨g, 6, none⟩ = false ∧ w.frozen? ⟨g, 7, none⟩ = false ∧ w.frozen? ⟨g, 8, none⟩ = false := ⟨(D8 h 0).trans rfl, (D8 h 1).trans rfl, (D8 h 2).trans rfl, (D8 h 3).trans rfl, (D8 h 4).trans rfl, (D8 h 5).trans rfl, (D8 h 6).trans rfl, (D8 h 7).trans rfl, (D8 h 8).trans rfl, l7 h 0, l7 h 1, l7 h 2, l7 h 3, l7 h 4, l7 h 5, l7 h 6, l7 h 7, l7 h 8⟩
theorem d67 {w : World} {g : Nat} {t : TypeId} {v0 v1 v2 v3 v4 v5 v6 v7 v8 : Value} (h : w.heap[g]? = some (.cells #[v0, v1, v2, v3, v4, v5, v6, v7, v8] t (0, 0))) : w.cell? ⟨g, 0, none⟩ = some v0 ∧ w.cell? ⟨g, 1, none⟩ = some v1 ∧ w.cell? ⟨g, 2, none⟩ = some v2 ∧ w.cell? ⟨g, 3, none⟩ = some v3 ∧ w.cell? ⟨g, 4, none⟩ = some v4 ∧ w.cell? ⟨g, 5, none⟩ = some v5 ∧ w.cell? ⟨g, 6, none⟩ = some v6 ∧ w.cell? ⟨g, 7, none⟩ = some v7 ∧ w.cell? ⟨g, 8, none⟩ = some v8 := ⟨(D8 h 0).trans rfl, (D8 h 1).trans rfl, (D8 h 2).trans rfl, (D8 h 3).trans rfl, (D8 h 4).trans rfl, (D8 h 5).trans rfl, (D8 h 6).trans rfl, (D8 h 7).trans rfl, (D8 h 8).trans rfl⟩
section
variable {w W W' : World} {g g' base e : Nat} {o : Obj} {ok ok' : Nat → Prop} {v u : Value}
theorem Q8 (h : Aside0 (Below w.heap.size w W)) (k : Below W.heap.size W W') : Aside0 (Below w.heap.size w W') := ⟨L8 h.out k⟩
theorem X8 (h : Aside0 (W.heap[g]? = some o)) (k : Below W.heap.size W W') : Aside0 (W'.heap[g]? = some o) := ⟨Q5 h.out k⟩
theorem lb_ (h : Aside0 (Below w.heap.size w W)) (e : g = W.heap.size) : Aside0 (w.heap.size ≤ g) := ⟨g1A h.out e⟩
theorem nn_ (h : Aside0 (W.heap[g]? = some o)) (e : g' = W.heap.size) : Aside0 (g ≠ g') ∧ Aside0 (g' ≠ g) := ⟨⟨neb h.out e⟩, ⟨nbe h.out e⟩⟩
theorem J9 (h : Aside0 (Below w.heap.size w W)) {a : Addr} {v : Value} (hc : w.cell? a = some v) : W.cell? a = some v := (h.out.cell (World.block_lt_of_cell? w _ hc)).trans hc
section
variable {t : TypeId} {c0 c1 c2 c3 c4 c5 c6 c7 c8 c9 : Value} {r : List Value}
theorem bc0 (h : Aside0 (w.heap[g]? = some (.cells (List.toArray (c0 :: r)) t (0, 0)))) : w.cell? ⟨g, 0, none⟩ = some c0 := (D8 h.out 0).trans rfl
theorem bc1 (h : Aside0 (w.heap[g]? = some (.cells (List.toArray (c0 :: c1 :: r)) t (0, 0)))) : w.cell? ⟨g, 1, none⟩ = some c1 := (D8 h.out 1).trans rfl
theorem bc2 (h : Aside0 (w.heap[g]? = some (.cells (List.toArray (c0 :: c1 :: c2 :: r)) t (0, 0)))) : w.cell? ⟨g, 2, none⟩ = some c2 := (D8 h.out 2).trans rfl
theorem bc3 (h : Aside0 (w.heap[g]? = some (.cells (List.toArray (c0 :: c1 :: c2 :: c3 :: r)) t (0, 0)))) : w.cell? ⟨g, 3, none⟩ = some c3 := (D8 h.out 3).trans rfl
theorem bc4 (h : Aside0 (w.heap[g]? = some (.cells (List.toArray (c0 :: c1 :: c2 :: c3 :: c4 :: r)) t (0, 0)))) : w.cell? ⟨g, 4, none⟩ = some c4 := (D8 h.out 4).trans rfl
theorem bc5 (h : Aside0 (w.heap[g]? = some (.cells (List.toArray (c0 :: c1 :: c2 :: c3 :: c4 :: c5 :: r)) t (0, 0)))) : w.cell? ⟨g, 5, none⟩ = some c5 := (D8 h.out 5).trans rfl
theorem bc6 (h : Aside0 (w.heap[g]? = some (.cells (List.toArray (c0 :: c1 :: c2 :: c3 :: c4 :: c5 :: c6 :: r)) t (0, 0)))) : w.cell? ⟨g, 6, none⟩ = some c6 := (D8 h.out 6).trans rfl
theorem bc7 (h : Aside0 (w.heap[g]? = some (.cells (List.toArray (c0 :: c1 :: c2 :: c3 :: c4 :: c5 :: c6 :: c7 :: r)) t (0, 0)))) : w.cell? ⟨g, 7, none⟩ = some c7 := (D8 h.out 7).trans rfl
theorem bc8 (h : Aside0 (w.heap[g]? = some (.cells (List.toArray (c0 :: c1 :: c2 :: c3 :: c4 :: c5 :: c6 :: c7 :: c8 :: r)) t (0, 0)))) : w.cell? ⟨g, 8, none⟩ = some c8 := (D8 h.out 8).trans rfl
end
section
variable {α β : Type} {d : Kd α} {d' : Kd β} {xs : List α} {ys : List β} {base' e' : Nat}
theorem rb_ (h : Aside0 (d.R e W base ok v xs)) (k : Below W.heap.size W W') : Aside0 (d.R e W' base ok v xs) := ⟨Kd.a1P h.out k⟩
theorem sb_ (h : Aside0 (Kd.S d e W base ok v xs)) (k : Below W.heap.size W W') : Aside0 (Kd.S d e W' base ok v xs) := ⟨Kd.a4W h.out k⟩
theorem Nb_ (h : Aside0 (Kd.N d e W base ok v xs)) (k : Below W.heap.size W W') : Aside0 (Kd.N d e W' base ok v xs) := ⟨Kd.a5Q h.out k⟩
theorem se_ (h : Aside0 (Kd.S d e W base ok v xs)) (hg : g = W.heap.size) (k : Below W.heap.size W W') : Aside0 (Kd.S d e W' base (fun k_ => ok k_ ∧ k_ ≠ g) v xs) := ⟨Kd.a4W (Kd.d0w h.out g (Nat.le_of_eq hg.symm)) k⟩
theorem Ne_ (h : Aside0 (Kd.N d e W base ok v xs)) (hg : g = W.heap.size) (k : Below W.heap.size W W') : Aside0 (Kd.N d e W' base (fun k_ => ok k_ ∧ k_ ≠ g) v xs) := ⟨Kd.a5Q (Kd.d0G h.out g (Nat.le_of_eq hg.symm)) k⟩
theorem rl_ (h : d.R e W' W.heap.size ok v xs) (k : Aside0 (Below w.heap.size w W)) : Aside0 (d.R e W' w.heap.size ok v xs) := ⟨Kd.X3 h (o9 k.out)⟩
theorem rn_ (h : d.R e W' W.heap.size ok v xs) (h2 : Aside0 (d'.R e' W base' ok' u ys)) (k : Aside0 (Below w.heap.size w W)) : Aside0 (d.R e W' w.heap.size (fun k_ => ok k_ ∧ some k_ ≠ u.ownBlock) v xs) := ⟨Kd.X3 (Kd.a03 h (Kd.U8 h2.out)) (o9 k.out)⟩
theorem rR_ (h : Aside0 (d.R e W base ok u xs)) (ho : d'.R e' W' W.heap.size ok' v ys) (hb : Below W.heap.size W W') : Aside0 (d.R e W' base (fun k => ok k ∧ some k ≠ v.ownBlock) u xs) := ⟨Kd.a3b h.out (Kd.a1d ho) hb⟩
theorem rS_ (h : Aside0 (Kd.S d e W base ok u xs)) (ho : d'.R e' W' W.heap.size ok' v ys) (hb : Below W.heap.size W W') : Aside0 (Kd.S d e W' base (fun k => ok k ∧ some k ≠ v.ownBlock) u xs) := ⟨Kd.d0u h.out (Kd.a1d ho) hb⟩
theorem rN_ (h : Aside0 (Kd.N d e W base ok u xs)) (ho : d'.R e' W' W.heap.size ok' v ys) (hb : Below W.heap.size W W') : Aside0 (Kd.N d e W' base (fun k => ok k ∧ some k ≠ v.ownBlock) u xs) := ⟨Kd.a2i h.out (Kd.a1d ho) hb⟩
end
end
theorem X4 {p : Prop} [Decidable p] {α : Type} {x : Option α} {r : α} (h : (if p then x else none) = some r) : p := by
  by_cases hp : p
  · exact hp
  · rw [if_neg hp] at h; cases h
theorem O6 {p : Prop} [Decidable p] {α : Type} {x : Option α} {r : α} (h : (if p then x else none) = some r) : x = some r := by rw [if_pos (X4 h)] at h; exact h
theorem a2Q {p : Prop} [Decidable p] {α : Type} {x : Option α} {r : α} (h : (if p then x else none) = some r) : decide p = true := decide_eq_true (X4 h)
theorem bt_ {α : Type} [BEq α] [LawfulBEq α] {a b : α} (h : a = b) : (a == b) = true ∧ (a != b) = false := ⟨beq_iff_eq.mpr h, bne_eq_false_iff_eq.mpr h⟩
theorem a2O : ¬ (false = true) := by decide
theorem nt_ {b : Bool} (h : ¬ b = true) : b = false := Bool.eq_false_iff.mpr h
theorem bd_ {α β : Type} {x : Option α} {f : α → Option β} {r : β} (h : x.bind f = some r) : ∃ t, Aside0 (x = some t) ∧ f t = some r := by
  obtain ⟨t, h1, h2⟩ := Option.bind_eq_some_iff.mp h
  exact ⟨t, ⟨h1⟩, h2⟩
theorem ab_ {p : Prop} {b : Bool} (h : b = false) (h0 : b = true) : p := absurd (h.symm.trans h0) (by decide)
theorem is_ {α : Type} (x : α) : ∃ y_ : α, y_ = x := ⟨x, rfl⟩
theorem si_ {α : Type} (x : α) : ∃ j_ : α, x = j_ := ⟨x, rfl⟩
theorem U9 {p : Prop} [Decidable p] (h : decide p = true := by with_reducible assumption) : p := of_decide_eq_true h
theorem d7H {k : IntKind} {xs : List Int} {w : World} {A : Option Addr} {n : Nat} (h : Aside0 ((Kd.int k).C w A n xs)) (i : Int) (h0 : 0 ≤ i) (h1 : i < n) : ∃ ad, A = some ad ∧ w.cell? (ad.add i.toNat) = some (.int k (rd xs i)) ∧ (0 ≤ i) = True ∧ (i < n) = True := by
  obtain ⟨ad, h2, h3⟩ := Kd.a0x h.out i h0 h1
  exact ⟨ad, h2, h3, eq_true h0, eq_true h1⟩
section
variable {P : Program} {ops : Array Oper} {rest : List Oper} {oi : Oper} {a : Act} {Q : Exit → Act → World → Prop} {W : World}
theorem gl_ (N : Option Tmp) {f : FuncId} {fn : Func} {as_ : Array Operand} {ts : Array TypeId} (hf : P.funcs[f]? = some fn) (args : Array Value)
  (h : Calls P f args W fun e W' => ∃ v, e = .returned v ∧ wpList P ops Q rest (a.put N v) W') (hd : oi.dst = N := by exact rfl) (hg : oi.guard = none := by exact rfl) (hname : (fn.name == "runtime.NumGoroutine") = false := by kernel_rfl) (hb : fn.body.isSome = true := by exact rfl)
  (hop : oi.op = .call { callee := .value (.func f), args := as_, argTypes := ts } := by exact rfl) (hargs : as_.map a.eval = args := by (try simp only [List.map_toArray, List.map_cons, List.map_nil]); (rfl)) : wpList P ops Q (oi :: rest) a W :=
  e1P N hd hg hf hname hb args hop hargs h
theorem be_ (N : Tmp) (cs : Array Value) (t : TypeId)
  (h : ∀ g, g = W.heap.size → ∀ w1, w1.heap[g]? = some (.cells cs t (0, 0)) → Below W.heap.size W w1 → wpList P ops Q rest (a.put oi.dst (.pointer (some ⟨g, 0, none⟩))) w1) (hd : oi.dst = some N := by exact rfl) (hgd : oi.guard = none := by exact rfl)
  (hrun : (execOp a.eval oi).run P W = .ok (.value (.pointer (some ⟨W.heap.size, 0, none⟩))) (W.alloc (.cells cs t (0, 0))) := by go_simp) : wpList P ops Q (oi :: rest) a W :=
  c8P hgd hd hrun h
end
section
variable {P : Program} {ops : Array Oper} {oi : Oper} {a : Act} {Q : Exit → Act → World → Prop} {Kc : Act → World → Prop} {W : World}
theorem d7h (N : Tmp) (cs : Array Value) (t : TypeId)
  (h : ∀ g, g = W.heap.size → ∀ w1, w1.heap[g]? = some (.cells cs t (0, 0)) → Below W.heap.size W w1 → Kc (a.put oi.dst (.pointer (some ⟨g, 0, none⟩))) w1) (hd : oi.dst = some N := by exact rfl) (hw : Region.wanted oi (yielded ops a.tmps) = true := by exact rfl)
  (hrun : (execOp a.eval oi).run P W = .ok (.value (.pointer (some ⟨W.heap.size, 0, none⟩))) (W.alloc (.cells cs t (0, 0))) := by go_simp) : if Region.wanted oi (yielded ops a.tmps) = true then Oper.wp P oi a W Kc Q else Kc (a.put oi.dst undef) W :=
  d0r hw hd hrun h
end
section
variable {P : Program} {ops : Array Oper} {Q : Exit → Act → World → Prop} {S : World → Prop} {ds : List Nat} {fuel : Nat} {l : Array Bool} {a : Act} {w : World} {T : Bool × List (List Nat × List Nat)}
theorem pu_ (i : Nat) (N : Option Tmp) {oi : Oper} {v : Value} (hT : Aside0 (a2l .any ops = T)) {a' : Act} (h : J8 P .any ops Q S ds fuel (l.toList.set i true).toArray a' w)
  (hi : ops[i]? = some oi := by exact rfl) (hN : oi.dst = N := by exact rfl) (hc : e1Q T l.toList (l.toList.set i true).toArray.toList i = true := by kernel_rfl)
  (hy : Yields P ops oi v a := by exact .inl ⟨rfl, by intro w'; go_simp; with_reducible rfl⟩) (ha : a.put N v = a' := by (simp only [Act.put, List.setIfInBounds_toArray, List.set_cons_zero, List.set_cons_succ, a0D, a1b]; rfl))
  (hQ : ∀ c a w, Q (.panic c) (a.put oi.dst v) w → Q (.panic c) a w := by exact fun _ _ _ h => h) : J8 P .any ops Q S ds (fuel + 1) l a w :=
  a3l _ hi hN (e1R hT.out hc) hQ hy ha h
end
def bo_ (n m : Nat) : Array Bool := ((List.range n).map fun i => m.testBit i).toArray
theorem et_ {p : Prop} [Decidable p] (h : decide p = true := by with_reducible assumption) : p = True := eq_true (of_decide_eq_true h)
section
variable {P : Program} {md : Region.Mode} {ops : Array Oper} {Q : Exit → Act → World → Prop} {S : World → Prop} {ds : List Nat} {fuel : Nat} {l : Array Bool} {a : Act} {w : World}
theorem nm_ (N : Option Tmp) {b : Act} {v : Value} {a' : Act} (h : J8 P md ops Q S ds fuel l a' w) (hb : a = Act.put b N v := by exact rfl) (ha : Act.put b N v = a' := by (simp only [Act.put, List.setIfInBounds_toArray, List.set_cons_zero, List.set_cons_succ, a0D, a1b]; rfl)) : J8 P md ops Q S ds fuel l a w := a7Q (hb.trans ha) h
end
theorem d3U (k : IntKind) (w : World) (base : Nat) (ok : Nat → Prop) : ∀ xs : List Int, J3 ((Kd.int k).M w base ok) 1 xs (xs.map (Value.int k))
  | [] => J3.none _ _
  | x :: xs => J3.one (show (Kd.int k).M _ _ _ x [.int k x] from rfl) (d3U k w base ok xs)
theorem b6t {P : Program} {ops : Array Oper} {rest : List Oper} {o : Oper} {a : Act} {Q : Exit → Act → World → Prop} {W : World} (k : IntKind) (e : Nat) (N : Tmp) (xs : List Int) {inner : List Value}
  (h : ∀ v1 w1, (Kd.int k).R e w1 W.heap.size (fun _ => True) v1 xs → Below W.heap.size W w1 → wpList P ops Q rest (a.put o.dst v1) w1)
  (hd : o.dst = some N := by exact rfl) (hgd : o.guard = none := by exact rfl) (hin : xs.map (Value.int k) = inner := by exact rfl)
  (hrun : (execOp a.eval o).run P W = .ok (.value (.slice (some ⟨W.heap.size, 0, none⟩) xs.length xs.length)) (W.alloc (.cells inner.toArray e)) := by go_simp) (hm : xs.length ≤ 9223372036854775807 := by simp) : wpList P ops Q (o :: rest) a W := by
  subst hin
  exact Kd.a4l (Kd.int k) _ e hgd hd (ok := fun _ => True) (okp := fun _ => True) hrun (d3U k _ _ _ xs) (fun _ hk => hk) trivial (Below.refl _ _) (Nat.le_refl _) hm (fun v1 w1 h1 h2 _ _ => h v1 w1 h1 h2)
theorem s2_ {α0 α1 : Type} {a0 b0 : α0} {a1 b1 : α1} (h : some (a0, a1) = some (b0, b1)) : a0 = b0 ∧ a1 = b1 := by simpa only [Option.some.injEq, Prod.mk.injEq] using h
theorem s3_ {α0 α1 α2 : Type} {a0 b0 : α0} {a1 b1 : α1} {a2 b2 : α2} (h : some (a0, a1, a2) = some (b0, b1, b2)) : a0 = b0 ∧ a1 = b1 ∧ a2 = b2 := by simpa only [Option.some.injEq, Prod.mk.injEq] using h
theorem s5_ {α0 α1 α2 α3 α4 : Type} {a0 b0 : α0} {a1 b1 : α1} {a2 b2 : α2} {a3 b3 : α3} {a4 b4 : α4} (h : some (a0, a1, a2, a3, a4) = some (b0, b1, b2, b3, b4)) : a0 = b0 ∧ a1 = b1 ∧ a2 = b2 ∧ a3 = b3 ∧ a4 = b4 := by simpa only [Option.some.injEq, Prod.mk.injEq] using h
theorem s7_ {α0 α1 α2 α3 α4 α5 α6 : Type} {a0 b0 : α0} {a1 b1 : α1} {a2 b2 : α2} {a3 b3 : α3} {a4 b4 : α4} {a5 b5 : α5} {a6 b6 : α6} (h : some (a0, a1, a2, a3, a4, a5, a6) = some (b0, b1, b2, b3, b4, b5, b6)) : a0 = b0 ∧ a1 = b1 ∧ a2 = b2 ∧ a3 = b3 ∧ a4 = b4 ∧ a5 = b5 ∧ a6 = b6 := by simpa only [Option.some.injEq, Prod.mk.injEq] using h
theorem ci_ {k : IntKind} {w : World} {A : Option Addr} {n : Nat} {xs : List Int} (h : (Kd.scalar (Value.int k) (fun _ => rfl)).C w A n xs) : Aside0 ((Kd.int k).C w A n xs) := ⟨h⟩
theorem dt_ {p : Prop} [Decidable p] (h : p) : decide p = true := decide_eq_true h
theorem df_ {p : Prop} [Decidable p] (h : ¬ p) : decide p = false := decide_eq_false h
theorem oj_ {α : Type} {a b : α} (h : some a = some b) : a = b := Option.some.inj h
theorem bq_ {α : Type} [BEq α] [LawfulBEq α] {a b : α} (h : a ≠ b) : (a == b) = false := beq_eq_false_iff_ne.mpr h
theorem bn_ {α : Type} [BEq α] [LawfulBEq α] {a b : α} (h : a ≠ b) : (a != b) = true := bne_iff_ne.mpr h
end Go.Proofs.YtgnonglkibhnhaaDoor.Print
