import Derived.Test.YtgnonglkibhnhaaDoorF52
import Derived.Test.YtgnonglkibhnhaaDoorF53
namespace Go.Proofs.YtgnonglkibhnhaaDoor.Print
open Go.RowKit Go.Proofs.YtgnonglkibhnhaaDoorW.PrintWords Go.Proofs.YtgnonglkibhnhaaDoorW.PrintLast Go.Proofs.YtgnonglkibhnhaaDoorW.PrintMore
attribute [local go_sem] a0d a0e a0V a0W X5 X6 a0f a0g
set_option linter.unusedVariables false
set_option linter.unusedSimpArgs false

/-! ### capture_notes_write: function 29 -/
attribute [local go_sem] Oper.semAt_some
def NW.ok (W : World) (k : Nat) : Prop := ∃ cells q, (q = 5 ∨ q = 58) ∧ W.heap[k]? = some (.cells cells q (0, 0))
theorem NW.b5o {W W' : World} {k : Nat} (h : NW.ok W k) (he : W'.heap[k]? = W.heap[k]?) : NW.ok W' k := by
 obtain ⟨c, q, hq, hc⟩ := h
 exact ⟨c, q, hq, he.trans hc⟩
def NW.mark (D : Nat) : Deferred := { target := .collected D, args := #[] }
structure NW.Marks (w W : World) (Ds : List Nat) : Prop where
 ne : Ds.Nodup
 at_ : ∀ D, D ∈ Ds → w.heap.size ≤ D ∧ W.heap[D]? = some (.deferred (some []))
structure NW (w W : World) (g5 g8 : Nat) (conf : Array Value) (Ds : List Nat) (out : List (S58)) : Prop where
 box : W.heap[g5]? = some (.cells conf 25 (0, 0))
 row : ∃ v, W.heap[g8]? = some (.cells #[v] 54 (0, 0)) ∧ Kd.N k58 58 W w.heap.size (NW.ok W) v out
 bel : Below w.heap.size w W
 ge : w.heap.size ≤ g8
 marks : NW.Marks w W Ds
theorem NW.kept {w W W' : World} {g5 g8 : Nat} {conf : Array Value} {Ds : List Nat} {out : List (S58)} (h : NW w W g5 g8 conf Ds out) (hb : Below w.heap.size w W') (hs : ∀ k o, k < W.heap.size → W.heap[k]? = some o → (Obj.isCells o = true ∨ k ∈ Ds) → W'.heap[k]? = W.heap[k]?) : NW w W' g5 g8 conf Ds out := by
 obtain ⟨v, hv, hn⟩ := h.row
 have hc : ∀ {k : Nat} {c : Array Value} {t : Nat}, W.heap[k]? = some (.cells c t (0, 0)) → W'.heap[k]? = W.heap[k]? := fun hk => hs _ _ (a0B hk) hk (.inl rfl)
 refine ⟨(hc h.box).trans h.box, ⟨v, (hc hv).trans hv, ?_⟩, hb, h.ge, h.marks.ne, fun D hD => ⟨(h.marks.at_ D hD).1, ?_⟩⟩
 ·have h2 := Kd.b6b (Kd.b4S hn) (w1 := W') (fun k hk hlt => by obtain ⟨c, q, _, he⟩ := hk.1; exact hc he); exact Kd.U3 h2 (fun k hk => NW.b5o hk.1 (by obtain ⟨c, q, _, he⟩ := hk.1; exact hc he))
 ·have hd := (h.marks.at_ D hD).2; exact (hs D _ (a0B hd) hd (.inr hD)).trans hd
theorem NW.below {w W W' : World} {g5 g8 : Nat} {conf : Array Value} {Ds : List Nat} {out : List (S58)} (h : NW w W g5 g8 conf Ds out) (hb : Below W.heap.size W W') : NW w W' g5 g8 conf Ds out :=
 h.kept (L8 h.bel hb) (fun k o hk _ _ => hb.block k hk)
theorem NW.turn {w W W' : World} {g5 g8 : Nat} {conf : Array Value} {Ds : List Nat} {out : List (S58)} (h : NW w W g5 g8 conf Ds out) {row : Option Nat} (hg : W.grownBy W' row) (hr : ∀ r, row = some r → w.heap.size ≤ r ∧ r ∉ Ds ∧ ∃ o : Obj, W.heap[r]? = some o ∧ o.isCells = false) : NW w W' g5 g8 conf Ds out := by
 refine h.kept (h.bel.grown hg h.bel.size (fun k e => (hr k e).1)) (fun k o hk ho hc => hg.block k hk (fun e => ?_))
 obtain ⟨_, hn, o', ho', hf⟩ := hr k e.symm
 rcases hc with hc | hc
 ·rw [ho] at ho'
  cases ho'
  rw [hc] at hf
  cases hf
 ·exact hn hc
theorem NW.store {w W : World} {g5 g8 : Nat} {conf : Array Value} {Ds : List Nat} {out : List (S58)} (h : NW w W g5 g8 conf Ds out) {g : Nat} {c : Array Value} (hg : W.heap[g]? = some (.cells c 3 (0, 0))) (_ : 3 ≠ 5) (hge : w.heap.size ≤ g) {j : Nat} (u : Value) : NW w (W.setCell ⟨g, j, none⟩ u) g5 g8 conf Ds out := by
 have no : ∀ {k : Nat} {o : Obj}, W.heap[k]? = some o → (∀ c, o ≠ .cells c 3 (0, 0)) → (W.setCell ⟨g, j, none⟩ u).heap[k]? = W.heap[k]? := fun hk hne =>
  Below.heap_setCell W ⟨g, j, none⟩ u _ (fun e => by subst e; rw [hg] at hk; injection hk with hk; exact hne _ hk.symm)
 obtain ⟨v, hv, hn⟩ := h.row
 refine ⟨(no h.box (fun c e => by injection e with _ e; exact absurd e (by decide))).trans h.box, ⟨v, (no hv (fun c e => by injection e with _ e; exact absurd e (by decide))).trans hv, ?_⟩, o8 h.bel hge, h.ge, h.marks.ne, fun D hD => ⟨(h.marks.at_ D hD).1, (no (h.marks.at_ D hD).2 (fun c e => by cases e)).trans (h.marks.at_ D hD).2⟩⟩
 have hk : ∀ k, NW.ok W k → (W.setCell ⟨g, j, none⟩ u).heap[k]? = W.heap[k]? := by
  rintro k ⟨c, q, hq, hc⟩; exact no hc (fun c' e => by injection e with _ e; rcases hq with rfl | rfl <;> exact absurd e (by decide))
 exact Kd.U3 (Kd.b6b hn (fun k ho _ => hk k ho)) (fun k ho => NW.b5o ho (hk k ho))
theorem NW.put {w W W1 : World} {g5 g8 : Nat} {conf : Array Value} {Ds : List Nat} {out out' : List (S58)} {v v1 : Value} (h : NW w W g5 g8 conf Ds out) (hv : W.heap[g8]? = some (.cells #[v] 54 (0, 0))) (hn : Kd.N k58 58 W w.heap.size (NW.ok W) v out) (hg : W.grownBy W1 v.ownBlock) (hn1 : Kd.N k58 58 W1 w.heap.size (NW.ok W1) v1 out') : NW w (W1.setCell ⟨g8, 0, none⟩ v1) g5 g8 conf Ds out' ∧ W1.heap[g8]? = some (.cells #[v] 54 (0, 0)) := by
 have ht := Kd.a13 hn
 have no : ∀ {k : Nat} {o : Obj}, W.heap[k]? = some o → (∀ c, o ≠ .cells c 58 (0, 0)) → W1.heap[k]? = some o := by
  intro k o hk hne; refine (hg.block k (a0B hk) (fun e => ?_)).trans hk; obtain ⟨c, hc⟩ := ht k e.symm; rw [hc] at hk; injection hk with hk
  exact hne c hk.symm
 have h8 := no hv (fun c e => by injection e with _ e; exact absurd e (by decide))
 have h5 := no h.box (fun c e => by injection e with _ e; exact absurd e (by decide))
 have ne5 : g5 ≠ g8 := by
  rintro rfl; rw [h5] at h8; injection h8 with h8
  injection h8 with _ h8
  exact absurd h8 (by decide)
 have hB1 : Below w.heap.size w W1 := h.bel.grown hg h.bel.size (Kd.a3q hn)
 refine ⟨⟨(Below.heap_setCell W1 ⟨g8, 0, none⟩ v1 g5 ne5).trans h5, ⟨v1, a3F h8 0 v1, ?_⟩, o8 hB1 h.ge, h.ge, h.marks.ne, fun D hD => ⟨(h.marks.at_ D hD).1, ?_⟩⟩, h8⟩
 ·have hne : ∀ k, NW.ok W1 k → k ≠ g8 := by
   rintro k ⟨c, q, hq, hc⟩ rfl; rw [h8] at hc; injection hc with hc
   injection hc with _ hc
   rcases hq with rfl | rfl <;> exact absurd hc (by decide)
  exact Kd.U3 (Kd.a3d (p := ⟨g8, 0, none⟩) hn1 hne v1) (fun k hk => NW.b5o hk (Below.heap_setCell W1 ⟨g8, 0, none⟩ v1 k (hne k hk)))
 ·have hd := no (h.marks.at_ D hD).2 (fun c e => by cases e); exact (Below.heap_setCell W1 ⟨g8, 0, none⟩ v1 D (fun e => by subst e; rw [h8] at hd; cases hd)).trans hd
theorem NW.leaves {n : Nat} {P : Program} {fn : Func} {tmps : Array Value} {R : Ending → World → Prop} {w : World} (J : World → Prop) (hJ : ∀ W D, J W → w.heap.size ≤ D → W.heap[D]? = some (.deferred (some [])) → J (W.putObj D (.deferred none)))
  (hR : ∀ W, J W → LeavesIn Fence.wide n P fn tmps R [] .returning W) : ∀ (Ds : List Nat) (W : World), J W → NW.Marks w W Ds → LeavesInM Fence.wide n P fn tmps R (Ds.map NW.mark) .returning W
 | [], W, h, _ => hR W h
 | D :: Ds, W, h, hm => by
  obtain ⟨hle, hd⟩ := hm.at_ D List.mem_cons_self; refine ⟨by simp, .inl ⟨D, W.putObj D (.deferred none), rfl, run_takeDeferred hd, ?_⟩⟩; refine NW.leaves J hJ hR Ds _ (hJ W D h hle hd) ⟨(List.nodup_cons.1 hm.ne).2, fun D' hD' => ⟨(hm.at_ D' (List.mem_cons_of_mem _ hD')).1, ?_⟩⟩; refine (World.putObj_heap_other (fun e => ?_)).trans (hm.at_ D' (List.mem_cons_of_mem _ hD')).2; subst e; exact (List.nodup_cons.1 hm.ne).1 hD'
theorem NW.add {F : Fence} {n : Nat} {P : Program} {ops : Array Oper} {rest : List Oper} {o : Oper} {a : Act} {Q : Exit → Act → World → Prop} {α : Type} (d : Kd α) {W : World} (base : Nat) (hgd : o.guard = none) (s x : Operand) (t e : TypeId) (z : Value) (bytes : Nat)
  (ho : o.op = .call { callee := .builtin .append, args := #[s, x], argTypes := #[t, t] })
  (ht : P.underlying t = some (.slice e)) (hinfo : (P.info? e).map (fun i => (i.zero, i.size, i.bytes)) = some (some z, d.sz, bytes)) (hz : z.cells.size = d.sz) (hs0 : 0 < d.sz) (hb0 : 0 < bytes)
  (v : Value) (xs : List α) (p : α) (cs : List Value) (ok okp : Nat → Prop) (hs : a.eval s = v) (hx : a.eval x = .slice (some ⟨W.heap.size, 0, none⟩) 1 1) (hp : Kd.FK d W okp p cs) (a8o : ∀ k, okp k → ok k ∧ some k ≠ v.ownBlock)
  (HO : Kd.N d e W base ok v xs) (hbase : base ≤ W.heap.size) (hl : (xs.length + 1) * bytes ≤ 140737488355328)
  (h : ∀ v1 w1, Kd.N d e w1 base (fun k => (ok k ∧ some k ≠ v.ownBlock) ∨ some k = v1.ownBlock) v1 (xs ++ [p]) → W.grownBy w1 v.ownBlock → (W.alloc (.cells cs.toArray e)).grownBy w1 v.ownBlock → wpListIn F n P ops Q rest (a.put o.dst v1) w1) :
  wpListIn F n P ops Q (o :: rest) a (W.alloc (.cells cs.toArray e)) := by
 obtain ⟨i0, hi, hzz⟩ := Option.map_eq_some_iff.1 hinfo
 simp only [Prod.mk.injEq] at hzz
 obtain ⟨hz0, hz1, hz2⟩ := hzz
 obtain ⟨h0, rows, hlr, hR, hf⟩ := HO
 obtain ⟨h0', inner, hown, hr⟩ := Kd.b8E hR
 have hraw : (Kd.raw d.sz).M W base (fun _ => False) cs cs := Kd.c2P hp
 have hlen : rows.length + 1 ≤ 140737488355328 := by rw [hlr]; exact Nat.le_trans (Nat.le_mul_of_pos_right _ hb0) hl
 refine wpListIn_plain hgd fun K hK' => ?_
 obtain ⟨v1, w1, hrun, hown1, hg, _, hat⟩ := run_append_own_at (P := P) (W.alloc (.cells cs.toArray e)) base t o.type e i0 z d.sz bytes ht hi hz0 hz1 hz2 hz hs0 v rows.length inner (hown.alloc _) ⟨W.heap.size, 0, none⟩ 1 1 cs (by rw [(Kd.raw d.sz).a3Q ((Kd.raw d.sz).a1D hraw)]; simp [Kd.raw])
  (by simpa using World.news_of_block (cs := cs.toArray) (t := e) (fr := (0, 0)) (heap_alloc_new W (.cells cs.toArray e))) ((Kd.raw d.sz).a3R ((Kd.raw d.sz).a1D hraw)) (by simp only [maxLen]; omega) (by rw [hlr]; exact hl) (by simp; omega)
 unfold Oper.wpIn
 refine ⟨by simp [Oper.about, ho, resolve, Target.leads, Sem.run_pure], ?_⟩
 rw [Oper.semAt_plain F _ _ (by rw [ho]; intro c hc'; cases hc')]
 simp [execOp, ho, resolve, invoke, builtin, hs, hx, hrun, Result.andThen]
 have hg0 : W.grownBy w1 v.ownBlock := World.grownBy.trans (World.grownBy_alloc W _ _) hg
 have d9f : v1.ownBlock = v.ownBlock ∨ ∃ b, v1.ownBlock = some b ∧ W.heap.size ≤ b := by
  rcases hat with hat | hat
  ·exact .inl hat
  ·exact .inr ⟨_, hat, by simp⟩
 have hR1 := Kd.b1c h0' hr hraw (okp := fun _ => False) (fun _ hk => hk.elim) (fun _ _ => trivial) hown1 hg0 d9f
 have step : ∀ {x : α} {c : List Value} {q : Nat → Prop}, Kd.FK d W q x c → (∀ k, q k → ok k ∧ some k ≠ v.ownBlock) → Kd.FK d w1 (fun k => ((ok k ∧ some k ≠ v.ownBlock) ∨ some k = v1.ownBlock) ∧ some k ≠ v1.ownBlock) x c := by
  intro x c q hq ho_; have h2 := Kd.b4R (Kd.b2b hq) (W1 := w1) (fun k hk hlt => hg0.block k hlt (ho_ k hk.1).2); refine Kd.a8u h2 (fun k hk => ⟨.inl (ho_ k hk.1), fun e_ => ?_⟩)
  rcases d9f with d9f | ⟨b, hb, hle⟩
  ·exact (ho_ k hk.1).2 (by rw [← d9f]; exact e_)
  ·rw [hb] at e_; injection e_ with e_
   have := hk.2
   omega
 refine hK' _ _ (h v1 w1 ⟨fun k hk => .inr hk.symm, rows ++ [cs], by simp [hlr], Kd.b3I hR1, fun j x c hx' hc => ?_⟩ hg0 hg)
 by_cases hj : j < xs.length
 ·rw [List.getElem?_append_left hj] at hx'; rw [List.getElem?_append_left (by omega)] at hc; exact step (hf j x c hx' hc) (fun k hk => hk)
 ·rw [List.getElem?_append_right (by omega)] at hx'; rw [List.getElem?_append_right (by omega), hlr] at hc; have hj0 : j - xs.length = 0 := by
   have := (List.getElem?_eq_some_iff.1 hx').1
   simp at this
   omega
  rw [hj0] at hx' hc
  simp only [List.getElem?_cons_zero, Option.some.injEq] at hx' hc
  rw [← hx', ← hc]; exact step hp a8o
def NW.post (P : Program) (fn : Func) (R : Ending → World → Prop) : Exit → Act → World → Prop
 | .ret, a, w => LeavesInM Fence.wide 3 P fn a.tmps R a.defers .returning w
 | _, _, _ => False
theorem NW.d5i {P : Program} {fn : Func} {R : Ending → World → Prop} : ∀ e a w, NW.post P fn R e a w → bodyPostM Fence.wide 3 P fn R e a w
 | .ret, _, _, h => h
 | .normal, _, _, h => h.elim
 | .panic _, _, _, h => h.elim
 | .outgrown, _, _, h => h.elim
 | .exit _, _, _, h => h.elim
 | .goto _, _, _, h => h.elim
theorem NW.named {P : Program} {c : Code} {Q : Exit → Act → World → Prop} {a : Act} {W : World} (h : ∀ T ds, a = { tmps := T, defers := ds } → Code.wp P c Q { tmps := T, defers := ds } W) : Code.wp P c Q a W := h a.tmps a.defers rfl
theorem NW.part {W : World} {ok : Nat → Prop} {A : Option Addr} {b : List Int} (h : Kd.F (Kd.int .u8) W ok A b.length b) (j : Nat) : Kd.F (Kd.int .u8) W ok (A.map (·.add (j * 65535))) ((b.drop (j * 65535)).take 65535).length ((b.drop (j * 65535)).take 65535) := by
 by_cases hj : j * 65535 < b.length
 ·have h1 := Kd.e6T (c := b.length + 1) h (m := j * 65535) (by omega) (by omega); rw [if_neg (by omega), show j * 65535 * (Kd.int .u8).sz = j * 65535 from Nat.mul_one _] at h1
  by_cases hl : 65535 ≤ (b.drop (j * 65535)).length
  ·exact Kd.d0M h1 hl
  ·rw [List.take_of_length_le (by omega)]; exact h1
 ·rw [List.drop_of_length_le (by omega)]; exact fun W' _ => ⟨rfl, Nat.zero_le _, fun hp => absurd hp (by simp)⟩
def NW.pA (A : Option Addr) (j : Nat) : Option Addr := A.map (·.add (j * 65535))
def NW.pn (b : List Int) (j : Nat) : Nat := ((b.drop (j * 65535)).take 65535).length
theorem NW.d5j (A : Option Addr) (b : List Int) (j : Nat) : Chunk.val A b.length j = .slice (NW.pA A j) (NW.pn b j) (NW.pn b j) := by
 unfold Chunk.val NW.pA NW.pn
 rw [List.length_take, List.length_drop]
def capture_notes_write.note (kind : Int) (b : List Int) (j : Nat) : S58 := ⟨kind, 0, (b.drop (j * 65535)).take 65535⟩
def capture_notes_write.go (k : Nat) (b3T : Int) (wide : Bool) : List (S42) → List (S58) → Option (List (S58))
 | [], out => some out
 | x :: m, out => (a1q.f x.f0 x.f1 x.f2).bind fun fb => (a4K.f k fb (if x.f0 = 1 then b3T else 0) wide).bind fun t => if t.1.length ≤ 140737488355328 ∧ out.length + Chunk.count t.1.length < 1099511627776 then capture_notes_write.go k b3T wide m (out ++ (List.range (Chunk.count t.1.length)).map (capture_notes_write.note (if x.f0 = 1 then 2 else 1) t.1)) else none
def capture_notes_write.f (k : Nat) (l1 : List (S42)) (b3T : Int) (wide : Bool) : Option (List Int × Int) := (capture_notes_write.go k b3T wide l1 []).bind fun o => dump_Put.f k o
theorem capture_notes_write.b62 (l : List (S42)) (j : Nat) (h : j < l.length) : l.drop j = y7 l (j : Int) :: l.drop (j + 1) := by
 rw [List.drop_eq_getElem_cons h]
 unfold y7
 rw [Int.toNat_natCast, List.getD_eq_getElem?_getD, List.getElem?_eq_getElem h]
 rfl
set_option maxHeartbeats 16000000 in
set_option maxRecDepth 100000 in
theorem capture_notes_write.calls (k : Nat) (A1 : Option Addr) (c1 : Nat) (l1 : List (S42)) (a05 : Int) (a06 : Int) (a07 : Int) (a08 : Int) (a09 : ByteArray) (a1a : ByteArray) (a0y : Int) (Y7 : Int) (Y1 : Bool) (r1 : List Int) (r2 : Int) (w : World) (hG0 : Kd.C b1a w (some ⟨0, 0, none⟩) 8 G7) (hr1 : Kd.C k42 w A1 l1.length l1) (hc1 : l1.length ≤ c1) (h : capture_notes_write.f k l1 Y7 Y1 = some (r1, r2)) :
  Calls Tryd.prog 29 #[.agg #[], .slice A1 l1.length c1, .agg #[.int .i64 a05, .int .i64 a06, .int .i64 a07, .int .i64 a08, .string a09, .string a1a, .int .i64 a0y, .int .u32 Y7, .bool Y1]] w fun e w' => ∃ v0_ : Value, e = .returned (.tuple #[v0_, .int .i64 r2]) ∧ Kd.R (Kd.int .u8) 5 w' w.heap.size (fun _ => True) v0_ r1 ∧ Below w.heap.size w w' := by
 have c3k := Tryd.underlying25
 have e2x := Tryd.underlying67
 have b8P := Tryd.underlying42
 have hml := Kd.b7K hr1
 obtain ⟨o, hgo, hput⟩ := Option.bind_eq_some_iff.1 h
 have HP := a_ hput
 have HGO : Aside0 (capture_notes_write.go k Y7 Y1 (l1.drop 0) [] = some o) := ⟨by rw [List.drop_zero]; exact hgo⟩
 have HG0 := a_ hG0
 have HR1 := a_ hr1
 have HB := a_ (Below.refl w.heap.size w)
 clear hG0 hr1 hc1 h hgo hput
 refine callsIn_wide.1 (callsIn_of_wp_marks (n := 3) Tryd.func29 rfl trivial (wpIn_wide.2 (wp_mono ?_ NW.d5i)) rfl)
 simp only [Tryd.ntmps29, List.size_toArray, List.length_cons, List.length_nil, Nat.reduceAdd, Nat.reduceSub, Array.replicate_succ, Array.replicate_zero, List.push_toArray, List.append_toArray, List.nil_append, List.cons_append]
 go_wp2_with (first | (refine be_ 3 #[] 67 ?_; intro g3 hg w3 hbox hb; have HB3 := Q8 HB hb; clear hg hbox hb) | (refine be_ 5 #[.int .i64 a05, .int .i64 a06, .int .i64 a07, .int .i64 a08, .string a09, .string a1a, .int .i64 a0y, .int .u32 Y7, .bool Y1] 25 ?_; intro g5 hg w5 hbox hb; have HB5 := Q8 HB3 hb; have BK5 := a_ hbox; clear hg hbox hb) | (refine be_ 8 #[.slice none 0 0] 54 ?_; intro g8 hg w8 hbox hb; have HB8 := Q8 HB5 hb; have b2o := X8 BK5 hb; have BK8 := a_ hbox; have GE8 : Aside0 (w.heap.size ≤ g8) := ⟨by rw [hg]; exact HB5.out.size⟩; clear hg hbox hb))
 have HI0 : Aside0 (NW w w8 g5 g8 #[.int .i64 a05, .int .i64 a06, .int .i64 a07, .int .i64 a08, .string a09, .string a1a, .int .i64 a0y, .int .u32 Y7, .bool Y1] [] []) := ⟨⟨b2o.out, ⟨_, BK8.out, Kd.d0F _ _ _ _ _⟩, HB8.out, GE8.out, List.nodup_nil, fun D hD => absurd hD (by simp)⟩⟩
 clear HB HB3 HB5 HB8 BK5 b2o BK8
 refine wp_loop_ghost_k (fun kq a' w' => ∃ (j : Nat) (Ds : List Nat) (out : List (S58)) (u10 u11 u12 u13 u14 u15 u19 u20 u21 u22 u23 u24 u25 u26 u27 u28 u29 u30 u31 u32 u33 u34 u35 u36 u37 u38 u39 u40 u41 u42 u43 u44 u45 u46 u47 u48 u49 : Value), (kq + j = l1.length ∧ Aside0 (NW w w' g5 g8 #[.int .i64 a05, .int .i64 a06, .int .i64 a07, .int .i64 a08, .string a09, .string a1a, .int .i64 a0y, .int .u32 Y7, .bool Y1] Ds out) ∧ Aside0 (capture_notes_write.go k Y7 Y1 (l1.drop j) out = some o)) ∧ a' = { tmps := #[.agg #[], .slice A1 l1.length c1, .agg #[.int .i64 a05, .int .i64 a06, .int .i64 a07, .int .i64 a08, .string a09, .string a1a, .int .i64 a0y, .int .u32 Y7, .bool Y1], .pointer (some ⟨g3, 0, none⟩), undef, .pointer (some ⟨g5, 0, none⟩), .slice none 0 0, .int .i64 0, .pointer (some ⟨g8, 0, none⟩), undef, u10, u11, u12, u13, u14, u15, .slice A1 l1.length c1, .int .i64 (l1.length : Int), .int .i64 (j : Int), u19, u20, u21, u22, u23, u24, u25, u26, u27, u28, u29, u30, u31, u32, u33, u34, u35, u36, u37, u38, u39, u40, u41, u42, u43, u44, u45, u46, u47, u48, u49], defers := Ds.map NW.mark }) l1.length ?start ?round
 case start => exact ⟨0, [], [], _, _, _, _, _, _, _, _, _, _, _, _, _, _, _, _, _, _, _, _, _, _, _, _, _, _, _, _, _, _, _, _, _, _, _, _, _, ⟨rfl, HI0, HGO⟩, rfl⟩
 case round =>
  clear HI0 HGO; intro gk a wr hinv J K hJ hK; obtain ⟨j, Ds, out, u10, u11, u12, u13, u14, u15, u19, u20, u21, u22, u23, u24, u25, u26, u27, u28, u29, u30, u31, u32, u33, u34, u35, u36, u37, u38, u39, u40, u41, u42, u43, u44, u45, u46, u47, u48, u49, ⟨hj, HI, HGJ⟩, rfl⟩ := hinv
  by_cases hlt : j < l1.length
  ·obtain ⟨k1, rfl⟩ : ∃ k1, gk = k1 + 1 := ⟨gk - 1, by omega⟩; have c1_ : decide ((j : Int) < (l1.length : Int)) = true := dt_ (by omega); have p1_ : (0 : Int) ≤ (j : Int) := by omega
   have q1_ : (j : Int) < (l1.length : Int) := by omega
   obtain ⟨ad, Ax, cx, e0, hx0, hx1, hx2, hlx, hix⟩ := a0I HR1.out (j : Int) p1_ q1_; have hgo := HGJ.out; rw [capture_notes_write.b62 l1 j hlt, capture_notes_write.go] at hgo; generalize y7 l1 (j : Int) = x at hx0 hx1 hx2 hlx hix hgo
   cases e0
   rw [Int.toNat_natCast] at hx0 hx1 hx2; replace hx0 := (HI.out.bel.cell (World.block_lt_of_cell? w _ hx0)).trans hx0; replace hx1 := (HI.out.bel.cell (World.block_lt_of_cell? w _ hx1)).trans hx1; replace hx2 := (HI.out.bel.cell (World.block_lt_of_cell? w _ hx2)).trans hx2; have HIX := a_ hix; have HLX := a_ hlx; obtain ⟨fb, hfb, hgo⟩ := Option.bind_eq_some_iff.1 hgo; obtain ⟨⟨b, er⟩, hpt, hgo⟩ := Option.bind_eq_some_iff.1 hgo; have HFB := a_ hfb; have HPT := a_ hpt; have HGN := a_ hgo; clear hlx hix HGJ hgo hfb hpt
   go_upto_region 5 with ((refine be_ 10 #[.int .i64 0, .int .i64 0, .slice none 0 0] 42 ?_; intro g10 hg w14 hbox hb; have a5A := a_ hbox; have c1k := a_ hb; have b4C : Aside0 (wr.heap.size ≤ g10) := ⟨by rw [hg]; exact Nat.le_refl _⟩; replace hx0 := J9 ⟨hb⟩ hx0; replace hx1 := J9 ⟨hb⟩ hx1; replace hx2 := J9 ⟨hb⟩ hx2; have b6C := bc0 a5A; have b6D := l7 a5A.out 0; have b6E := bc1 a5A; have b6F := l7 a5A.out 1; have b6G := bc2 a5A; have b6H := l7 a5A.out 2; clear hg hbox hb))
   have b6I := a_ (show (((w14.setCell ⟨g10, 0, none⟩ (.int .i64 x.f0)).setCell ⟨g10, 1, none⟩ (.int .i64 x.f1)).setCell ⟨g10, 2, none⟩ (.slice Ax x.f2.length cx)).heap[g10]? = some (.cells #[.int .i64 x.f0, .int .i64 x.f1, .slice Ax x.f2.length cx] 42 (0, 0)) from by refine l9 (cs := #[.int .i64 x.f0, .int .i64 x.f1, .slice none 0 0]) ?_ 2 _ rfl; refine l9 (cs := #[.int .i64 x.f0, .int .i64 0, .slice none 0 0]) ?_ 1 _ rfl; refine l9 (cs := #[.int .i64 0, .int .i64 0, .slice none 0 0]) ?_ 0 _ rfl; exact a5A.out); have HBx := a_ (o8 (j := 2) (v := .slice Ax x.f2.length cx) (o8 (j := 1) (v := .int .i64 x.f1) (o8 (j := 0) (v := .int .i64 x.f0) c1k.out b4C.out) b4C.out) b4C.out); generalize ((w14.setCell ⟨g10, 0, none⟩ (.int .i64 x.f0)).setCell ⟨g10, 1, none⟩ (.int .i64 x.f1)).setCell ⟨g10, 2, none⟩ (.slice Ax x.f2.length cx) = w15 at b6I HBx ⊢; have a5B := a_ (HI.out.below HBx.out); clear a5A c1k hx0 hx1 hx2 b6C b6D b6E b6F b6G b6H HI HBx
   go_cut [11, 12] from 11 to 12 (fun v11 v12 wx => ∃ g11 : Nat, v11 = .pointer (some ⟨g11, 0, none⟩) ∧ Aside0 (w.heap.size ≤ g11) ∧ v12 = .int .u32 0 ∧ Aside0 (wx.heap[g11]? = some (.cells #[.int .i64 1] 3 (0, 0))) ∧ Aside0 (wx.heap[g10]? = some (.cells #[.int .i64 x.f0, .int .i64 x.f1, .slice Ax x.f2.length cx] 42 (0, 0))) ∧ Aside0 (NW w wx g5 g8 #[.int .i64 a05, .int .i64 a06, .int .i64 a07, .int .i64 a08, .string a09, .string a1a, .int .i64 a0y, .int .u32 Y7, .bool Y1] Ds out))
   case first =>
    go_wp2_with ((refine be_ 11 #[.int .i64 0] 3 ?_; intro g11 hg w16 hbox hb; have e5h := a_ hbox; have g2A := a_ hb; have f1u : Aside0 (w15.heap.size ≤ g11) := ⟨by rw [hg]; exact Nat.le_refl _⟩; have g2B := bc0 e5h; have e3G := l7 e5h.out 0; clear hg hbox hb))
    have HBy := a_ (o8 (j := 0) (v := .int .i64 1) g2A.out f1u.out)
    go_meet
    case rel => exact ⟨g11, rfl, ⟨Nat.le_trans a5B.out.bel.size f1u.out⟩, rfl, ⟨l9 (cs := #[.int .i64 0]) e5h.out 0 _ rfl⟩, ⟨Q5 b6I.out HBy.out⟩, ⟨a5B.out.below HBy.out⟩⟩
   clear a5B b6I; obtain ⟨g11, rfl, g2C, rfl, c2o, d5k, a9J⟩ := hcut; have d5l := bc0 d5k
   go_step
   go_step
   go_cut [12] from 22 to 26 (fun v12 wx => v12 = .int .u32 (if x.f0 = 1 then Y7 else 0) ∧ Aside0 (wx.heap[g11]? = some (.cells #[.int .i64 (if x.f0 = 1 then 2 else 1)] 3 (0, 0))) ∧ Aside0 (wx.heap[g10]? = some (.cells #[.int .i64 x.f0, .int .i64 x.f1, .slice Ax x.f2.length cx] 42 (0, 0))) ∧ Aside0 (NW w wx g5 g8 #[.int .i64 a05, .int .i64 a06, .int .i64 a07, .int .i64 a08, .string a09, .string a1a, .int .i64 a0y, .int .u32 Y7, .bool Y1] Ds out))
   case first =>
    by_cases e1 : x.f0 = 1
    ·rw [e1] at d5l; have E1 := a_ e1; clear e1; have hne : g10 ≠ g11 := by
      rintro rfl; have h_ := d5k.out.symm.trans c2o.out; injection h_ with h_
      injection h_ with _ h_
      exact absurd h_ (by decide)
     have hne5 : g5 ≠ g11 := by
      rintro rfl; have h_ := a9J.out.box.symm.trans c2o.out; injection h_ with h_
      injection h_ with _ h_
      exact absurd h_ (by decide)
     have hs11 := bc0 c2o; have g91 := l7 c2o.out 0
     go_wp2
     refine a2U (n := 4) (S := fun w' => w'.cell? ⟨g5, 7, none⟩ = some (.int .u32 Y7)) (ds := []) (bo_ 4 0) (by kernel_rfl) rfl rfl (((D8 (P6 a9J.out.box) 7).trans rfl)) (fun hHeld => ?_); refine a3l (i := 0) (N := some 25) (bo_ 4 1) rfl rfl (by kernel_rfl) (fun _ _ _ h => h) (.inl ⟨rfl, by intro w'; go_simp; with_reducible rfl⟩) rfl ?_; refine a0Y (i := 1) (N := some 26) (v := ?_) (a' := ?_) (bo_ 4 3) rfl rfl (by kernel_rfl) (fun _ _ _ h => h) (Or.inl ⟨by rfl, ?_⟩) hHeld ?_ ?_
     rotate_left
     ·intro w' s0
      go_simp
      with_reducible rfl
     rotate_left
     ·simp only [Act.put, List.setIfInBounds_toArray, List.set_cons_zero, List.set_cons_succ, a0D, a1b]
      rfl
     refine a4p (i := 2) (N := none) (bo_ 4 7) rfl rfl (by kernel_rfl) (by decide) (fun K hK => ?_); refine b57 (w1 := ?_) (by rfl) rfl ?_ ?_
     rotate_left
     ·go_simp
      rfl
     refine hK.out _ _ (((cell_far (p := ⟨g11, 0, none⟩) (a := ⟨g5, 7, none⟩) hne5 _).trans hHeld)) (fun hHeld => ?_); clear hK K; refine a3l (i := 3) (N := some 12) (bo_ 4 15) rfl rfl (by kernel_rfl) (fun _ _ _ h => h) (.inl ⟨rfl, by intro w'; go_simp; with_reducible rfl⟩) rfl ?_; refine a4J (by kernel_rfl) ?_

     go_wp2
     go_meet
     case rel => exact ⟨by rw [if_pos E1.out], ⟨by rw [if_pos E1.out]; exact l9 (cs := #[.int .i64 1]) (P6 c2o.out) 0 _ rfl⟩, ⟨(Below.heap_setCell _ ⟨g11, 0, none⟩ _ g10 hne).trans (P6 d5k.out)⟩, ⟨(a9J.out.below (a1K (Below.refl _ _))).store (P6 c2o.out) (by decide) g2C.out _⟩⟩
    ·have b1 : (x.f0 == 1) = false := by simpa using e1
     have d1 : decide (x.f0 = 1) = false := by simpa using e1
     go_wp2
     go_meet
     case rel => exact ⟨by rw [if_neg e1], by rw [if_neg e1]; exact c2o, d5k, a9J⟩
   case rest =>
    obtain ⟨rfl, d5m, d5n, d9h⟩ := hcut; clear c2o d5k a9J d5l; obtain ⟨kind, hkind⟩ : ∃ q_ : Int, q_ = (if x.f0 = 1 then 2 else 1) := ⟨_, rfl⟩; obtain ⟨m, hm⟩ : ∃ q_ : Int, q_ = (if x.f0 = 1 then Y7 else 0) := ⟨_, rfl⟩; have hgo := HGN.out; have hpt := HPT.out; have hbk := d5m.out; rw [← hkind] at hgo hbk; rw [← hm] at hpt ⊢; clear HGN HPT d5m hkind hm
    by_cases hgd : b.length ≤ 140737488355328 ∧ out.length + Chunk.count b.length < 1099511627776
    ·rw [if_pos hgd] at hgo; have HGD := a_ hgd; have HGN := a_ hgo; have HPT := a_ hpt; have d5m := a_ hbk; clear hgd hgo hpt hbk
     go_wp2
     refine a2U (n := 11) (S := fun w' => w'.cell? ⟨g10, 0, none⟩ = some (.int .i64 x.f0) ∧ w'.cell? ⟨g10, 1, none⟩ = some (.int .i64 x.f1) ∧ w'.cell? ⟨g10, 2, none⟩ = some (.slice Ax x.f2.length cx) ∧ w'.cell? ⟨g5, 8, none⟩ = some (.bool Y1)) (ds := []) (bo_ 11 0) (by kernel_rfl) rfl rfl ⟨((D8 (P6 d5n.out) 0).trans rfl), ((D8 (P6 d5n.out) 1).trans rfl), ((D8 (P6 d5n.out) 2).trans rfl), ((D8 (P6 d9h.out.box) 8).trans rfl)⟩ (fun hHeld => ?_); refine a3l (i := 2) (N := some 30) (bo_ 11 4) rfl rfl (by kernel_rfl) (fun _ _ _ h => h) (.inl ⟨rfl, by intro w'; go_simp; with_reducible rfl⟩) rfl ?_; refine a3l (i := 3) (N := some 31) (bo_ 11 12) rfl rfl (by kernel_rfl) (fun _ _ _ h => h) (.inl ⟨rfl, by intro w'; go_simp; with_reducible rfl⟩) rfl ?_; refine a0Y (i := 0) (N := some 28) (v := ?_) (a' := ?_) (bo_ 11 13) rfl rfl (by kernel_rfl) (fun _ _ _ h => h) (Or.inl ⟨by rfl, ?_⟩) hHeld ?_ ?_
     rotate_left
     ·rintro w' ⟨s0, s1, s2, s3⟩
      go_simp
      with_reducible rfl
     rotate_left
     ·simp only [Act.put, List.setIfInBounds_toArray, List.set_cons_zero, List.set_cons_succ, a0D, a1b]
      rfl
     refine a0Y (i := 4) (N := some 32) (v := ?_) (a' := ?_) (bo_ 11 29) rfl rfl (by kernel_rfl) (fun _ _ _ h => h) (Or.inl ⟨by rfl, ?_⟩) hHeld ?_ ?_
     rotate_left
     ·rintro w' ⟨s0, s1, s2, s3⟩
      go_simp
      with_reducible rfl
     rotate_left
     ·simp only [Act.put, List.setIfInBounds_toArray, List.set_cons_zero, List.set_cons_succ, a0D, a1b]
      rfl
     refine a4p (i := 1) (N := some 29) (bo_ 11 31) rfl rfl (by kernel_rfl) (by decide) (fun K hK => ?_); refine a3c Tryd.func51 (by kernel_rfl) rfl #[.agg #[.int .i64 x.f0, .int .i64 x.f1, .slice Ax x.f2.length cx]] (by rfl) rfl rfl (by simp only [List.map_toArray, List.map_cons, List.map_nil]; rfl) ?_
     with_reducible refine (a1q.calls x.f0 x.f1 Ax cx x.f2 fb _ (Kd.E8 HIX.out (Z8 d9h.out.bel)) HLX.out HFB.out).mono ?_
     rintro e w19 ⟨v19, rfl, ho, hb⟩; refine ⟨_, rfl, ?_⟩; have d5o := a_ (Q5 (P6 d5n.out) hb); have f1v := a_ (Q5 (P6 d5m.out) hb); have d9i := a_ ((d9h.out.below (a1K (Below.refl _ _))).below hb); have e5i := a_ ho; obtain ⟨A19, c19, e19⟩ := Kd.H6 e5i.out; subst e19; clear ho hb; refine hK.out _ _ ⟨((D8 (d5o.out) 0).trans rfl), ((D8 (d5o.out) 1).trans rfl), ((D8 (d5o.out) 2).trans rfl), ((D8 (d9i.out.box) 8).trans rfl)⟩ (fun hHeld => ?_); clear hK K; refine nm_ (some 29) ?_; refine a4p (i := 5) (N := some 33) (bo_ 11 63) rfl rfl (by kernel_rfl) (by decide) (fun K hK => ?_); refine a3c Tryd.func50 (by kernel_rfl) rfl #[.slice A19 fb.length c19, .int .u32 m, .bool Y1] (by rfl) rfl rfl (by simp only [List.map_toArray, List.map_cons, List.map_nil]; rfl) ?_
     with_reducible refine (a4K.calls k (fun _ => True) A19 c19 fb m Y1 b er _ (Kd.R_V e5i.out) HPT.out).mono ?_
     rintro e w20 ⟨v20, rfl, ho, hb⟩; refine ⟨_, rfl, ?_⟩; have e5j := X8 d5o hb; have g2D := X8 f1v hb; have f1w := a_ (d9i.out.below hb); have f1x := a_ (Kd.y9 (ok' := fun _ => True) (Kd.X3 ho d9i.out.bel.size) (fun _ _ => trivial)); obtain ⟨A20, c20, e20⟩ := Kd.H6 f1x.out; subst e20; clear ho hb; refine hK.out _ _ ⟨((D8 (e5j.out) 0).trans rfl), ((D8 (e5j.out) 1).trans rfl), ((D8 (e5j.out) 2).trans rfl), ((D8 (f1w.out.box) 8).trans rfl)⟩ (fun hHeld => ?_); clear hK K; refine nm_ (some 33) ?_; refine a3l (i := 6) (N := some 27) (bo_ 11 127) rfl rfl (by kernel_rfl) (fun _ _ _ h => h) (.inl ⟨rfl, by intro w'; go_simp; with_reducible rfl⟩) rfl ?_; refine a3l (i := 7) (N := some 34) (bo_ 11 255) rfl rfl (by kernel_rfl) (fun _ _ _ h => h) (.inl ⟨rfl, by intro w'; go_simp; with_reducible rfl⟩) rfl ?_; refine a3l (i := 8) (N := some 35) (bo_ 11 511) rfl rfl (by kernel_rfl) (fun _ _ _ h => h) (.inl ⟨rfl, by intro w'; go_simp; with_reducible rfl⟩) rfl ?_; refine a3l (i := 9) (N := some 13) (bo_ 11 1023) rfl rfl (by kernel_rfl) (fun _ _ _ h => h) (.inl ⟨rfl, by intro w'; go_simp; with_reducible rfl⟩) rfl ?_; refine a3l (i := 10) (N := some 14) (bo_ 11 2047) rfl rfl (by kernel_rfl) (fun _ _ _ h => h) (.inl ⟨rfl, by intro w'; go_simp; with_reducible rfl⟩) rfl ?_; refine a4J (by kernel_rfl) ?_

     clear d5o f1v d9i e5i d5n d5m d9h
     go_wp2_with (go_at_call 52; refine (b3e.calls A20 b.length c20 _).mono ?_; rintro e w21 ⟨rfl, hbs, hbn, hb⟩; have BS := a_ hbs; have BN := a_ hbn; have f1y := a_ (f1w.out.below hb); have g2E := X8 g2D hb; have e5k := rb_ f1x hb; clear hbs hbn hb)
     have hgd := HGD.out; have hle21 : ∀ D, D ∈ Ds → D < w21.heap.size := fun D hD => a0B (f1y.out.marks.at_ D hD).2
     have hA20 : 0 < b.length → ∃ ad_, A20 = some ad_ := fun hp => by obtain ⟨g_, cap_, hv_, _⟩ := Kd.c2E e5k.out hp; injection hv_ with hA_ _ _; exact ⟨_, hA_⟩
     have g2F : b.length ≤ c20 := (Kd.F9 e5k.out).2.1; obtain ⟨bs, hbs⟩ : ∃ q_, q_ = w20.heap.size := ⟨_, rfl⟩; have BS1 := BS.out; have BN1 := BN.out; rw [← hbs] at BS1 BN1 ⊢; obtain ⟨bn, hbn⟩ : ∃ q_, q_ = bs + 1 := ⟨_, rfl⟩; rw [← hbn] at BN1 ⊢; clear hbs hbn BS BN; refine NW.named ?_; intro T ds hT; injection hT with hT hds
     have HI := f1y.out; have BK := g2E.out; have HO := e5k.out; refine wpIn_wide.1 (wpIn_rangeFunc_ownF (F := Fence.wide) (n := 3) rfl (by omega) (gf := 70) (lb := #[.pointer (some ⟨bs, 0, none⟩), .pointer (some ⟨bn, 0, none⟩)]) ?hg trivial (Go.Proofs.enters_of Tryd.func70 (by kernel_rfl) rfl) (Chunk.stops 2 bs bn (by omega) A20 b.length c20 hA20 g2F hgd.1 w21 BS1 BN1) (fun h1 h2 k_ hk_ => (h2 k_ hk_).trans (h1 k_ hk_)) ?hKb (Below.refl _ _) (fun _ => rfl)
      (fun pre W => NW w W g5 g8 #[.int .i64 a05, .int .i64 a06, .int .i64 a07, .int .i64 a08, .string a09, .string a1a, .int .i64 a0y, .int .u32 Y7, .bool Y1] Ds (out ++ pre.map (capture_notes_write.note kind b)) ∧ W.heap[g11]? = some (.cells #[.int .i64 kind] 3 (0, 0)) ∧ Kd.R (Kd.int .u8) 5 W w.heap.size (fun _ => True) (.slice A20 b.length c20) b ∧ W.heap[bs]? = some (.cells #[.slice A20 b.length c20] 22 (0, 0)) ∧ W.heap[bn]? = some (.cells #[.int .i64 65535] 3 (0, 0)))
      (fun _ _ _ => False) ?hI (fun _ _ _ _ _ hs _ _ => hs) ⟨by simpa using HI, BK, HO, BS1, BN1⟩
      (fun x => { tmps := (T.setIfInBounds 38 (.slice (NW.pA A20 x) (NW.pn b x) (NW.pn b x))).setIfInBounds 15 (.slice (NW.pA A20 x) (NW.pn b x) (NW.pn b x)), defers := [] }) ?assign ?body ?done ?stop)
     case hg => subst hT; rfl
     case hKb =>
      intro W l o_ o' hl _ _ _ k_ hk_; have h1 := a0B BS1; have h2 := a0B BN1; exact World.putObj_heap_other (by rcases hk_ with rfl | rfl <;> omega)
     case hI =>
      rintro s_ W W' row ⟨h1, h2, h3, h4, h5⟩ hg hr; have b4c : ∀ {k_ : Nat} {c_ : Array Value} {t_ : Nat}, W.heap[k_]? = some (.cells c_ t_ (0, 0)) → W'.heap[k_]? = some (.cells c_ t_ (0, 0)) := fun hk_ => (hg.block _ (a0B hk_) (fun e_ => by obtain ⟨_, o_, ho_, hf_⟩ := hr _ e_.symm; rw [hk_] at ho_; cases ho_; cases hf_)).trans hk_
      exact ⟨h1.turn hg (fun r_ e_ => ⟨Nat.le_trans HI.bel.size (hr r_ e_).1, fun hD_ => by have := hle21 r_ hD_; have := (hr r_ e_).1; omega, (hr r_ e_).2⟩), b4c h2, Kd.y9 (Kd.b8w (Kd.a2m rfl h3) hg (fun k_ hk_ e_ => by obtain ⟨_, o_, ho_, hf_⟩ := hr _ e_.symm; obtain ⟨c_, hc_⟩ := Kd.a0L h3 k_ hk_.symm; rw [hc_] at ho_; cases ho_; cases hf_)) (fun _ _ => trivial), b4c h4, b4c h5⟩
     case assign =>
      intro l_ x_ W K_ hK_; subst hT; rw [NW.d5j]
      gi_wp2
      simp only [List.setIfInBounds_toArray, List.set_cons_zero, List.set_cons_succ] at hK_
      exact hK_
     case body =>
      rintro l_ pre x_ W ⟨hN, h11, hR, h4, h5⟩ f1A; subst hT; obtain ⟨v, hv, hn⟩ := hN.row; obtain ⟨ys, hys⟩ : ∃ q_, q_ = out ++ pre.map (capture_notes_write.note kind b) := ⟨_, rfl⟩; obtain ⟨pA, hpA⟩ : ∃ q_, q_ = NW.pA A20 x_ := ⟨_, rfl⟩; obtain ⟨pn, hpn⟩ : ∃ q_, q_ = NW.pn b x_ := ⟨_, rfl⟩; have hyl : ys.length = out.length + pre.length := by rw [hys]; simp
      have HYL := a_ hyl; have HYS := a_ hys; rw [← hys] at hn hN; rw [← hpA, ← hpn]; obtain ⟨Av, cv, ev⟩ := Kd.a4c hn; subst ev; have HFK : Aside0 (Kd.FK k58 W (fun k_ => NW.ok W k_ ∧ some k_ ≠ (.slice Av ys.length cv : Value).ownBlock) (capture_notes_write.note kind b x_) [.int .i64 kind, .int .u32 0, .slice pA pn pn]) := ⟨by
       rw [hpA, hpn]; refine b8s W _ (capture_notes_write.note kind b x_) (Nat.le_refl _) (Kd.b1e (NW.part (Kd.R_F (Kd.a2m rfl hR)) x_) (fun k_ hk_ => ?_)); obtain ⟨c_, hc_⟩ := Kd.a0L hR k_ hk_.symm; refine ⟨⟨c_, 5, .inl rfl, hc_⟩, fun e_ => ?_⟩; obtain ⟨c2_, b6Z⟩ := Kd.a13 hn k_ e_.symm; rw [hc_] at b6Z; injection b6Z with b6Z
       injection b6Z with _ b6Z
       exact absurd b6Z (by decide)⟩
      have HV := a_ hv; have HN := a_ hn; have HNW := a_ hN; have H11 := a_ h11; have HRR := a_ hR; have H4 := a_ h4; have H5 := a_ h5; have HLT := a_ f1A; have hv0 : W.cell? ⟨g8, 0, none⟩ = some (.slice Av ys.length cv) := (D8 hv 0).trans rfl; have hvf := l7 hv 0; have hk0 : W.cell? ⟨g11, 0, none⟩ = some (.int .i64 kind) := (D8 h11 0).trans rfl; clear hn hN h11 hR h4 h5 hv hyl hys hpA hpn f1A
      simp only [List.setIfInBounds_toArray, List.set_cons_zero, List.set_cons_succ]
      gi_wp2_with (gi_at_builtin; refine NW.add k58 w.heap.size rfl (.tmp 39) (.tmp 43) 54 58 (.agg #[(.int .i64 0), (.int .u32 0), (.slice none 0 0)]) 40 rfl Tryd.underlying54 info58 rfl (by decide) (by omega) (.slice Av ys.length cv) ys (capture_notes_write.note kind b x_) [.int .i64 kind, .int .u32 0, .slice pA pn pn] (NW.ok W) _ rfl rfl HFK.out (fun _ h_ => h_) HN.out HNW.out.bel.size (by have := HYL.out; have := HLT.out; have := HGD.out; omega) ?_; intro v1 w1 hn1 hg hg2; have HN1 : Aside0 (Kd.N k58 58 w1 w.heap.size (NW.ok w1) v1 (ys ++ [capture_notes_write.note kind b x_])) := ⟨Kd.U3 hn1 (fun k_ hk_ => hk_.elim (fun h_ => NW.b5o h_.1 (hg.block k_ (by obtain ⟨_, _, _, hc_⟩ := h_.1; exact a0B hc_) h_.2)) (fun e_ => by obtain ⟨c_, hc_⟩ := Kd.a13 hn1 k_ e_.symm; exact ⟨c_, 58, .inr rfl, hc_⟩))⟩; have HPU := a_ (NW.put HNW.out HV.out HN.out hg HN1.out); have HG := a_ hg; obtain ⟨A1_, c1_, e1_⟩ := Kd.a4c hn1; subst e1_; have hq0 : w1.cell? ⟨g8, 0, none⟩ = some (.slice Av ys.length cv) := (D8 HPU.out.2 0).trans rfl; have hqf := l7 HPU.out.2 0; clear hn1 hg hg2 hv0 hvf hk0)
      have hln : (ys ++ [capture_notes_write.note kind b x_]).length = ys.length + 1 := by simp
      have hpu := HPU.out.1; rw [hln] at hpu; have no : ∀ {k_ : Nat} {o_ : Obj}, W.heap[k_]? = some o_ → (∀ c_, o_ ≠ .cells c_ 58 (0, 0)) → (∀ c_, o_ ≠ .cells c_ 54 (0, 0)) → (w1.setCell ⟨g8, 0, none⟩ (.slice A1_ (ys.length + 1) c1_)).heap[k_]? = some o_ := by
       intro k_ o_ hk_ h58 h54; refine (Below.heap_setCell w1 ⟨g8, 0, none⟩ _ k_ (fun e_ => ?_)).trans ((HG.out.block k_ (a0B hk_) (fun e_ => ?_)).trans hk_)
       ·subst e_; rw [HV.out] at hk_; injection hk_ with hk_
        exact h54 _ hk_.symm
       ·obtain ⟨c_, hc_⟩ := Kd.a13 HN.out k_ e_.symm; rw [hc_] at hk_; injection hk_ with hk_
        exact h58 c_ hk_.symm
      refine ⟨(KeepsOthers.of_grownBy HG.out (fun j_ o_ ej_ hj_ => ?_)).trans (KeepsOthers.setCell _ _ _), fun k_ hk_ => ?_, ?_, ?_, ?_, ?_, ?_⟩
      ·obtain ⟨c_, hc_⟩ := Kd.a13 HN.out j_ ej_; rw [hc_] at hj_; injection hj_ with hj_
       subst hj_
       rfl
      ·rcases hk_ with rfl | rfl
       ·exact (no H4.out (fun c_ e_ => by injection e_ with _ e_; exact absurd e_ (by decide)) (fun c_ e_ => by injection e_ with _ e_; exact absurd e_ (by decide))).trans H4.out.symm
       ·exact (no H5.out (fun c_ e_ => by injection e_ with _ e_; exact absurd e_ (by decide)) (fun c_ e_ => by injection e_ with _ e_; exact absurd e_ (by decide))).trans H5.out.symm
      ·rw [List.map_append, ← List.append_assoc, ← HYS.out]; exact hpu
      ·exact no H11.out (fun c_ e_ => by injection e_ with _ e_; exact absurd e_ (by decide)) (fun c_ e_ => by injection e_ with _ e_; exact absurd e_ (by decide))
      ·refine Kd.y9 (Kd.b1b (Kd.a2m rfl HRR.out) (fun k_ hk_ _ => ?_)) (fun _ _ => trivial); obtain ⟨c_, hc_⟩ := Kd.a0L HRR.out k_ hk_.symm; exact (no hc_ (fun c_ e_ => by injection e_ with _ e_; exact absurd e_ (by decide)) (fun c_ e_ => by injection e_ with _ e_; exact absurd e_ (by decide))).trans hc_.symm
      ·exact no H4.out (fun c_ e_ => by injection e_ with _ e_; exact absurd e_ (by decide)) (fun c_ e_ => by injection e_ with _ e_; exact absurd e_ (by decide))
      ·exact no H5.out (fun c_ e_ => by injection e_ with _ e_; exact absurd e_ (by decide)) (fun c_ e_ => by injection e_ with _ e_; exact absurd e_ (by decide))
     case done =>
      rintro D xs W hD hxs ⟨hN, _, _, _, _⟩ hd; subst hT hds hxs; have HN2 : Aside0 (NW w W g5 g8 #[.int .i64 a05, .int .i64 a06, .int .i64 a07, .int .i64 a08, .string a09, .string a1a, .int .i64 a0y, .int .u32 Y7, .bool Y1] (D :: Ds) (out ++ (List.range (Chunk.count b.length)).map (capture_notes_write.note kind b))) := ⟨⟨hN.box, hN.row, hN.bel, hN.ge, List.nodup_cons.2 ⟨fun h_ => by have := hle21 D h_; omega, hN.marks.ne⟩, fun D' h_ => by
       rcases List.mem_cons.1 h_ with rfl | h_
       ·exact ⟨Nat.le_trans HI.bel.size hD, hd⟩
       ·exact hN.marks.at_ D' h_⟩⟩
      clear hN hd; have hjw : IntKind.i64.wrap ((j : Int) + 1) = ((j + 1 : Nat) : Int) := by rw [IntWalk.i64_in _ (by omega)]; omega
      go_wp2
      refine Handed.intro k1 (by omega) ?_
      go_step
      exact ⟨j + 1, D :: Ds, _, _, _, _, _, _, _, _, _, _, _, _, _, _, _, _, _, _, _, _, _, _, _, _, _, _, _, _, _, _, _, _, _, _, _, _, _, _, ⟨by omega, HN2, HGN⟩, rfl⟩
     case stop =>
      intro D c_ pre W _ _ hf _; exact hf.elim
    ·rw [if_neg hgd] at hgo
     cases hgo
  ·have c1_ : decide ((j : Int) < (l1.length : Int)) = false := df_ (by omega); have hgo := HGJ.out; rw [List.drop_of_length_le (by omega), capture_notes_write.go] at hgo; obtain rfl := oj_ hgo; obtain ⟨v, hv, hn⟩ := HI.out.row; obtain ⟨Av, cv, ev⟩ := Kd.a4c hn; subst ev; have HNR := a_ (Kd.X9 hn); have hv0 : wr.cell? ⟨g8, 0, none⟩ = some (.slice Av out.length cv) := (D8 hv 0).trans rfl; have HM := a_ HI.out.marks; have HBW := a_ HI.out.bel; clear hv hn hgo HI HGJ
   go_wp2_with (go_at_call 53; refine (dump_Put.calls k Av cv out r1 r2 _ (Kd.E8 HG0.out HBW.out) HNR.out.2.2 HNR.out.2.1 HP.out).mono ?_; rintro e w9 ⟨v0, rfl, ho, hb⟩; have HO := a_ (Kd.X3 ho HBW.out.size); have HB9 := Q8 HBW hb; have HM9 : Aside0 (NW.Marks w w9 Ds) := ⟨⟨HM.out.ne, fun D hD => ⟨(HM.out.at_ D hD).1, (hb.block D (a0B (HM.out.at_ D hD).2)).trans (HM.out.at_ D hD).2⟩⟩⟩; clear ho hb)
   show LeavesInM Fence.wide 3 _ _ _ _ _ _ _
   refine NW.leaves (w := w) (fun W' => Kd.R (Kd.int .u8) 5 W' w.heap.size (fun _ => True) v0 r1 ∧ Below w.heap.size w W') ?_ ?_ Ds w9 ⟨HO.out, HB9.out⟩ HM9.out
   ·rintro W D ⟨h1, h2⟩ hD hd; have hg := grownBy_putObj' W D (.deferred none); refine ⟨Kd.y9 (Kd.b8w (Kd.a2m rfl h1) hg (fun k_ hk_ e_ => ?_)) (fun _ _ => trivial), h2.grown hg h2.size (fun k_ e_ => by cases e_; exact hD)⟩; obtain ⟨c_, hc_⟩ := Kd.a0L h1 k_ hk_.symm; injection e_ with e_
    subst e_; rw [hd] at hc_
    cases hc_
   ·rintro W ⟨h1, h2⟩; exact ⟨_, results_tmp2 rfl _ _ _, _, rfl, h1, h2⟩

end Go.Proofs.YtgnonglkibhnhaaDoor.Print
