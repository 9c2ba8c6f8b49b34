/- The law CaptureOrders, over numbers and lists: records of either order, with any numbers, read as items; without the byte ahead, in the direction that is told; no conditions. -/
import Derived.Test.YtgnonglkibhnhaaDoorQCapO
import Derived.Test.YtgnonglkibhnhaaDoorF6
namespace Go.Proofs.YtgnonglkibhnhaaDoor.Pure
open Go.RowKit Go.Proofs.YtgnonglkibhnhaaDoor.Print Go.Proofs.YtgnonglkibhnhaaDoor.Q Go.Proofs.YtgnonglkibhnhaaDoorW.PrintWords Go.Proofs.YtgnonglkibhnhaaDoorW.PrintLast Go.Proofs.YtgnonglkibhnhaaDoorW.PrintMore
set_option linter.unusedVariables false
set_option linter.unusedSimpArgs false

section
variable (l : List S42) (t : Int) (big nano : Bool) (s lk : Int) (c0 c1 c2 c3 : Int) (e0 e1 : ByteArray) (dir m : Int) (wide : Bool)
/-- Behind the first loop. -/
def e5r (k : Nat) (X : List S51) : Option Bool := (umpireref09_Put.f k big nano s 204 X).bind fun b => ((capture_Read.f k b.1 1 c0 c1 c2 c3 e0 e1 dir m wide).bind fun u => (if (!(u.2.1 == 0) || (!(u.2.2 == 0))) = true then (umpirelaw11_CaptureOrders.j3 k l X true big nano s 204 c0 c1 c2 c3 e0 e1 dir m wide) else ((H8.f k u.1 l).bind fun v => (umpirelaw11_CaptureOrders.j3 k l X (!v) big nano s 204 c0 c1 c2 c3 e0 e1 dir m wide))))
theorem c5Y (r : Bool) : ∀ (B A : List S51), A.length + B.length ≤ 1000 → (∀ x ∈ B, x.f3.length ≠ 0) → Ev (fun k => e5r l big nano s c0 c1 c2 c3 e0 e1 dir m wide k (A ++ B.map (timed t))) r →
    Ev (fun k => umpirelaw11_CaptureOrders.l0 k l t (A ++ B) (A.length : Int) big nano s lk c0 c1 c2 c3 e0 e1 dir m wide) r
  | [], A, hn, hB, h => by
    rw [List.map_nil, List.append_nil] at h
    rw [List.append_nil]
    refine Ev.step (fun k => ?_) h
    rw [umpirelaw11_CaptureOrders.l0, if_neg (by omega)]
    rfl
  | x :: B, A, hn, hB, h => by
    have hx := hB x (by simp)
    rw [List.length_cons] at hn
    have g1 : (A.length : Int) < ((A ++ x :: B).length : Int) := by rw [List.length_append, List.length_cons]; omega
    have g2 : (0 : Int) ≤ (A.length : Int) := by omega
    have g3 : ¬ ((x.f3.length : Int) = 0) := by omega
    have e : wrap64 ((A.length : Int) + 1) = ((A ++ [timed t x]).length : Int) := by
      rw [List.length_append, List.length_singleton]
      exact w64 (by omega) (by omega)
    have next := c5Y r B (A ++ [timed t x]) (by rw [List.length_append, List.length_singleton]; omega) (fun y hy => hB y (by simp [hy])) (by rw [List.append_assoc, List.singleton_append]; exact h)
    rw [List.append_assoc, List.singleton_append] at next
    refine Ev.step (fun k => ?_) next
    rw [umpirelaw11_CaptureOrders.l0, if_pos g1, if_pos g2, b7L, if_neg g3, Int.toNat_natCast, set_mid, Option.bind_some, b7L, set_mid, Option.bind_some, b7L, set_mid, e]
    rfl
/-- Behind the second loop. -/
def e5s (k : Nat) (X : List S51) (Y : List S42) : Option Bool := (umpireref09_Put.f k big nano s 50 X).bind fun b => ((capture_Read.f k b.1 1 c0 c1 c2 c3 e0 e1 dir m wide).bind fun u => (if (u.2.1 == 0 && (u.2.2 == 0)) = true then ((H8.f k u.1 Y).bind fun v => (some v)) else (none)))
theorem c0I (r : Bool) : ∀ (B A : List S51) (D C : List S42), A.length = C.length → B.length = D.length → A.length + B.length ≤ 1000 → (∀ x ∈ B, x.f3.length ≠ 0) → Ev (fun k => e5s big nano s c0 c1 c2 c3 e0 e1 dir m wide k (A ++ B.map a8Y) (C ++ D.map (turned dir))) r →
    Ev (fun k => umpirelaw11_CaptureOrders.l1 k (A ++ B) (C ++ D) (A.length : Int) big nano s lk c0 c1 c2 c3 e0 e1 dir m wide) r
  | [], A, [], C, hac, _, hn, hB, h => by
    rw [List.map_nil, List.map_nil, List.append_nil, List.append_nil] at h
    rw [List.append_nil, List.append_nil]
    refine Ev.step (fun k => ?_) h
    rw [umpirelaw11_CaptureOrders.l1, if_neg (by omega)]
    rfl
  | [], A, y :: D, C, _, hbd, _, _, _ => by simp at hbd
  | x :: B, A, [], C, _, hbd, _, _, _ => by simp at hbd
  | x :: B, A, y :: D, C, hac, hbd, hn, hB, h => by
    have hx := hB x (by simp)
    rw [List.length_cons] at hn
    rw [List.length_cons, List.length_cons] at hbd
    have g1 : (A.length : Int) < ((A ++ x :: B).length : Int) := by rw [List.length_append, List.length_cons]; omega
    have g2 : (0 : Int) ≤ (A.length : Int) := by omega
    have g3 : 1 ≤ (x.f3.length : Int) := by omega
    have g4 : (A.length : Int) < ((C ++ y :: D).length : Int) := by rw [List.length_append, List.length_cons]; omega
    have e : wrap64 ((A.length : Int) + 1) = ((A ++ [a8Y x]).length : Int) := by
      rw [List.length_append, List.length_singleton]
      exact w64 (by omega) (by omega)
    have e2 : (C ++ y :: D).set A.length (turned dir y) = C ++ turned dir y :: D := by rw [hac, set_mid]
    have e3 : F7 (C ++ y :: D) (A.length : Int) = y := by rw [hac, e2O]
    have next := c0I r B (A ++ [a8Y x]) D (C ++ [turned dir y]) (by rw [List.length_append, List.length_append, List.length_singleton, List.length_singleton]; omega) (by omega) (by rw [List.length_append, List.length_singleton]; omega) (fun z hz => hB z (by simp [hz])) (by rw [List.append_assoc, List.append_assoc, List.singleton_append, List.singleton_append]; exact h)
    rw [List.append_assoc, List.append_assoc, List.singleton_append, List.singleton_append] at next
    refine Ev.step (fun k => ?_) next
    rw [umpirelaw11_CaptureOrders.l1, if_pos g1, if_pos g2, b7L, if_pos g3, if_pos g4, Int.toNat_natCast, set_mid, e3, e]
    rw [show ((C ++ y :: D).set A.length (⟨dir, y.f1, y.f2⟩ : S42)) = C ++ turned dir y :: D from e2]
    rfl
end
theorem CaptureOrders : ∀ (a0 : List Print.S42) (a1 : Print.S46) (a2 : Int) (a3 : Print.S25), (fun l : List Print.S42 => l.length * 40 ≤ 140737488351232 ∧ ∀ a ∈ l, (fun x : Print.S42 => (fun a : Int => (Lit.int .i64 a).wf = true) x.f0 ∧ (fun a : Int => (Lit.int .i64 a).wf = true) x.f1 ∧ (fun l : List Int => l.length * 1 ≤ 140737488351232 ∧ ∀ a ∈ l, (fun a : Int => (Lit.int .u8 a).wf = true) a) x.f2) a) a0 → (fun x : Print.S46 => (fun _ : Bool => True) x.f0 ∧ (fun _ : Bool => True) x.f1 ∧ (fun a : Int => (Lit.int .u32 a).wf = true) x.f2 ∧ (fun a : Int => (Lit.int .u32 a).wf = true) x.f3) a1 → (fun a : Int => (Lit.int .u32 a).wf = true) a2 → (fun x : Print.S25 => (fun a : Int => (Lit.int .i64 a).wf = true) x.f0 ∧ (fun a : Int => (Lit.int .i64 a).wf = true) x.f1 ∧ (fun a : Int => (Lit.int .i64 a).wf = true) x.f2 ∧ (fun a : Int => (Lit.int .i64 a).wf = true) x.f3 ∧ (fun s : ByteArray => s.size ≤ 140737488351232) x.f4 ∧ (fun s : ByteArray => s.size ≤ 140737488351232) x.f5 ∧ (fun a : Int => (Lit.int .i64 a).wf = true) x.f6 ∧ (fun a : Int => (Lit.int .u32 a).wf = true) x.f7 ∧ (fun _ : Bool => True) x.f8) a3 → ∃ k, umpirelaw11_CaptureOrders.f k a0 a1.f0 a1.f1 a1.f2 a1.f3 a2 a3.f0 a3.f1 a3.f2 a3.f3 a3.f4 a3.f5 a3.f6 a3.f7 a3.f8 = some true := by
  intro l a t c hl ha ht hcw
  have hs := d1x ha.2.2.1
  have ht := d1x ht
  have hb : ∀ x ∈ l, Bytes x.f2 := fun x hx => e2P (hl.2 x hx).2.2.2
  obtain ⟨b, hfew, hc⟩ := d2q l
  have away : Ev (fun k => umpirelaw11_CaptureOrders.j0 k l t true a.f0 a.f1 a.f2 a.f3 c.f0 c.f1 c.f2 c.f3 c.f4 c.f5 c.f6 c.f7 c.f8) true := by
    refine Ev.step (f := fun k => (umpirelaw11_awake.f k).bind fun t => (some t)) (fun k => ?_) (Ev.bind c0J (Ev.now _))
    rw [umpirelaw11_CaptureOrders.j0, if_pos rfl]
  apply Ev.rounds
  unfold umpirelaw11_CaptureOrders.f
  refine Ev.bind c0J ?_
  simp only [if_true]
  refine Ev.bind hfew ?_
  cases b with
  | false => exact away
  | true =>
    have hn := hc rfl
    refine Ev.step (fun k => by rw [umpirelaw11_CaptureOrders.j0, if_neg (by decide)]) ?_
    by_cases hm : ∀ x ∈ l, a4X x = true
    · have hok : ∀ x ∈ l, a4X x = true ∧ Bytes x.f2 := fun x hx => ⟨hm x hx, hb x hx⟩
      have f9c := b0R l hn hok
      have hcn := a8Z l 0 hm
      have hrl := b0S l 0
      have hne : ∀ x ∈ a0U 0 l, x.f3.length ≠ 0 := by
        intro r hr
        obtain ⟨j, x, hx, rfl, hj⟩ := b5M l 0 r hr
        show (a0l x).length + 1 ≠ 0
        omega
      have hft := c7Y t ht (a0U 0 l) f9c
      have hfb := c5Z _ hft
      have hct := c7Z t (a0U 0 l)
      have hcb := c52 ((a0U 0 l).map (timed t))
      have hlt : ((a0U 0 l).map (timed t)).length ≤ 60 := by rw [List.length_map]; omega
      have hlb : (((a0U 0 l).map (timed t)).map a8Y).length ≤ 60 := by rw [List.length_map]; exact hlt
      have hg1 := c54 t c.f6 l 0 [] hok (by rw [List.length_nil]; omega)
      have hg2 := c0K t c.f6 l 0 [] hok (by rw [List.length_nil]; omega)
      rw [List.nil_append] at hg1 hg2
      have hp1 := c55 a.f0 a.f1 a.f2 204 _ hs (by omega) hft (by omega) (by omega)
      have hp2 := c55 a.f0 a.f1 a.f2 50 _ hs (by omega) hfb (by omega) (by omega)
      have hr1 := c56 a.f0 a.f1 a.f2 204 c.f6 _ l hs (.inl rfl) hft (by omega) hg1
      have hr2 := c56 a.f0 a.f1 a.f2 50 c.f6 _ (l.map (turned c.f6)) hs (.inr rfl) hfb (by omega) hg2
      have hr1' : Ev (fun k => capture_Read.f k (a1k a.f0 a.f1 a.f2 204 ++ (((a0U 0 l).map (timed t)).map (a3T a.f0)).flatten) 1 c.f0 c.f1 c.f2 c.f3 c.f4 c.f5 c.f6 c.f7 c.f8) (l, 0, 0) := by
        refine Ev.congr (fun k => ?_) hr1
        unfold capture_Read.f
        rw [if_pos rfl]
      have hr2' : Ev (fun k => capture_Read.f k (a1k a.f0 a.f1 a.f2 50 ++ ((((a0U 0 l).map (timed t)).map a8Y).map (a3T a.f0)).flatten) 1 c.f0 c.f1 c.f2 c.f3 c.f4 c.f5 c.f6 c.f7 c.f8) (l.map (turned c.f6), 0, 0) := by
        refine Ev.congr (fun k => ?_) hr2
        unfold capture_Read.f
        rw [if_pos rfl]
      have hs1 := b3C l (by omega)
      have hs2 := b3C (l.map (turned c.f6)) (by rw [List.length_map]; omega)
      have hlz : ((((a0U 0 l).length : Int) != (l.length : Int))) = false := by rw [hrl]; simp
      refine Ev.bind (b5N l hn hok c.f0 c.f1 c.f2 c.f3 c.f4 c.f5 c.f6 c.f7 c.f8).1 ?_
      simp only [if_true]
      refine Ev.bind (b9n l hn hok) ?_
      simp only [if_true, hlz]
      refine Ev.step (fun k => by rw [umpirelaw11_CaptureOrders.j1, if_neg (by decide)]) ?_
      refine c5Y l t a.f0 a.f1 a.f2 a.f3 c.f0 c.f1 c.f2 c.f3 c.f4 c.f5 c.f6 c.f7 c.f8 true (a0U 0 l) [] (by rw [List.length_nil]; omega) hne ?_
      rw [List.nil_append]
      unfold e5r
      refine Ev.bind hp1 (Ev.bind hr1' ?_)
      refine Ev.congr (fun k => if_neg (by simp)) ?_
      refine Ev.bind hs1 ?_
      refine Ev.step (fun k => by rw [umpirelaw11_CaptureOrders.j3, if_neg (by decide)]) ?_
      refine Ev.bind (Ev.now ([] : List S42)) ?_
      refine Ev.congr (fun k => if_pos (by rw [List.length_nil]; omega)) ?_
      refine c0I a.f0 a.f1 a.f2 204 c.f0 c.f1 c.f2 c.f3 c.f4 c.f5 c.f6 c.f7 c.f8 true ((a0U 0 l).map (timed t)) [] l [] rfl (by rw [List.length_map]; exact hrl) (by rw [List.length_nil]; omega) ?_ ?_
      · intro x hx
        obtain ⟨r0, h0, rfl⟩ := List.mem_map.1 hx
        exact hne r0 h0
      · rw [List.nil_append, List.nil_append]
        unfold e5s
        refine Ev.bind hp2 (Ev.bind hr2' ?_)
        refine Ev.congr (fun k => if_pos (by simp)) ?_
        exact Ev.bind hs2 (Ev.now _)
    · have hbad : ∃ x ∈ l, a4X x = false := by
        refine Classical.byContradiction fun hh => hm fun x hx => ?_
        cases e : a4X x with
        | true => rfl
        | false => exact absurd ⟨x, hx, e⟩ hh
      refine Ev.congr (f := fun _ => some true) (fun k => ?_) (Ev.now _)
      rw [c0L 1 (.inl rfl) l hbad, Option.bind_some]
      rfl
end Go.Proofs.YtgnonglkibhnhaaDoor.Pure
