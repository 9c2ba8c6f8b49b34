/- The law CaptureKeeps, over numbers and lists: what is handed in stays, what is read is new memory; no conditions. -/
import Derived.Test.YtgnonglkibhnhaaDoorQCapK
import Derived.Test.YtgnonglkibhnhaaDoorF8
namespace Go.Proofs.YtgnonglkibhnhaaDoor.Pure
open Go.RowKit Go.Proofs.YtgnonglkibhnhaaDoor.Print Go.Proofs.YtgnonglkibhnhaaDoor.Q Go.Proofs.YtgnonglkibhnhaaDoorW.PrintWords Go.Proofs.YtgnonglkibhnhaaDoorW.PrintLast Go.Proofs.YtgnonglkibhnhaaDoorW.PrintMore
set_option linter.unusedVariables false
set_option linter.unusedSimpArgs false

section
variable (form c0 c1 c2 c3 : Int) (e0 e1 : ByteArray) (dir m : Int) (wide : Bool)
theorem d4R (b : List Int) (rows : List S42) {r : Bool} (hr : Ev (fun k => (a1K.f k b form c0 c1 c2 c3 e0 e1 dir m wide).bind fun t => (capture_Write.f k rows 1 c0 c1 c2 c3 e0 e1 dir m wide).bind fun z => umpirelaw11_CaptureKeeps.l1 k rows t.1 z.1 0) r) :
    ∀ (d i : Nat) (x : List Int), x.length ≤ 4000 → x.length - i = d → i ≤ x.length → Ev (fun k => umpirelaw11_CaptureKeeps.l0 k b form x rows (i : Int) c0 c1 c2 c3 e0 e1 dir m wide) r := by
  intro d
  induction d with
  | zero =>
    intro i x hx hd hi
    refine Ev.step (fun k => ?_) hr
    rw [umpirelaw11_CaptureKeeps.l0, if_neg (by omega)]
  | succ d ih =>
    intro i x hx hd hi
    have e : wrap64 ((i : Int) + 1) = ((i + 1 : Nat) : Int) := w64 (by omega) (by omega)
    refine Ev.step (fun k => ?_) (ih (i + 1) (x.set (i : Int).toNat ((rd x (i : Int) + 1) % 256)) (by rw [List.length_set]; omega) (by rw [List.length_set]; omega) (by rw [List.length_set]; omega))
    rw [umpirelaw11_CaptureKeeps.l0, if_pos (by omega), if_pos (by omega), e]
theorem d4S (rows : List S42) (hs : Ev (fun k => J8.f k rows rows) true) : ∀ (d i : Nat) (x : List Int), x.length ≤ 9000000000000000 → x.length - i = d → i ≤ x.length → Ev (fun k => umpirelaw11_CaptureKeeps.l1 k rows rows x (i : Int)) true := by
  intro d
  induction d with
  | zero =>
    intro i x hx hd hi
    refine Ev.step (f := fun k => (J8.f k rows rows).bind fun t => some t) (fun k => ?_) (Ev.bind hs (Ev.now _))
    rw [umpirelaw11_CaptureKeeps.l1, if_neg (by omega)]
  | succ d ih =>
    intro i x hx hd hi
    have e : wrap64 ((i : Int) + 1) = ((i + 1 : Nat) : Int) := w64 (by omega) (by omega)
    refine Ev.step (fun k => ?_) (ih (i + 1) (x.set (i : Int).toNat ((rd x (i : Int) + 1) % 256)) (by rw [List.length_set]; omega) (by rw [List.length_set]; omega) (by rw [List.length_set]; omega))
    rw [umpirelaw11_CaptureKeeps.l1, if_pos (by omega), if_pos (by omega), e]
end
theorem CaptureKeeps : ∀ (a0 : List Int) (a1 : Int) (a2 : Print.S25), (fun l : List Int => l.length * 1 ≤ 140737488351232 ∧ ∀ a ∈ l, (fun a : Int => (Lit.int .u8 a).wf = true) a) a0 → (fun a : Int => (Lit.int .i64 a).wf = true) a1 → (fun x : Print.S25 => (fun a : Int => (Lit.int .i64 a).wf = true) x.f0 ∧ (fun a : Int => (Lit.int .i64 a).wf = true) x.f1 ∧ (fun a : Int => (Lit.int .i64 a).wf = true) x.f2 ∧ (fun a : Int => (Lit.int .i64 a).wf = true) x.f3 ∧ (fun s : ByteArray => s.size ≤ 140737488351232) x.f4 ∧ (fun s : ByteArray => s.size ≤ 140737488351232) x.f5 ∧ (fun a : Int => (Lit.int .i64 a).wf = true) x.f6 ∧ (fun a : Int => (Lit.int .u32 a).wf = true) x.f7 ∧ (fun _ : Bool => True) x.f8) a2 → ∃ k, umpirelaw11_CaptureKeeps.f k a0 a1 a2.f0 a2.f1 a2.f2 a2.f3 a2.f4 a2.f5 a2.f6 a2.f7 a2.f8 = some true := by
  intro b form c hb0 _ hc
  obtain ⟨h0, h1⟩ := d97 hc.2.2.2.2.2.2.2.1
  have hb : Bytes b := d4T hb0.2
  have away : Ev (fun k => umpirelaw11_CaptureKeeps.j0 k b form true c.f0 c.f1 c.f2 c.f3 c.f4 c.f5 c.f6 c.f7 c.f8) true := by
    refine Ev.step (f := fun k => (umpirelaw11_awake.f k).bind fun t => (some t)) (fun k => ?_) (Ev.bind c0y (Ev.now _))
    rw [umpirelaw11_CaptureKeeps.j0, if_pos rfl]
  apply Ev.rounds
  unfold umpirelaw11_CaptureKeeps.f
  refine Ev.bind c0y ?_
  simp only [if_true]
  by_cases a : (b.length : Int) > 4000
  · simp only [a, decide_true]
    exact away
  · simp only [a, decide_false]
    obtain ⟨r, ⟨r1, r2⟩, p1, p2⟩ := c66 b hb (by omega) form c.f6 c.f7 c.f8 h0 h1 c.f0 c.f1 c.f2 c.f3 c.f4 c.f5
    have hs := d98 r.1 (by omega)
    refine Ev.step (fun k => by rw [umpirelaw11_CaptureKeeps.j0, if_neg (by decide)]) ?_
    obtain ⟨z, z1, z2⟩ := write_any c.f0 c.f1 c.f2 c.f3 c.f4 c.f5 c.f6 c.f7 c.f8 r.1 r1 r2
    refine Ev.bind (Ev.now ([] : List Int)) ?_
    refine Ev.congr (fun k => if_pos (by rw [List.length_nil]; omega)) ?_
    refine Ev.bind (Ev.now ([] ++ b : List Int)) ?_
    rw [List.nil_append]
    refine Ev.bind p1 ?_
    refine Ev.congr (fun k => if_pos rfl) ?_
    refine d4R form c.f0 c.f1 c.f2 c.f3 c.f4 c.f5 c.f6 c.f7 c.f8 b r.1 ?_ b.length 0 b (by omega) rfl (Nat.zero_le _)
    refine Ev.bind p2 (Ev.bind z2 ?_)
    exact d4S r.1 hs z.1.length 0 z.1 z1 rfl (Nat.zero_le _)
end Go.Proofs.YtgnonglkibhnhaaDoor.Pure
