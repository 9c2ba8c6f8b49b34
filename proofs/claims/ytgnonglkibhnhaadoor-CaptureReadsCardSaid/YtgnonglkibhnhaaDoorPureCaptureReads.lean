/- The law CaptureReads, over numbers and lists: of whatever bytes, format and config the program and the document read the same; no conditions. -/
import Derived.Test.YtgnonglkibhnhaaDoorQCapR
import Derived.Test.YtgnonglkibhnhaaDoorF3
namespace Go.Proofs.YtgnonglkibhnhaaDoor.Pure
open Go.RowKit Go.Proofs.YtgnonglkibhnhaaDoor.Print Go.Proofs.YtgnonglkibhnhaaDoor.Q Go.Proofs.YtgnonglkibhnhaaDoorW.PrintWords Go.Proofs.YtgnonglkibhnhaaDoorW.PrintLast Go.Proofs.YtgnonglkibhnhaaDoorW.PrintMore
set_option linter.unusedVariables false
set_option linter.unusedSimpArgs false

theorem CaptureReads : ∀ (a0 : List Int) (a1 : Int) (a2 : Print.S25), (fun l : List Int => l.length * 1 ≤ 140737488351232 ∧ ∀ a ∈ l, (fun a : Int => (Lit.int .u8 a).wf = true) a) a0 → (fun a : Int => (Lit.int .i64 a).wf = true) a1 → (fun x : Print.S25 => (fun a : Int => (Lit.int .i64 a).wf = true) x.f0 ∧ (fun a : Int => (Lit.int .i64 a).wf = true) x.f1 ∧ (fun a : Int => (Lit.int .i64 a).wf = true) x.f2 ∧ (fun a : Int => (Lit.int .i64 a).wf = true) x.f3 ∧ (fun s : ByteArray => s.size ≤ 140737488351232) x.f4 ∧ (fun s : ByteArray => s.size ≤ 140737488351232) x.f5 ∧ (fun a : Int => (Lit.int .i64 a).wf = true) x.f6 ∧ (fun a : Int => (Lit.int .u32 a).wf = true) x.f7 ∧ (fun _ : Bool => True) x.f8) a2 → ∃ k, umpirelaw11_CaptureReads.f k a0 a1 a2.f0 a2.f1 a2.f2 a2.f3 a2.f4 a2.f5 a2.f6 a2.f7 a2.f8 = some true := by
  intro b form c hb0 _ hc
  obtain ⟨h0, h1⟩ := d8z hc.2.2.2.2.2.2.2.1
  have hb : Bytes b := d3x hb0.2
  have away : Ev (fun k => umpirelaw11_CaptureReads.j0 k b form true c.f0 c.f1 c.f2 c.f3 c.f4 c.f5 c.f6 c.f7 c.f8) true := by
    refine Ev.step (f := fun k => (umpirelaw11_awake.f k).bind fun t => (some t)) (fun k => ?_) (Ev.bind b9N (Ev.now _))
    rw [umpirelaw11_CaptureReads.j0, if_pos rfl]
  apply Ev.rounds
  unfold umpirelaw11_CaptureReads.f
  refine Ev.bind b9N ?_
  simp only [if_true]
  by_cases a : (b.length : Int) > 4000
  · simp only [a, decide_true]
    exact away
  · simp only [a, decide_false]
    obtain ⟨r, ⟨r1, r2⟩, p1, p2⟩ := c54 b hb (by omega) form c.f6 c.f7 c.f8 h0 h1 c.f0 c.f1 c.f2 c.f3 c.f4 c.f5
    have hs := d8A r.1 (by omega)
    refine Ev.step (fun k => by rw [umpirelaw11_CaptureReads.j0, if_neg (by decide)]) ?_
    refine Ev.bind p1 (Ev.bind p2 (Ev.bind hs ?_))
    refine Ev.congr (fun k => if_pos rfl) ?_
    refine Ev.congr (f := fun _ => some true) (fun k => ?_) (Ev.now _)
    rw [beq_self_eq_true, beq_self_eq_true]
    rfl
end Go.Proofs.YtgnonglkibhnhaaDoor.Pure
