/- The law CaptureWrites, over numbers and lists: of whatever items and form, what is written is what the document says; no conditions. -/
import Derived.Test.YtgnonglkibhnhaaDoorQCapW
import Derived.Test.YtgnonglkibhnhaaDoorF4
namespace Go.Proofs.YtgnonglkibhnhaaDoor.Pure
open Go.RowKit Go.Proofs.YtgnonglkibhnhaaDoor.Print Go.Proofs.YtgnonglkibhnhaaDoor.Q Go.Proofs.YtgnonglkibhnhaaDoorW.PrintWords Go.Proofs.YtgnonglkibhnhaaDoorW.PrintLast Go.Proofs.YtgnonglkibhnhaaDoorW.PrintMore
set_option linter.unusedVariables false
set_option linter.unusedSimpArgs false

theorem c0F (l : List S42) (hn : l.length ≤ 60) (x : List Int) (e : Int) : ∀ (d i : Nat), l.length - i = d → i ≤ l.length → Ev (fun k => umpirelaw11_CaptureWrites.l0 k l x e x e (i : Int)) true := by
  intro d
  induction d with
  | zero =>
    intro i hd hi
    refine Ev.step (f := fun _ => some true) (fun k => ?_) (Ev.now _)
    rw [umpirelaw11_CaptureWrites.l0, if_neg (by omega), if_pos rfl, beq_self_eq_true]
  | succ d ih =>
    intro i hd hi
    have hlt : i < l.length := by omega
    have e2 : wrap64 ((i : Int) + 1) = ((i + 1 : Nat) : Int) := w64 (by omega) (by omega)
    refine Ev.step (fun k => ?_) (ih (i + 1) (by omega) (by omega))
    rw [umpirelaw11_CaptureWrites.l0, if_pos (by omega), if_pos (by omega), a6n l i hlt, b0f, a6L, Option.bind_some, Option.bind_some, if_neg (by simp), e2]
theorem CaptureWrites : ∀ (a0 : List Print.S42) (a1 : Int) (a2 : Print.S25), (fun l : List Print.S42 => l.length * 40 ≤ 140737488351232 ∧ ∀ a ∈ l, (fun x : Print.S42 => (fun a : Int => (Lit.int .i64 a).wf = true) x.f0 ∧ (fun a : Int => (Lit.int .i64 a).wf = true) x.f1 ∧ (fun l : List Int => l.length * 1 ≤ 140737488351232 ∧ ∀ a ∈ l, (fun a : Int => (Lit.int .u8 a).wf = true) a) x.f2) a) a0 → (fun a : Int => (Lit.int .i64 a).wf = true) a1 → (fun x : Print.S25 => (fun a : Int => (Lit.int .i64 a).wf = true) x.f0 ∧ (fun a : Int => (Lit.int .i64 a).wf = true) x.f1 ∧ (fun a : Int => (Lit.int .i64 a).wf = true) x.f2 ∧ (fun a : Int => (Lit.int .i64 a).wf = true) x.f3 ∧ (fun s : ByteArray => s.size ≤ 140737488351232) x.f4 ∧ (fun s : ByteArray => s.size ≤ 140737488351232) x.f5 ∧ (fun a : Int => (Lit.int .i64 a).wf = true) x.f6 ∧ (fun a : Int => (Lit.int .u32 a).wf = true) x.f7 ∧ (fun _ : Bool => True) x.f8) a2 → ∃ k, umpirelaw11_CaptureWrites.f k a0 a1 a2.f0 a2.f1 a2.f2 a2.f3 a2.f4 a2.f5 a2.f6 a2.f7 a2.f8 = some true := by
  intro l form c hl _ hc
  obtain ⟨h0, h1⟩ := e6U hc.2.2.2.2.2.2.2.1
  have hb : ∀ x ∈ l, Bytes x.f2 := fun x hx => e6V (hl.2 x hx).2.2.2
  obtain ⟨b, hfew, hn⟩ := f7A l
  have away : Ev (fun k => umpirelaw11_CaptureWrites.j0 k l form true c.f0 c.f1 c.f2 c.f3 c.f4 c.f5 c.f6 c.f7 c.f8) true := by
    refine Ev.step (f := fun k => (umpirelaw11_awake.f k).bind fun t => (some t)) (fun k => ?_) (Ev.bind b7T (Ev.now _))
    rw [umpirelaw11_CaptureWrites.j0, if_pos rfl]
  apply Ev.rounds
  unfold umpirelaw11_CaptureWrites.f
  refine Ev.bind b7T ?_
  simp only [if_true]
  refine Ev.bind hfew ?_
  cases b with
  | false => exact away
  | true =>
    obtain ⟨z, z1, z2⟩ := c0G c.f0 c.f1 c.f2 c.f3 c.f4 c.f5 c.f6 c.f7 c.f8 h0 h1 form l (hn rfl) hb
    refine Ev.step (f := fun k => (capture_Write.f k l form c.f0 c.f1 c.f2 c.f3 c.f4 c.f5 c.f6 c.f7 c.f8).bind fun t => (umpireref11_Write.f k l form c.f0 c.f1 c.f2 c.f3 c.f4 c.f5 c.f6 c.f7 c.f8).bind fun u => umpirelaw11_CaptureWrites.l0 k l t.1 t.2 u.1 u.2 0) (fun k => by rw [umpirelaw11_CaptureWrites.j0, if_neg (by decide)]) ?_
    exact Ev.bind z1 (Ev.bind z2 (c0F l (hn rfl) z.1 z.2 l.length 0 rfl (Nat.zero_le _)))
end Go.Proofs.YtgnonglkibhnhaaDoor.Pure
