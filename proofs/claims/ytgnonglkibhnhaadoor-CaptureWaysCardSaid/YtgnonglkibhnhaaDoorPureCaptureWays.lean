/- The law CaptureWays, over numbers and lists: items that are written are read as they were, by either form; no conditions. -/
import Derived.Test.YtgnonglkibhnhaaDoorQCap
import Derived.Test.YtgnonglkibhnhaaDoorF5
namespace Go.Proofs.YtgnonglkibhnhaaDoor.Pure
open Go.RowKit Go.Proofs.YtgnonglkibhnhaaDoor.Print Go.Proofs.YtgnonglkibhnhaaDoor.Q Go.Proofs.YtgnonglkibhnhaaDoorW.PrintWords Go.Proofs.YtgnonglkibhnhaaDoorW.PrintLast Go.Proofs.YtgnonglkibhnhaaDoorW.PrintMore
set_option linter.unusedVariables false
set_option linter.unusedSimpArgs false

theorem ways_loop (l : List S42) (hn : l.length ≤ 60) (hb : ∀ x ∈ l, Bytes x.f2) (a0 a1 a2 a3 : Int) (s0 s1 : ByteArray) (dir m : Int) (wide : Bool) (h0 : 0 ≤ m) (h1 : m < 4294967296) : ∀ (d form : Nat), 3 - form = d → 1 ≤ form → form ≤ 3 →
    Ev (fun k => umpirelaw11_CaptureWays.l0 k l (form : Int) a0 a1 a2 a3 s0 s1 dir m wide) true := by
  intro d
  induction d with
  | zero =>
    intro form hd hf1 hf2
    refine Ev.step (f := fun _ => some true) (fun k => ?_) (Ev.now _)
    rw [umpirelaw11_CaptureWays.l0, if_neg (by omega)]
  | succ d ih =>
    intro form hd hf1 hf2
    have hform : ((form : Nat) : Int) = 1 ∨ ((form : Nat) : Int) = 2 := by omega
    refine Ev.step (fun k => by rw [umpirelaw11_CaptureWays.l0, if_pos (by omega)]) ?_
    by_cases hm : ∀ x ∈ l, mayc x = true
    · obtain ⟨b, hw, hr⟩ := write_spec (form : Int) hform l hn (fun x hx => ⟨hm x hx, hb x hx⟩) a0 a1 a2 a3 s0 s1 dir m wide h0 h1
      refine Ev.bind hw ?_
      simp only [if_true]
      refine Ev.bind hr ?_
      refine Ev.congr (fun k => if_neg (by simp)) ?_
      refine Ev.bind (samec_refl l (by omega)) ?_
      refine Ev.congr (fun k => if_pos rfl) ?_
      have e : wrap64 ((form : Int) + 1) = ((form + 1 : Nat) : Int) := w64 (by omega) (by omega)
      rw [e]
      exact ih (form + 1) (by omega) (by omega) (by omega)
    · have hbad : ∃ x ∈ l, mayc x = false := by
        refine Classical.byContradiction fun hh => hm fun x hx => ?_
        cases e : mayc x with
        | true => rfl
        | false => exact absurd ⟨x, hx, e⟩ hh
      refine Ev.congr (f := fun _ => some true) (fun k => ?_) (Ev.now _)
      rw [write_bad (form : Int) hform l hbad, Option.bind_some]
      rfl
theorem CaptureWays : ∀ (a0 : List Print.S42) (a1 : Print.S25), (fun l : List Print.S42 => l.length * 40 ≤ 140737488351232 ∧ ∀ a ∈ l, (fun x : Print.S42 => (fun a : Int => (Lit.int .i64 a).wf = true) x.f0 ∧ (fun a : Int => (Lit.int .i64 a).wf = true) x.f1 ∧ (fun l : List Int => l.length * 1 ≤ 140737488351232 ∧ ∀ a ∈ l, (fun a : Int => (Lit.int .u8 a).wf = true) a) x.f2) a) a0 → (fun x : Print.S25 => (fun a : Int => (Lit.int .i64 a).wf = true) x.f0 ∧ (fun a : Int => (Lit.int .i64 a).wf = true) x.f1 ∧ (fun a : Int => (Lit.int .i64 a).wf = true) x.f2 ∧ (fun a : Int => (Lit.int .i64 a).wf = true) x.f3 ∧ (fun s : ByteArray => s.size ≤ 140737488351232) x.f4 ∧ (fun s : ByteArray => s.size ≤ 140737488351232) x.f5 ∧ (fun a : Int => (Lit.int .i64 a).wf = true) x.f6 ∧ (fun a : Int => (Lit.int .u32 a).wf = true) x.f7 ∧ (fun _ : Bool => True) x.f8) a1 → ∃ k, umpirelaw11_CaptureWays.f k a0 a1.f0 a1.f1 a1.f2 a1.f3 a1.f4 a1.f5 a1.f6 a1.f7 a1.f8 = some true := by
  intro l c hl hc
  obtain ⟨h0, h1⟩ := conf_wf hc.2.2.2.2.2.2.2.1
  have hb : ∀ x ∈ l, Bytes x.f2 := fun x hx => data_wf (hl.2 x hx).2.2.2
  obtain ⟨b, hfew, hc⟩ := fewc_spec l
  have away : Ev (fun k => umpirelaw11_CaptureWays.j0 k l true c.f0 c.f1 c.f2 c.f3 c.f4 c.f5 c.f6 c.f7 c.f8) true := by
    refine Ev.step (f := fun k => (umpirelaw11_awake.f k).bind fun t => (some t)) (fun k => ?_) (Ev.bind awake_cap (Ev.now _))
    rw [umpirelaw11_CaptureWays.j0, if_pos rfl]
  apply Ev.rounds
  unfold umpirelaw11_CaptureWays.f
  refine Ev.bind awake_cap ?_
  simp only [if_true]
  refine Ev.bind hfew ?_
  cases b with
  | false => exact away
  | true =>
    refine Ev.step (fun k => by rw [umpirelaw11_CaptureWays.j0, if_neg (by decide)]) ?_
    exact ways_loop l (hc rfl) hb c.f0 c.f1 c.f2 c.f3 c.f4 c.f5 c.f6 c.f7 c.f8 h0 h1 2 1 rfl (by omega) (by omega)
end Go.Proofs.YtgnonglkibhnhaaDoor.Pure
