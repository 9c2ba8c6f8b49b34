/- The law DumpKeeps, over numbers and lists: what dump.Read answers does not change with the bytes that were handed in, nor with what is put of it; no conditions. -/
import Derived.Test.YtnokndhppdkmdaaDoorQAllDumpKeeps
import Derived.Test.YtnokndhppdkmdaaDoorF8
namespace Go.Proofs.YtnokndhppdkmdaaDoor.Pure
open Go.RowKit Go.Proofs.YtnokndhppdkmdaaDoor.Print Go.Proofs.YtnokndhppdkmdaaDoor.Q Go.Proofs.YtnokndhppdkmdaaDoorW.PrintWords Go.Proofs.YtnokndhppdkmdaaDoorW.PrintLast Go.Proofs.YtnokndhppdkmdaaDoorW.PrintMore
set_option linter.unusedVariables false
set_option linter.unusedSimpArgs false

theorem keeps_l1 (l : List Note) (hl : l.length < 4611686018427387904) : ∀ (d : Nat) (y : List Int) (i : Nat), y.length < 4611686018427387904 → y.length - i = d → i ≤ y.length → Ev (fun k => umpirelaw10_DumpKeeps.l1 k l l y (i : Int)) true := by
  intro d
  induction d with
  | zero =>
    intro y i hy hd hi
    refine Ev.step (fun k => by rw [umpirelaw10_DumpKeeps.l1, if_neg (by omega)]) ?_
    exact Ev.bind (same_refl l hl) (Ev.now _)
  | succ d ih =>
    intro y i hy hd hi
    refine Ev.step (fun k => by rw [umpirelaw10_DumpKeeps.l1, if_pos (by omega), if_pos (by omega), w64 (by omega) (by omega)]) ?_
    exact ih _ (i + 1) (by rw [List.length_set]; exact hy) (by rw [List.length_set]; omega) (by rw [List.length_set]; omega)
theorem keeps_l0 (b : List Int) (hb : Bytes b) (hl : b.length ≤ 70000) : ∀ (d : Nat) (y : List Int) (i : Nat), y.length = b.length → y.length - i = d → i ≤ y.length → Ev (fun k => umpirelaw10_DumpKeeps.l0 k b y (readv b).1 (i : Int)) true := by
  obtain ⟨h1, h2, h3, h4, _⟩ := readgo_ok b.length b 0 hb (Nat.le_refl _) (Int.le_refl _)
  have hr : readgo b.length b 0 = readv b := rfl
  rw [hr] at h1 h2 h3 h4
  intro d
  induction d with
  | zero =>
    intro y i hy hd hi
    refine Ev.step (fun k => by rw [umpirelaw10_DumpKeeps.l0, if_neg (by omega)]) ?_
    refine Ev.bind (rread_spec b hb (by omega)) ?_
    refine Ev.bind (dput_spec (readv b).1 (by omega) (fun x hx => (h1 x hx).1) (by omega)) ?_
    rw [putgo_ok _ _ h2]
    have hlen : (bytesv (readv b).1).length ≤ tot (readv b).1 := by
      generalize (readv b).1 = m
      induction m with
      | nil => exact Nat.le_refl _
      | cons x l ih =>
        have := onev_len x.f0 x.f1 x.f2
        show (onev x.f0 x.f1 x.f2 ++ bytesv l).length ≤ x.f2.length + 5 + tot l
        rw [List.length_append]
        omega
    simp only [List.nil_append]
    exact keeps_l1 (readv b).1 (by omega) _ (bytesv (readv b).1) 0 (by omega) rfl (by omega)
  | succ d ih =>
    intro y i hy hd hi
    refine Ev.step (fun k => by rw [umpirelaw10_DumpKeeps.l0, if_pos (by omega), if_pos (by omega), w64 (by omega) (by omega)]) ?_
    exact ih _ (i + 1) (by rw [List.length_set]; exact hy) (by rw [List.length_set]; omega) (by rw [List.length_set]; omega)
theorem DumpKeeps : ∀ (a0 : List Int), (fun l : List Int => l.length * 1 ≤ 140737488351232 ∧ ∀ a ∈ l, (fun a : Int => (Lit.int .u8 a).wf = true) a) a0 → ∃ k, umpirelaw10_DumpKeeps.f k a0 = some true := by
  intro b hwb
  have hb : Bytes b := bytes_wf hwb.2
  apply Ev.rounds
  unfold umpirelaw10_DumpKeeps.f
  refine Ev.bind awake_dump ?_
  simp only [if_true]
  by_cases hbl : (b.length : Int) > 70000
  · simp only [hbl, decide_true]
    refine Ev.step (f := fun k => (umpirelaw10_awake.f k).bind fun t => (some t)) (fun k => ?_) (Ev.bind awake_dump (Ev.now _))
    rw [umpirelaw10_DumpKeeps.j0, if_pos rfl]
  · simp only [hbl, decide_false]
    refine Ev.step (fun k => by rw [umpirelaw10_DumpKeeps.j0, if_neg (by decide)]) ?_
    simp only [Option.bind_some, List.nil_append, List.length_nil, Nat.zero_add]
    refine Ev.congr (fun k => if_pos (by omega)) ?_
    refine Ev.bind (dread_spec b hb (by omega)) ?_
    simp only [if_true]
    exact keeps_l0 b hb (by omega) _ b 0 rfl rfl (by omega)
end Go.Proofs.YtnokndhppdkmdaaDoor.Pure
