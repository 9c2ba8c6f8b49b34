/- The law DumpBack, over numbers and lists: what dump.Put lays dump.Read reads as it was, and the other way round; no conditions. -/
import Derived.Test.YtnokndhppdkmdaaDoorQAllDumpBack
import Derived.Test.YtnokndhppdkmdaaDoorF5
namespace Go.Proofs.YtnokndhppdkmdaaDoor.Pure
open Go.RowKit Go.Proofs.YtnokndhppdkmdaaDoor.Print Go.Proofs.YtnokndhppdkmdaaDoor.Q Go.Proofs.YtnokndhppdkmdaaDoorW.PrintWords Go.Proofs.YtnokndhppdkmdaaDoorW.PrintLast Go.Proofs.YtnokndhppdkmdaaDoorW.PrintMore
set_option linter.unusedVariables false
set_option linter.unusedSimpArgs false

theorem back_j1 (b : List Int) (hb : Bytes b) (hl : b.length ≤ 70000) : Ev (fun k => umpirelaw10_DumpBack.j1 k b) true := by
  obtain ⟨h1, h2, h3, h4, h5⟩ := readgo_ok b.length b 0 hb (Nat.le_refl _) (Int.le_refl _)
  have hr : readgo b.length b 0 = readv b := rfl
  rw [hr] at h1 h2 h3 h4 h5
  refine Ev.step (fun k => by rw [umpirelaw10_DumpBack.j1]) ?_
  refine Ev.bind (dread_spec b hb (by omega)) ?_
  refine Ev.bind (dput_spec (readv b).1 (by omega) (fun x hx => (h1 x hx).1) (by omega)) ?_
  rw [putgo_ok _ _ h2]
  simp only [if_true, List.nil_append]
  rcases h5 with ⟨e1, e2⟩ | ⟨e1, e2, e3, e4⟩
  · rw [e2]
    have f1 : (readv b).2.1 = 0 := by rw [e1]
    have f2 : (readv b).2.2 = 0 := by rw [e1]
    simp only [f1, f2]
    refine Ev.congr (fun k => if_neg (by omega)) ?_
    refine Ev.congr (fun k => if_neg (by omega)) ?_
    simp only [beq_self_eq_true, Bool.and_self, if_true]
    exact Ev.now _
  · rw [e4]
    rw [Int.sub_zero]
    refine Ev.congr (fun k => if_neg (by omega)) ?_
    refine Ev.congr (fun k => if_neg (by omega)) ?_
    have f : ((readv b).2.1 == 0 && ((readv b).2.2 == 0)) = false := by
      rw [Bool.and_eq_false_iff]
      right
      rw [beq_eq_false_iff_ne]
      exact e1
    simp only [f, Bool.false_eq_true, if_false]
    refine Ev.congr (fun k => if_pos (by omega)) ?_
    refine Ev.congr (fun k => if_pos (by omega)) ?_
    simp only [beq_self_eq_true]
    exact Ev.now _
theorem bytesv_len (l : List Note) : (bytesv l).length ≤ tot l := by
  induction l with
  | nil => exact Nat.le_refl _
  | cons x l ih =>
    have := onev_len x.f0 x.f1 x.f2
    show (onev x.f0 x.f1 x.f2 ++ bytesv l).length ≤ x.f2.length + 5 + tot l
    rw [List.length_append]
    omega
theorem bytesv_bytes {l : List Note} (hx : ∀ x ∈ l, NoteOk x) (ha : allOk l = true) : Bytes (bytesv l) := by
  induction l with
  | nil => exact Bytes.nil
  | cons x l ih =>
    simp only [allOk, List.all_cons, Bool.and_eq_true, decide_eq_true_eq] at ha
    have h := hx x (List.mem_cons_self ..)
    exact (onev_bytes ha.1.1 h.2.1.1 h.2.2 ha.1.2).append (ih (fun y hy => hx y (List.mem_cons_of_mem _ hy)) (by simpa only [allOk, List.all_eq_true, Bool.and_eq_true, decide_eq_true_eq] using ha.2))
theorem DumpBack : ∀ (a0 : List Note) (a1 : List Int), (fun l : List Note => l.length * 40 ≤ 140737488351232 ∧ ∀ a ∈ l, (fun x : Note => (fun a : Int => (Lit.int .i64 a).wf = true) x.f0 ∧ (fun a : Int => (Lit.int .u32 a).wf = true) x.f1 ∧ (fun l : List Int => l.length * 1 ≤ 140737488351232 ∧ ∀ a ∈ l, (fun a : Int => (Lit.int .u8 a).wf = true) a) x.f2) a) a0 → (fun l : List Int => l.length * 1 ≤ 140737488351232 ∧ ∀ a ∈ l, (fun a : Int => (Lit.int .u8 a).wf = true) a) a1 → ∃ k, umpirelaw10_DumpBack.f k a0 a1 = some true := by
  intro l b hw hwb
  have hl : l.length < 140737488355328 := by omega
  have hx : ∀ x ∈ l, NoteOk x := fun x h => ⟨wf_i64 (hw.2 x h).1, wf_u32 (hw.2 x h).2.1, bytes_wf (hw.2 x h).2.2.2⟩
  have hb : Bytes b := bytes_wf hwb.2
  have aw : Ev (fun k => umpirelaw10_DumpBack.j0 k l b true) true := by
    refine Ev.step (f := fun k => (umpirelaw10_awake.f k).bind fun t => (some t)) (fun k => ?_) (Ev.bind awake_dump (Ev.now _))
    rw [umpirelaw10_DumpBack.j0, if_pos rfl]
  apply Ev.rounds
  unfold umpirelaw10_DumpBack.f
  refine Ev.bind awake_dump ?_
  simp only [if_true]
  refine Ev.bind (few_spec l hl) ?_
  cases hf : fewv l with
  | false =>
    simp only [Bool.false_eq_true, if_false]
    exact aw
  | true =>
    have ht := (tot_of_few hf).2.1
    simp only [if_true]
    by_cases hbl : (b.length : Int) > 70000
    · simp only [hbl, decide_true]
      exact aw
    · simp only [hbl, decide_false]
      refine Ev.step (fun k => by rw [umpirelaw10_DumpBack.j0, if_neg (by decide)]) ?_
      refine Ev.bind (dput_spec l hl hx (by omega)) ?_
      have hj := back_j1 b hb (by omega)
      cases ha : allOk l with
      | false =>
        have := putgo_no l [] ha
        simp only [if_neg this.2]
        exact hj
      | true =>
        rw [putgo_ok l _ ha]
        simp only [if_true, List.nil_append]
        have hlen := bytesv_len l
        refine Ev.bind (dread_spec (bytesv l) (bytesv_bytes hx ha) (by omega)) ?_
        rw [readv_bytes l hx ha]
        simp only [beq_self_eq_true, Bool.not_true, Bool.or_self, Bool.false_eq_true, if_false]
        refine Ev.bind (same_refl l (by omega)) ?_
        simp only [if_true]
        exact hj
end Go.Proofs.YtnokndhppdkmdaaDoor.Pure
