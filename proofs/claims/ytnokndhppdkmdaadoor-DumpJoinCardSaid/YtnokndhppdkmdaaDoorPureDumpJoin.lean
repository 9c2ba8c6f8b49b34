/- The law DumpJoin, over numbers and lists: two rows of notes, one behind the other, are laid as both; no conditions. -/
import Derived.Test.YtnokndhppdkmdaaDoorQAllDumpJoin
import Derived.Test.YtnokndhppdkmdaaDoorF7
namespace Go.Proofs.YtnokndhppdkmdaaDoor.Pure
open Go.RowKit Go.Proofs.YtnokndhppdkmdaaDoor.Print Go.Proofs.YtnokndhppdkmdaaDoor.Q Go.Proofs.YtnokndhppdkmdaaDoorW.PrintWords Go.Proofs.YtnokndhppdkmdaaDoorW.PrintLast Go.Proofs.YtnokndhppdkmdaaDoorW.PrintMore
set_option linter.unusedVariables false
set_option linter.unusedSimpArgs false

theorem join_size (l : List Int) : (strOfNums l).size = l.length := by
  have := strOf_length l
  rw [ByteArray.toList_eq] at this
  simpa using this
theorem join_str (a b : List Int) : (strOfNums (a ++ b)).toList = (strOfNums a ++ strOfNums b).toList := by
  rw [strOf_list, ByteArray.toList_eq]
  have h1 := strOf_list a
  have h2 := strOf_list b
  rw [ByteArray.toList_eq] at h1 h2
  rw [ByteArray.data_append, Array.toList_append, h1, h2, List.map_append]
theorem allOk_append (l m : List Note) : allOk (l ++ m) = (allOk l && allOk m) := by simp [allOk]
theorem bytesv_append (l m : List Note) : bytesv (l ++ m) = bytesv l ++ bytesv m := by simp [bytesv]
theorem bytesv_tt (l : List Note) : (bytesv l).length ≤ tot l := by
  induction l with
  | nil => exact Nat.le_refl _
  | cons x l ih =>
    have := onev_len x.f0 x.f1 x.f2
    show (onev x.f0 x.f1 x.f2 ++ bytesv l).length ≤ x.f2.length + 5 + tot l
    rw [List.length_append]
    omega
theorem DumpJoin : ∀ (a0 : List Note) (a1 : List Note), (fun l : List Note => l.length * 40 ≤ 140737488351232 ∧ ∀ a ∈ l, (fun x : Note => (fun a : Int => (Lit.int .i64 a).wf = true) x.f0 ∧ (fun a : Int => (Lit.int .u32 a).wf = true) x.f1 ∧ (fun l : List Int => l.length * 1 ≤ 140737488351232 ∧ ∀ a ∈ l, (fun a : Int => (Lit.int .u8 a).wf = true) a) x.f2) a) a0 → (fun l : List Note => l.length * 40 ≤ 140737488351232 ∧ ∀ a ∈ l, (fun x : Note => (fun a : Int => (Lit.int .i64 a).wf = true) x.f0 ∧ (fun a : Int => (Lit.int .u32 a).wf = true) x.f1 ∧ (fun l : List Int => l.length * 1 ≤ 140737488351232 ∧ ∀ a ∈ l, (fun a : Int => (Lit.int .u8 a).wf = true) a) x.f2) a) a1 → ∃ k, umpirelaw10_DumpJoin.f k a0 a1 = some true := by
  intro l m hw hwm
  have hl : l.length < 140737488355328 := by omega
  have hm : m.length < 140737488355328 := by omega
  have hx : ∀ x ∈ l, NoteOk x := fun x h => ⟨wf_i64 (hw.2 x h).1, wf_u32 (hw.2 x h).2.1, bytes_wf (hw.2 x h).2.2.2⟩
  have hy : ∀ x ∈ m, NoteOk x := fun x h => ⟨wf_i64 (hwm.2 x h).1, wf_u32 (hwm.2 x h).2.1, bytes_wf (hwm.2 x h).2.2.2⟩
  have aw : Ev (fun k => umpirelaw10_DumpJoin.j0 k l m true) true := by
    refine Ev.step (f := fun k => (umpirelaw10_awake.f k).bind fun t => (some t)) (fun k => ?_) (Ev.bind awake_dump (Ev.now _))
    rw [umpirelaw10_DumpJoin.j0, if_pos rfl]
  apply Ev.rounds
  unfold umpirelaw10_DumpJoin.f
  refine Ev.bind awake_dump ?_
  simp only [if_true]
  refine Ev.bind (few_spec l hl) ?_
  cases hf : fewv l with
  | false =>
    simp only [Bool.false_eq_true, if_false]
    exact aw
  | true =>
    simp only [if_true]
    refine Ev.bind (few_spec m hm) ?_
    cases hg : fewv m with
    | false =>
      simp only [Bool.not_false]
      exact aw
    | true =>
      simp only [Bool.not_true]
      obtain ⟨hl50, ht, _⟩ := tot_of_few hf
      obtain ⟨hm50, hu, _⟩ := tot_of_few hg
      refine Ev.step (fun k => by rw [umpirelaw10_DumpJoin.j0, if_neg (by decide)]) ?_
      refine Ev.bind (dput_spec l hl hx (by omega)) ?_
      refine Ev.bind (dput_spec m hm hy (by omega)) ?_
      simp only [Option.bind_some, List.nil_append, List.length_nil, Nat.zero_add]
      refine Ev.congr (fun k => if_pos (by omega)) ?_
      refine Ev.congr (fun k => if_pos (by omega)) ?_
      refine Ev.bind (dput_spec (l ++ m) (by rw [List.length_append]; omega) (fun x h => (List.mem_append.1 h).elim (hx x) (hy x)) (by rw [tot_append]; omega)) ?_
      cases ha : allOk l with
      | false =>
        have hno := putgo_no l [] ha
        have hno2 := putgo_no (l ++ m) [] (by rw [allOk_append, ha]; rfl)
        simp only [if_neg hno.2, if_neg hno2.2, hno2.1]
        exact Ev.now _
      | true =>
        rw [putgo_ok l _ ha]
        simp only [if_true]
        cases hb : allOk m with
        | false =>
          have hno := putgo_no m [] hb
          have hno2 := putgo_no (l ++ m) [] (by rw [allOk_append, ha, hb]; rfl)
          simp only [if_neg hno.2, if_neg hno2.2, hno2.1]
          exact Ev.now _
        | true =>
          rw [putgo_ok m _ hb, putgo_ok (l ++ m) _ (by rw [allOk_append, ha, hb]; rfl)]
          simp only [if_true, List.nil_append, join_size]
          have h1 := bytesv_tt l
          have h2 := bytesv_tt m
          refine Ev.congr (fun k => if_pos (by omega)) ?_
          rw [bytesv_append, join_str]
          simp only [beq_self_eq_true]
          exact Ev.now _
end Go.Proofs.YtnokndhppdkmdaaDoor.Pure
