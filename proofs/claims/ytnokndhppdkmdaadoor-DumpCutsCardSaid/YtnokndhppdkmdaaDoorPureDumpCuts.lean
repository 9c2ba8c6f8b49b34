/- The law DumpCuts, over numbers and lists: notes that are cut off read as those that stand there wholly, and the end too early where the next one begins; no conditions. -/
import Derived.Test.YtnokndhppdkmdaaDoorQAllDumpCuts
import Derived.Test.YtnokndhppdkmdaaDoorF6
namespace Go.Proofs.YtnokndhppdkmdaaDoor.Pure
open Go.RowKit Go.Proofs.YtnokndhppdkmdaaDoor.Print Go.Proofs.YtnokndhppdkmdaaDoor.Q Go.Proofs.YtnokndhppdkmdaaDoorW.PrintWords Go.Proofs.YtnokndhppdkmdaaDoorW.PrintLast Go.Proofs.YtnokndhppdkmdaaDoorW.PrintMore
set_option linter.unusedVariables false
set_option linter.unusedSimpArgs false

theorem bytesv_tot (l : List Note) : (bytesv l).length ≤ tot l := by
  induction l with
  | nil => exact Nat.le_refl _
  | cons x l ih =>
    have := onev_len x.f0 x.f1 x.f2
    show (onev x.f0 x.f1 x.f2 ++ bytesv l).length ≤ x.f2.length + 5 + tot l
    rw [List.length_append]
    omega
theorem bytesv_b {l : List Note} (hx : ∀ x ∈ l, NoteOk x) (ha : allOk l = true) : Bytes (bytesv l) := by
  induction l with
  | nil => exact Bytes.nil
  | cons x l ih =>
    simp only [allOk, List.all_cons, Bool.and_eq_true, decide_eq_true_eq] at ha
    have h := hx x (List.mem_cons_self ..)
    exact (onev_bytes ha.1.1 h.2.1.1 h.2.2 ha.1.2).append (ih (fun y hy => hx y (List.mem_cons_of_mem _ hy)) (by simpa only [allOk, List.all_eq_true, Bool.and_eq_true, decide_eq_true_eq] using ha.2))
theorem cuts_l0 (l : List Note) (hx : ∀ x ∈ l, NoteOk x) (ha : allOk l = true) (hl : l.length ≤ 50) (ht : tot l ≤ 70250) (n : Nat) (hn : n < (bytesv l).length) : ∀ (d i : Nat), l.length - i = d → i ≤ l.length → (bytesv (l.take i)).length ≤ n →
    Ev (fun k => umpirelaw10_DumpCuts.l0 k l (n : Int) (cutgo l n 0).1 ((bytesv (l.take i)).length : Int) (i : Int) (cutgo l n 0).2.1 (cutgo l n 0).2.2) true := by
  intro d
  induction d with
  | zero =>
    intro i hd hi hle
    rw [List.take_of_length_le (by omega)] at hle
    omega
  | succ d ih =>
    intro i hd hi hle
    have hlt : i < l.length := by omega
    have hb := bytesv_tot l
    have hok : mayv l[i].f0 l[i].f1 l[i].f2 = true ∧ l[i].f2.length ≤ 65535 := by
      have := List.all_eq_true.1 ha l[i] (List.getElem_mem hlt)
      simpa using this
    have hcd := cutgo_drop l i n 0 hi hle
    rw [List.drop_eq_getElem_cons hlt, cutgo, Int.zero_add] at hcd
    have h1 : (l.take ((i : Int) + 1).toNat).drop (i : Int).toNat = [l[i]] := by
      rw [show ((i : Int) + 1).toNat = i + 1 by omega, Int.toNat_natCast, List.take_succ_eq_append_getElem hlt]
      rw [List.drop_append_of_le_length (by rw [List.length_take]; omega), List.drop_of_length_le (by rw [List.length_take]; omega)]
      rfl
    have hlo := onev_len l[i].f0 l[i].f1 l[i].f2
    refine Ev.step (fun k => by rw [umpirelaw10_DumpCuts.l0, if_pos (by omega), if_pos (by omega), w64 (x := (i : Int) + 1) (by omega) (by omega), if_pos (by omega), if_pos (by omega), h1]) ?_
    refine Ev.bind (dput_spec [l[i]] (by simp) (fun x h => by rw [List.mem_singleton.1 h]; exact hx _ (List.getElem_mem hlt)) (by simp only [tot]; omega)) ?_
    have hp : putgo [] [l[i]] = (onev l[i].f0 l[i].f1 l[i].f2, 0) := by
      simp only [putgo]
      rw [if_pos hok.1, if_neg (by omega)]
      rfl
    rw [hp]
    by_cases e0 : (bytesv (l.take i)).length = n
    · rw [if_pos (by omega), List.append_nil] at hcd
      rw [hcd]
      refine Ev.congr (fun k => if_pos (by omega)) ?_
      simp only [beq_self_eq_true, Bool.and_self, if_true]
      refine Ev.congr (fun k => if_pos (by omega)) ?_
      rw [Int.toNat_natCast]
      exact Ev.bind (same_refl _ (by rw [List.length_take]; omega)) (Ev.now _)
    · rw [if_neg (by omega)] at hcd
      refine Ev.congr (fun k => if_neg (by omega)) ?_
      have hnx := bytesv_next l i hlt
      have hnl := congrArg List.length hnx
      rw [List.length_append] at hnl
      dsimp only
      have hle2 : (bytesv (l.take (i + 1))).length ≤ (bytesv l).length := by
        conv => rhs; rw [← List.take_append_drop (i + 1) l]
        unfold bytesv
        rw [List.flatMap_append, List.length_append]
        omega
      rw [w64 (by omega) (by omega)]
      by_cases e1 : n - (bytesv (l.take i)).length < (onev l[i].f0 l[i].f1 l[i].f2).length
      · rw [if_pos e1, List.append_nil] at hcd
        rw [hcd]
        refine Ev.congr (fun k => if_pos (by omega)) ?_
        simp only [beq_self_eq_true, Bool.and_self, if_true]
        refine Ev.congr (fun k => if_pos (by omega)) ?_
        rw [Int.toNat_natCast]
        exact Ev.bind (same_refl _ (by rw [List.length_take]; omega)) (Ev.now _)
      · refine Ev.congr (fun k => if_neg (by omega)) ?_
        have h := ih (i + 1) (by omega) (by omega) (by omega)
        rw [hnl] at h
        exact h
theorem DumpCuts : ∀ (a0 : List Note) (a1 : Int), (fun l : List Note => l.length * 40 ≤ 140737488351232 ∧ ∀ a ∈ l, (fun x : Note => (fun a : Int => (Lit.int .i64 a).wf = true) x.f0 ∧ (fun a : Int => (Lit.int .u32 a).wf = true) x.f1 ∧ (fun l : List Int => l.length * 1 ≤ 140737488351232 ∧ ∀ a ∈ l, (fun a : Int => (Lit.int .u8 a).wf = true) a) x.f2) a) a0 → (fun a : Int => (Lit.int .u16 a).wf = true) a1 → ∃ k, umpirelaw10_DumpCuts.f k a0 a1 = some true := by
  intro l c hw hc
  have hc := wf_u16 hc
  have hl : l.length < 140737488355328 := by omega
  have hx : ∀ x ∈ l, NoteOk x := fun x h => ⟨wf_i64 (hw.2 x h).1, wf_u32 (hw.2 x h).2.1, bytes_wf (hw.2 x h).2.2.2⟩
  apply Ev.rounds
  unfold umpirelaw10_DumpCuts.f
  refine Ev.bind awake_dump ?_
  simp only [if_true]
  refine Ev.bind (few_spec l hl) ?_
  cases hf : fewv l with
  | false =>
    simp only [Bool.not_false]
    refine Ev.step (f := fun k => (umpirelaw10_awake.f k).bind fun t => (some t)) (fun k => ?_) (Ev.bind awake_dump (Ev.now _))
    rw [umpirelaw10_DumpCuts.j0, if_pos rfl]
  | true =>
    simp only [Bool.not_true]
    obtain ⟨hl50, ht, _⟩ := tot_of_few hf
    have hbl := bytesv_tot l
    refine Ev.step (fun k => by rw [umpirelaw10_DumpCuts.j0, if_neg (by decide)]) ?_
    refine Ev.bind (dput_spec l hl hx (by omega)) ?_
    cases ha : allOk l with
    | false =>
      have hno := putgo_no l [] ha
      simp only [if_neg hno.2]
      refine Ev.step (f := fun _ => some true) (fun k => ?_) (Ev.now _)
      rw [umpirelaw10_DumpCuts.j1, if_pos rfl, if_neg hno.2]
    | true =>
      rw [putgo_ok l _ ha]
      simp only [if_true, List.nil_append]
      by_cases h0 : (bytesv l).length = 0
      · have hnil : l = [] := by
          cases l with
          | nil => rfl
          | cons x l =>
            exfalso
            have : bytesv (x :: l) = onev x.f0 x.f1 x.f2 ++ bytesv l := rfl
            rw [this, List.length_append, onev_tail, List.length_cons] at h0
            omega
        subst hnil
        refine Ev.step (f := fun _ => some true) (fun k => ?_) (Ev.now _)
        rfl
      · rw [show (((bytesv l).length : Int) == 0) = false from beq_eq_false_iff_ne.2 (by omega)]
        have hm : Int.tmod (wrap64 c) ((bytesv l).length : Int) = ((c.toNat % (bytesv l).length : Nat) : Int) := by
          rw [w64 (by omega) (by omega), Int.tmod_eq_emod_of_nonneg hc.1, Int.natCast_emod, Int.toNat_of_nonneg hc.1]
        have hlt : c.toNat % (bytesv l).length < (bytesv l).length := Nat.mod_lt _ (by omega)
        generalize c.toNat % (bytesv l).length = n at hm hlt
        refine Ev.step (fun k => by rw [umpirelaw10_DumpCuts.j1, if_neg (by decide), if_neg (by omega), hm, if_pos (by omega), if_pos (by omega), Int.toNat_natCast]) ?_
        refine Ev.bind (dread_spec _ ((bytesv_b hx ha).take n) (by rw [List.length_take]; omega)) ?_
        rw [readv_cut l hx ha n (by omega)]
        exact cuts_l0 l hx ha hl50 ht n hlt l.length 0 (by omega) (by omega) (by simp [bytesv])
end Go.Proofs.YtnokndhppdkmdaaDoor.Pure
