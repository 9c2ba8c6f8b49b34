/- The law TermsKeeps, over numbers and lists. -/
import Derived.Test.YtnjimecjpnjojaaQAllTermsKeeps
import Derived.Test.YtnjimecjpnjojaaF14
namespace Go.Proofs.Ytnjimecjpnjojaa.Pure
open Go.RowKit Go.Proofs.Ytnjimecjpnjojaa.Print Go.Proofs.Ytnjimecjpnjojaa.Q Go.Proofs.YtnjimecjpnjojaaW.PrintWords Go.Proofs.YtnjimecjpnjojaaW.PrintLast Go.Proofs.YtnjimecjpnjojaaW.PrintMore
set_option linter.unusedVariables false
theorem keeps_loop (l : List Opt) (h : Opts l) (hm : l.length ≤ 50) (hr : Ev (fun k => umpirelaw14_TermsKeeps.rest k l l) true) (d : Nat) : ∀ i : Nat, l.length - i = d → i ≤ l.length → Ev (fun k => umpirelaw14_TermsKeeps.l0 k l (l.take i) (i : Int)) true := by
  induction d with
  | zero =>
    intro i hd hi
    have e : l.take i = l := List.take_of_length_le (by omega)
    rw [e]
    exact Ev.step (fun k => by rw [umpirelaw14_TermsKeeps.l0, if_neg (by omega)]) hr
  | succ d ih =>
    intro i hd hi
    have hlt : i < l.length := by omega
    have hw : wrap64 ((i : Int) + 1) = ((i + 1 : Nat) : Int) := by rw [w64 (by omega) (by omega)]; omega
    have hx : rd_T55 l (i : Int) = l[i] := by
      unfold rd_T55
      rw [Int.toNat_natCast, List.getD_eq_getElem?_getD, List.getElem?_eq_getElem hlt]
      rfl
    have ho := h l[i] (List.getElem_mem hlt)
    have ht : l.take i ++ [l[i]] = l.take (i + 1) := by rw [List.take_add_one, List.getElem?_eq_getElem hlt]; rfl
    have hl : (l.take i).length < 4398046511104 := by rw [List.length_take]; omega
    have hd : ([] : List Int).length + (rd_T55 l (i : Int)).f1.length < 140737488355328 := by rw [hx, List.length_nil]; have := ho.2.2; omega
    refine Ev.step (f := fun k => umpirelaw14_TermsKeeps.l0 k l (l.take (i + 1)) ((i + 1 : Nat) : Int)) (fun k => ?_) (ih (i + 1) (by omega) (by omega))
    rw [umpirelaw14_TermsKeeps.l0, if_pos (by omega), if_pos (by omega), Option.bind_some, if_pos hd, if_pos hl, hw, hx, List.nil_append]
    exact congrArg (fun z => umpirelaw14_TermsKeeps.l0 k l z ((i + 1 : Nat) : Int)) ht
theorem TermsKeeps : ∀ (a0 : List Print.S55), (fun l : List Print.S55 => l.length * 32 ≤ 140737488351232 ∧ ∀ a ∈ l, (fun x : Print.S55 => (fun a : Int => (Lit.int .i64 a).wf = true) x.f0 ∧ (fun l : List Int => l.length * 1 ≤ 140737488351232 ∧ ∀ a ∈ l, (fun a : Int => (Lit.int .u8 a).wf = true) a) x.f1) a) a0 → ∃ k, umpirelaw14_TermsKeeps.f k a0 = some true := by
  intro l h
  have ho := opts_wf h.2
  have hm : l.length ≤ 4611686018427387904 := by have := h.1; omega
  apply Ev.rounds
  unfold umpirelaw14_TermsKeeps.f
  refine Ev.bind awake_terms ?_
  refine Ev.congr (fun k => if_pos rfl) ?_
  obtain ⟨b, hf, hb⟩ := ofew_spec l hm
  refine Ev.bind hf ?_
  cases b with
  | false => exact Ev.step (fun k => by rw [umpirelaw14_TermsKeeps.j0, if_pos (by decide)]) (Ev.bind awake_terms (Ev.now _))
  | true =>
    have hl := hb rfl
    have hn := badv_length l [] [] []
    simp only [List.length_nil, Nat.zero_add] at hn
    refine Ev.step (f := fun k => umpirelaw14_TermsKeeps.l0 k l (l.take 0) ((0 : Nat) : Int)) (fun k => by rw [umpirelaw14_TermsKeeps.j0, if_neg (by decide)]; rfl) ?_
    refine keeps_loop l ho hl ?_ l.length 0 (by omega) (by omega)
    unfold umpirelaw14_TermsKeeps.rest
    refine Ev.bind (tbad_spec l ho (by omega)) ?_
    refine Ev.bind (osame_refl l (by omega)) ?_
    refine Ev.congr (fun k => if_pos rfl) ?_
    refine Ev.bind (rbad_spec l ho (by omega)) ?_
    have hb1 := tbad_spec l ho (by omega)
    generalize badv [] [] [] l = p at hn hb1
    refine Ev.bind (osame_refl p.1 (by omega)) ?_
    refine Ev.congr (fun k => if_pos rfl) ?_
    refine Ev.bind (osame_refl p.2 (by omega)) ?_
    refine Ev.congr (fun k => if_pos rfl) ?_
    refine Ev.bind hb1 ?_
    exact osame_refl p.2 (by omega)
end Go.Proofs.Ytnjimecjpnjojaa.Pure
