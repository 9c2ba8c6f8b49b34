/- The functions of stuff's reference, told by lists. -/
import Derived.Test.YtjpfhipgffmgjaaQStuff
import Derived.Test.YtjpfhipgffmgjaaQRefAccmHas
import Derived.Test.YtjpfhipgffmgjaaF13
import Derived.Test.YtjpfhipgffmgjaaF17
namespace Go.Proofs.Ytjpfhipgffmgjaa.Q
open Go.RowKit Go.Proofs.Ytjpfhipgffmgjaa.Print Go.Proofs.YtjpfhipgffmgjaaW.PrintWords Go.Proofs.YtjpfhipgffmgjaaW.PrintLast Go.Proofs.YtjpfhipgffmgjaaW.PrintMore
set_option linter.unusedVariables false
set_option linter.unusedSimpArgs false

theorem rstuff_loop (m : Int) (h0 : 0 ≤ m) (h1 : m < 4294967296) (l : List Int) (hb : Bytes l) (hl : l.length < 35184372088832) (d : Nat) : ∀ (i : Nat), l.length - i = d → i ≤ l.length →
    Ev (fun k => umpireref06_Stuff.l0 k l m (stuffv (l.take i) m) (i : Int)) (stuffv l m) := by
  induction d with
  | zero =>
    intro i hd hi
    refine Ev.step (f := fun _ => some (stuffv l m)) (fun k => ?_) (Ev.now _)
    rw [umpireref06_Stuff.l0, if_neg (by omega), List.take_of_length_le (by omega)]
  | succ d ih =>
    intro i hd hi
    have hil : i < l.length := by omega
    have hc := hb _ (List.getElem_mem hil)
    have hn : stuffv (l.take (i + 1)) m = stuffv (l.take i) m ++ piecev m l[i] := by
      rw [List.take_succ_eq_append_getElem hil, stuffv_append, stuffv_cons, stuffv_nil, List.append_nil]
    have hlen := (stuffv_len (l.take i) m).2
    rw [List.length_take] at hlen
    refine Ev.step (fun k => by rw [umpireref06_Stuff.l0, if_pos (by omega), if_pos (by omega), rd_get i hil]) (Ev.bind (rapart_spec m l[i] h0 h1 hc.1) ?_)
    have next := ih (i + 1) (by omega) (by omega)
    rw [hn] at next
    have hw : ∀ x : Int, x = (i : Int) → wrap64 (x + 1) = ((i + 1 : Nat) : Int) := by
      intro x hx
      rw [w64 (by omega) (by omega)]
      omega
    by_cases e : apartv m l[i] = true
    · have hp : piecev m l[i] = [125, turnv l[i]] := by
        unfold piecev
        rw [if_pos e]
      rw [hp] at next
      simp only [e, if_true, Option.bind_some, List.length_cons, List.length_nil, show (stuffv (l.take i) m).length + (0 + 1 + 1) < 140737488355328 by omega, hw _ rfl]
      exact next
    · have hp : piecev m l[i] = [l[i]] := by
        unfold piecev
        rw [if_neg e]
      rw [hp] at next
      simp only [e, Bool.false_eq_true, if_false, show (stuffv (l.take i) m).length < 140737488355328 by omega, if_true, hw _ rfl]
      exact next
theorem rstuff_spec (l : List Int) (m : Int) (hb : Bytes l) (h0 : 0 ≤ m) (h1 : m < 4294967296) (hl : l.length < 35184372088832) : Ev (fun k => umpireref06_Stuff.f k l m) (stuffv l m) := by
  have := rstuff_loop m h0 h1 l hb hl l.length 0 (by omega) (by omega)
  rw [List.take_zero, stuffv_nil] at this
  exact this
theorem left_loop (m : Int) (h0 : 0 ≤ m) (h1 : m < 4294967296) (l : List Int) (hb : Bytes l) (hl : l.length < 70368744177664) (d : Nat) : ∀ (i : Nat), l.length - i = d → i ≤ l.length →
    Ev (fun k => umpireref06_Left.l0 k l m ((l.take i).filter fun c => !hasv m c) (i : Int)) (l.filter fun c => !hasv m c) := by
  induction d with
  | zero =>
    intro i hd hi
    refine Ev.step (f := fun _ => some (l.filter fun c => !hasv m c)) (fun k => ?_) (Ev.now _)
    rw [umpireref06_Left.l0, if_neg (by omega), List.take_of_length_le (by omega)]
  | succ d ih =>
    intro i hd hi
    have hil : i < l.length := by omega
    have hc := hb _ (List.getElem_mem hil)
    have hlen := List.length_filter_le (fun c => !hasv m c) (l.take i)
    rw [List.length_take] at hlen
    refine Ev.step (fun k => by rw [umpireref06_Left.l0, if_pos (by omega), if_pos (by omega), rd_get i hil]) (Ev.bind (rhas_spec m l[i] h0 h1 hc.1) ?_)
    have next := ih (i + 1) (by omega) (by omega)
    rw [List.take_succ_eq_append_getElem hil, List.filter_append] at next
    have hw : ∀ x : Int, x = (i : Int) → wrap64 (x + 1) = ((i + 1 : Nat) : Int) := by
      intro x hx
      rw [w64 (by omega) (by omega)]
      omega
    by_cases e : hasv m l[i] = true
    · simp only [e, if_true, List.filter_cons, Bool.not_true, Bool.false_eq_true, if_false, List.filter_nil, List.append_nil, hw _ rfl] at next ⊢
      exact next
    · have e' : hasv m l[i] = false := by simpa using e
      simp only [e', Bool.false_eq_true, if_false, List.filter_cons, Bool.not_false, if_true, List.filter_nil, hw _ rfl, show ((l.take i).filter fun c => !hasv m c).length < 140737488355328 by omega] at next ⊢
      exact next
theorem left_spec (l : List Int) (m : Int) (hb : Bytes l) (h0 : 0 ≤ m) (h1 : m < 4294967296) (hl : l.length < 70368744177664) : Ev (fun k => umpireref06_Left.f k l m) (l.filter fun c => !hasv m c) := by
  have := left_loop m h0 h1 l hb hl l.length 0 (by omega) (by omega)
  exact this
/-- What the reference makes of bytes of which the map's are left out. -/
def runst : List Int → List Int → List Int × Bool
  | [], acc => (acc, true)
  | c :: t, acc => if c = 126 then ([], false) else if c = 125 then (match t with | [] => ([], false) | d :: t' => if d = 126 then ([], false) else runst t' (acc ++ [turnv d])) else runst t (acc ++ [c])
theorem runst_cons (c : Int) (t acc : List Int) : runst (c :: t) acc = if c = 126 then ([], false) else if c = 125 then (match t with | [] => ([], false) | d :: t' => if d = 126 then ([], false) else runst t' (acc ++ [turnv d])) else runst t (acc ++ [c]) := by
  conv => lhs; rw [runst.eq_def]
theorem runst_loop (l : List Int) (hl : l.length < 70368744177664) (n : Nat) : ∀ (i : Nat) (acc : List Int), l.length - i ≤ n → i ≤ l.length → acc.length ≤ i →
    Ev (fun k => umpireref06_Unstuff.l0 k l acc (i : Int)) (runst (l.drop i) acc) := by
  induction n with
  | zero =>
    intro i acc hd hi ha
    refine Ev.step (f := fun _ => some (runst (l.drop i) acc)) (fun k => ?_) (Ev.now _)
    rw [umpireref06_Unstuff.l0, if_neg (by omega), List.drop_of_length_le (by omega)]
    rw [runst]
  | succ n ih =>
    intro i acc hd hi ha
    rcases Nat.lt_or_ge i l.length with hil | hil
    · have hd1 : l.drop i = l[i] :: l.drop (i + 1) := List.drop_eq_getElem_cons hil
      have no : ∀ b : Bool, b = true → Ev (fun k => umpireref06_Unstuff.j1 k l acc (i : Int) b) (([] : List Int), false) := by
        intro b hb
        refine Ev.step (f := fun _ => some (([] : List Int), false)) (fun k => ?_) (Ev.now _)
        rw [umpireref06_Unstuff.j1, if_pos hb]
      rw [hd1]
      by_cases e1 : l[i] = 126
      · rw [runst_cons, if_pos e1]
        refine Ev.step (fun k => ?_) (no true rfl)
        rw [umpireref06_Unstuff.l0, if_pos (by omega), if_pos (by omega), rd_get i hil, if_pos e1]
      · by_cases e2 : l[i] = 125
        · rcases Nat.lt_or_ge (i + 1) l.length with hi2 | hi2
          · have hd2 : l.drop (i + 1) = l[i + 1] :: l.drop (i + 2) := List.drop_eq_getElem_cons hi2
            rw [runst_cons, if_neg e1, if_pos e2, hd2]
            dsimp only
            by_cases e3 : l[i + 1] = 126
            · rw [if_pos e3]
              refine Ev.step (fun k => ?_) (no (l[i + 1] == 126) (by simpa using e3))
              rw [umpireref06_Unstuff.l0, if_pos (by omega), if_pos (by omega), rd_get i hil, if_neg e1, if_pos e2, w64 (by omega) (by omega), if_neg (by omega), if_pos (by omega), if_pos (by omega), show ((i : Int) + 1) = ((i + 1 : Nat) : Int) by omega, rd_get (i + 1) hi2]
            · rw [if_neg e3]
              refine Ev.step (f := fun k => umpireref06_Unstuff.j1 k l acc (i : Int) (l[i + 1] == 126)) (fun k => ?_) (Ev.step (fun k => ?_) (ih (i + 2) (acc ++ [turnv l[i + 1]]) (by omega) (by omega) (by simp; omega)))
              · rw [umpireref06_Unstuff.l0, if_pos (by omega), if_pos (by omega), rd_get i hil, if_neg e1, if_pos e2, w64 (by omega) (by omega), if_neg (by omega), if_pos (by omega), if_pos (by omega), show ((i : Int) + 1) = ((i + 1 : Nat) : Int) by omega, rd_get (i + 1) hi2]
              · rw [umpireref06_Unstuff.j1, if_neg (by simpa using e3), if_pos (by omega), if_pos (by omega), rd_get i hil, if_pos e2, w64 (x := (i : Int) + 1) (by omega) (by omega), if_pos (by omega), if_pos (by omega), if_pos (by omega), show ((i : Int) + 1) = ((i + 1 : Nat) : Int) by omega, rd_get (i + 1) hi2, w64 (by omega) (by omega)]
                rfl
          · rw [List.drop_of_length_le (by omega : l.length ≤ i + 1), runst_cons, if_neg e1, if_pos e2]
            refine Ev.step (fun k => ?_) (no true rfl)
            rw [umpireref06_Unstuff.l0, if_pos (by omega), if_pos (by omega), rd_get i hil, if_neg e1, if_pos e2, w64 (by omega) (by omega), if_pos (by omega)]
        · rw [runst_cons, if_neg e1, if_neg e2]
          refine Ev.step (f := fun k => umpireref06_Unstuff.j1 k l acc (i : Int) false) (fun k => ?_) (Ev.step (fun k => ?_) (ih (i + 1) (acc ++ [l[i]]) (by omega) (by omega) (by simp; omega)))
          · rw [umpireref06_Unstuff.l0, if_pos (by omega), if_pos (by omega), rd_get i hil, if_neg e1, if_neg e2]
          · rw [umpireref06_Unstuff.j1, if_neg (by decide), if_pos (by omega), if_pos (by omega), rd_get i hil, if_neg e2, if_pos (by omega), w64 (by omega) (by omega)]
            rfl
    · refine Ev.step (f := fun _ => some (runst (l.drop i) acc)) (fun k => ?_) (Ev.now _)
      rw [umpireref06_Unstuff.l0, if_neg (by omega), List.drop_of_length_le (by omega)]
      rw [runst]
theorem hasv_high (m c : Int) (h : 32 ≤ c) : hasv m c = false := by
  unfold hasv
  rw [show decide (c < 32) = false by apply decide_eq_false; omega]
  rfl
theorem unst_runst (m : Int) (l : List Int) : (∀ acc, unst m l false acc = runst (l.filter fun c => !hasv m c) acc) ∧
    (∀ acc, unst m l true acc = match (l.filter fun c => !hasv m c) with | [] => ([], false) | d :: t => if d = 126 then ([], false) else runst t (acc ++ [turnv d])) := by
  induction l with
  | nil => exact ⟨fun acc => by simp [unst, runst], fun acc => by simp [unst]⟩
  | cons c t ih =>
    constructor
    · intro acc
      unfold unst
      by_cases e1 : c = 126
      · have := hasv_high m c (by omega)
        rw [if_pos e1, List.filter_cons, this]
        simp only [Bool.not_false, if_true]
        rw [runst_cons, if_pos e1]
      · rw [if_neg e1]
        by_cases e2 : hasv m c = true
        · rw [if_pos e2, List.filter_cons, e2]
          simp only [Bool.not_true, Bool.false_eq_true, if_false]
          exact ih.1 acc
        · have e2' : hasv m c = false := by simpa using e2
          rw [if_neg e2, List.filter_cons, e2']
          simp only [Bool.not_false, if_true, Bool.false_eq_true, if_false]
          by_cases e3 : c = 125
          · rw [if_pos e3, runst_cons, if_neg e1, if_pos e3, ih.2 acc]
          · rw [if_neg e3, runst_cons, if_neg e1, if_neg e3, ih.1]
    · intro acc
      unfold unst
      by_cases e1 : c = 126
      · have := hasv_high m c (by omega)
        rw [if_pos e1, List.filter_cons, this]
        simp only [Bool.not_false, if_true, e1]
      · rw [if_neg e1]
        by_cases e2 : hasv m c = true
        · rw [if_pos e2, List.filter_cons, e2]
          simp only [Bool.not_true, Bool.false_eq_true, if_false]
          exact ih.2 acc
        · have e2' : hasv m c = false := by simpa using e2
          rw [if_neg e2, List.filter_cons, e2']
          simp only [Bool.not_false, if_true, e1, if_false]
          exact ih.1 _
theorem runstuff_spec (l : List Int) (m : Int) (hb : Bytes l) (h0 : 0 ≤ m) (h1 : m < 4294967296) (hl : l.length < 70368744177664) : Ev (fun k => umpireref06_Unstuff.f k l m) (unstuffv l m) := by
  unfold umpireref06_Unstuff.f
  refine Ev.bind (left_spec l m hb h0 h1 hl) ?_
  have hlen := List.length_filter_le (fun c => !hasv m c) l
  have := runst_loop (l.filter fun c => !hasv m c) (by omega) _ 0 [] (Nat.le_refl _) (by omega) (by simp)
  rw [List.drop_zero] at this
  unfold unstuffv
  rw [(unst_runst m l).1 []]
  exact this
end Go.Proofs.Ytjpfhipgffmgjaa.Q
