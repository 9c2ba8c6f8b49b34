/- Notes of a dump, told by lists: whether one may be, its bytes, a row's bytes; what bytes read as. -/
import Derived.Test.YtnokndhppdkmdaaDoorQBase
namespace Go.Proofs.YtnokndhppdkmdaaDoor.Q
open Go.RowKit Go.Proofs.YtnokndhppdkmdaaDoor.Print Go.Proofs.YtnokndhppdkmdaaDoorW.PrintWords Go.Proofs.YtnokndhppdkmdaaDoorW.PrintLast Go.Proofs.YtnokndhppdkmdaaDoorW.PrintMore
set_option linter.unusedVariables false

abbrev Note := S37
/-- What is told of a note that came in. -/
def NoteOk (x : Note) : Prop := (-9223372036854775808 ≤ x.f0 ∧ x.f0 ≤ 9223372036854775807) ∧ (0 ≤ x.f1 ∧ x.f1 < 4294967296) ∧ Bytes x.f2
theorem rdN_get (l : List Note) (i : Nat) (h : i < l.length) : rd_T37 l (i : Int) = l[i] := by
  unfold rd_T37
  rw [Int.toNat_natCast, List.getD_eq_getElem?_getD, List.getElem?_eq_getElem h]
  rfl
def mayv (kind n : Int) (data : List Int) : Bool :=
  if kind = 1 ∨ kind = 2 then n == 0
  else if 0 < data.length then false
  else if kind = 3 ∨ kind = 4 then n == 0
  else if kind = 5 ∨ kind = 7 then true
  else if kind = 6 then decide (n < 256) else false
theorem mayv_kind {kind n : Int} {data : List Int} (h : mayv kind n data = true) : 1 ≤ kind ∧ kind ≤ 7 := by
  unfold mayv at h
  (repeat' split at h) <;> first | omega | cases h
/-- A note's bytes, of one that may be. -/
def onev (kind n : Int) (data : List Int) : List Int :=
  kind :: (if kind ≤ 2 then ((data.length : Int) / 256) :: ((data.length : Int) % 256) :: data else if kind = 6 then [n] else if kind = 5 ∨ kind = 7 then putb n 4 true else [])
theorem onev_len (kind n : Int) (data : List Int) : (onev kind n data).length ≤ data.length + 5 := by
  unfold onev
  (repeat' split) <;> simp [putb_length] <;> omega
theorem onev_bytes {kind n : Int} {data : List Int} (h : mayv kind n data = true) (hn : 0 ≤ n) (hd : Bytes data) (hl : data.length ≤ 65535) : Bytes (onev kind n data) := by
  have hk := mayv_kind h
  unfold onev
  refine Bytes.cons (by omega) ?_
  split
  · exact Bytes.cons (by omega) (Bytes.cons (by omega) hd)
  · split
    · rename_i h1 h2
      subst h2
      unfold mayv at h
      rw [if_neg (by omega)] at h
      split at h
      · cases h
      · rw [if_neg (by omega), if_neg (by omega), if_pos rfl] at h
        exact Bytes.cons ⟨hn, by simpa using h⟩ Bytes.nil
    · split
      · exact putb_bytes _ _ _
      · exact Bytes.nil
/-- The bytes of notes, behind others, or the first error. -/
def putgo (acc : List Int) : List Note → List Int × Int
  | [] => (acc, 0)
  | x :: l => if mayv x.f0 x.f1 x.f2 then (if 65535 < x.f2.length then ([], 4) else putgo (acc ++ onev x.f0 x.f1 x.f2) l) else ([], 1)
/-- How many bytes at most notes have. -/
def tot : List Note → Nat
  | [] => 0
  | x :: l => x.f2.length + 5 + tot l
theorem tot_mem {l : List Note} {x : Note} (h : x ∈ l) : x.f2.length ≤ tot l := by
  induction l with
  | nil => cases h
  | cons a l ih =>
    rcases List.mem_cons.1 h with rfl | h
    · simp only [tot]
      omega
    · have := ih h
      simp only [tot]
      omega
theorem tot_append (l m : List Note) : tot (l ++ m) = tot l + tot m := by
  induction l with
  | nil => simp [tot]
  | cons a l ih =>
    simp only [List.cons_append, tot, ih]
    omega
/-- May all be, and is none too long? -/
def allOk (l : List Note) : Bool := l.all fun x => mayv x.f0 x.f1 x.f2 && decide (x.f2.length ≤ 65535)
def bytesv (l : List Note) : List Int := l.flatMap fun x => onev x.f0 x.f1 x.f2
theorem putgo_ok (l : List Note) : ∀ acc, allOk l = true → putgo acc l = (acc ++ bytesv l, 0) := by
  induction l with
  | nil => intro acc _; simp [putgo, bytesv]
  | cons a l ih =>
    intro acc h
    simp only [allOk, List.all_cons, Bool.and_eq_true, decide_eq_true_eq] at h
    rw [putgo, if_pos h.1.1, if_neg (by omega), ih _ (by simpa only [allOk, List.all_eq_true, Bool.and_eq_true, decide_eq_true_eq] using h.2)]
    simp [bytesv, List.append_assoc]
theorem putgo_no (l : List Note) : ∀ acc, allOk l = false → (putgo acc l).1 = [] ∧ (putgo acc l).2 ≠ 0 := by
  induction l with
  | nil => intro acc h; cases h
  | cons a l ih =>
    intro acc h
    rw [putgo]
    split
    · rename_i h1
      split
      · exact ⟨rfl, by simp⟩
      · rename_i h2
        refine ih _ ?_
        simp only [allOk, List.all_cons, h1, Bool.true_and] at h
        rw [show decide (a.f2.length ≤ 65535) = true from decide_eq_true (by omega), Bool.true_and] at h
        exact h
    · exact ⟨rfl, by simp⟩
end Go.Proofs.YtnokndhppdkmdaaDoor.Q
