/- dump.Put and the reference's, told by lists. -/
import Derived.Test.YtnokndhppdkmdaaDoorQNote
import Derived.Test.YtnokndhppdkmdaaDoorQOctet
import Derived.Test.YtnokndhppdkmdaaDoorQRefPut
import Derived.Test.YtnokndhppdkmdaaDoorF11
import Derived.Test.YtnokndhppdkmdaaDoorF12
import Derived.Test.YtnokndhppdkmdaaDoorF10
namespace Go.Proofs.YtnokndhppdkmdaaDoor.Q
open Go.RowKit Go.Proofs.YtnokndhppdkmdaaDoor.Print Go.Proofs.YtnokndhppdkmdaaDoorW.PrintWords Go.Proofs.YtnokndhppdkmdaaDoorW.PrintLast Go.Proofs.YtnokndhppdkmdaaDoorW.PrintMore
set_option linter.unusedVariables false
set_option linter.unusedSimpArgs false

theorem kinds {k : Int} (h1 : ¬ k < 1) (h2 : ¬ k > 7) : k = 1 ∨ k = 2 ∨ k = 3 ∨ k = 4 ∨ k = 5 ∨ k = 6 ∨ k = 7 := by omega
theorem fits_4 {n : Int} (h1 : n < 4294967296) : fits n 4 = true := by
  unfold fits
  simp only [Bool.and_eq_true, decide_eq_true_eq]
  refine ⟨⟨by omega, by omega⟩, ?_⟩
  rw [show (256 : Int) ^ (4 : Int).toNat = 4294967296 by decide]
  exact h1
theorem fits_1 (n : Int) : fits n 1 = decide (n < 256) := by
  unfold fits
  rw [show (256 : Int) ^ (1 : Int).toNat = 256 by decide]
  simp
theorem fits_0 (n : Int) : fits n 0 = false := by
  unfold fits
  simp
theorem may_j0 (k : Nat) (kind n : Int) (data : List Int) (h1 : ¬ kind < 1) (h2 : ¬ kind > 7) (hn0 : 0 ≤ n) (hn : n < 4294967296) : dump_may.j0 (k + 1) false kind n data = some (mayv kind n data) := by
  rw [dump_may.j0, if_neg (by decide), if_pos (by omega), if_pos (by omega), wu64s hn0 (by omega)]
  have f : ∀ s, octet_Fits.f n s = some (fits n s) := fun s => fits_spec n s hn0 (by omega)
  unfold mayv
  by_cases e : n = 0
  · by_cases hd : 0 < data.length
    · rcases kinds h1 h2 with rfl | rfl | rfl | rfl | rfl | rfl | rfl <;> simp [rd_T49, formsG0, e, hd]
    · rcases kinds h1 h2 with rfl | rfl | rfl | rfl | rfl | rfl | rfl <;> simp [rd_T49, formsG0, e, hd]
  · by_cases hd : 0 < data.length
    · rcases kinds h1 h2 with rfl | rfl | rfl | rfl | rfl | rfl | rfl <;> simp [rd_T49, formsG0, e, hd]
    · rcases kinds h1 h2 with rfl | rfl | rfl | rfl | rfl | rfl | rfl <;> simp [rd_T49, formsG0, e, hd, f, fits_4 hn, fits_1]
theorem may_out {kind n : Int} {data : List Int} (h : kind < 1 ∨ kind > 7) : mayv kind n data = false := by
  cases e : mayv kind n data with
  | false => rfl
  | true =>
    have := mayv_kind e
    omega
theorem may_spec (kind n : Int) (data : List Int) (hn0 : 0 ≤ n) (hn : n < 4294967296) : Ev (fun k => dump_may.f k kind n data) (mayv kind n data) := by
  unfold dump_may.f
  by_cases h1 : kind < 1
  · simp only [if_pos h1]
    rw [may_out (.inl h1)]
    exact Ev.step (f := fun _ => some false) (fun k => by rw [dump_may.j0, if_pos rfl]) (Ev.now _)
  · simp only [if_neg h1]
    by_cases h2 : kind > 7
    · simp only [h2, decide_true]
      rw [may_out (.inr h2)]
      exact Ev.step (f := fun _ => some false) (fun k => by rw [dump_may.j0, if_pos rfl]) (Ev.now _)
    · simp only [h2, decide_false]
      exact Ev.step (f := fun _ => some (mayv kind n data)) (fun k => may_j0 k kind n data h1 h2 hn0 hn) (Ev.now _)
theorem rmay_spec (kind n : Int) (data : List Int) : Ev (fun k => umpireref10_May.f k kind n data) (mayv kind n data) := by
  unfold umpireref10_May.f
  have t : ∀ (b : Bool), b = decide (kind = 1 ∨ kind = 2) → Ev (fun k => umpireref10_May.j0 k b kind n data) (mayv kind n data) := by
    intro b hb
    refine Ev.step (f := fun _ => some (mayv kind n data)) (fun k => ?_) (Ev.now _)
    rw [umpireref10_May.j0, hb]
    unfold mayv
    by_cases h : kind = 1 ∨ kind = 2
    · simp [h]
    · simp only [h, decide_false, Bool.false_eq_true, if_false]
      by_cases hd : 0 < data.length
      · rw [if_pos (by omega), if_pos hd]
      · rw [if_neg (by omega), if_neg hd]
        by_cases e3 : kind = 3
        · simp [e3]
        · by_cases e4 : kind = 4
          · simp [e4]
          · by_cases e5 : kind = 5
            · simp [e5]
            · by_cases e7 : kind = 7
              · simp [e7]
              · by_cases e6 : kind = 6
                · simp [e6]
                · simp [e3, e4, e5, e6, e7]
  by_cases h1 : kind = 1
  · simp only [if_pos h1]
    exact t true (by simp [h1])
  · simp only [if_neg h1]
    exact t (kind == 2) (by rw [Bool.eq_iff_iff]; simp [h1])
theorem putb_1 {n : Int} (h0 : 0 ≤ n) (h : n < 256) : putb n 1 true = [n] := by
  unfold putb leb leb
  simp
  omega
theorem putb_0 (n : Int) (b : Bool) : putb n 0 b = [] := by
  unfold putb
  cases b <;> rfl
/-- One note, laid behind others by the program. -/
theorem dput_one (x : Note) (hx : NoteOk x) (hm : mayv x.f0 x.f1 x.f2 = true) (hl : x.f2.length ≤ 65535) (acc : List Int) (ha : acc.length + (x.f2.length + 5) < 140737488355328) {G : Nat → List Int → Option (List Int × Int)} {r : List Int × Int}
    (hG : Ev (fun k => G k (acc ++ onev x.f0 x.f1 x.f2)) r) :
    Ev (fun k => (if acc.length < 140737488355328 then ((some (acc ++ [(x.f0) % 256] : List Int)).bind fun y119 => (if 0 ≤ (x.f0) then (if (x.f0) < 8 then (if (rd_T49 formsG0 (x.f0)).f0 = true then ((some (([(((x.f2).length : Int) / 256) % 256, (((x.f2).length : Int)) % 256] : List Int) : List Int)).bind fun y124 => (if y119.length + y124.length < 140737488355328 then ((some (y119 ++ y124 : List Int)).bind fun y127 => (if y127.length + (x.f2).length < 140737488355328 then (G k (y127 ++ (x.f2))) else (none))) else (none))) else ((octet_Put.f k (IntKind.u64.wrap (x.f1)) ((rd_T49 formsG0 (x.f0)).f1) true).bind fun bt133 => (if y119.length + bt133.1.length < 140737488355328 then (G k (y119 ++ bt133.1)) else (none)))) else (none)) else (none))) else (none))) r := by
  have hk := mayv_kind hm
  obtain ⟨_, hn, hb⟩ := hx
  have hko : x.f0 % 256 = x.f0 := by omega
  simp only [if_pos (show acc.length < 140737488355328 by omega), Option.bind_some, if_pos (show 0 ≤ x.f0 by omega), if_pos (show x.f0 < 8 by omega), hko]
  by_cases h2 : x.f0 ≤ 2
  · have e : (rd_T49 formsG0 x.f0).f0 = true := by
      obtain h | h : x.f0 = 1 ∨ x.f0 = 2 := by omega
      all_goals rw [h]; rfl
    simp only [e, if_true, List.length_append, List.length_cons, List.length_nil]
    refine Ev.congr (fun k => if_pos (by omega)) ?_
    refine Ev.congr (fun k => if_pos (by omega)) ?_
    have e2 : onev x.f0 x.f1 x.f2 = [x.f0] ++ [((x.f2).length : Int) / 256, ((x.f2).length : Int) % 256] ++ x.f2 := by
      unfold onev
      rw [if_pos h2]
      rfl
    rw [e2, ← List.append_assoc, ← List.append_assoc] at hG
    rw [show ((x.f2).length : Int) / 256 % 256 = ((x.f2).length : Int) / 256 by omega]
    exact hG
  · have e : (rd_T49 formsG0 x.f0).f0 = false := by
      obtain h | h | h | h | h : x.f0 = 3 ∨ x.f0 = 4 ∨ x.f0 = 5 ∨ x.f0 = 6 ∨ x.f0 = 7 := by omega
      all_goals rw [h]; rfl
    simp only [e, Bool.false_eq_true, if_false, List.length_append, List.length_cons, List.length_nil, wu64s hn.1 (show x.f1 < 18446744073709551616 by omega)]
    have key : (if fits x.f1 (rd_T49 formsG0 x.f0).f1 = true then (putb x.f1 (rd_T49 formsG0 x.f0).f1.toNat true, true) else ([], false)).1 = (onev x.f0 x.f1 x.f2).tail := by
      have hm2 := hm
      unfold mayv at hm2
      rw [if_neg (by omega)] at hm2
      split at hm2
      · cases hm2
      · unfold onev
        obtain h | h | h | h | h : x.f0 = 3 ∨ x.f0 = 4 ∨ x.f0 = 5 ∨ x.f0 = 6 ∨ x.f0 = 7 := by omega
        · rw [h]
          simp [rd_T49, formsG0, fits_0]
        · rw [h]
          simp [rd_T49, formsG0, fits_0]
        · rw [h]
          simp [rd_T49, formsG0, fits_4 hn.2]
        · rw [h] at hm2 ⊢
          simp at hm2
          simp [rd_T49, formsG0, fits_1, hm2, putb_1 hn.1 hm2]
        · rw [h]
          simp [rd_T49, formsG0, fits_4 hn.2]
    refine Ev.bind (put_spec x.f1 _ true hn.1 (by omega)) ?_
    rw [key]
    have hl5 := onev_len x.f0 x.f1 x.f2
    have e3 : onev x.f0 x.f1 x.f2 = x.f0 :: (onev x.f0 x.f1 x.f2).tail := rfl
    have e4 : (onev x.f0 x.f1 x.f2).tail.length + 1 = (onev x.f0 x.f1 x.f2).length := by
      conv => rhs; rw [e3]
      rfl
    refine Ev.congr (fun k => if_pos (by omega)) ?_
    rw [e3] at hG
    simpa [List.append_assoc] using hG
theorem dput_loop (l : List Note) (hl : l.length < 140737488355328) (hx : ∀ x ∈ l, NoteOk x) : ∀ (d i : Nat) (acc : List Int), l.length - i = d → i ≤ l.length → acc.length + tot (l.drop i) < 140737488355328 →
    Ev (fun k => dump_Put.l0 k acc l (l.length : Int) (i : Int)) (putgo acc (l.drop i)) := by
  intro d
  induction d with
  | zero =>
    intro i acc hd hi ht
    refine Ev.step (f := fun _ => some (acc, 0)) (fun k => ?_) ?_
    · rw [dump_Put.l0, if_neg (by omega)]
    · rw [List.drop_of_length_le (by omega), putgo]
      exact Ev.now _
  | succ d ih =>
    intro i acc hd hi ht
    have hlt : i < l.length := by omega
    rw [List.drop_eq_getElem_cons hlt] at ht ⊢
    simp only [tot] at ht
    rw [putgo]
    have hok := hx l[i] (List.getElem_mem hlt)
    refine Ev.step (fun k => by rw [dump_Put.l0, if_pos (by omega), if_pos (by omega), if_pos (by omega), rdN_get l i hlt]) ?_
    refine Ev.bind (may_spec _ _ _ hok.2.1.1 hok.2.1.2) ?_
    cases hm : mayv l[i].f0 l[i].f1 l[i].f2 with
    | false =>
      simp only [Bool.false_eq_true, if_false]
      exact Ev.now _
    | true =>
      simp only [if_true]
      by_cases hb : 65535 < l[i].f2.length
      · rw [if_pos hb]
        simp only [if_pos (show (l[i].f2.length : Int) > 65535 by omega)]
        exact Ev.now _
      · rw [if_neg hb]
        simp only [if_neg (show ¬ (l[i].f2.length : Int) > 65535 by omega)]
        have hl5 := onev_len l[i].f0 l[i].f1 l[i].f2
        have h := ih (i + 1) (acc ++ onev l[i].f0 l[i].f1 l[i].f2) (by omega) (by omega) (by rw [List.length_append]; omega)
        refine dput_one l[i] hok hm (by omega) acc (by omega) (G := fun k a => dump_Put.l0 k a l (l.length : Int) (wrap64 ((i : Int) + 1))) ?_
        rw [w64 (by omega) (by omega)]
        exact h
theorem dput_spec (l : List Note) (hl : l.length < 140737488355328) (hx : ∀ x ∈ l, NoteOk x) (ht : tot l < 140737488355328) : Ev (fun k => dump_Put.f k l) (putgo [] l) := by
  have := dput_loop l hl hx l.length 0 [] (by omega) (by omega) (by simpa using ht)
  simpa [dump_Put.f] using this
theorem rone_spec (x : Note) (hx : NoteOk x) (hm : mayv x.f0 x.f1 x.f2 = true) (hl : x.f2.length ≤ 65535) : Ev (fun k => umpireref10_One.f k x.f0 x.f1 x.f2) (onev x.f0 x.f1 x.f2) := by
  have hk := mayv_kind hm
  obtain ⟨_, hn, hb⟩ := hx
  unfold umpireref10_One.f onev
  rw [show x.f0 % 256 = x.f0 by omega, w64 (x := (x.f2.length : Int) / 256) (by omega) (by omega), show ((x.f2).length : Int) / 256 % 256 = ((x.f2).length : Int) / 256 by omega]
  simp only [Option.bind_some]
  by_cases h2 : x.f0 ≤ 2
  · simp only [if_pos h2, Option.bind_some, List.length_append, List.length_cons, List.length_nil]
    refine Ev.congr (fun k => if_pos (by omega)) ?_
    refine Ev.congr (fun k => if_pos (by omega)) ?_
    exact Ev.now _
  · simp only [if_neg h2]
    by_cases h6 : x.f0 = 6
    · simp only [h6, if_true]
      have h7 : x.f1 % 256 = x.f1 := by
        unfold mayv at hm
        rw [h6] at hm
        simp at hm
        omega
      simp only [List.length_cons, List.length_nil, h7]
      exact Ev.now _
    · simp only [if_neg h6, wu64s hn.1 (show x.f1 < 18446744073709551616 by omega)]
      by_cases h5 : x.f0 = 5
      · simp only [h5, if_true, true_or]
        refine Ev.bind (rput_spec x.f1 4 true hn.1 (by omega) (by omega)) ?_
        simp only [List.length_cons, List.length_nil, putb_length]
        exact Ev.now _
      · simp only [if_neg h5]
        by_cases h7 : x.f0 = 7
        · simp only [h7, if_true, or_true]
          refine Ev.bind (rput_spec x.f1 4 true hn.1 (by omega) (by omega)) ?_
          simp only [List.length_cons, List.length_nil, putb_length]
          exact Ev.now _
        · simp only [if_neg h7, h5, h7, or_self, if_false]
          exact Ev.now _
theorem rput10_loop (l : List Note) (hl : l.length < 140737488355328) (hx : ∀ x ∈ l, NoteOk x) : ∀ (d i : Nat) (acc : List Int), l.length - i = d → i ≤ l.length → acc.length + tot (l.drop i) < 140737488355328 →
    Ev (fun k => umpireref10_Put.l0 k l acc (i : Int)) (putgo acc (l.drop i)) := by
  intro d
  induction d with
  | zero =>
    intro i acc hd hi ht
    refine Ev.step (f := fun _ => some (acc, 0)) (fun k => ?_) ?_
    · rw [umpireref10_Put.l0, if_neg (by omega)]
    · rw [List.drop_of_length_le (by omega), putgo]
      exact Ev.now _
  | succ d ih =>
    intro i acc hd hi ht
    have hlt : i < l.length := by omega
    rw [List.drop_eq_getElem_cons hlt] at ht ⊢
    simp only [tot] at ht
    rw [putgo]
    have hok := hx l[i] (List.getElem_mem hlt)
    refine Ev.step (fun k => by rw [umpireref10_Put.l0, if_pos (by omega), if_pos (by omega), rdN_get l i hlt]) ?_
    refine Ev.bind (rmay_spec _ _ _) ?_
    cases hm : mayv l[i].f0 l[i].f1 l[i].f2 with
    | false =>
      simp only [Bool.false_eq_true, if_false]
      exact Ev.now _
    | true =>
      simp only [if_true]
      by_cases hb : 65535 < l[i].f2.length
      · rw [if_pos hb]
        simp only [if_pos (show (l[i].f2.length : Int) > 65535 by omega)]
        exact Ev.now _
      · rw [if_neg hb]
        simp only [if_neg (show ¬ (l[i].f2.length : Int) > 65535 by omega)]
        have hl5 := onev_len l[i].f0 l[i].f1 l[i].f2
        refine Ev.bind (rone_spec l[i] hok hm (by omega)) ?_
        refine Ev.congr (fun k => if_pos (by omega)) ?_
        rw [w64 (by omega) (by omega)]
        exact ih (i + 1) (acc ++ onev l[i].f0 l[i].f1 l[i].f2) (by omega) (by omega) (by rw [List.length_append]; omega)
theorem rput10_spec (l : List Note) (hl : l.length < 140737488355328) (hx : ∀ x ∈ l, NoteOk x) (ht : tot l < 140737488355328) : Ev (fun k => umpireref10_Put.f k l) (putgo [] l) := by
  have := rput10_loop l hl hx l.length 0 [] (by omega) (by omega) (by simpa using ht)
  simpa [umpireref10_Put.f] using this

/-! ### few notes -/
def fs (l : List Note) : Nat := (l.map fun x => min x.f2.length 100000).sum
theorem fs_next (l : List Note) (i : Nat) (h : i < l.length) : fs (l.take (i + 1)) = fs (l.take i) + min l[i].f2.length 100000 := by
  unfold fs
  rw [List.take_succ_eq_append_getElem h]
  simp only [List.map_append, List.sum_append, List.map_cons, List.map_nil, List.sum_cons, List.sum_nil, Nat.add_zero]
theorem fs_le (l : List Note) : fs l ≤ l.length * 100000 := by
  unfold fs
  induction l with
  | nil => simp
  | cons a l ih =>
    rw [List.map_cons, List.sum_cons, List.length_cons]
    omega
theorem fs_mem {l : List Note} {x : Note} (h : x ∈ l) : min x.f2.length 100000 ≤ fs l := by
  unfold fs
  induction l with
  | nil => cases h
  | cons a l ih =>
    rw [List.map_cons, List.sum_cons]
    rcases List.mem_cons.1 h with rfl | h
    · omega
    · have := ih h
      omega
def fewv (l : List Note) : Bool := decide (l.length ≤ 50) && decide (fs (l.take 100) ≤ 70000)
theorem few_loop (l : List Note) (hl : l.length < 140737488355328) : ∀ (d i : Nat), min l.length 100 - i = d → i ≤ min l.length 100 → Ev (fun k => umpireref10_Few.l0 k l (fs (l.take i) : Int) (i : Int)) (fewv l) := by
  intro d
  have fin : ∀ i, i = min l.length 100 → (if (l.length : Int) ≤ 50 then some (decide ((fs (l.take i) : Int) ≤ 70000)) else some false) = some (fewv l) := by
    intro i hi
    unfold fewv
    by_cases h : l.length ≤ 50
    · rw [if_pos (by omega), decide_eq_true h, Bool.true_and]
      rw [List.take_of_length_le (show l.length ≤ i by omega), List.take_of_length_le (show l.length ≤ 100 by omega)]
      congr 1
      rw [Bool.eq_iff_iff]
      simp only [decide_eq_true_eq]
      omega
    · rw [if_neg (by omega), decide_eq_false h, Bool.false_and]
  induction d with
  | zero =>
    intro i hd hi
    refine Ev.step (f := fun _ => some (fewv l)) (fun k => ?_) (Ev.now _)
    rw [umpireref10_Few.l0]
    by_cases hlt : (i : Int) < (l.length : Int)
    · rw [if_pos hlt, if_neg (by omega), fin i (by omega)]
    · rw [if_neg hlt, fin i (by omega)]
  | succ d ih =>
    intro i hd hi
    have hlt : i < l.length := by omega
    have hf := fs_le (l.take i)
    have hfl : (l.take i).length ≤ 100 := by rw [List.length_take]; omega
    refine Ev.step (f := fun k => umpireref10_Few.l0 k l (fs (l.take (i + 1)) : Int) ((i + 1 : Nat) : Int)) (fun k => ?_) (ih (i + 1) (by omega) (by omega))
    rw [umpireref10_Few.l0, if_pos (by omega), if_pos (by omega), if_pos (by omega), rdN_get l i hlt, fs_next l i hlt]
    have hm : mn (l[i].f2.length : Int) 100000 = ((min l[i].f2.length 100000 : Nat) : Int) := by
      unfold mn
      split <;> omega
    rw [hm, w64 (by omega) (by omega), w64 (by omega) (by omega)]
    rfl
theorem few_spec (l : List Note) (hl : l.length < 140737488355328) : Ev (fun k => umpireref10_Few.f k l) (fewv l) := few_loop l hl _ 0 rfl (by omega)
theorem tot_of_few {l : List Note} (h : fewv l = true) : l.length ≤ 50 ∧ tot l ≤ 70250 ∧ ∀ x ∈ l, x.f2.length ≤ 70000 := by
  unfold fewv at h
  simp only [Bool.and_eq_true, decide_eq_true_eq] at h
  rw [List.take_of_length_le (by omega)] at h
  have hm : ∀ x ∈ l, x.f2.length ≤ 70000 := fun x hx => by
    have := fs_mem hx
    omega
  refine ⟨h.1, ?_, hm⟩
  have key : ∀ m : List Note, (∀ x ∈ m, x.f2.length ≤ 70000) → tot m = fs m + 5 * m.length := by
    intro m
    induction m with
    | nil => intro _; rfl
    | cons a m ih =>
      intro hm
      have h1 := hm a (List.mem_cons_self ..)
      have h2 := ih fun x hx => hm x (List.mem_cons_of_mem _ hx)
      simp only [tot, h2, fs, List.map_cons, List.sum_cons, List.length_cons]
      omega
  have := key l hm
  omega
end Go.Proofs.YtnokndhppdkmdaaDoor.Q
