/- The law StuffJoin, over numbers and lists: bytes that are joined are stuffed as one by one; no conditions. -/
import Derived.Test.YtjpfhipgffmgjaaQStuff
import Derived.Test.YtjpfhipgffmgjaaQAwakeStuff
import Derived.Test.YtjpfhipgffmgjaaF4
namespace Go.Proofs.Ytjpfhipgffmgjaa.Pure
open Go.RowKit Go.Proofs.Ytjpfhipgffmgjaa.Print Go.Proofs.Ytjpfhipgffmgjaa.Q Go.Proofs.YtjpfhipgffmgjaaW.PrintWords Go.Proofs.YtjpfhipgffmgjaaW.PrintLast Go.Proofs.YtjpfhipgffmgjaaW.PrintMore
set_option linter.unusedVariables false
set_option linter.unusedSimpArgs false

theorem strOf_size (l : List Int) : (strOfNums l).size = l.length := by
  have := strOf_length l
  rw [ByteArray.toList_eq] at this
  simpa using this
theorem strOf_append (a b : List Int) : (strOfNums a ++ strOfNums b).toList = (strOfNums (a ++ b)).toList := by
  rw [ByteArray.toList_eq, ByteArray.data_append, Array.toList_append, ← ByteArray.toList_eq, ← ByteArray.toList_eq, strOf_list, strOf_list, strOf_list, List.map_append]
theorem num1 (a b x y : Nat) (h1 : a ≤ x) (h2 : b ≤ y) : ((x + y : Nat) : Int) ≥ ((a + b : Nat) : Int) := by omega
theorem num2 (a b x y : Nat) (h1 : x ≤ 2 * a) (h2 : y ≤ 2 * b) (h3 : a ≤ 1000) (h4 : b ≤ 1000) : decide (((x + y : Nat) : Int) ≤ wrap64 (2 * ((a + b : Nat) : Int))) = true := by
  rw [w64 (by omega) (by omega)]
  exact decide_eq_true (by omega)
theorem num3 (x y : Nat) (h3 : x ≤ 2000) (h4 : y ≤ 2000) : ((x + y : Nat) : Int) = wrap64 ((x : Int) + (y : Int)) := by
  rw [w64 (by omega) (by omega)]
  omega
theorem num4 (x y : Nat) (h3 : x ≤ 2000) (h4 : y ≤ 2000) : x + y ≤ 9223372036854775807 := by omega
theorem StuffJoin : umpirelaw06_StuffJoin.Pure := by
  intro l l' m hl1 hl2 hl3 hk1 hk2 hk3 hm
  obtain ⟨h0, h1⟩ := wf_u32 hm
  have hb := bytes_wf hl3
  have hb' := bytes_wf hk3
  apply Ev.rounds
  unfold umpirelaw06_StuffJoin.f
  refine Ev.bind awake_stuff ?_
  have no : Ev (fun k => umpirelaw06_StuffJoin.j0 k l l' m true) true := by
    refine Ev.step (f := fun k => (umpirelaw06_awake.f k).bind fun t => (some t)) (fun k => ?_) (Ev.bind awake_stuff (Ev.now _))
    rw [umpirelaw06_StuffJoin.j0, if_pos rfl]
  simp only [if_true]
  by_cases a : (l.length : Int) > 1000
  · simp only [a, if_true]
    exact no
  · by_cases a' : (l'.length : Int) > 1000
    · simp only [a, a', if_false, decide_true]
      exact no
    · simp only [a, a', if_false, decide_false]
      have s1 := stuffv_len l m
      have s2 := stuffv_len l' m
      have hj : stuff_Stuff.f ([] ++ l ++ l') m = some (stuffv (l ++ l') m) := by
        rw [List.nil_append]
        exact stuff_spec (l ++ l') m (hb.append hb') h0 h1 (by rw [List.length_append]; omega)
      have hs : stuff_Size.f ([] ++ l ++ l') m = some ((stuffv (l ++ l') m).length : Int) := by
        rw [List.nil_append]
        exact size_spec (l ++ l') m (hb.append hb') h0 h1 (by rw [List.length_append]; omega)
      have hn : ([] ++ l ++ l').length = l.length + l'.length := by rw [List.nil_append, List.length_append]
      have hz : (strOfNums (stuffv l m) ++ strOfNums (stuffv l' m)).size = (stuffv l m).length + (stuffv l' m).length := by
        rw [ByteArray.size_append, strOf_size, strOf_size]
      have e1 : (stuffv (l ++ l') m).length = (stuffv l m).length + (stuffv l' m).length := by rw [stuffv_append, List.length_append]
      have g1 : l.length ≤ 1000 := by omega
      have g2 : l'.length ≤ 1000 := by omega
      have g3 : (stuffv l m).length ≤ 2000 := by omega
      have g4 : (stuffv l' m).length ≤ 2000 := by omega
      have g5 : l.length < 140737488355328 := by omega
      have g6 : l.length + l'.length < 140737488355328 := by omega
      have f1 := stuff_spec l m hb h0 h1 (by omega)
      have f2 := stuff_spec l' m hb' h0 h1 (by omega)
      have f3 := size_spec l m hb h0 h1 (by omega)
      have f4 := size_spec l' m hb' h0 h1 (by omega)
      have c1 : (strOfNums (stuffv l m)).size + (strOfNums (stuffv l' m)).size ≤ 9223372036854775807 := by
        rw [strOf_size, strOf_size]
        exact num4 _ _ g3 g4
      have c2 : ([] : List Int).length + l.length < 140737488355328 := by
        rw [List.length_nil, Nat.zero_add]
        exact g5
      have c3 : ([] ++ l).length + l'.length < 140737488355328 := by
        rw [List.nil_append]
        exact g6
      have c4 : (strOfNums (stuffv (l ++ l') m)).toList = (strOfNums (stuffv l m) ++ strOfNums (stuffv l' m)).toList := by rw [strOf_append, stuffv_append]
      have c5 : (((stuffv (l ++ l') m).length : Nat) : Int) = wrap64 (((stuffv l m).length : Int) + ((stuffv l' m).length : Int)) := by
        rw [e1]
        exact num3 _ _ g3 g4
      have c6 : (((strOfNums (stuffv l m) ++ strOfNums (stuffv l' m)).size : Nat) : Int) ≥ (([] ++ l ++ l').length : Int) := by
        rw [hz, hn]
        exact num1 _ _ _ _ s1.1 s2.1
      have c7 : decide ((((strOfNums (stuffv l m) ++ strOfNums (stuffv l' m)).size : Nat) : Int) ≤ wrap64 (2 * (([] ++ l ++ l').length : Int))) = true := by
        rw [hz, hn]
        exact num2 _ _ _ _ s1.2 s2.2 g1 g2
      refine Ev.step (f := fun _ => some true) (fun k => ?_) (Ev.now _)
      rw [umpirelaw06_StuffJoin.j0, if_neg (by decide), f1, Option.bind_some, f2, Option.bind_some, if_pos c1, Option.bind_some, if_pos c2, Option.bind_some, if_pos c3, Option.bind_some, hj, Option.bind_some, if_pos c4, hs, Option.bind_some, f3, Option.bind_some, f4, Option.bind_some, if_pos c5, if_pos c6, c7]
end Go.Proofs.Ytjpfhipgffmgjaa.Pure
