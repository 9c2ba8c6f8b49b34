/- The law OctetKeeps, over numbers and lists: what octet.Cut, Behind and Join answer stays as it is though the bytes that were handed in are written over; no conditions. -/
import Derived.Test.YtnnehekodoakeaaQRows
import Derived.Test.YtnnehekodoakeaaQRefCut
import Derived.Test.YtnnehekodoakeaaQAwakeOctet
import Derived.Test.YtnnehekodoakeaaF13
namespace Go.Proofs.Ytnnehekodoakeaa.Pure
open Go.RowKit Go.Proofs.Ytnnehekodoakeaa.Print Go.Proofs.Ytnnehekodoakeaa.Q Go.Proofs.YtnnehekodoakeaaW.PrintWords Go.Proofs.YtnnehekodoakeaaW.PrintLast Go.Proofs.YtnnehekodoakeaaW.PrintMore
set_option linter.unusedVariables false
set_option linter.unusedSimpArgs false

theorem ok_size (l : List Int) : (strOfNums l).size = l.length := by
  have := strOf_length l
  rw [ByteArray.toList_eq] at this
  simpa using this
theorem ok_append (a b : List Int) : (strOfNums a ++ strOfNums b).toList = (strOfNums (a ++ b)).toList := by
  rw [strOf_list, ByteArray.toList_eq, ByteArray.data_append, Array.toList_append, strOfNums_data, strOfNums_data, List.map_append]
theorem ok_join (l : List (List Int)) (hf : l.flatten.length < 140737488355328) : octet_Join.f l = some l.flatten := by
  unfold octet_Join.f slices_Concat_byte_byte.f
  rw [if_pos hf]
  rfl
theorem ok_loop (l : List Int) (n : Nat) (hl : l.length ≤ 1000) (hn : n ≤ l.length) (d : Nat) : ∀ (x : List Int) (i : Nat), x.length = l.length → x.length - i = d → i ≤ x.length → Ev (fun k => umpirelaw02_OctetKeeps.l0 k l x (n : Int) (l.take n) (l.drop n) l (l ++ l) (i : Int)) true := by
  induction d with
  | zero =>
    intro x i hx hd hi
    have hz : (strOfNums l).size + (strOfNums l).size ≤ 9223372036854775807 := by rw [ok_size]; omega
    refine Ev.step (f := fun _ => some true) (fun k => ?_) (Ev.now _)
    rw [umpirelaw02_OctetKeeps.l0, if_neg (by omega), if_pos (by omega), if_pos (by omega), Int.toNat_natCast, if_pos rfl, if_pos rfl, if_pos rfl, if_pos hz, ok_append, beq_self_eq_true]
  | succ d ih =>
    intro x i hx hd hi
    refine Ev.step (fun k => ?_) (ih (x.set i ((rd x (i : Int) + 1) % 256)) (i + 1) (by simpa using hx) (by simp; omega) (by simp; omega))
    rw [umpirelaw02_OctetKeeps.l0, if_pos (by omega), if_pos (by omega), w64 (by omega) (by omega), Int.toNat_natCast]
    rfl
theorem ok_tm (a : Int) (m : Nat) (h0 : 0 ≤ a) : ∃ n : Nat, Int.tmod a ((m : Int) + 1) = (n : Int) ∧ n ≤ m := by
  have h1 := Int.tmod_nonneg ((m : Int) + 1) h0
  have h2 := Int.tmod_lt_of_pos a (show (0 : Int) < (m : Int) + 1 by omega)
  exact ⟨(Int.tmod a ((m : Int) + 1)).toNat, by omega, by omega⟩
theorem OctetKeeps : umpirelaw02_OctetKeeps.Pure := by
  intro l a hl1 hl2 hl3 ha
  have hw := wf_u8 ha
  apply Ev.rounds
  unfold umpirelaw02_OctetKeeps.f
  refine Ev.bind awake_octet ?_
  simp only [if_true]
  by_cases b : (l.length : Int) > 1000
  · simp only [b, decide_true]
    refine Ev.step (f := fun k => (umpirelaw02_awake.f k).bind fun t => (some t)) (fun k => ?_) (Ev.bind awake_octet (Ev.now _))
    rw [umpirelaw02_OctetKeeps.j0, if_pos rfl]
  · simp only [b, decide_false]
    obtain ⟨n, hn, hnl⟩ := ok_tm a l.length hw.1
    have s0 : l.length ≤ 1000 := by omega
    have s1 : l.length < 140737488355328 := by omega
    have s2 : ([] : List Int).length + l.length < 140737488355328 := by rw [List.length_nil, Nat.zero_add]; exact s1
    have s3 : [l].flatten.length < 140737488355328 := by simp; omega
    have s4 : [l, l].flatten.length < 140737488355328 := by simp; omega
    have s5 : ¬ ((l.length : Int) + 1 = 0) := by omega
    have c1 : cutv l 0 (n : Int) = (l.take n, true) := by
      unfold cutv
      rw [if_pos (by omega)]
      simp
    have c2 : behindv l (n : Int) = l.drop n := by unfold behindv; rw [Int.toNat_natCast]
    have e1 : wrap64 ((l.length : Int) + 1) = (l.length : Int) + 1 := w64 (by omega) (by omega)
    have e2 : wrap64 a = a := w64 (by omega) (by omega)
    refine Ev.step (f := fun k => umpirelaw02_OctetKeeps.l0 k l l (n : Int) (l.take n) (l.drop n) l (l ++ l) 0) (fun k => ?_) (ok_loop l n s0 hnl l.length l 0 rfl rfl (Nat.zero_le _))
    rw [umpirelaw02_OctetKeeps.j0, if_neg (by decide), Option.bind_some, if_pos s2, Option.bind_some, List.nil_append, e1, if_neg s5, e2, hn, cut_spec l 0 n s1 (by decide), c1, Option.bind_some, behind_spec l n s1, c2, Option.bind_some, ok_join [l] s3, Option.bind_some, ok_join [l, l] s4, Option.bind_some, if_pos rfl, List.flatten_cons, List.flatten_cons, List.flatten_cons, List.flatten_nil, List.append_nil]
end Go.Proofs.Ytnnehekodoakeaa.Pure
