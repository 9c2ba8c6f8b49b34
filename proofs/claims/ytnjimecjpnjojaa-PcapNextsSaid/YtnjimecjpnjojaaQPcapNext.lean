/- The record with which bytes begin: pcap.Next and the reference's. -/
import Derived.Test.YtnjimecjpnjojaaQPcapNum
import Derived.Test.YtnjimecjpnjojaaQCut
import Derived.Test.YtnjimecjpnjojaaF24
import Derived.Test.YtnjimecjpnjojaaF25
namespace Go.Proofs.Ytnjimecjpnjojaa.Q
open Go.RowKit Go.Proofs.Ytnjimecjpnjojaa.Print Go.Proofs.YtnjimecjpnjojaaW.PrintWords Go.Proofs.YtnjimecjpnjojaaW.PrintLast Go.Proofs.YtnjimecjpnjojaaW.PrintMore
set_option linter.unusedVariables false
def nextv (l : List Int) (big : Bool) : Int × Int × Int × List Int × Int × Int :=
  if l.length < 16 then (0, 0, 0, [], 0, 2) else
  if numv l 8 4 big > 131072 then (0, 0, 0, [], 0, 4) else
  if (l.length : Int) < 16 + numv l 8 4 big then (0, 0, 0, [], 0, 2) else
  (numv l 0 4 big, numv l 4 4 big, numv l 12 4 big, (l.drop 16).take (numv l 8 4 big).toNat, 16 + numv l 8 4 big, 0)
theorem next_spec (l : List Int) (hb : Bytes l) (hm : l.length < 140737488355328) (big : Bool) : Ev (fun k => pcap_Next.f k l big) (nextv l big) := by
  unfold pcap_Next.f nextv
  by_cases h : l.length < 16
  · rw [if_pos h]
    exact Ev.congr (fun k => if_pos (by omega)) (Ev.now _)
  · rw [if_neg h]
    refine Ev.congr (fun k => if_neg (by omega)) ?_
    refine Ev.bind (num_spec l hb 0 4 big (by omega) (by omega) (by omega)) ?_
    refine Ev.bind (num_spec l hb 4 4 big (by omega) (by omega) (by omega)) ?_
    refine Ev.bind (num_spec l hb 8 4 big (by omega) (by omega) (by omega)) ?_
    refine Ev.bind (num_spec l hb 12 4 big (by omega) (by omega) (by omega)) ?_
    have hr := numv_range l hb 8 4 big (by omega) (by omega)
    generalize numv l 8 4 big = t at hr ⊢
    by_cases h2 : t > 131072
    · rw [if_pos h2, if_pos h2]; exact Ev.now _
    · rw [if_neg h2, if_neg h2]
      rw [cut_spec l 16 t hm (by omega), Option.bind_some]
      by_cases h3 : (l.length : Int) < 16 + t
      · have hc : cutv l 16 t = ([], false) := if_neg (fun hh => by have := hh.2.2; omega)
        rw [if_pos h3, hc]
        exact Ev.now _
      · have hc : cutv l 16 t = ((l.drop 16).take t.toNat, true) := if_pos ⟨by omega, hr.1, by omega⟩
        rw [if_neg h3, hc]
        exact Ev.now _
theorem rnext_spec (l : List Int) (hb : Bytes l) (hm : l.length < 140737488355328) (big : Bool) : Ev (fun k => umpireref09_Next.f k l big) (nextv l big) := by
  unfold umpireref09_Next.f nextv
  by_cases h : l.length < 16
  · rw [if_pos h]
    exact Ev.congr (fun k => if_pos (by omega)) (Ev.now _)
  · rw [if_neg h]
    refine Ev.congr (fun k => if_neg (by omega)) ?_
    refine Ev.bind (rnum_spec l hb 8 big (by omega) (by omega)) ?_
    have hr := numv_range l hb 8 4 big (by omega) (by omega)
    generalize numv l 8 4 big = t at hr ⊢
    have e1 : wrap64 t = t := w64 (by omega) (by omega)
    have e2 : wrap64 (16 + t) = 16 + t := w64 (by omega) (by omega)
    rw [e1, e2]
    by_cases h2 : t > 131072
    · rw [if_pos h2]; exact Ev.congr (fun k => if_pos h2) (Ev.now _)
    · rw [if_neg h2]
      refine Ev.congr (fun k => if_neg h2) ?_
      by_cases h3 : (l.length : Int) < 16 + t
      · rw [if_pos h3]; exact Ev.congr (fun k => if_pos h3) (Ev.now _)
      · rw [if_neg h3]
        refine Ev.congr (fun k => if_neg h3) ?_
        refine Ev.bind (rnum_spec l hb 0 big (by omega) (by omega)) ?_
        refine Ev.bind (rnum_spec l hb 4 big (by omega) (by omega)) ?_
        refine Ev.bind (rnum_spec l hb 12 big (by omega) (by omega)) ?_
        have hd : (l.take ((16 + t).toNat)).drop 16 = (l.drop 16).take t.toNat := by
          rw [List.drop_take]
          congr 1
          omega
        rw [hd]
        have hle : ((l.drop 16).take t.toNat).length ≤ l.length := by rw [List.length_take, List.length_drop]; omega
        refine Ev.const ?_
        rw [if_pos (by omega), if_pos (by omega), if_pos (by simp only [List.length_nil]; omega), List.nil_append]
end Go.Proofs.Ytnjimecjpnjojaa.Q
