-- laid by this session's own program (wip/mkprint.sh) for this claim
import Derived.Test.Ytgnonglkibhnhaa0
import Derived.Test.YtgnonglkibhnhaaF13
import Derived.Test.YtgnonglkibhnhaaF25
import Derived.Test.YtgnonglkibhnhaaF38
import Derived.Test.YtgnonglkibhnhaaF48
namespace Go.Proofs.Ytgnonglkibhnhaa.Print
open Go.RowKit Go.Proofs.YtgnonglkibhnhaaW.PrintWords Go.Proofs.YtgnonglkibhnhaaW.PrintLast Go.Proofs.YtgnonglkibhnhaaW.PrintMore
attribute [local go_sem] max2_int min2_int max_two min_two max_three min_three max_four min_four   -- for this text's walks alone
set_option linter.unusedVariables false
set_option linter.unusedSimpArgs false

/-! ### frame_Deframer_Feed: function 14 -/
/-- A byte. -/
def DF.step (k : Nat) (m : Int) (wide : Bool) (s : DF) (c : Int) : Option DF :=
  if s.inn = true then
    if c = 126 then (DF.close k m wide s).bind fun s' => some { s' with held := [] }
    else if s.held.length < 140737488355328 then some { s with held := s.held ++ [c] } else none
  else if c = 126 then some { s with inn := true } else some s
def DF.feed (k : Nat) (m : Int) (wide : Bool) : DF → List Int → Option DF
  | s, [] => some s
  | s, c :: l => (DF.step k m wide s c).bind fun s' => DF.feed k m wide s' l
theorem DF.step_mono (m : Int) (wide : Bool) (s : DF) (c : Int) (k : Nat) : LeO (DF.step k m wide s c) (DF.step (k + 1) m wide s c) := by
  unfold DF.step
  exact LeO.ite (LeO.ite (LeO.bind (DF.close_mono _ _ _ k) fun _ => LeO.refl _) (LeO.refl _)) (LeO.refl _)
theorem DF.feed_mono (m : Int) (wide : Bool) (k : Nat) : ∀ (l : List Int) (s : DF), LeO (DF.feed k m wide s l) (DF.feed (k + 1) m wide s l)
  | [], _ => LeO.refl _
  | _ :: l, _ => LeO.bind (DF.step_mono _ _ _ _ k) fun _ => DF.feed_mono m wide k l _
/-- What holds between bytes: w is the world of the call. -/
structure DFR (k B : Nat) (w W : World) (p : Nat) (vh0 : Value) (m : Int) (wide : Bool) (r : List Int) (sr : DF) : Prop where
  mk ::
  out : ∃ (vh vd : Value) (s : DF), DFI B w.heap.size W p vh vd m wide s ∧ DFK B w W (fun k => k = p ∨ some k = vh0.ownBlock) ∧ (vh.ownBlock = vh0.ownBlock ∨ ∃ b, vh.ownBlock = some b ∧ w.heap.size ≤ b) ∧ DF.feed k m wide s r = some sr
theorem DFI.nil_any {B D D' : Nat} {W : World} {p : Nat} {vh : Value} {m : Int} {wide : Bool} {s : DF} (h : DFI B D W p vh (.slice none 0 0) m wide s) (hd : s.done = []) : DFI B D' W p vh (.slice none 0 0) m wide s := ⟨h.blk, h.held, by rw [hd]; exact Kd.S_nil _ _ _ _ _, h.le⟩
theorem DF.changed {B p : Nat} {w W : World} {vh0 vh vd : Value} {m : Int} {wide : Bool} {s : DF} (h : DFI B w.heap.size W p vh vd m wide s) (hv : vh.ownBlock = vh0.ownBlock ∨ ∃ b, vh.ownBlock = some b ∧ w.heap.size ≤ b) (k : Nat) (hk : k = p ∨ some k = vh.ownBlock ∨ some k = vd.ownBlock) : (k = p ∨ some k = vh0.ownBlock) ∨ w.heap.size ≤ k := by
  rcases hk with hk | hk | hk
  · exact .inl (.inl hk)
  · rcases hv with hv | ⟨b, hv, hb⟩
    · exact .inl (.inr (hk.trans hv))
    · rw [hv] at hk
      injection hk with hk
      subst hk
      exact .inr hb
  · exact .inr (Kd.S_base h.done k hk.symm)
theorem DF.moved {w W : World} {vh0 vh vh' : Value} (hv : vh.ownBlock = vh0.ownBlock ∨ ∃ b, vh.ownBlock = some b ∧ w.heap.size ≤ b) (hle : w.heap.size ≤ W.heap.size) (h : vh'.ownBlock = vh.ownBlock ∨ ∃ b, vh'.ownBlock = some b ∧ W.heap.size ≤ b) : vh'.ownBlock = vh0.ownBlock ∨ ∃ b, vh'.ownBlock = some b ∧ w.heap.size ≤ b := by
  rcases h with h | ⟨b, h, hb⟩
  · rw [h]; exact hv
  · exact .inr ⟨b, h, Nat.le_trans hle hb⟩
set_option maxHeartbeats 8000000 in
set_option maxRecDepth 100000 in
theorem frame_Deframer_Feed.calls (k B p : Nat) (vh0 : Value) (m : Int) (wide : Bool) (s sr : DF) (A0 : Option Addr) (c0 : Nat) (l0 : List Int) (w : World) (hD : DFI B w.heap.size w p vh0 (.slice none 0 0) m wide s) (hB : B ≤ w.heap.size) (hA : Kd.F (Kd.int .u8) w (fun k => k ≠ p ∧ some k ≠ vh0.ownBlock) A0 l0.length l0) (hs : DF.feed k m wide s l0 = some sr) :
    Calls Try.prog 14 #[.pointer (some ⟨p, 0, none⟩), .slice A0 l0.length c0] w fun e w' => ∃ v0 : Value, e = .returned v0 ∧ Aside0 (∃ vh', (∀ D, DFI B D w' p vh' (.slice none 0 0) m wide { sr with done := [] }) ∧ Kd.S (Kd.slice 5 (Kd.int .u8)) 26 w' w.heap.size (fun k => k ≠ p ∧ some k ≠ vh'.ownBlock) v0 sr.done ∧ DFK B w w' (fun k => k = p ∨ some k = vh0.ownBlock) ∧ (vh'.ownBlock = vh0.ownBlock ∨ ∃ b, vh'.ownBlock = some b ∧ w.heap.size ≤ b)) := by
  have hu := Try.underlying56
  have HN := Aside0.mk (Kd.F_max hA)
  have HBB := Aside0.mk hB
  have HA := Aside0.mk hA
  have HR : Aside0 (DFR k B w w p vh0 m wide (l0.drop 0) sr) := ⟨⟨⟨vh0, _, s, hD, DFK.refl _ _ _, .inl rfl, by rw [List.drop_zero]; exact hs⟩⟩⟩
  clear hD hB hA hs
  go_enter Try.func14, Try.ntmps14
  go_wp2
  go_loopg [10] l0.length (fun kq v10 w' => ∃ j : Nat, Aside0 (kq + j = l0.length) ∧ v10 = .int .i64 (j : Int) ∧ Aside0 (DFR k B w w' p vh0 m wide (l0.drop j) sr))
  case atStart => exact ⟨0, ⟨rfl⟩, rfl, HR⟩
  case round =>
    obtain ⟨j, HJ, rfl, HI⟩ := hrel
    clear HR
    have hj := HJ.out
    have hn := HN.out
    obtain ⟨vh, vd, s, hI, hK, hV, hF⟩ := HI.out.out
    have HV := Aside0.mk hV
    have HK := Aside0.mk hK
    have HD := Aside0.mk hI
    clear HI
    have hc2 : wr.cell? ⟨p, 2, none⟩ = some (DF.fn s.inn p) := hI.cell 2 _ rfl
    have hf2 := hI.free 2
    by_cases hlt : j < l0.length
    · obtain ⟨k1, rfl⟩ : ∃ k1, gk = k1 + 1 := ⟨gk - 1, by omega⟩
      have p1 : 0 ≤ (j : Int) := by omega
      have q1 : (j : Int) < (l0.length : Int) := by omega
      obtain ⟨ad, e1, hx⟩ := Kd.at_int (Kd.F_now (Kd.F_kept HA.out hK.kept (fun k hk hs => hs.elim hk.1 hk.2))) (j : Int) p1 q1
      cases e1
      simp only [Int.toNat_natCast] at hx
      obtain ⟨c, hcd⟩ : ∃ c, c = rd l0 (j : Int) := ⟨_, rfl⟩
      have hdr : l0.drop j = c :: l0.drop (j + 1) := by
        rw [List.drop_eq_getElem_cons hlt, hcd]
        unfold rd
        rw [Int.toNat_natCast, List.getD_eq_getElem?_getD, List.getElem?_eq_getElem hlt]
        rfl
      rw [hdr, DF.feed] at hF
      rw [← hcd] at hx
      obtain ⟨s1, hs1, hF⟩ := Option.bind_eq_some_iff.1 hF
      have HF := Aside0.mk hF
      have HWW := Aside0.mk hK.kept.1
      clear hI hK hV hF hdr hcd
      unfold DF.step at hs1
      cases hi : s.inn with
      | true =>
        rw [hi] at hc2
        rw [if_pos hi] at hs1
        replace hc2 : wr.cell? ⟨p, 2, none⟩ = some (.func (.func 38) #[.pointer (some ⟨p, 0, none⟩)] #[]) := hc2
        by_cases h126 : c = 126
        · subst h126
          rw [if_pos rfl] at hs1
          obtain ⟨s2, hs2, hs1⟩ := Option.bind_eq_some_iff.1 hs1
          obtain rfl := Option.some.inj hs1
          have HS2 := Aside0.mk hs2
          have HI := Aside0.mk hi
          clear hs1 hs2 hi
          go_wp2_with (fail)
          refine (frame_Deframer_inside.flag k B w.heap.size p vh vd m wide s s2 _ HD.out HBB.out HWW.out HS2.out).mono ?_
          rintro e w1 ⟨rfl, ⟨vh1, vd1, hh, hk, hv⟩⟩
          have HR1 : Aside0 (DFR k B w w1 p vh0 m wide (l0.drop (j + 1)) sr) := ⟨⟨⟨vh1, vd1, _, hh, DFK.trans HK.out hk (fun k hk => DF.changed HD.out HV.out k (hk.elim Or.inl (fun h => Or.inr (Or.inr h)))), by rw [hv]; exact HV.out, HF.out⟩⟩⟩
          clear hh hk hv hc2 hf2
          go_wp2
          go_roundg k1
          case measure => omega
          case rel => exact ⟨j + 1, ⟨by have := HJ.out; omega⟩, by go_num, HR1⟩
        · rw [if_neg h126] at hs1
          by_cases hl : s.held.length < 140737488355328
          · rw [if_pos hl] at hs1
            obtain rfl := Option.some.inj hs1
            have HI := Aside0.mk hi
            have HL := Aside0.mk hl
            have HC := Aside0.mk h126
            clear hs1 hi hl h126
            go_wp2_with (fail)
            refine (frame_Deframer_inside.more B w.heap.size p vh vd m wide s c _ HD.out HC.out (Nat.le_trans HBB.out HWW.out) HL.out).mono ?_
            rintro e w1 ⟨rfl, ⟨vh1, hh, hk, hv⟩⟩
            have HR1 : Aside0 (DFR k B w w1 p vh0 m wide (l0.drop (j + 1)) sr) := ⟨⟨⟨vh1, vd, _, hh, DFK.trans HK.out hk (fun k hk => DF.changed HD.out HV.out k (hk.elim Or.inl (fun h => Or.inr (Or.inl h)))), DF.moved HV.out HWW.out hv, HF.out⟩⟩⟩
            clear hh hk hv hc2 hf2
            go_wp2
            go_roundg k1
            case measure => omega
            case rel => exact ⟨j + 1, ⟨by have := HJ.out; omega⟩, by go_num, HR1⟩
          · rw [if_neg hl] at hs1
            cases hs1
      | false =>
        rw [hi] at hc2
        rw [if_neg (by rw [hi]; decide)] at hs1
        replace hc2 : wr.cell? ⟨p, 2, none⟩ = some (.func (.func 25) #[.pointer (some ⟨p, 0, none⟩)] #[]) := hc2
        have HI := Aside0.mk hi
        clear hi
        by_cases h126 : c = 126
        · subst h126
          rw [if_pos rfl] at hs1
          obtain rfl := Option.some.inj hs1
          clear hs1
          go_wp2_with (fail)
          refine (frame_Deframer_outside.flag B w.heap.size p vh vd m wide s _ HD.out (Nat.le_trans HBB.out HWW.out) HI.out).mono ?_
          rintro e w1 ⟨rfl, ⟨hh⟩, ⟨hk⟩⟩
          have HR1 : Aside0 (DFR k B w w1 p vh0 m wide (l0.drop (j + 1)) sr) := ⟨⟨⟨vh, vd, _, hh, DFK.trans HK.out hk (fun k hk => .inl (.inl hk)), HV.out, HF.out⟩⟩⟩
          clear hh hk hc2 hf2
          go_wp2
          go_roundg k1
          case measure => omega
          case rel => exact ⟨j + 1, ⟨by have := HJ.out; omega⟩, by go_num, HR1⟩
        · rw [if_neg h126] at hs1
          obtain rfl := Option.some.inj hs1
          have HC := Aside0.mk h126
          clear hs1 h126
          go_wp2_with (fail)
          refine (frame_Deframer_outside.other c HC.out p _).mono ?_
          rintro e w1 ⟨rfl, rfl⟩
          have HR1 : Aside0 (DFR k B w w1 p vh0 m wide (l0.drop (j + 1)) sr) := ⟨⟨⟨vh, vd, _, HD.out, HK.out, HV.out, HF.out⟩⟩⟩
          clear hc2 hf2
          go_wp2
          go_roundg k1
          case measure => omega
          case rel => exact ⟨j + 1, ⟨by have := HJ.out; omega⟩, by go_num, HR1⟩
    · have hdr : l0.drop j = [] := List.drop_eq_nil_of_le (by omega)
      rw [hdr] at hF
      obtain rfl := Option.some.inj hF
      have hc9 : wr.cell? ⟨p, 9, none⟩ = some vd := HD.out.cell 9 _ rfl
      have hf9 := HD.out.free 9
      clear hI hK hV hF hdr
      go_wp2
      go_ret
      refine ⟨_, rfl, ⟨vh, fun D => ⟨?_, ?_, Kd.S_nil _ _ _ _ _, HD.out.le⟩, ?_, ?_, HV.out⟩⟩
      · exact blk_set HD.out.blk 9 _
      · exact Kd.R_far (Kd.R_mono HD.out.held (fun k hk => ⟨hk.1, by simp [Value.ownBlock]⟩)) (fun k hk => hk.1) _
      · exact Kd.S_far HD.out.done (fun k hk => hk.1) _
      · exact HK.out.set (Or.inl rfl) HD.out.le 9 _

end Go.Proofs.Ytgnonglkibhnhaa.Print
