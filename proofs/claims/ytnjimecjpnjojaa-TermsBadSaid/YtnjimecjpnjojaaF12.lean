-- laid by this session's own program (wip/mkprint.sh) for this claim
import Derived.Test.Ytnjimecjpnjojaa0
import Derived.Test.YtnjimecjpnjojaaF26
import Derived.Test.YtnjimecjpnjojaaF31
import Derived.Test.YtnjimecjpnjojaaF38
import Derived.Test.YtnjimecjpnjojaaF40
import Derived.Test.YtnjimecjpnjojaaF41
namespace Go.Proofs.Ytnjimecjpnjojaa.Print
open Go.RowKit Go.Proofs.YtnjimecjpnjojaaW.PrintWords Go.Proofs.YtnjimecjpnjojaaW.PrintLast Go.Proofs.YtnjimecjpnjojaaW.PrintMore
attribute [local go_sem] max2_int min2_int max_two min_two max_three min_three max_four min_four   -- for this text's walks alone
set_option linter.unusedVariables false
set_option linter.unusedSimpArgs false

/-! ### umpirelaw14_TermsBad: function 12 -/
def umpirelaw14_TermsBad.f (k : Nat) (l0 : List S55) : Option Bool := (umpirelaw14_awake.f k).bind fun t0 => if t0 = true then (umpireref12_Few.f k l0).bind fun t1 => if t1 = true then (terms_Bad.f k l0).bind fun p => (umpireref14_Bad.f k l0).bind fun q => (umpireref12_Same.f k p.1 q.1).bind fun s => if s = true then umpireref12_Same.f k p.2 q.2 else none else some true else none
theorem umpirelaw14_TermsBad.mono (l0 : List S55) (k : Nat) : LeO (umpirelaw14_TermsBad.f k l0) (umpirelaw14_TermsBad.f (k + 1) l0) :=
  LeO.bind (umpirelaw14_awake.mono k) fun _ => LeO.ite (LeO.bind (umpireref12_Few.mono _ k) fun _ => LeO.ite (LeO.bind (terms_Bad.mono _ k) fun _ => LeO.bind (umpireref14_Bad.mono _ k) fun _ => LeO.bind (umpireref12_Same.mono _ _ k) fun _ => LeO.ite (umpireref12_Same.mono _ _ k) (LeO.refl _)) (LeO.refl _)) (LeO.refl _)
set_option maxHeartbeats 16000000 in
set_option maxRecDepth 100000 in
theorem umpirelaw14_TermsBad.calls (k : Nat) (A0 : Option Addr) (c0 : Nat) (l0 : List S55) (r : Bool) (w : World) (hr0 : Kd.C k55 w A0 l0.length l0) (hc0 : l0.length ≤ c0) (h : umpirelaw14_TermsBad.f k l0 = some r) :
    Calls Try.prog 12 #[.slice A0 l0.length c0] w fun e w' => e = .returned (.bool r) ∧ Below w.heap.size w w' := by
  unfold umpirelaw14_TermsBad.f at h
  replace h := Option.bind_eq_some_iff.1 h; obtain ⟨t0, h0, h⟩ := h
  by_cases e0 : t0 = true
  · subst e0
    rw [if_pos rfl] at h
    replace h := Option.bind_eq_some_iff.1 h; obtain ⟨t1, h1, h⟩ := h
    have HW0 := Aside0.mk h0
    have HF0 := Aside0.mk h1
    have HR0 := Aside0.mk hr0
    have HC0 := Aside0.mk hc0
    have HB := Aside0.mk (Below.refl w.heap.size w)
    clear h0 h1 hr0 hc0
    cases t1 with
    | false =>
      rw [if_neg (by decide)] at h
      obtain rfl := Option.some.inj h
      clear h
      go_enter Try.func12, Try.ntmps12
      go_wp2_with (first | ((with_reducible refine gate_callee (f := 26) rfl ?_); refine goesL_ (some 7) rfl rfl Try.func26 (by kernel_rfl) rfl #[] rfl (by (try simp only [List.map_toArray, List.map_cons, List.map_nil]); first | done | rfl) ?_; (with_reducible refine (umpirelaw14_awake.calls k true _ HW0.out).mono ?_); rintro e w1 ⟨rfl, hb⟩; refine ⟨_, rfl, ?_⟩; have n0_ := Aside0.mk (below_step (by repeat (first | (with_reducible first | exact HB.out | apply below_alloc | apply pw_below_drewN | apply below_drew1) | exact HB.out)) hb); clear HB; have HB := n0_; clear n0_; clear hb) | ((with_reducible refine gate_callee (f := 26) rfl ?_); refine goesL_ (some 14) rfl rfl Try.func26 (by kernel_rfl) rfl #[] rfl (by (try simp only [List.map_toArray, List.map_cons, List.map_nil]); first | done | rfl) ?_; (with_reducible refine (umpirelaw14_awake.calls k true _ HW0.out).mono ?_); rintro e w2 ⟨rfl, hb⟩; refine ⟨_, rfl, ?_⟩; have n0_ := Aside0.mk (below_step (by repeat (first | (with_reducible first | exact HB.out | apply below_alloc | apply pw_below_drewN | apply below_drew1) | exact HB.out)) hb); clear HB; have HB := n0_; clear n0_; clear hb) | (go_at_call 31; (with_reducible refine (umpireref12_Few.calls k _ _ l0 false _ (Kd.C_below HR0.out HB.out) HC0.out HF0.out).mono ?_); rintro e w' ⟨rfl, ⟨nd, rfl⟩⟩; have n0_ := Aside0.mk (pw_below_drewN HB.out nd); clear HB; have HB := n0_; clear n0_))
      go_ret
      exact ⟨rfl, HB.out⟩
    | true =>
      rw [if_pos rfl] at h
      replace h := Option.bind_eq_some_iff.1 h; obtain ⟨⟨a, b⟩, h2, h⟩ := h
      replace h := Option.bind_eq_some_iff.1 h; obtain ⟨⟨c, d⟩, h3, h⟩ := h
      replace h := Option.bind_eq_some_iff.1 h; obtain ⟨s, h4, h⟩ := h
      by_cases e4 : s = true
      · subst e4
        rw [if_pos rfl] at h
        have HTB := Aside0.mk h2
        have HRB := Aside0.mk h3
        have HS1 := Aside0.mk h4
        have HS2 := Aside0.mk h
        clear h2 h3 h4 h
        go_enter Try.func12, Try.ntmps12
        go_wp2_with (first | ((with_reducible refine gate_callee (f := 26) rfl ?_); refine goesL_ (some 7) rfl rfl Try.func26 (by kernel_rfl) rfl #[] rfl (by (try simp only [List.map_toArray, List.map_cons, List.map_nil]); first | done | rfl) ?_; (with_reducible refine (umpirelaw14_awake.calls k true _ HW0.out).mono ?_); rintro e w1 ⟨rfl, hb⟩; refine ⟨_, rfl, ?_⟩; have n0_ := Aside0.mk (below_step (by repeat (first | (with_reducible first | exact HB.out | apply below_alloc | apply pw_below_drewN | apply below_drew1) | exact HB.out)) hb); clear HB; have HB := n0_; clear n0_; clear hb) | (go_at_call 31; (with_reducible refine (umpireref12_Few.calls k _ _ l0 true _ (Kd.C_below HR0.out HB.out) HC0.out HF0.out).mono ?_); rintro e w' ⟨rfl, ⟨nd, rfl⟩⟩; have n0_ := Aside0.mk (pw_below_drewN HB.out nd); clear HB; have HB := n0_; clear n0_) | (go_at_call 40; refine (terms_Bad.calls k _ _ l0 a b _ (Kd.C_below HR0.out (by repeat (first | (with_reducible first | exact HB.out | apply below_alloc | apply pw_below_drewN | apply below_drew1) | exact HB.out))) HC0.out HTB.out).mono ?_; rintro e w8 ⟨va, vb, rfl, ha, hbb, hb⟩; have n0_ := Aside0.mk (below_step (by repeat (first | (with_reducible first | exact HB.out | apply below_alloc | apply pw_below_drewN | apply below_drew1) | exact HB.out)) hb); clear HB; have HB := n0_; clear n0_; clear hb; obtain ⟨Aa, ca, rfl, hla, hca⟩ := Kd.S_reads ha; obtain ⟨Ab, cb, rfl, hlb, hcb⟩ := Kd.S_reads hbb; have LA := Aside0.mk hla; have CA := Aside0.mk hca; have LB := Aside0.mk hlb; have CB := Aside0.mk hcb; clear ha hbb hla hca hlb hcb) | (go_at_call 41; refine (umpireref14_Bad.calls k _ _ l0 c d _ (Kd.C_below HR0.out (by repeat (first | (with_reducible first | exact HB.out | apply below_alloc | apply pw_below_drewN | apply below_drew1) | exact HB.out))) HC0.out HRB.out).mono ?_; rintro e w9 ⟨vc, vd, rfl, hc_, hd_, hb⟩; have n0_ := Aside0.mk (below_step (by repeat (first | (with_reducible first | exact HB.out | apply below_alloc | apply pw_below_drewN | apply below_drew1) | exact HB.out)) hb); clear HB; have HB := n0_; clear n0_; have CA9 := Aside0.mk (Kd.C_below CA.out hb); have CB9 := Aside0.mk (Kd.C_below CB.out hb); clear hb; obtain ⟨Ac, cc, rfl, hlc, hcc⟩ := Kd.N_reads hc_; obtain ⟨Ad, cd, rfl, hld, hcd⟩ := Kd.S_reads hd_; have LCC := Aside0.mk hlc; have CCC := Aside0.mk hcc; have LDD := Aside0.mk hld; have CDD := Aside0.mk hcd; clear hc_ hd_ hlc hcc hld hcd) | (go_at_call 38; (with_reducible refine (umpireref12_Same.calls k Aa ca a Ac cc c true _ CA9.out LA.out CCC.out LCC.out HS1.out).mono ?_); rintro e w10 ⟨rfl, hb⟩; have n0_ := Aside0.mk (below_step (by repeat (first | (with_reducible first | exact HB.out | apply below_alloc | apply pw_below_drewN | apply below_drew1) | exact HB.out)) hb); clear HB; have HB := n0_; clear n0_; have CB10 := Aside0.mk (Kd.C_below CB9.out hb); have CD10 := Aside0.mk (Kd.C_below CDD.out hb); clear hb) | (go_at_call 38; (with_reducible refine (umpireref12_Same.calls k Ab cb b Ad cd d r _ CB10.out LB.out CD10.out LDD.out HS2.out).mono ?_); rintro e w11 ⟨rfl, hb⟩; have n0_ := Aside0.mk (below_step (by repeat (first | (with_reducible first | exact HB.out | apply below_alloc | apply pw_below_drewN | apply below_drew1) | exact HB.out)) hb); clear HB; have HB := n0_; clear n0_; clear hb))
        go_ret
        exact ⟨rfl, HB.out⟩
      · rw [if_neg e4] at h
        cases h
  · rw [if_neg e0] at h
    cases h

end Go.Proofs.Ytnjimecjpnjojaa.Print
