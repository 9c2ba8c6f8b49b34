-- laid by this session's own program (wip/tools/mkrow.py) for this claim
import Derived.Test.YtnjimecjpnjojaaRows
import Derived.Test.YtnjimecjpnjojaaF6
import Derived.Test.YtnjimecjpnjojaaQAllPcapBack
import Derived.Test.YtnjimecjpnjojaaPurePcapBack
import Derived.WalkKit
import Derived.ProofKit
import Derived.OpenShut
import Derived.ShutString
import Derived.ChangeOld
import Derived.Below
import Derived.SizedLaws
import Derived.Carry
namespace Go.Proofs.Ytnjimecjpnjojaa.pcapBack
open Go.ChangeShapes Go.WideShapes Go.ChangeAt Go.RowKit Go.Proofs.YtnjimecjpnjojaaW.PrintWords
open Go.ChangeMaps (open_string shut_string)
set_option linter.unusedVariables false
theorem own : ownKnob Try.prog.godebug = none := by kernel_rfl
theorem laidOut : laidOutB Try.prog = true := by kernel_rfl
theorem opens22 : Q.Opens Try.prog 22 (Kd.int .u32) (fun a : Int => (Lit.int .u32 a).wf = true) := Q.Opens.int Try.underlying22
theorem opens4 : Q.Opens Try.prog 4 Kd.bool (fun _ : Bool => True) := Q.Opens.bool Try.underlying4
theorem opens24 : Q.Opens Try.prog 24 Print.k24 (fun x : Print.S24 => (fun _ : Bool => True) x.f0 ∧ (fun _ : Bool => True) x.f1 ∧ (fun a : Int => (Lit.int .u32 a).wf = true) x.f2 ∧ (fun a : Int => (Lit.int .u32 a).wf = true) x.f3) := Q.Opens.imp (Q.Opens.iso (fun x : Print.S24 => (x.f0, x.f1, x.f2, x.f3)) (fun a => ⟨a.1, a.2.1, a.2.2.1, a.2.2.2⟩) (fun _ => rfl) (Q.Opens.struct Try.underlying24 (by kernel_rfl) (Q.OpensAll.more rfl (by kernel_rfl) opens4 (Q.OpensAll.more rfl (by kernel_rfl) opens4 (Q.OpensAll.more rfl (by kernel_rfl) opens22 (Q.OpensAll.one rfl (by kernel_rfl) opens22)))))) (fun _ h => h)
theorem opens5 : Q.Opens Try.prog 5 (Kd.int .u8) (fun a : Int => (Lit.int .u8 a).wf = true) := Q.Opens.int Try.underlying5
theorem opens28 : Q.Opens Try.prog 28 (Kd.slice 5 (Kd.int .u8)) (fun l : List Int => l.length * 1 ≤ 140737488351232 ∧ ∀ a ∈ l, (fun a : Int => (Lit.int .u8 a).wf = true) a) := Q.Opens.slice Try.underlying28 (by kernel_rfl) (by kernel_rfl) opens5
theorem opens46 : Q.Opens Try.prog 46 Print.k46 (fun x : Print.S46 => (fun a : Int => (Lit.int .u32 a).wf = true) x.f0 ∧ (fun a : Int => (Lit.int .u32 a).wf = true) x.f1 ∧ (fun a : Int => (Lit.int .u32 a).wf = true) x.f2 ∧ (fun l : List Int => l.length * 1 ≤ 140737488351232 ∧ ∀ a ∈ l, (fun a : Int => (Lit.int .u8 a).wf = true) a) x.f3) := Q.Opens.imp (Q.Opens.iso (fun x : Print.S46 => (x.f0, x.f1, x.f2, x.f3)) (fun a => ⟨a.1, a.2.1, a.2.2.1, a.2.2.2⟩) (fun _ => rfl) (Q.Opens.struct Try.underlying46 (by kernel_rfl) (Q.OpensAll.more rfl (by kernel_rfl) opens22 (Q.OpensAll.more rfl (by kernel_rfl) opens22 (Q.OpensAll.more rfl (by kernel_rfl) opens22 (Q.OpensAll.one rfl (by kernel_rfl) opens28)))))) (fun _ h => h)
theorem opens25 : Q.Opens Try.prog 25 (Kd.slice 46 Print.k46) (fun l : List Print.S46 => l.length * 40 ≤ 140737488351232 ∧ ∀ a ∈ l, (fun x : Print.S46 => (fun a : Int => (Lit.int .u32 a).wf = true) x.f0 ∧ (fun a : Int => (Lit.int .u32 a).wf = true) x.f1 ∧ (fun a : Int => (Lit.int .u32 a).wf = true) x.f2 ∧ (fun l : List Int => l.length * 1 ≤ 140737488351232 ∧ ∀ a ∈ l, (fun a : Int => (Lit.int .u8 a).wf = true) a) x.f3) a) := Q.Opens.slice Try.underlying25 (by kernel_rfl) (by kernel_rfl) opens46
set_option maxRecDepth 100000 in
theorem lifted (os : Os) (started : os.Started) (H : Type) (enc : TypeId × Value → H) :
    ReturnsInHanded {} Try.checked os 6 .any (Rows.pcapBackSpec.pre6 enc Try.prog Try.f6 Rows.pcapBackRow.domain false) (Rows.pcapBackSpec.post enc Try.prog Try.f6 false true false false) := by
  refine returnsInHanded_of_change_sized (C := Try.checked) own started (by kernel_rfl) Try.func6
    (ChangeSpec.witness6 (enc := enc) (C := Try.checked) false ⟨#[], #[.agg #[.bool false, .bool false, .int .u32 0, .int .u32 0], .slice none 0 0, .slice none 0 0], []⟩ 8 (by kernel_rfl) (by kernel_rfl) (by kernel_rfl) (by kernel_rfl)) ?_
  intro W base args ds gs before hval0 hW hcnd hsz0 _
  have hsz : (DataW.weightsEach Try.prog (Try.f6.params.toList ++ Rows.pcapBackSpec.plain.varTypes Try.prog) (ds ++ gs)).all (· ≤ reachBytes) = true := hsz0
  have hval : ∀ (j : Nat) t v, Try.f6.params[j]? = some t → args[j]? = some v → Value.okWide Try.prog W .any base t v := hval0
  have hW' := hW
  obtain ⟨p, q, hA0, hV, rfl, hfz, hnd⟩ := hW
  have hA : DataW.TrodAll enc Try.prog W 0 (fun _ => true) true Try.f6.params.toList args.toList ds p := hA0
  rw [Try.params6] at hA hval hsz
  obtain ⟨v0, vs0, d0, ds0, p0, q0, hargs, rfl, rfl, h0, r0⟩ := trodAll_cons hA
  obtain ⟨v1, vs1, d1, ds1, p1, q1, rfl, rfl, rfl, h1, r1⟩ := trodAll_cons r0
  obtain ⟨v2, vs2, d2, ds2, p2, q2, rfl, rfl, rfl, h2, r2⟩ := trodAll_cons r1
  obtain ⟨rfl, rfl, rfl⟩ := trodAll_nil r2
  obtain rfl : args = #[v0, v1, v2] := by cases args; simp_all
  obtain ⟨rfl, rfl⟩ := trodVars_none hV
  obtain ⟨cs0, rfl, hcs0⟩ := okWide_struct Try.underlying24 (hval 0 24 v0 rfl rfl)
  have k0 := h0
  have lt0 : ∀ x ∈ p0, x.block < W.heap.size := by obtain ⟨m, hm⟩ := k0; exact DataW.trod_lt m _ _ _ hm
  obtain ⟨a0, hK0, w0⟩ : ∃ a : Print.S24, Print.k24.K W a cs0.toList ∧ (fun x : Print.S24 => (fun _ : Bool => True) x.f0 ∧ (fun _ : Bool => True) x.f1 ∧ (fun a : Int => (Lit.int .u32 a).wf = true) x.f2 ∧ (fun a : Int => (Lit.int .u32 a).wf = true) x.f3) a := by
    obtain ⟨fuel, hf⟩ := h0
    exact opens24 H enc W 0 true fuel _ _ hf (List.all_eq_true.2 fun n hn => List.all_eq_true.1 hsz n (DataW.weights_mem_each (j := 0) rfl rfl n hn))
  obtain rfl : cs0 = #[.bool a0.f0, .bool a0.f1, .int .u32 a0.f2, .int .u32 a0.f3] := by
    have hh := Print.k24_open hK0
    cases cs0
    simpa using hh
  obtain ⟨a1, len1, cap1, rfl⟩ := okWide_slice Try.underlying25 (hval 1 25 v1 rfl rfl)
  have k1 := h1
  have lt1 : ∀ x ∈ p1, x.block < W.heap.size := by obtain ⟨m, hm⟩ := k1; exact DataW.trod_lt m _ _ _ hm
  obtain ⟨l1, e1, hc1, hr1, w1⟩ : ∃ l : List Print.S46, len1 = l.length ∧ l.length ≤ cap1 ∧ Kd.C Print.k46 W a1 l.length l ∧ (fun l : List Print.S46 => l.length * 40 ≤ 140737488351232 ∧ ∀ a ∈ l, (fun x : Print.S46 => (fun a : Int => (Lit.int .u32 a).wf = true) x.f0 ∧ (fun a : Int => (Lit.int .u32 a).wf = true) x.f1 ∧ (fun a : Int => (Lit.int .u32 a).wf = true) x.f2 ∧ (fun l : List Int => l.length * 1 ≤ 140737488351232 ∧ ∀ a ∈ l, (fun a : Int => (Lit.int .u8 a).wf = true) a) x.f3) a) l := by
    obtain ⟨fuel, hf⟩ := h1
    obtain ⟨l, ⟨A, c, hcs, hl, hC⟩, hw⟩ := opens25 H enc W 0 true fuel _ _ hf (List.all_eq_true.2 fun n hn => List.all_eq_true.1 hsz n (DataW.weights_mem_each (j := 1) rfl rfl n hn))
    simp [Value.cells] at hcs
    obtain ⟨rfl, rfl, rfl⟩ := hcs
    exact ⟨l, rfl, hl, hC, hw⟩
  subst e1
  obtain ⟨a2, len2, cap2, rfl⟩ := okWide_slice Try.underlying28 (hval 2 28 v2 rfl rfl)
  have k2 := h2
  have lt2 : ∀ x ∈ p2, x.block < W.heap.size := by obtain ⟨m, hm⟩ := k2; exact DataW.trod_lt m _ _ _ hm
  obtain ⟨l2, e2, hc2, hr2, w2⟩ : ∃ l : List Int, len2 = l.length ∧ l.length ≤ cap2 ∧ Kd.C (Kd.int .u8) W a2 l.length l ∧ (fun l : List Int => l.length * 1 ≤ 140737488351232 ∧ ∀ a ∈ l, (fun a : Int => (Lit.int .u8 a).wf = true) a) l := by
    obtain ⟨fuel, hf⟩ := h2
    obtain ⟨l, ⟨A, c, hcs, hl, hC⟩, hw⟩ := opens28 H enc W 0 true fuel _ _ hf (List.all_eq_true.2 fun n hn => List.all_eq_true.1 hsz n (DataW.weights_mem_each (j := 2) rfl rfl n hn))
    simp [Value.cells] at hcs
    obtain ⟨rfl, rfl, rfl⟩ := hcs
    exact ⟨l, rfl, hl, hC, hw⟩
  subst e2
  clear hA0 hval0 hsz0 hsz
  obtain ⟨k, hk⟩ := Pure.PcapBack a0 l1 l2 w0 w1 w2
  refine (Print.umpirelaw09_PcapBack.calls k a0.f0 a0.f1 a0.f2 a0.f3 _ _ l1 _ _ l2 true W hr1 hc1 hr2 hc2 hk).mono fun e W' ⟨he, bel⟩ => ?_
  subst he
  exact ⟨_, rfl, _, _, _, [], _, [], hW', trodAll_mk1 (shut_bool Try.underlying4 _), (trodAll_cons_mk (Below.trod laidOut (by kernel_rfl) (of_decide_eq_true (by kernel_rfl)) k0 bel lt0) (trodAll_cons_mk (Below.trod laidOut (by kernel_rfl) (of_decide_eq_true (by kernel_rfl)) k1 bel lt1) (trodAll_cons_mk (Below.trod laidOut (by kernel_rfl) (of_decide_eq_true (by kernel_rfl)) k2 bel lt2) trodAll_mk0))), rfl, bel.frame _, fun h => by cases h⟩
theorem over : Rows.pcapBackRow.holds Try.pinned (OpenSpec.ofChange Rows.pcapBackSpec) :=
  OpenClaim.holds_of_wide 6 Try.f6 rfl rfl rfl rfl rfl rfl rfl ⟨rfl, rfl, rfl, rfl, rfl⟩ rfl rfl rfl rfl rfl (by kernel_rfl) Try.func6 (by kernel_rfl)
    (of_decide_eq_true (by kernel_rfl)) (by unfold Func.isWrapper; first | (rw [if_pos (by decide +kernel)]; kernel_rfl) | (rw [if_neg (by decide +kernel)]; exact ⟨rfl, rfl⟩))
    (fun os started H enc _ => lifted os started H enc)
theorem proved : Rows.PcapBackSaid := over
#print axioms proved
end Go.Proofs.Ytnjimecjpnjojaa.pcapBack
namespace Go.Proofs.Ytnjimecjpnjojaa
/-- The row, under a short name, for the claim. -/
theorem pcapBack_holds : Rows.PcapBackSaid := pcapBack.proved
end Go.Proofs.Ytnjimecjpnjojaa
