-- laid by this session's own program (wip/tools/mkrow.py) for this claim
import Derived.Test.YtgnonglkibhnhaaDoorRows
import Derived.Test.YtgnonglkibhnhaaDoorF7
import Derived.Test.YtgnonglkibhnhaaDoorQOpen
import Derived.Test.YtgnonglkibhnhaaDoorPureCaptureChunks
import Derived.Test.YtgnonglkibhnhaaDoorCards
import Derived.Test.YtgnonglkibhnhaaDoorTie
import Derived.Test.YtgnonglkibhnhaaDoorQLaidDump
import Derived.WalkKit
import Derived.ProofKit
import Derived.OpenShut
import Derived.ShutString
import Derived.ChangeOld
import Derived.Below
import Derived.SizedLaws
import Derived.Carry
import Derived.LaidMore
import Derived.Stop.Joined
import Derived.SevenTiedAt
namespace Go.Proofs.YtgnonglkibhnhaaDoor.captureChunks
open Go.ChangeShapes Go.WideShapes Go.ChangeAt Go.RowKit Go.Proofs.YtgnonglkibhnhaaDoorW.PrintWords
open Go.ChangeMaps (open_string shut_string)
set_option linter.unusedVariables false
theorem own : ownKnob Tryd.prog.godebug = none := by kernel_rfl
theorem laidOut : laidOutB Tryd.prog = true := by kernel_rfl
theorem opens5 : Q.Opens Tryd.prog 5 (Kd.int .u8) (fun a : Int => (Lit.int .u8 a).wf = true) := Q.Opens.int Tryd.underlying5
theorem opens22 : Q.Opens Tryd.prog 22 (Kd.slice 5 (Kd.int .u8)) (fun l : List Int => l.length * 1 ≤ 140737488351232 ∧ ∀ a ∈ l, (fun a : Int => (Lit.int .u8 a).wf = true) a) := Q.Opens.slice Tryd.underlying22 (by kernel_rfl) (by kernel_rfl) opens5
theorem opens3 : Q.Opens Tryd.prog 3 (Kd.int .i64) (fun a : Int => (Lit.int .i64 a).wf = true) := Q.Opens.int Tryd.underlying3
theorem opens42 : Q.Opens Tryd.prog 42 Print.k42 (fun x : Print.S42 => (fun a : Int => (Lit.int .i64 a).wf = true) x.f0 ∧ (fun a : Int => (Lit.int .i64 a).wf = true) x.f1 ∧ (fun l : List Int => l.length * 1 ≤ 140737488351232 ∧ ∀ a ∈ l, (fun a : Int => (Lit.int .u8 a).wf = true) a) x.f2) := Q.Opens.imp (Q.Opens.iso (fun x : Print.S42 => (x.f0, x.f1, x.f2)) (fun a => ⟨a.1, a.2.1, a.2.2⟩) (fun _ => rfl) (Q.Opens.struct Tryd.underlying42 (by kernel_rfl) (Q.OpensAll.more rfl (by kernel_rfl) opens3 (Q.OpensAll.more rfl (by kernel_rfl) opens3 (Q.OpensAll.one rfl (by kernel_rfl) opens22))))) (fun _ h => h)
theorem opens27 : Q.Opens Tryd.prog 27 (Kd.slice 42 Print.k42) (fun l : List Print.S42 => l.length * 40 ≤ 140737488351232 ∧ ∀ a ∈ l, (fun x : Print.S42 => (fun a : Int => (Lit.int .i64 a).wf = true) x.f0 ∧ (fun a : Int => (Lit.int .i64 a).wf = true) x.f1 ∧ (fun l : List Int => l.length * 1 ≤ 140737488351232 ∧ ∀ a ∈ l, (fun a : Int => (Lit.int .u8 a).wf = true) a) x.f2) a) := Q.Opens.slice Tryd.underlying27 (by kernel_rfl) (by kernel_rfl) opens42
set_option maxRecDepth 100000 in
theorem lifted (os : Os) (started : os.Started) (H : Type) (enc : TypeId × Value → H) :
    ReturnsInHanded {} Tryd.checked os 7 .any (fun w args => (Rows.captureChunksSpec.pre enc Tryd.prog Tryd.f7 [] false w args ∧ laidMetH Tryd.prog Q.laidF w) ∧ sizedMet enc Tryd.prog Tryd.f7 (OpenSpec.ofChange Rows.captureChunksSpec) false w args) (Rows.captureChunksSpec.post enc Tryd.prog Tryd.f7 false true false false) := by
  refine returnsInHanded_of_change_and (C := Tryd.checked) (X := fun w _ => laidMetH Tryd.prog Q.laidF w) (fun _ _ _ hh h => h.of_heap hh) own started (by kernel_rfl) Tryd.func7
    (ChangeSpec.witness_shaped (enc := enc) (C := Tryd.checked) (os := os) (X := fun w _ => laidMetH Tryd.prog Q.laidF w) false (World.doorLaid Tryd.prog 400 os) #[.slice none 0 0, .slice none 0 0, .bool false] 8 rfl (World.shaped_of_RefB (by kernel_rfl) (by kernel_rfl)) (by kernel_rfl) (by kernel_rfl) (by kernel_rfl) (Q.door_met os _)) ?_
  intro W base args ds gs before hval0 hW hcnd hsz0 hL _
  have hsz : (DataW.weightsEach Tryd.prog (Tryd.f7.params.toList ++ Rows.captureChunksSpec.plain.varTypes Tryd.prog) (ds ++ gs)).all (· ≤ reachBytes) = true := hsz0
  have hval : ∀ (j : Nat) t v, Tryd.f7.params[j]? = some t → args[j]? = some v → Value.okWide Tryd.prog W .any base t v := hval0
  have hW' := hW
  obtain ⟨p, q, hA0, hV, rfl, hfz, hnd⟩ := hW
  have hA : DataW.TrodAll enc Tryd.prog W 0 (fun _ => true) true Tryd.f7.params.toList args.toList ds p := hA0
  rw [Tryd.params7] at hA hval hsz
  obtain ⟨v0, vs0, d0, ds0, p0, q0, hargs, rfl, rfl, h0, r0⟩ := trodAll_cons hA
  obtain ⟨v1, vs1, d1, ds1, p1, q1, rfl, rfl, rfl, h1, r1⟩ := trodAll_cons r0
  obtain ⟨v2, vs2, d2, ds2, p2, q2, rfl, rfl, rfl, h2, r2⟩ := trodAll_cons r1
  obtain ⟨rfl, rfl, rfl⟩ := trodAll_nil r2
  obtain rfl : args = #[v0, v1, v2] := by cases args; simp_all
  obtain ⟨rfl, rfl⟩ := trodVars_none hV
  obtain ⟨a0, len0, cap0, rfl⟩ := okWide_slice Tryd.underlying27 (hval 0 27 v0 rfl rfl)
  have k0 := h0
  have lt0 : ∀ x ∈ p0, x.block < W.heap.size := by obtain ⟨m, hm⟩ := k0; exact DataW.trod_lt m _ _ _ hm
  obtain ⟨l0, e0, hc0, hr0, w0⟩ : ∃ l : List Print.S42, len0 = l.length ∧ l.length ≤ cap0 ∧ Kd.C Print.k42 W a0 l.length l ∧ (fun l : List Print.S42 => l.length * 40 ≤ 140737488351232 ∧ ∀ a ∈ l, (fun x : Print.S42 => (fun a : Int => (Lit.int .i64 a).wf = true) x.f0 ∧ (fun a : Int => (Lit.int .i64 a).wf = true) x.f1 ∧ (fun l : List Int => l.length * 1 ≤ 140737488351232 ∧ ∀ a ∈ l, (fun a : Int => (Lit.int .u8 a).wf = true) a) x.f2) a) l := by
    obtain ⟨fuel, hf⟩ := h0
    obtain ⟨l, ⟨A, c, hcs, hl, hC⟩, hw⟩ := opens27 H enc W 0 true fuel _ _ hf (List.all_eq_true.2 fun n hn => List.all_eq_true.1 hsz n (DataW.weights_mem_each (j := 0) rfl rfl n hn))
    simp [Value.cells] at hcs
    obtain ⟨rfl, rfl, rfl⟩ := hcs
    exact ⟨l, rfl, hl, hC, hw⟩
  subst e0
  obtain ⟨a1, len1, cap1, rfl⟩ := okWide_slice Tryd.underlying22 (hval 1 22 v1 rfl rfl)
  have k1 := h1
  have lt1 : ∀ x ∈ p1, x.block < W.heap.size := by obtain ⟨m, hm⟩ := k1; exact DataW.trod_lt m _ _ _ hm
  obtain ⟨l1, e1, hc1, hr1, w1⟩ : ∃ l : List Int, len1 = l.length ∧ l.length ≤ cap1 ∧ Kd.C (Kd.int .u8) W a1 l.length l ∧ (fun l : List Int => l.length * 1 ≤ 140737488351232 ∧ ∀ a ∈ l, (fun a : Int => (Lit.int .u8 a).wf = true) a) l := by
    obtain ⟨fuel, hf⟩ := h1
    obtain ⟨l, ⟨A, c, hcs, hl, hC⟩, hw⟩ := opens22 H enc W 0 true fuel _ _ hf (List.all_eq_true.2 fun n hn => List.all_eq_true.1 hsz n (DataW.weights_mem_each (j := 1) rfl rfl n hn))
    simp [Value.cells] at hcs
    obtain ⟨rfl, rfl, rfl⟩ := hcs
    exact ⟨l, rfl, hl, hC, hw⟩
  subst e1
  obtain ⟨a2, rfl, rfl, rfl⟩ := open_bool Tryd.underlying4 (hval 2 4 v2 rfl rfl) h2
  clear hA0 hval0 hsz0 hsz
  obtain ⟨k, hk⟩ := Pure.CaptureChunks l0 l1 a2 w0 w1
  refine (Print.umpirelaw11_CaptureChunks.calls k _ _ l0 _ _ l1 a2 true W (Q.laid_forms hL) hr0 hc0 hr1 hc1 hk).mono fun e W' ⟨he, bel⟩ => ?_
  subst he
  exact ⟨_, rfl, _, _, _, [], _, [], hW', trodAll_mk1 (shut_bool Tryd.underlying4 _), (trodAll_cons_mk (Below.trod laidOut (by kernel_rfl) (of_decide_eq_true (by kernel_rfl)) k0 bel lt0) (trodAll_cons_mk (Below.trod laidOut (by kernel_rfl) (of_decide_eq_true (by kernel_rfl)) k1 bel lt1) (trodAll_cons_mk (shut_bool Tryd.underlying4 _) trodAll_mk0))), rfl, bel.frame _, fun h => by cases h⟩
theorem over : Rows.captureChunksRow.holds Tryd.pinned (OpenSpec.ofChange Rows.captureChunksSpec) :=
  OpenClaim.holds_of_wide 7 Tryd.f7 rfl rfl rfl rfl rfl rfl rfl ⟨rfl, rfl, rfl, rfl, rfl⟩ rfl rfl rfl rfl rfl (by kernel_rfl) Tryd.func7 (by kernel_rfl)
    (of_decide_eq_true (by kernel_rfl)) (by unfold Func.isWrapper; first | (rw [if_pos (by decide +kernel)]; kernel_rfl) | (rw [if_neg (by decide +kernel)]; exact ⟨rfl, rfl⟩))
    (fun os started H enc _ => lifted os started H enc)
theorem proved : Rows.CaptureChunksSaid := over
#print axioms proved
end Go.Proofs.YtgnonglkibhnhaaDoor.captureChunks
namespace Go.Proofs.YtgnonglkibhnhaaDoor
/-- The row, under a short name, for the claim. -/
theorem captureChunks_holds : Rows.CaptureChunksSaid := captureChunks.proved
/-- The tied card, for the claim. -/
theorem captureChunksCard_holds : Rows.CaptureChunksCardSaid :=
  Claim7.holds_tied_plain_at .later [] [.data] true (true, "33b0d3a0549da558437d5c98b1262d9e7f143be7663bd9371ba56253cccf3e63") true
    captureChunks_holds (fun _ h => by cases h) (by kernel_rfl) (fun _ h => by cases h) captureChunks_row_tie rfl ⟨rfl, rfl⟩ (by kernel_rfl) rfl
    (fun f fn hf hfn => by
      obtain rfl : f = 7 := Option.some.inj ((show Tryd.prog.funcNamed "umpire/umpirelaw11.CaptureChunks" = some 7 by kernel_rfl).symm.trans hf) |>.symm
      obtain rfl : fn = Tryd.f7 := (Option.some.inj (Tryd.func7.symm.trans hfn)).symm
      exact ⟨by kernel_rfl, fun j t ht => by
        rw [Tryd.params7] at ht
        have hm : t ∈ [27, 22, 4] := by simpa using Array.mem_of_getElem? ht
        have hall : ([27, 22, 4].all fun u => !Tryd.prog.wantsStandIn u) = true := by kernel_rfl
        exact (show Tryd.prog.wantsStandIn t = false by simpa using List.all_eq_true.1 hall t hm)⟩)
    (by kernel_rfl)
#print axioms captureChunksCard_holds
end Go.Proofs.YtgnonglkibhnhaaDoor
