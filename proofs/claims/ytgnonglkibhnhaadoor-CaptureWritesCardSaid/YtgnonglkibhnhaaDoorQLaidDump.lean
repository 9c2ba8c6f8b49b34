/- The package-level variable dump.forms, listed by the rows: its cells, read as a row of structs; and that the door's own heap meets the condition. -/
import Derived.Test.YtgnonglkibhnhaaDoorRows
import Derived.Test.YtgnonglkibhnhaaDoor0
import Derived.ProofKit
import Derived.LaidMore
import Derived.OpenShut
import Derived.Stop.Joined
namespace Go.Proofs.YtgnonglkibhnhaaDoor.Q
open Go.ChangeShapes Go.WideShapes Go.ChangeAt Go.RowKit Go.Proofs.YtgnonglkibhnhaaDoorW.PrintWords
set_option linter.unusedVariables false

def c0t : List (String × DataW Unit) := [("umpire/dump.forms", Rows.laid_umpire_dump_forms)]
theorem e6q : Tryd.prog.globalNamed "umpire/dump.forms" = some 0 := by kernel_rfl
theorem e6r : (Tryd.prog.globals[0]?).map (·.type) = some 132 := by kernel_rfl
/-- The door's own heap meets the condition. -/
theorem door_met (os : Os) (args : Array Value) : laidMetH Tryd.prog c0t ((World.doorLaid Tryd.prog 400 os).forCall (fun _ _ => 0) ⟨#[], args, []⟩).memory :=
  laidMetH_of_parts3 (fuel := 8) (laidMet_of_run' 8 (by kernel_rfl) (by kernel_rfl)) (by kernel_rfl) (by kernel_rfl)
set_option maxRecDepth 100000 in
theorem c4O {H : Type} {enc : TypeId × Value → H} {w : World} {base : Nat} {sp : Nat → Bool} {held : Bool} {fuel : Nat} {cs : List Value} {x : DataW H × List MemPlace} {b : Bool} {n : Int}
    (h : DataW.trod enc Tryd.prog w base sp held fuel 131 cs = some x) (hx : x.1 = .agg [.lit (.bool b), .lit (.int .i64 n)]) : cs = [.bool b, .int .i64 n] := by
  obtain ⟨xs, m, rfl, rfl, hl, hxs, hel⟩ := DataW.trod_struct Tryd.underlying131 h
  have c4 : Tryd.prog.cellsOf 4 = 1 := by kernel_rfl
  have c3 : Tryd.prog.cellsOf 3 = 1 := by kernel_rfl
  have c49 : Tryd.prog.cellsOf 131 = 2 := by kernel_rfl
  rw [c49] at hl
  match cs, hl with
  | [u, v], _ =>
    have h0 : DataW.trod enc Tryd.prog w base sp held m 4 (([u, v].drop 0).take (Tryd.prog.cellsOf 4)) = xs[0]? := hel 0 _ rfl
    have h1 : DataW.trod enc Tryd.prog w base sp held m 3 (([u, v].drop 1).take (Tryd.prog.cellsOf 3)) = xs[1]? := hel 1 _ rfl
    rw [c4] at h0
    rw [c3] at h1
    match xs, hxs, hx, h0, h1 with
    | [x0, x1], _, hx, h0, h1 =>
      simp only [DataW.agg.injEq, List.map_cons, List.map_nil, List.cons.injEq, and_true] at hx
      obtain ⟨b', e1, e2⟩ := DataW.trod_bool Tryd.underlying4 (show DataW.trod _ Tryd.prog _ _ _ _ _ 4 [u] = some x0 from h0)
      obtain ⟨n', e3, e4, _⟩ := DataW.trod_int Tryd.underlying3 (show DataW.trod _ Tryd.prog _ _ _ _ _ 3 [v] = some x1 from h1)
      rw [e2, e4] at hx
      simp only [DataW.lit.injEq, Lit.bool.injEq, Lit.int.injEq, true_and] at hx
      injection e1 with e1
      injection e3 with e3
      rw [e1, e3, hx.1, hx.2]
set_option maxRecDepth 100000 in
theorem c2A {W : World} (h : laidMetH Tryd.prog c0t W) : Kd.C Print.b1a W (some ⟨0, 0, none⟩) 8 Print.G7 := by
  rw [MakeChecks.laidMetH_plain _ _ _ (by kernel_rfl)] at h
  obtain ⟨ps, ⟨g0, t0, cs0, f0, p0, q0, hg0, ht0, hv0, hd0, _, _⟩, _⟩ := h
  obtain rfl := Option.some.inj (e6q.symm.trans hg0)
  obtain rfl := Option.some.inj (e6r.symm.trans ht0)
  obtain ⟨xs, m, rfl, hx, hlen, hn, hel⟩ := DataW.trod_array Tryd.underlying132 hd0
  have c49 : Tryd.prog.cellsOf 131 = 2 := by kernel_rfl
  have c50 : Tryd.prog.cellsOf 132 = 16 := by kernel_rfl
  rw [c50] at hlen
  simp only [c49] at hel
  simp only [Prod.mk.injEq, Rows.laid_umpire_dump_forms, DataW.agg.injEq] at hx
  have key : ∀ i, i < 8 → (cs0.toList.drop (i * 2)).take 2 = [.bool (Print.G7.getD i Print.z131).f0, .int .i64 (Print.G7.getD i Print.z131).f1] := by
    intro i hi
    have h1 := hel i hi
    have h2 : xs[i]? = some (xs[i]'(by omega)) := List.getElem?_eq_getElem (by omega)
    rw [h2] at h1
    refine c4O h1 ?_
    have h3 : (xs.map (·.1))[i]? = some (xs[i]'(by omega)).1 := by rw [List.getElem?_map, h2]; rfl
    rw [← hx.1] at h3
    rcases i with _ | _ | _ | _ | _ | _ | _ | _ | i
    all_goals first | exact (Option.some.inj h3).symm | omega
  refine ⟨rfl, by decide, fun _ => ⟨_, rfl, fun j p hp => ?_⟩⟩
  have hj : j < 8 := by
    have := (List.getElem?_eq_some_iff.1 hp).1
    exact this
  have hp' : Print.G7.getD j Print.z131 = p := by rw [List.getD_eq_getElem?_getD, hp]; rfl
  have hk := key j hj
  rw [hp'] at hk
  refine ⟨[.bool p.f0, .int .i64 p.f1], rfl, Print.d6p W p, fun i u hu => ?_⟩
  rw [← hk] at hu
  have hi : i < 2 := by
    have := (List.getElem?_eq_some_iff.1 hu).1
    simp at this
    omega
  rw [List.getElem?_take, if_pos hi, List.getElem?_drop] at hu
  have hc := World.var?_cell hg0 hv0 (j * 2 + i)
  rw [Go.Proofs.YtgnonglkibhnhaaDoorW.PrintWords.add_plain, show (Print.b1a).sz = 2 from rfl, hc]
  simpa using hu
end Go.Proofs.YtgnonglkibhnhaaDoor.Q
