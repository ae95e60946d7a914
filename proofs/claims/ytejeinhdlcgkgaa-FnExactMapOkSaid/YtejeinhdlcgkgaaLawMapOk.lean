/- The law FnExactMapOk returns true for every input, and the argument reads afterwards as before. No condition. -/
import Derived.Test.YtejeinhdlcgkgaaRows
import Derived.Test.YtejeinhdlcgkgaaPureMapOk
import Derived.WalkKit
import Derived.ProofKit
import Derived.OpenShut
import Derived.ShutString
import Derived.ChangeOld
import Derived.ChangeSame
import Derived.Below
import Derived.SizedLaws
namespace Go.Proofs.Ytejeinhdlcgkgaa.fnExactMapOk
open Go.ChangeShapes Go.WideShapes Go.ChangeAt Go.RowKit
open Go.ChangeMaps (open_string shut_string)
open Go.Proofs.Ytejeinhdlcgkgaa.PFnExactMapOk Go.Proofs.YtejeinhdlcgkgaaW.PrintWords Go.Proofs.YtejeinhdlcgkgaaW.PrintLast
set_option linter.unusedVariables false
theorem own : ownKnob Try.prog.godebug = none := by kernel_rfl
theorem laidOut : laidOutB Try.prog = true := by kernel_rfl

theorem list_of {α : Type} {R : Nat → α → Prop} (n : Nat) (h : ∀ i, i < n → ∃ x, R i x) : ∃ l : List α, l.length = n ∧ ∀ i x, l[i]? = some x → R i x := by
  induction n with
  | zero => exact ⟨[], rfl, fun i x hx => by simp at hx⟩
  | succ n ih =>
    obtain ⟨l, hl, hr⟩ := ih (fun i hi => h i (by omega))
    obtain ⟨x, hx⟩ := h n (by omega)
    refine ⟨l ++ [x], by simp [hl], fun i y hy => ?_⟩
    by_cases e : i < n
    · rw [List.getElem?_append_left (by omega)] at hy
      exact hr i y hy
    · have hi := (List.getElem?_eq_some_iff.1 hy).1
      simp at hi
      obtain rfl : i = n := by omega
      rw [List.getElem?_append_right (by omega), hl] at hy
      simp at hy
      subst hy
      exact hx

set_option maxRecDepth 100000 in
/-- A map that comes in: a number, and a row of pairs of numbers. -/
theorem open_map {H : Type} {enc : TypeId × Value → H} {W : World} {b0 : Nat} {v : Value} {d : DataW H} {p : List MemPlace} (hval : Value.okWide Try.prog W .any b0 24 v)
    (h : DataW.Trod enc Try.prog W 0 (fun _ => true) true 24 v d p) (hsz : (d.weights Try.prog 24).all (· ≤ reachBytes) = true) :
    ∃ (a0 : Int) (A : Option Addr) (c : Nat) (l : List S98), v = .agg #[.int .i64 a0, .slice A l.length c] ∧ Kd.C k98 W A l.length l ∧ l.length ≤ c ∧ l.length * 16 ≤ 140737488351232 := by
  obtain ⟨cs, rfl, hs⟩ := okWide_struct Try.underlying24 hval
  obtain ⟨fuel, hf⟩ := h
  obtain ⟨y0, y1, n, hdp, hl, h0, h1⟩ := trod_struct2 Try.underlying24 hf
  obtain ⟨rfl, rfl⟩ := Prod.mk.inj hdp
  have hl2 : cs.toList.length = 2 := hl.trans (by kernel_rfl)
  obtain ⟨cs⟩ := cs
  match cs, hl2 with
  | [x, y], _ =>
    have e0 : (([x, y] : List Value).drop 0).take (Try.prog.cellsOf 3) = [x] := by rw [show Try.prog.cellsOf 3 = 1 by kernel_rfl]; rfl
    have e1 : (([x, y] : List Value).drop 1).take (Try.prog.cellsOf 22) = [y] := by rw [show Try.prog.cellsOf 22 = 1 by kernel_rfl]; rfl
    obtain ⟨a0, h0, hx0, _⟩ := DataW.trod_int Try.underlying3 (show DataW.trod enc Try.prog W 0 (fun _ => true) true n 3 [x] = some y0 by rw [← e0]; exact h0)
    have h1y : DataW.trod enc Try.prog W 0 (fun _ => true) true n 22 [y] = some y1 := by rw [← e1]; exact h1
    clear h1
    obtain rfl : x = .int .i64 a0 := by simpa using h0
    rcases DataW.trod_slice (cs := [y]) Try.underlying22 h1y with ⟨h1, hx1⟩ | ⟨a, len, cap, elems, rest, n', _, h1, hx1, _, hlc, _, hel, hget, hsp, _⟩
    · obtain rfl : y = .slice none 0 0 := by simpa using h1
      exact ⟨a0, none, 0, [], rfl, ⟨rfl, by simp, fun h => by simp at h⟩, by simp, by simp⟩
    · obtain rfl : y = .slice (some a) len cap := by simpa using h1
      have hc98 : Try.prog.cellsOf 98 = 2 := by kernel_rfl
      obtain ⟨l, hll, hr⟩ := list_of (α := S98) (R := fun i s => W.cell? (a.add (i * 2)) = some (.int .i64 s.f0) ∧ W.cell? (a.add (i * 2 + 1)) = some (.int .i64 s.f1)) len (fun i hi => by
        have hg := hget i hi
        rw [List.getElem?_eq_getElem (by omega), Option.bind_eq_some_iff] at hg
        obtain ⟨cs', hcs, hd⟩ := hg
        obtain ⟨_, hcl, hcell⟩ := World.cells?_some hcs
        obtain ⟨z0, z1, m, _, _, g0, g1⟩ := trod_struct2 Try.underlying98 hd
        rw [hc98] at hcl hcell
        match cs', hcl with
        | [u, v], _ =>
          have e0 : (([u, v] : List Value).drop 0).take (Try.prog.cellsOf 3) = [u] := by rw [show Try.prog.cellsOf 3 = 1 by kernel_rfl]; rfl
          have e1 : (([u, v] : List Value).drop 1).take (Try.prog.cellsOf 3) = [v] := by rw [show Try.prog.cellsOf 3 = 1 by kernel_rfl]; rfl
          obtain ⟨b0, k0, _, _⟩ := DataW.trod_int Try.underlying3 (show DataW.trod enc Try.prog W 0 (fun _ => true) true m 3 [u] = some z0 by rw [← e0]; exact g0)
          obtain ⟨b1, k1, _, _⟩ := DataW.trod_int Try.underlying3 (show DataW.trod enc Try.prog W 0 (fun _ => true) true m 3 [v] = some z1 by rw [← e1]; exact g1)
          obtain rfl : u = .int .i64 b0 := by simpa using k0
          obtain rfl : v = .int .i64 b1 := by simpa using k1
          refine ⟨⟨b0, b1⟩, ?_, ?_⟩
          · have := hcell 0 (by omega)
            rw [add_add, Nat.add_zero] at this
            simpa using this
          · have := hcell 1 (by omega)
            rw [add_add] at this
            simpa using this)
      subst hll
      have hb : (elems.length + rest.length) * 16 ≤ reachBytes := by
        have hw := List.all_eq_true.1 hsz ((elems.length + rest.length) * Try.prog.bytesOf 98) (by
          subst hx1
          simp [DataW.weights, Try.underlying24, Try.underlying22, DataW.weightsEach])
        rw [show Try.prog.bytesOf 98 = 16 by kernel_rfl] at hw
        simpa using hw
      have hb' : reachBytes = 140737488351232 := by decide
      refine ⟨a0, some a, cap, l, rfl, ⟨rfl, by omega, fun _ => ⟨a, rfl, fun j s hj => ?_⟩⟩, hlc, by omega⟩
      obtain ⟨r0, r1⟩ := hr j s hj
      refine ⟨[.int .i64 s.f0, .int .i64 s.f1], rfl, k98_mk W s, fun i u hu => ?_⟩
      match i, hu with
      | 0, hu => simp at hu; subst hu; exact r0
      | 1, hu => simp at hu; subst hu; exact r1

set_option maxRecDepth 100000 in
theorem lifted (os : Os) (started : os.Started) (H : Type) (enc : TypeId × Value → H) :
    ReturnsInHanded {} Try.checked os 4 .any (Rows.fnExactMapOkSpec.pre6 enc Try.prog Try.f4 Rows.fnExactMapOkRow.domain false) (Rows.fnExactMapOkSpec.post enc Try.prog Try.f4 false true false false) := by
  refine returnsInHanded_of_change_sized (C := Try.checked) own started (by kernel_rfl) Try.func4
    (ChangeSpec.witness6 (enc := enc) (C := Try.checked) false ⟨#[], #[.agg #[.int .i64 0, .slice none 0 0]], []⟩ 8 (by kernel_rfl) (by kernel_rfl) (by kernel_rfl) (by kernel_rfl)) ?_
  intro W base args ds gs before hval0 hW hcnd hsz0 _
  have hsz : (DataW.weightsEach Try.prog (Try.f4.params.toList ++ Rows.fnExactMapOkSpec.plain.varTypes Try.prog) (ds ++ gs)).all (· ≤ reachBytes) = true := hsz0
  have hval : ∀ (j : Nat) t v, Try.f4.params[j]? = some t → args[j]? = some v → Value.okWide Try.prog W .any base t v := hval0
  have hW' := hW
  obtain ⟨p, q, hA0, hV, rfl, hfz, hnd⟩ := hW
  have hA : DataW.TrodAll enc Try.prog W 0 (fun _ => true) true Try.f4.params.toList args.toList ds p := hA0
  rw [Try.params4] at hA hval hsz
  obtain ⟨v0, vs0, d0, ds0, p0, q0, hargs, rfl, rfl, h0, r0⟩ := trodAll_cons hA
  obtain ⟨rfl, rfl, rfl⟩ := trodAll_nil r0
  obtain rfl : args = #[v0] := by cases args; simp_all
  obtain ⟨rfl, rfl⟩ := trodVars_none hV
  have hs0 : (d0.weights Try.prog 24).all (· ≤ reachBytes) = true := by
    have := hsz
    simp only [List.cons_append, DataW.weightsEach, List.all_append, Bool.and_eq_true] at this
    exact this.1
  obtain ⟨a0, A, c, l, rfl, hC, hc, hl⟩ := open_map (hval 0 24 v0 rfl rfl) h0 hs0
  have lt0 : ∀ x ∈ p0, x.block < W.heap.size := by obtain ⟨m, hm⟩ := h0; exact DataW.trod_lt m _ _ _ hm
  clear hA0 hval0 hsz0 hsz
  obtain ⟨k, hk⟩ := PureMapOk.law a0 l hl
  refine (laws_FnExactMapOk.calls k a0 A c l true W hC hc hk).mono fun e W' ⟨he, bel⟩ => ?_
  subst he
  exact ⟨_, rfl, _, _, _, [], _, [], hW', trodAll_mk1 (shut_bool Try.underlying4 _), (trodAll_cons_mk (Below.trod laidOut (by kernel_rfl) (of_decide_eq_true (by kernel_rfl)) h0 bel lt0) trodAll_mk0), rfl, bel.frame _, fun h => by cases h⟩
theorem over : Rows.fnExactMapOkRow.holds Try.pinned (OpenSpec.ofChange Rows.fnExactMapOkSpec) :=
  OpenClaim.holds_of_wide 4 Try.f4 rfl rfl rfl rfl rfl rfl rfl ⟨rfl, rfl, rfl, rfl, rfl⟩ rfl rfl rfl rfl rfl (by kernel_rfl) Try.func4 (by kernel_rfl)
    (of_decide_eq_true (by kernel_rfl)) (by unfold Func.isWrapper; first | (rw [if_pos (by decide +kernel)]; kernel_rfl) | (rw [if_neg (by decide +kernel)]; exact ⟨rfl, rfl⟩))
    (fun os started H enc _ => lifted os started H enc)
theorem proved : Rows.FnExactMapOkSaid := over
#print axioms proved
end Go.Proofs.Ytejeinhdlcgkgaa.fnExactMapOk
namespace Go.Proofs.Ytejeinhdlcgkgaa
/-- The row, under a short name, for the claim. -/
theorem fnExactMapOk_holds : Rows.FnExactMapOkSaid := fnExactMapOk.proved
end Go.Proofs.Ytejeinhdlcgkgaa
