/- A part of an evaluator of loaded Go code over values, with its soundness; no condition of its own. -/
import Derived.Test.YtncfoonahkieoaaGreatDoorV1
import Derived.LoopN
set_option linter.unusedVariables false
set_option linter.constructorNameAsVariable false
set_option linter.unusedSimpArgs false
set_option linter.unnecessarySimpa false
namespace Go.Proofs.YtncfoonahkieoaaGreatDoorV
section
variable {w0 w w' : World} {S0 : Nat → Prop} {G G' : Gh} {h h' : Hp} {P : Program} {E : Env}
theorem PRep1.to {K K' : Nat} {p : PD} (hro : qi1 p = true → ∀ b, G.ro b → G'.ro b ∧ w'.heap[b]? = w.heap[b]?) (hown : ∀ b p, G.own b = some (.tmp K p) → G'.own b = some (.tmp K' p) ∧ w'.heap[b]? = w.heap[b]?) {u : Value} {t : T} (H : PRep1 w G K p u t) : PRep1 w' G' K' p u t := by
 have h1 : ∀ {c : CT}, CellRep w (G.own.t K) [] c u t → CellRep w' (G'.own.t K') [] c u t := fun h => CellRep.moved (M := G.own.t K) (M' := G'.own.t K') t ⟨fun hf => False.elim hf, fun b ρ hb => hown b _ hb⟩ h
 cases p with
 | v c => exact ⟨h1 H.1, H.2⟩
 | ro c => exact ⟨CellRep.moved (M := roM G.ro) (M' := roM G'.ro) t ⟨fun _ => trivial, fun b ρ hb => hro rfl b hb⟩ H.1, H.2⟩
 | ow c => exact ⟨h1 H.1, H.2⟩
 | mv c => exact ⟨h1 H.1, H.2⟩
 | fn f => exact H
 | ag l => exact H.elim
 | bx l => exact H.elim
theorem PReps.to : ∀ {K K' : Nat} {ps : List PD} {us : List Value} {ts : List T}, (ps.any qi1 = true → ∀ b, G.ro b → G'.ro b ∧ w'.heap[b]? = w.heap[b]?) →
 (∀ j b p, j < ps.length → G.own b = some (.tmp (K + j) p) → G'.own b = some (.tmp (K' + j) p) ∧ w'.heap[b]? = w.heap[b]?) → PReps w G K ps us ts → PReps w' G' K' ps us ts
 | _, _, [], [], [], _, _, _ => trivial
 | K, K', p :: ps, u :: us, t :: ts, hro, hown, H => ⟨H.1.to (fun e => hro (by simp [e])) (fun b p hb => hown 0 b p (by simp) hb), PReps.to (fun e => hro (by rw [List.any_cons, e, Bool.or_true])) (fun j b p hj hb => by
  rw [show K + 1 + j = K + (j + 1) by omega] at hb
  rw [show K' + 1 + j = K' + (j + 1) by omega]
  exact hown (j + 1) b p (by simpa using hj) hb) H.2⟩
 | _, _, [], _ :: _, _, _, _, H => H.elim
 | _, _, [], [], _ :: _, _, _, H => H.elim
 | _, _, _ :: _, [], _, _, _, H => H.elim
 | _, _, _ :: _, _ :: _, [], _, _, H => H.elim
theorem PRep.to {K K' : Nat} {p : PD} {u : Value} {t : T} (hro : qam p = true → ∀ b, G.ro b → G'.ro b ∧ w'.heap[b]? = w.heap[b]?)
 (hown : ∀ j b q, j < wide p → G.own b = some (.tmp (K + j) q) → G'.own b = some (.tmp (K' + j) q) ∧ w'.heap[b]? = w.heap[b]?) (H : PRep w G K p u t) : PRep w' G' K' p u t := by
 cases p with
 | ag l => obtain ⟨us, ts, h1, h2, h3⟩ := H; exact ⟨us, ts, h1, h2, h3.to hro hown⟩
 | bx l =>
  obtain ⟨b, us, ty, fz, ts, h1, h2, h3, h4, h5⟩ := H
  simp only [wide] at hown
  obtain ⟨g1, g2⟩ := hown 0 b [] (by omega) h3
  exact ⟨b, us, ty, fz, ts, h1, h2, g1, g2.trans h4, h5.to hro (fun j b q hj hb => by
   rw [show K + 1 + j = K + (j + 1) by omega] at hb
   rw [show K' + 1 + j = K' + (j + 1) by omega]
   exact hown (j + 1) b q (by omega) hb)⟩
 | v c => exact PRep1.to (p := .v c) hro (fun b q hb => hown 0 b q (by simp [wide]) hb) H
 | ro c => exact PRep1.to (p := .ro c) hro (fun b q hb => hown 0 b q (by simp [wide]) hb) H
 | ow c => exact PRep1.to (p := .ow c) hro (fun b q hb => hown 0 b q (by simp [wide]) hb) H
 | mv c => exact PRep1.to (p := .mv c) hro (fun b q hb => hown 0 b q (by simp [wide]) hb) H
 | fn f => exact PRep1.to (p := .fn f) hro (fun b q hb => hown 0 b q (by simp [wide]) hb) H
theorem PRepL.to : ∀ {K K' : Nat} {ps : List PD} {us : List Value} {ts : List T}, (ps.any qam = true → ∀ b, G.ro b → G'.ro b ∧ w'.heap[b]? = w.heap[b]?) →
 (∀ j b p, j < (ps.map wide).sum → G.own b = some (.tmp (K + j) p) → G'.own b = some (.tmp (K' + j) p) ∧ w'.heap[b]? = w.heap[b]?) → PRepL w G K ps us ts → PRepL w' G' K' ps us ts
 | _, _, [], [], [], _, _, _ => trivial
 | K, K', p :: ps, u :: us, t :: ts, hro, hown, H => by
  simp only [List.map_cons, List.sum_cons] at hown
  exact ⟨H.1.to (fun e => hro (by simp [e])) (fun j b p hj hb => hown j b p (by omega) hb), PRepL.to (fun e => hro (by rw [List.any_cons, e, Bool.or_true])) (fun j b q hj hb => by
   rw [show K + wide p + j = K + (wide p + j) by omega] at hb
   rw [show K' + wide p + j = K' + (wide p + j) by omega]
   exact hown (wide p + j) b q (by omega) hb) H.2⟩
 | _, _, [], _ :: _, _, _, _, H => H.elim
 | _, _, [], [], _ :: _, _, _, H => H.elim
 | _, _, _ :: _, [], _, _, _, H => H.elim
 | _, _, _ :: _, _ :: _, [], _, _, H => H.elim
theorem RowsBk.to : ∀ {K K' : Nat} {xs : List (CT × Value)} {ts : List T},
 (∀ j b p, j < xs.length → G.own b = some (.tmp (K + j) p) → G'.own b = some (.tmp (K' + j) p) ∧ w'.heap[b]? = w.heap[b]?) → RowsBk w G K xs ts → RowsBk w' G' K' xs ts
 | _, _, [], [], _, _ => trivial
 | K, K', x :: xs, t :: ts, hown, R => ⟨⟨CellRep.moved (M := G.own.t K) (M' := G'.own.t K') t ⟨fun hf => False.elim hf, fun b ρ hb => hown 0 b _ (by simp) hb⟩ R.1.1, R.1.2⟩, RowsBk.to (fun j b q hj hb => by
  rw [show K + 1 + j = K + (j + 1) by omega] at hb
  rw [show K' + 1 + j = K' + (j + 1) by omega]
  exact hown (j + 1) b q (by simpa using hj) hb) R.2⟩
 | _, _, [], _ :: _, _, H => H.elim
 | _, _, _ :: _, [], _, H => H.elim
theorem BoxesBk.to (hro : ∀ b, G.ro b → G'.ro b ∧ w'.heap[b]? = w.heap[b]?) : ∀ {K K' : Nat} {ls : List (List PD)} {us : List Value} {ts : List T},
 (∀ j b p, j < bxW ls → G.own b = some (.tmp (K + j) p) → G'.own b = some (.tmp (K' + j) p) ∧ w'.heap[b]? = w.heap[b]?) → BoxesBk w G K ls us ts → BoxesBk w' G' K' ls us ts
 | _, _, [], [], [], _, _ => trivial
 | K, K', l :: ls, u :: us, t :: ts, hown, H => by
  simp only [bxW, List.map_cons, List.sum_cons] at hown
  exact ⟨H.1.to (fun _ => hro) (fun j b p hj hb => hown j b p (by simp only [wide] at hj; omega) hb), BoxesBk.to hro (fun j b q hj hb => by
   simp only [bxW] at hj
   rw [show K + (l.length + 1) + j = K + (l.length + 1 + j) by omega] at hb
   rw [show K' + (l.length + 1) + j = K' + (l.length + 1 + j) by omega]
   exact hown (l.length + 1 + j) b q (by omega) hb) H.2⟩
 | _, _, [], _ :: _, _, _, H => H.elim
 | _, _, [], [], _ :: _, _, H => H.elim
 | _, _, _ :: _, [], _, _, H => H.elim
 | _, _, _ :: _, _ :: _, [], _, H => H.elim
def Gh.shift (G : Gh) (K : Nat) : Gh := { G with own := fun b => match G.own b with | some (.tmp k p) => if K ≤ k then some (.tmp (k - K) p) else none | _ => none }
theorem qhu {K b k : Nat} {p : Path} (hb : G.own b = some (.tmp (K + k) p)) : (G.shift K).own b = some (.tmp k p) := by
 simp only [Gh.shift, hb]
 rw [if_pos (Nat.le_add_right _ _), Nat.add_sub_cancel_left]
theorem qgc {K b : Nat} {x : Lab} (hb : (G.shift K).own b = some x) : ∃ k p, G.own b = some (.tmp (K + k) p) ∧ x = .tmp k p := by
 simp only [Gh.shift] at hb
 cases e : G.own b with
 | none => rw [e] at hb; cases hb
 | some y =>
  rw [e] at hb
  cases y with
  | blk r q => cases hb
  | tmp k q =>
   by_cases hk : K ≤ k
   ·simp only [if_pos hk] at hb
    cases hb
    exact ⟨k - K, q, by rw [Nat.add_sub_cancel' hk], rfl⟩
   ·simp only [if_neg hk] at hb
    cases hb
theorem qs5 (I : Inv w0 S0 w G h) (K : Nat) : Inv w0 S0 w (G.shift K) noBlk := by
 refine ⟨I.os, I.tape, I.output, I.size, I.same, fun b x hx => ?_, fun b x hx => ?_, fun b hb => ?_, I.roLt, I.roIn, fun r b p hb => ?_⟩
 ·obtain ⟨k, p, h1, _⟩ := qgc hx; exact I.mine b _ h1
 ·obtain ⟨k, p, h1, _⟩ := qgc hx; exact I.cells b _ h1
 ·have := I.roOwn b hb
  simp [Gh.shift, this]
 ·obtain ⟨k, q, _, h1⟩ := qgc hb
  cases h1
def kvOf (w : World) : Nat → List PD → List Value → Nat → Value
 | n, p :: ps, u :: us, m => if m < n + wide p then (match u with
  | .pointer (some ⟨b, _, _⟩) => (match w.heap[b]? with | some (.cells c _ _) => c.toList.getD (m - (n + 1)) undef | _ => undef)
  | _ => undef) else kvOf w (n + wide p) ps us m
 | _, _, _, _ => undef
theorem qpj : ∀ {n : Nat} {ps : List PD} {us : List Value}, (∀ m, n ≤ m → G.kv m = kvOf w n ps us m) → BxKv w G n ps us
 | n, p :: ps, u :: us, H => by
  refine ⟨?_, qpj fun m hm => ?_⟩
  ·cases p with
   | bx l =>
    intro b c ty fz hu hc i d x h1 h2
    have hi : i < l.length := (List.getElem?_eq_some_iff.1 h1).1
    have := H (n + 1 + i) (by omega)
    rw [this]
    simp only [kvOf]
    rw [if_pos (by simp only [wide]; omega), hu]
    simp only [hc]
    rw [show n + 1 + i - (n + 1) = i by omega, List.getD_eq_getElem?_getD, h2]
    rfl
   | _ => trivial
  ·rw [H m (by omega)]
   simp only [kvOf]
   rw [if_neg (by omega)]
 | _, [], _, _ => trivial
 | _, _ :: _, [], _ => trivial
def Gh.kvs (G : Gh) (k : KV) : Gh := { G with kv := k }
theorem PRep1.kvs (k : KV) {K : Nat} {p : PD} {u : Value} {t : T} (H : PRep1 w G K p u t) : PRep1 w (G.kvs k) K p u t := H.to (G := G) (G' := G.kvs k) (fun _ _ h => ⟨h, rfl⟩) (fun _ _ h => ⟨h, rfl⟩)
def pdOk1 : PD → Bool
 | .v c => !c.isSl
 | .ro c => c.isSl
 | .ow c => c.isSl
 | .mv c => c.isSl
 | .fn _ => true
 | _ => false
def pdOk : PD → Bool
 | .ag l => l.all pdOk1
 | .bx l => l.all pdOk1
 | p => pdOk1 p
theorem qe8 {n k r : Nat} {p : PD} {t : T} (hr : r < n) : (back1 h n k p t).2 r = h r := by
 cases p with
 | ow c => cases c with
  | sl m cs => exact upd_ne _ _ (by omega)
  | _ => rfl
 | mv c => cases c with
  | sl m cs => exact upd_ne _ _ (by unfold MV; omega)
  | _ => rfl
 | ro c => cases c <;> rfl
 | _ => rfl
theorem qg1 {tag : Bool} {t : T} : ∀ {ps : List PD} {h : Hp} {n j r : Nat}, r < n → (backs h n tag ps t j).2 r = h r
 | [], _, _, _, _, _ => rfl
 | p :: ps, h, n, j, r, hr => (qg1 (ps := ps) (n := n + 1) (j := j + 1) (by omega)).trans (qe8 (p := p) (t := T.cell t j) (k := tagN tag n) hr)
theorem qul {tag : Bool} {n r : Nat} {p : PD} {t : T} (hr : r < n) : (backR h n tag p t).2 r = h r := by
 cases p with
 | ag l => exact qg1 hr
 | bx l => exact (upd_ne _ _ (by omega)).trans (qg1 (n := n + 1) (by omega))
 | v c => exact qe8 (p := .v c) (k := 0) hr
 | ro c => exact qe8 (p := .ro c) (k := 0) hr
 | ow c => exact qe8 (p := .ow c) (k := 0) hr
 | mv c => exact qe8 (p := .mv c) (k := 0) hr
 | fn f => rfl
theorem qem {tag : Bool} {rr : List T} : ∀ {ps : List PD} {h : Hp} {n i r : Nat}, r < n → (qb2 h n tag ps rr i).2 r = h r
 | [], _, _, _, _, _ => rfl
 | p :: ps, h, n, i, r, hr => (qem (ps := ps) (n := n + wide p) (i := i + 1) (by omega)).trans (qul (p := p) (t := nth rr i) hr)
def RowIn (w : World) (G : Gh) (hF : Hp) (r : Nat) (x : CT × Value) : Prop :=
 AVRep w G hF x.2 (.rf r [] 0 none) ∧ ∃ m cs l e, x.1 = .sl m cs ∧ hF r = .row m cs l 0 e
def RowsIn (w : World) (G : Gh) (hF : Hp) : List Nat → List (CT × Value) → Prop
 | [], [] => True
 | r :: rs, x :: xs => RowIn w G hF r x ∧ RowsIn w G hF rs xs
 | _, _ => False
theorem RowsIn.append {hF : Hp} : ∀ {rs rs' : List Nat} {xs xs' : List (CT × Value)}, RowsIn w G hF rs xs → RowsIn w G hF rs' xs' → RowsIn w G hF (rs ++ rs') (xs ++ xs')
 | [], _, [], _, _, H' => H'
 | _ :: _, _, _ :: _, _, H, H' => ⟨H.1, RowsIn.append H.2 H'⟩
 | [], _, _ :: _, _, H, _ => H.elim
 | _ :: _, _, [], _, H, _ => H.elim
theorem RowsIn.rh {hF : Hp} : ∀ {rs : List Nat} {xs : List (CT × Value)}, RowsIn w G hF rs xs → RowsH w G hF rs xs
 | [], [], _ => trivial
 | r :: rs, x :: xs, H => ⟨H.1.1, fun m cs l v e hr => by
  obtain ⟨_, m', cs', l', e', h1, h2⟩ := H.1
  rw [h2] at hr
  cases hr
  exact h1, RowsIn.rh H.2⟩
 | [], _ :: _, H => H.elim
 | _ :: _, [], H => H.elim
theorem RowsIn.row {hF : Hp} : ∀ {rs : List Nat} {xs : List (CT × Value)}, RowsIn w G hF rs xs → ∀ r ∈ rs, ∃ m cs l e, hF r = .row m cs l 0 e
 | [], [], _, _, hr => by cases hr
 | r :: rs, x :: xs, H, r', hr => by
  rcases List.mem_cons.1 hr with rfl | hr
  ·obtain ⟨_, m', cs', l', e', h1, h2⟩ := H.1; exact ⟨_, _, _, _, h2⟩
  ·exact RowsIn.row H.2 r' hr
 | [], _ :: _, H, _, _ => H.elim
 | _ :: _, [], H, _, _ => H.elim
theorem ow_in {hF : Hp} {n k : Nat} {c : CT} {u : Value} {t : T} (hc : c.isSl = true) (hF1 : hF n = (back1 h n k (.ow c) t).2 n) (H : AVRep w G hF u (back1 h n k (.ow c) t).1) : RowIn w G hF n (c, u) := by
 cases c with
 | sl m cs =>
  refine ⟨H, m, cs, asL t, false, rfl, ?_⟩
  rw [hF1]
  exact upd_same _ _ _
 | _ => cases hc
theorem qi0 {tag : Bool} {t : T} {hF : Hp} : ∀ {ps : List PD} {us : List Value} {h : Hp} {n j : Nat}, (∀ r, r < n + ps.length → hF r = (backs h n tag ps t j).2 r) → ps.all pdOk1 = true → AVReps w G hF us (backs h n tag ps t j).1 →
 RowsIn w G hF (qgf n ps) (qcd ps us)
 | [], us, _, _, _, _, _, H => by
  cases us with
  | nil => trivial
  | cons _ _ => exact H.elim
 | p :: ps, us, h, n, j, hh, hp, H => by
  cases us with
  | nil => exact H.elim
  | cons u us =>
   rw [List.all_cons, Bool.and_eq_true] at hp
   have tl := qi0 (ps := ps) (us := us) (h := (back1 h n (tagN tag n) p (T.cell t j)).2) (n := n + 1) (j := j + 1) (tag := tag) (t := t) (fun r hr => hh r (by simp only [List.length_cons]; omega)) hp.2 H.2
   cases p with
   | ow c =>
    exact ⟨ow_in (k := tagN tag n) (t := T.cell t j) hp.1 ((hh n (by simp only [List.length_cons]; omega)).trans (qg1 (ps := ps) (n := n + 1) (j := j + 1) (Nat.lt_succ_self n))) H.1, tl⟩
   | v c => exact tl
   | ro c => exact tl
   | mv c => exact tl
   | fn f => exact tl
   | ag l => exact tl
   | bx l => exact tl
theorem qji {tag : Bool} {rr : List T} {hF : Hp} : ∀ {ps : List PD} {us : List Value} {h : Hp} {n i : Nat}, (∀ r, hF r = (qb2 h n tag ps rr i).2 r) → ps.all pdOk = true → AVReps w G hF us (qb2 h n tag ps rr i).1 →
 RowsIn w G hF (qcq n ps) (qfe ps us)
 | [], us, _, _, _, _, _, H => by
  cases us with
  | nil => trivial
  | cons _ _ => exact H.elim
 | p :: ps, us, h, n, i, hh, hp, H => by
  cases us with
  | nil => exact H.elim
  | cons u us =>
   rw [List.all_cons, Bool.and_eq_true] at hp
   have tl := qji (ps := ps) (us := us) (h := (backR h n tag p (nth rr i)).2) (n := n + wide p) (i := i + 1) hh hp.2 H.2
   cases p with
   | ow c =>
    exact ⟨ow_in (k := 0) (t := nth rr i) hp.1 ((hh n).trans (qem (ps := ps) (n := n + 1) (i := i + 1) (Nat.lt_succ_self n))) H.1, tl⟩
   | ag l =>
    obtain ⟨us', rfl, h1⟩ := H.1
    exact RowsIn.append (qi0 (ps := l) (h := h) (n := n) (j := 0) (t := nth rr i) (fun r hr => (hh r).trans (qem (ps := ps) (n := n + l.length) (i := i + 1) (h := (backs h n false l (nth rr i) 0).2) hr)) hp.1 h1) tl
   | v c => exact tl
   | ro c => exact tl
   | mv c => exact tl
   | fn f => exact tl
   | bx l => exact tl
theorem qiy {tag : Bool} {rr : List T} {hF : Hp} : ∀ {ps : List PD} {us : List Value} {h : Hp} {n i : Nat}, (∀ r, hF r = (qb2 h n tag ps rr i).2 r) → AVReps w G hF us (qb2 h n tag ps rr i).1 →
 BoxesH w G hF (qd3 n ps) (bxUs ps us) ∧ ∀ r ∈ qd3 n ps, ∃ cs, hF r.1 = .box cs
 | [], us, _, _, _, _, H => by
  cases us with
  | nil => exact ⟨trivial, fun r hr => by cases hr⟩
  | cons _ _ => exact H.elim
 | p :: ps, us, h, n, i, hh, H => by
  cases us with
  | nil => exact H.elim
  | cons u us =>
   have tl := qiy (ps := ps) (us := us) (h := (backR h n tag p (nth rr i)).2) (n := n + wide p) (i := i + 1) hh H.2
   cases p with
   | bx l =>
    have hself : hF n = .box (backs h (n + 1) tag l (nth rr i) 0).1 := by
     refine ((hh n).trans (qem (ps := ps) (n := n + (l.length + 1)) (i := i + 1) (h := (backR h n tag (.bx l) (nth rr i)).2) (by omega))).trans ?_
     exact upd_same _ _ _
    refine ⟨⟨H.1, tl.1⟩, fun r hr => ?_⟩
    rcases List.mem_cons.1 hr with rfl | hr
    ·exact ⟨_, hself⟩
    ·exact tl.2 r hr
   | v c => exact tl
   | ro c => exact tl
   | mv c => exact tl
   | fn f => exact tl
   | ow c => exact tl
   | ag l => exact tl
end
end Go.Proofs.YtncfoonahkieoaaGreatDoorV
namespace Go.Proofs.YtncfoonahkieoaaGreatDoorV
structure Rel (w0 : World) (S0 : Nat → Prop) (nt : Nat) (st : St) (a : Act) (w : World) (G : Gh) : Prop where
 inv : Inv w0 S0 w G st.h
 slots : ∀ t, AVRep w G st.h (a.tmps.getD t undef) (st.s t)
 al : ∀ r, G.al r → r < st.n
 size : a.tmps.size = nt
 defers : a.defers = []
def qtp : Ex → Exit
 | .nrm => .normal
 | .ret => .ret
 | .ex id => .exit id
def qqf (P : Program) (A : Act → Prop) (nt base : Nat) (c : Code) (ev : (α : Type) → St → (Ex → St → Option α) → Option α) : Prop :=
 ∀ (w0 : World) (S0 : Nat → Prop) (α : Type) (st : St) (k : Ex → St → Option α) (x : α), ev α st k = some x → ∀ (a : Act) (w : World) (G : Gh), A a → Rel w0 S0 nt st a w G → base ≤ st.n →
  ∀ Q : Exit → Act → World → Prop, (∀ e st' a' w' G', k e st' = some x → Rel w0 S0 nt st' a' w' G' → base ≤ st'.n → KeepB base G G' st.h st'.h → Q (qtp e) a' w') → c.wp P Q a w
def qli (P : Program) (nt base : Nat) (c : Code) (ev : (α : Type) → St → (Ex → St → Option α) → Option α) : Prop :=
 ∀ (w0 : World) (S0 : Nat → Prop) (α : Type) (st : St) (k : Ex → St → Option α) (x : α), ev α st k = some x → ∀ (a : Act) (w : World) (G : Gh), Rel w0 S0 nt st a w G → base ≤ st.n →
  ∀ Q : Exit → Act → World → Prop, (∀ e st' a' w' G', k e st' = some x → Rel w0 S0 nt st' a' w' G' → base ≤ st'.n → KeepB base G G' st.h st'.h → Q (qtp e) a' w') → c.wp P Q a w
def funG (ev : (α : Type) → St → (Ex → St → Option α) → Option α) (E : Env) (fi : Fi) (ts : List T) : Option (List T) :=
 bif Nat.beq ts.length fi.ps.length && Nat.ble fi.ps.length fi.fn.ntmps && !fi.inl then
  match qb2 (fun _ => .dead) 0 true fi.ps ts 0 with
  | (vs, h) => ev (List T) ⟨argsS vs, h, (fi.ps.map wide).sum + 2 * MV⟩ fun e st => match e with
   | .ex _ => none
   | _ => finish E fi st
 else none
section
variable {w0 w w' : World} {S0 : Nat → Prop} {G G' : Gh} {h h' : Hp} {P : Program} {E : Env}
theorem qge : ∀ {ps : List PD} {n r : Nat}, r ∈ qgf n ps → r < n + ps.length
 | [], _, _, h => by cases h
 | p :: ps, n, r, h => by
  have tl : r ∈ qgf (n + 1) ps → r < n + (ps.length + 1) := fun h => by have := qge h; omega
  simp only [List.length_cons]
  cases p with
  | ow c =>
   rcases List.mem_cons.1 h with rfl | h
   ·omega
   ·exact tl h
  | v c => exact tl h
  | ro c => exact tl h
  | mv c => exact tl h
  | fn f => exact tl h
  | ag l => exact tl h
  | bx l => exact tl h
theorem qhy : ∀ {ps : List PD} {n r : Nat}, r ∈ qcq n ps → r < n + (ps.map wide).sum
 | [], _, _, h => by cases h
 | p :: ps, n, r, h => by
  have tl : r ∈ qcq (n + wide p) ps → r < n + (wide p + (ps.map wide).sum) := fun h => by have := qhy h; omega
  simp only [List.map_cons, List.sum_cons]
  cases p with
  | ow c =>
   rcases List.mem_cons.1 h with rfl | h
   ·simp only [wide]; omega
   ·exact tl h
  | ag l =>
   rcases List.mem_append.1 h with h | h
   ·have := qge h; simp only [wide]; omega
   ·exact tl h
  | v c => exact tl h
  | ro c => exact tl h
  | mv c => exact tl h
  | fn f => exact tl h
  | bx l => exact tl h
theorem qwk (p : PD) : base1 p ≤ wide p := by
 cases p with
 | bx l =>
  simp only [base1, wide]
  cases l.any isOw with
  | true => simp
  | false => exact Nat.le_refl _
 | _ => exact Nat.le_refl _
theorem qj2 (p : PD) (ps : List PD) : baseP (p :: ps) = (match ps with | [] => base1 p | _ => wide p + baseP ps) := by cases ps <;> rfl
theorem quj : ∀ ps : List PD, baseP ps ≤ (ps.map wide).sum
 | [] => Nat.le_refl _
 | [p] => by have := qwk p; simpa [baseP] using this
 | p :: q :: ps => by
  have := quj (q :: ps)
  simp only [List.map_cons, List.sum_cons] at this ⊢
  rw [qj2]
  simp only
  omega
theorem qhz : ∀ {ps : List PD} {n r : Nat}, r ∈ qcq n ps → r < n + baseP ps
 | [], _, _, h => by cases h
 | [p], n, r, h => by
  cases p with
  | bx l => cases h
  | ow c => simpa [qcq, baseP, base1, wide] using qhy (ps := [.ow c]) h
  | ag l => simpa [qcq, baseP, base1, wide] using qhy (ps := [.ag l]) h
  | v c => cases h
  | ro c => cases h
  | mv c => cases h
  | fn f => cases h
 | p :: q :: ps, n, r, h => by
  have tl : r ∈ qcq (n + wide p) (q :: ps) → r < n + (wide p + baseP (q :: ps)) := fun h => by have := qhz h; omega
  rw [qj2]
  simp only
  cases p with
  | ow c =>
   rcases List.mem_cons.1 h with rfl | h
   ·simp only [wide]; omega
   ·exact tl h
  | ag l =>
   rcases List.mem_append.1 h with h | h
   ·have := qge h; simp only [wide]; omega
   ·exact tl h
  | v c => exact tl h
  | ro c => exact tl h
  | mv c => exact tl h
  | fn f => exact tl h
  | bx l => exact tl h
theorem qh2 : ∀ {ps : List PD} {n : Nat} {r : Nat × List PD}, r ∈ qd3 n ps → r.1 < n + baseP ps
 | [], _, _, h => by cases h
 | [p], n, r, h => by
  cases p with
  | bx l =>
   rcases List.mem_cons.1 h with rfl | h
   ·simp only [baseP, base1]
    cases l.any isOw with
    | true => exact Nat.lt_succ_self _
    | false => simp only [cond_false]; omega
   ·cases h
  | ow c => cases h
  | ag l => cases h
  | v c => cases h
  | ro c => cases h
  | mv c => cases h
  | fn f => cases h
 | p :: q :: ps, n, r, h => by
  have tl : r ∈ qd3 (n + wide p) (q :: ps) → r.1 < n + (wide p + baseP (q :: ps)) := fun h => by have := qh2 h; omega
  rw [qj2]
  simp only
  cases p with
  | bx l =>
   rcases List.mem_cons.1 h with rfl | h
   ·simp only [wide]; omega
   ·exact tl h
  | ag l => exact tl h
  | v c => exact tl h
  | ro c => exact tl h
  | mv c => exact tl h
  | fn f => exact tl h
  | ow c => exact tl h
theorem qb6 : ∀ {ps : List PD} {n : Nat}, (qd3 n ps).map Prod.snd = bxPs ps
 | [], _ => rfl
 | p :: ps, n => by
  cases p with
  | bx l => exact congrArg (l :: ·) (qb6 (ps := ps))
  | ag l => exact qb6 (ps := ps)
  | v c => exact qb6 (ps := ps)
  | ro c => exact qb6 (ps := ps)
  | mv c => exact qb6 (ps := ps)
  | fn f => exact qb6 (ps := ps)
  | ow c => exact qb6 (ps := ps)
theorem RowsBk.length : ∀ {K : Nat} {xs : List (CT × Value)} {ts : List T}, RowsBk w G K xs ts → ts.length = xs.length
 | _, [], [], _ => rfl
 | _, _ :: _, _ :: _, H => by simp [RowsBk.length H.2]
 | _, [], _ :: _, H => H.elim
 | _, _ :: _, [], H => H.elim
theorem RowsH.length {h : Hp} : ∀ {rs : List Nat} {xs : List (CT × Value)}, RowsH w G h rs xs → rs.length = xs.length
 | [], [], _ => rfl
 | _ :: _, _ :: _, H => by simp [RowsH.length H.2.2]
 | [], _ :: _, H => H.elim
 | _ :: _, [], H => H.elim
theorem qbj (hkv : G'.kv = G.kv) : ∀ {ps : List PD} {us : List Value} {n K : Nat} {ts : List T}, BxKv w G n ps us → BoxesKv w' G' (qd3 n ps) (bxUs ps us) → BoxesBk w' G' K (bxPs ps) (bxUs ps us) ts → qlj w w' (bxPs ps) (bxUs ps us)
 | [], _, _, _, _, _, _, _ => trivial
 | p :: ps, [], n, K, ts, H, H', B => by
  have : ∀ ps : List PD, bxUs ps [] = [] := fun ps => by cases ps with | nil => rfl | cons p ps => cases p <;> rfl
  rw [this]
  cases bxPs (p :: ps) <;> trivial
 | p :: ps, u :: us, n, K, ts, H, H', B => by
  cases p with
  | bx l =>
   cases ts with
   | nil => exact B.elim
   | cons t ts =>
    refine ⟨?_, qbj hkv (ps := ps) H.2 H'.2 B.2⟩
    intro b c ty fz c' ty' fz' h1 h2 h3 i d x h4 h5
    obtain ⟨b1, us1, ty1, fz1, ts1, g1, g2, g3, g4, g5⟩ := B.1
    rw [h1] at g1
    cases g1
    rw [h3] at g4
    cases g4
    have hlen := g5.length.1
    have hi : i < l.length := (List.getElem?_eq_some_iff.1 h4).1
    have hx' : c'.toList[i]? = some (c'.toList[i]) := List.getElem?_eq_getElem (by omega)
    rw [hx', H'.1 b c' ty' fz' h1 h3 i d _ h4 hx', H.1 b c ty fz h1 h2 i d x h4 h5, hkv]
  | ag l => exact qbj hkv (ps := ps) H.2 H' B
  | v c => exact qbj hkv (ps := ps) H.2 H' B
  | ro c => exact qbj hkv (ps := ps) H.2 H' B
  | mv c => exact qbj hkv (ps := ps) H.2 H' B
  | fn f => exact qbj hkv (ps := ps) H.2 H' B
  | ow c => exact qbj hkv (ps := ps) H.2 H' B
theorem qn1 {us : List Value} {vs : List AV} {m : Nat} : AVReps w G h us vs → ∀ t, AVRep w G h ((us.toArray ++ Array.replicate m undef).getD t undef) (argsS vs t) := by
 intro H t
 have hl := H.length
 have e : (us.toArray ++ Array.replicate m undef).getD t undef = us.getD t undef := by
  simp only [Array.getD_eq_getD_getElem?, List.getD_eq_getElem?_getD, Array.getElem?_append, List.size_toArray, List.getElem?_toArray]
  by_cases ht : t < us.length
  ·rw [if_pos ht]
  ·rw [if_neg ht, List.getElem?_eq_none (by omega)]
   cases hq : (Array.replicate m undef)[t - us.length]? with
   | none => rfl
   | some q =>
    rw [Array.getElem?_replicate] at hq
    split at hq
    ·cases hq; rfl
    ·cases hq
 rw [e]
 clear e hl
 induction vs generalizing us t with
 | nil =>
  cases us with
  | nil => simp [argsS, AVRep]
  | cons _ _ => exact H.elim
 | cons v vs ih =>
  cases us with
  | nil => exact H.elim
  | cons u us =>
   cases t with
   | zero => exact H.1
   | succ t => exact ih H.2 t
theorem mvAll (ps : List PD) : ps.all (mvOk true) = true := by
 have h1 : ∀ p, mvOk1 true p = true := fun p => by cases p <;> rfl
 have h2 : ∀ l : List PD, l.all (mvOk1 true) = true := fun l => List.all_eq_true.2 fun p _ => h1 p
 exact List.all_eq_true.2 fun p _ => by cases p <;> first | exact h2 _ | rfl
theorem qpp (O : EnvOk P E) {fi : Fi} {f : FuncId} (hf : P.funcs[f]? = some fi.fn) (hW : (fi.ps.map wide).sum ≤ MV) (hp : fi.ps.all pdOk = true) {c : Code} (hb : fi.fn.body = some c) {ev : (α : Type) → St → (Ex → St → Option α) → Option α}
 {G : Gh} {args : List Value} {ts r : List T} (hc : qqf P (fun a => a.tmps = args.toArray ++ Array.replicate (fi.fn.ntmps - args.toArray.size) undef) fi.fn.ntmps (baseP fi.ps) c ev)
 (I : Inv w S0 w G noBlk) (hal : ∀ r, ¬ G.al r) (R : PRepL w G 0 fi.ps args ts) (hr : funG ev E fi ts = some r) : Calls P f args.toArray w (Came fi w S0 G args r) := by
 unfold funG at hr
 cases hg : (Nat.beq ts.length fi.ps.length && Nat.ble fi.ps.length fi.fn.ntmps && !fi.inl) with
 | false => rw [hg] at hr; cases hr
 | true =>
  rw [hg, cond_true] at hr
  rw [Bool.and_eq_true, Bool.and_eq_true] at hg
  have hnt := Nat.le_of_ble_eq_true hg.1.2
  let k0 : KV := ⟨kvOf w 0 fi.ps args, G.ro⟩
  have I0 : Inv w S0 w (G.kvs k0) noBlk := ⟨rfl, rfl, rfl, Nat.le_refl _, fun _ _ _ => rfl, I.mine, I.cells, I.roOwn, I.roLt, fun b hb => .inl hb, I.rep⟩
  have R0 : PRepL w (G.kvs k0) 0 fi.ps args ts := R.to (G := G) (G' := G.kvs k0) (fun _ _ h => ⟨h, rfl⟩) (fun _ _ _ _ h => ⟨h, rfl⟩)
  have V0 : BxKv w (G.kvs k0) 0 fi.ps args := qpj fun m _ => rfl
  obtain ⟨G1, X1, A1, J1, B1⟩ := qgr (mv := true) (K := 0) true ts (n := 0) (i := 0) I0.x (mvAll fi.ps) R0 (fun j x hx => by
   simp only [nth, Nat.zero_add, List.getD_eq_getElem?_getD, hx, Option.getD_some]) (fun _ => V0) (fun r _ => hal r) hW
  have e0 : noBlk = (fun _ => Blk.dead) := rfl
  generalize hvh : qb2 noBlk 0 true fi.ps ts 0 = vh at X1 A1 J1 B1
  rw [e0] at hvh
  rw [hvh] at hr
  obtain ⟨vs, h1⟩ := vh
  simp only at hr X1 A1 J1 B1
  have I1 : Inv w S0 w G1 h1 := X1.inv fun r cs _ e => by
   by_cases hin : inN true 0 (fi.ps.map wide).sum r
   ·obtain ⟨b, c, ty, fz, g1, g2, g3⟩ := B1 r cs hin e
    exact ⟨b, c, ty, fz, g1, g2, (Gh.onAll w G1 h1 _).avs _ g3⟩
   ·rw [(J1.stay r hin).1] at e
    cases e
  have A1' : AVReps w G1 h1 args vs := (Gh.onAll w G1 h1 _).avs _ A1
  have hh : ∀ r, h1 r = (qb2 (fun _ => Blk.dead) 0 true fi.ps ts 0).2 r := fun r => by rw [hvh]
  have Rows1 := qji (ps := fi.ps) (us := args) (G := G1) (w := w) hh hp (by rw [hvh]; exact A1')
  have Boxes1 := qiy (ps := fi.ps) (us := args) (G := G1) (w := w) hh (by rw [hvh]; exact A1')
  have hargs : args.length = fi.ps.length := by
   clear hr R0 A1 A1' Rows1 Boxes1 V0 hvh I0 hh
   have : ∀ {K : Nat} {ps : List PD} {us : List Value} {ts : List T}, PRepL w G K ps us ts → us.length = ps.length := by
    intro K ps
    induction ps generalizing K with
    | nil => intro us ts H; cases us with
     | nil => rfl
     | cons _ _ => exact H.elim
    | cons p ps ih => intro us ts H; cases us with
     | nil => exact H.elim
     | cons u us => cases ts with
      | nil => exact H.elim
      | cons t ts => simp [ih H.2]
   exact this R
  refine calls_of_wp hf hb (hc w S0 (List T) _ _ r hr _ w G1 rfl ⟨I1, qn1 A1', fun r hr => ?_, ?_, rfl⟩ (Nat.le_trans (quj fi.ps) (Nat.le_add_right _ _)) _ ?_)
  ·rcases J1.alN r hr with h2 | h2
   ·exact absurd h2 (hal r)
   ·have := qww h2
    simp only [MV] at this ⊢
    simp only [MV] at hW
    omega
  ·simp only [Array.size_append, List.size_toArray, Array.size_replicate]
   omega
  ·intro e st' a' w' G2 he R2 _ KB
   have key : finish E fi st' = some r → bodyPost P fi.fn (Came fi w S0 G args r) .normal a' w' := by
    intro hfin
    unfold finish at hfin
    cases hv : resVs E fi.fn st' with
    | none => rw [hv] at hfin; cases hfin
    | some vs' =>
     rw [hv] at hfin
     simp only at hfin
     cases h2 : qgg st'.h fi.rs vs' with
     | none => rw [h2] at hfin; cases hfin
     | some x =>
      obtain ⟨ts', hA, bA⟩ := x
      rw [h2] at hfin
      simp only at hfin
      cases h3 : qgd hA (qcq 0 fi.ps) with
      | none => rw [h3] at hfin; cases hfin
      | some y =>
       obtain ⟨us', hB, bB⟩ := y
       rw [h3] at hfin
       simp only at hfin
       cases h4 : qel hB (qd3 0 fi.ps) with
       | none => rw [h4] at hfin; cases hfin
       | some z =>
        obtain ⟨ws', bC⟩ := z
        rw [h4] at hfin
        simp only at hfin
        cases hbb : (bA && (bB && bC)) with
        | false => rw [hbb] at hfin; cases hfin
        | true =>
         rw [hbb, cond_true] at hfin
         cases hfin
         rw [Bool.and_eq_true, Bool.and_eq_true] at hbb
         obtain ⟨us, hres, hus⟩ := qi2 (P := P) O R2.inv R2.slots hv
         obtain ⟨K, hK⟩ := R2.inv.freshTmp
         obtain ⟨G3, W3, P3⟩ := qi4 R2.inv hK hus h2 hbb.1
         have RH := (KB.rows (w' := w') (fun r hr => by have := qhz hr; omega) Rows1.row Rows1.rh).keep W3.2.1
         have BH := (KB.boxes (w' := w') (fun r hr => by have := qh2 hr; omega) Boxes1.2 Boxes1.1).keep W3.2.1
         obtain ⟨G4, W4, P4⟩ := qhx (K := K + (fi.rs.map wide).sum) W3.1 (fun k hk => W3.2.2.1.fresh (by omega) (hK k (by omega))) RH h3 hbb.2.1
         obtain ⟨G5, h5, W5, P5, V5⟩ := qh1 (K := K + (fi.rs.map wide).sum + (qcq 0 fi.ps).length) W4.1 (fun k hk => W4.2.2.1.fresh (by omega) (W3.2.2.1.fresh (by omega) (hK k (by omega)))) (BH.keep W4.2.1) h4 hbb.2.2
         have hlen : us'.length = (qcq 0 fi.ps).length := by rw [P4.length, ← RH.length]
         rw [qb6] at P5 W5
         have P3' := (P3.out W4.2.1 W4.2.2.1 (fun j h1 h2 => by omega)).out W5.2.1 W5.2.2.1 (fun j h1 h2 => by omega)
         have P4' := P4.out W5.2.1 W5.2.2.1 (fun j h1 h2 => by have := RH.length; omega)
         refine ⟨R2.defers, retV us, hres, us, ts', us', ws', G5.shift K, rfl, by simp, qs5 W5.1 K, ?_, ?_, ?_, ?_, ?_, ?_⟩
         ·intro b hb
          exact (W5.2.1.ro b (W4.2.1.ro b (W3.2.1.ro b (KB.ro b (by rw [J1.ro]; exact hb))).1).1).1
         ·intro b hb
          have := W5.1.roIn b hb
          rw [W5.2.1.kv, W4.2.1.kv, W3.2.1.kv, KB.kv, J1.kv] at this
          exact this
         ·exact P3'.to (G := G5) (G' := G5.shift K) (fun _ b hb => ⟨hb, rfl⟩) (fun j b p _ hb => ⟨by simpa using qhu (k := j) hb, rfl⟩)
         ·exact P4'.to (fun j b p _ hb => ⟨qhu (by rw [← Nat.add_assoc]; exact hb), rfl⟩)
         ·rw [hlen]
          exact P5.to (G := G5) (G' := G5.shift K) (fun b hb => ⟨hb, rfl⟩) (fun j b p _ hb => ⟨qhu (by rw [← Nat.add_assoc, ← Nat.add_assoc]; exact hb), rfl⟩)
         ·refine qbj (G := G.kvs k0) (G' := G5) ?_ V0 ?_ P5
          ·rw [W5.2.1.kv, W4.2.1.kv, W3.2.1.kv, KB.kv, J1.kv]
          ·have e5 : G4.kv = G5.kv := W5.2.1.kv.symm
           exact BoxesKv.kv e5 V5
   cases e with
   | nrm => exact key he
   | ret => exact key he
   | ex id => cases he
theorem qvn (O : EnvOk P E) {C : Orc} {lf df : Nat} {fi : Fi} {f : FuncId} (hf : P.funcs[f]? = some fi.fn) (hW : (fi.ps.map wide).sum ≤ MV) (hp : fi.ps.all pdOk = true)
 (hc : ∀ c, fi.fn.body = some c → qli P fi.fn.ntmps (baseP fi.ps) c fun α st k => evK C (inlK C E lf df) E lf fi (baseP fi.ps) c α st k) :
 qal P fi f (funK C E lf df fi) := by
 intro w S0 G args ts r I hal R hr
 unfold funK at hr
 cases hb : fi.fn.body with
 | none => rw [hb] at hr; cases hr
 | some c =>
  rw [hb] at hr
  exact qpp O hf hW hp hb (ev := fun α st k => evK C (inlK C E lf df) E lf fi (baseP fi.ps) c α st k) (fun w0 S0 α st k x h a w G _ R hb' Q hQ => hc c hb w0 S0 α st k x h a w G R hb' Q hQ) I hal R hr
end
end Go.Proofs.YtncfoonahkieoaaGreatDoorV
namespace Go.Proofs.YtncfoonahkieoaaGreatDoorV
def Gh.forCall (G : Gh) (fz : Bool) (K W : Nat) : Gh :=
 { φ := G.φ, kv := ⟨G.kv.v, fun b => G.ro b ∨ (fz = false ∧ ∃ r q, G.own b = some (.blk r q))⟩, al := fun _ => False
   own := fun b => match G.own b with | some (.tmp k p) => if K ≤ k ∧ k < K + W then some (.tmp (k - K) p) else none | _ => none
   ro := fun b => G.ro b ∨ (fz = false ∧ ∃ r q, G.own b = some (.blk r q)) }
def Hung (w : World) (G0 : Gh) (h0 : Hp) (G : Gh) (kx r : Nat) (q : Path) (B : Blk) (c : CT) (u : Value) : Prop :=
 ∃ m cs l v e m' cs' l' M0, B = .row m cs l v e ∧ G0.al r ∧ (∃ l0 v0 e0, h0 r = .row m cs l0 v0 e0 ∧ v0 ≤ v) ∧ (M0 : Mem).emp = False ∧ RowRep w M0 [] m cs (G0.φ r) l ∧ NavH w M0 [] q cs (G0.φ r) u ∧ PathOk q m cs l ∧
  navR q m cs l = some (m', cs', l') ∧ c = .sl m' cs' ∧ (∀ b ρ, M0 b ρ → (∃ s, ρ = q ++ s) ∨ G.own b = some (.tmp kx ρ)) ∧ (e = false → okL m cs l = true)
def RowsAway (w : World) (G0 : Gh) (h0 : Hp) (G : Gh) : Nat → Nat → List (Nat × Path × Blk) → List (CT × Value) → Prop
 | _, _, [], [] => True
 | lo, hi, x :: xs, y :: ys => ∃ kx, lo ≤ kx ∧ kx < hi ∧ Hung w G0 h0 G kx x.1 x.2.1 x.2.2 y.1 y.2 ∧ RowsAway w G0 h0 G (kx + 1) hi xs ys
 | _, _, _, _ => False
def Kept (G G' : Gh) (L : Nat → Prop) : Prop := ∀ k, L k → ∀ b p, G.own b = some (.tmp k p) → G'.own b = some (.tmp k p)
theorem TmpOut.kept {G G' : Gh} {L L' : Nat → Prop} (H : TmpOut G G' L) (hL : ∀ k, L' k → ¬ L k) : Kept G G' L' := fun k hk b p hb => (H k (hL k hk) b p).1 hb
theorem Kept.trans {G G' G'' : Gh} {L : Nat → Prop} (H : Kept G G' L) (H' : Kept G' G'' L) : Kept G G'' L := fun k hk b p hb => H' k hk b p (H k hk b p hb)
theorem Kept.mono {G G' : Gh} {L L' : Nat → Prop} (H : Kept G G' L) (hL : ∀ k, L' k → L k) : Kept G G' L' := fun k hk => H k (hL k hk)
def awayF (r : Nat) (q : Path) (k kx : Nat) : Lab → Lab
 | .blk r' p => if r' = r then match strip q p with | some s => .tmp k s | none => .tmp kx p else .blk r' p
 | x => x
section
variable {w0 w w' : World} {S0 : Nat → Prop} {G0 G G' : Gh} {h0 h h' : Hp}
theorem RowsAway.mono : ∀ {lo lo' hi hi' : Nat} {xs : List (Nat × Path × Blk)} {ys : List (CT × Value)}, lo' ≤ lo → hi ≤ hi' → RowsAway w G0 h0 G lo hi xs ys → RowsAway w G0 h0 G lo' hi' xs ys
 | _, _, _, _, [], [], _, _, _ => trivial
 | _, _, _, _, _ :: _, _ :: _, h1, h2, ⟨kx, g1, g2, g3, g4⟩ => ⟨kx, Nat.le_trans h1 g1, Nat.lt_of_lt_of_le g2 h2, g3, RowsAway.mono (Nat.le_refl _) h2 g4⟩
 | _, _, _, _, [], _ :: _, _, _, H => H.elim
 | _, _, _, _, _ :: _, [], _, _, H => H.elim
theorem RowsAway.append : ∀ {lo mid hi : Nat} {xs xs' : List (Nat × Path × Blk)} {ys ys' : List (CT × Value)}, lo ≤ mid → mid ≤ hi → RowsAway w G0 h0 G lo mid xs ys → RowsAway w G0 h0 G mid hi xs' ys' → RowsAway w G0 h0 G lo hi (xs ++ xs') (ys ++ ys')
 | _, _, _, [], _, [], _, h1, _, _, H' => H'.mono h1 (Nat.le_refl _)
 | _, _, _, _ :: _, _, _ :: _, _, h1, h2, ⟨kx, g1, g2, g3, g4⟩, H' => ⟨kx, g1, Nat.lt_of_lt_of_le g2 h2, g3, RowsAway.append (by omega) h2 g4 H'⟩
 | _, _, _, [], _, _ :: _, _, _, _, H, _ => H.elim
 | _, _, _, _ :: _, _, [], _, _, _, H, _ => H.elim
theorem Hung.kept {kx r : Nat} {q : Path} {B : Blk} {c : CT} {u : Value} (J : Kept G G' (fun k => k = kx)) (H : Hung w G0 h0 G kx r q B c u) : Hung w G0 h0 G' kx r q B c u := by
 obtain ⟨m, cs, l, v, e, m', cs', l', M0, h1, h2, h3, h4, h5, h6, h7, h8, h9, h10, h11⟩ := H
 exact ⟨m, cs, l, v, e, m', cs', l', M0, h1, h2, h3, h4, h5, h6, h7, h8, h9, fun b ρ hb => (h10 b ρ hb).imp id (J kx rfl b ρ), h11⟩
theorem RowsAway.kept : ∀ {lo hi : Nat} {xs : List (Nat × Path × Blk)} {ys : List (CT × Value)}, Kept G G' (fun k => lo ≤ k ∧ k < hi) → RowsAway w G0 h0 G lo hi xs ys → RowsAway w G0 h0 G' lo hi xs ys
 | _, _, [], [], _, _ => trivial
 | _, _, _ :: _, _ :: _, J, ⟨kx, g1, g2, g3, g4⟩ => ⟨kx, g1, g2, g3.kept (J.mono fun k hk => by subst hk; exact ⟨g1, g2⟩), RowsAway.kept (J.mono fun k hk => by omega) g4⟩
 | _, _, [], _ :: _, _, H => H.elim
 | _, _, _ :: _, [], _, H => H.elim
theorem qir {fz : Bool} {K W b k : Nat} {p : Path} (hk : k < W) (hb : G.own b = some (.tmp (K + k) p)) : (G.forCall fz K W).own b = some (.tmp k p) := by
 simp only [Gh.forCall, hb]
 rw [if_pos ⟨Nat.le_add_right _ _, by omega⟩, Nat.add_sub_cancel_left]
theorem qb5 {fz : Bool} {K W b : Nat} {x : Lab} (hb : (G.forCall fz K W).own b = some x) : ∃ k p, k < W ∧ G.own b = some (.tmp (K + k) p) ∧ x = .tmp k p := by
 simp only [Gh.forCall] at hb
 cases e : G.own b with
 | none => rw [e] at hb; cases hb
 | some y =>
  rw [e] at hb
  cases y with
  | blk r q => cases hb
  | tmp k q =>
   by_cases hk : K ≤ k ∧ k < K + W
   ·simp only [if_pos hk] at hb
    cases hb
    exact ⟨k - K, q, by omega, by rw [Nat.add_sub_cancel' hk.1], rfl⟩
   ·simp only [if_neg hk] at hb
    cases hb
theorem qnw {fz : Bool} {K W k : Nat} {c : CT} {u : Value} {t : T} (H : CellRep w (G.own.t (K + k)) [] c u t) (hk : k < W) (J : Kept G G' (fun x => x = K + k)) : CellRep w ((G'.forCall fz K W).own.t k) [] c u t :=
 CellRep.moved (M := G.own.t (K + k)) (M' := (G'.forCall fz K W).own.t k) t ⟨fun hf => False.elim hf, fun b ρ hb => ⟨qir hk (J _ rfl b _ hb), rfl⟩⟩ H
theorem qwy (I : Inv w0 S0 w G h) (K0 : Keep w w G0 G h0 h) (hal : G.al = G0.al) {K W : Nat} {c : CT} {v : AV} {u : Value} {t : T} {b : Bool} (hu : AVRep w G h u v) (hr : readT h c v = some (t, b)) (hb : b = true)
 (K1 : Keep w w G G' h h') {fz : Bool} (hfz : fz = true → ∀ r, ¬ refIs v r) (hl : fz = false → qbh h0 h' (.ro c) v = true) : CellRep w (roM (G'.forCall fz K W).ro) [] c u t ∧ okC c t = true := by
 obtain ⟨h1, h2⟩ := qsb I hu hr hb
 refine ⟨CellRep.moved (M := roM fun b => G.ro b ∨ ∃ r q, refIs v r ∧ G.own b = some (.blk r q)) (M' := roM (G'.forCall fz K W).ro) t ⟨fun _ => trivial, fun b ρ hb => ⟨?_, rfl⟩⟩ h1, h2⟩
 rcases hb with hb | ⟨r, q, g1, g2⟩
 ·exact .inl (K1.ro b hb).1
 ·cases fz with
  | true => exact absurd g1 (hfz rfl r)
  | false =>
   have hl := hl rfl
   cases v with
   | rf r' p ver sub =>
    have e : r' = r := g1
    subst e
    have ha : G.al r' := hu.2.1
    have ha0 : G0.al r' := by rw [← hal]; exact ha
    have t0 := (K0.al r' ha0).2
    have t1 := (K1.al r' ha).2
    simp only [qbh] at hl
    cases e1 : h0 r' with
    | dead => rw [e1] at hl; cases hl
    | box _ => rw [e1] at hl; cases hl
    | row m1 cs1 l1 v1 z1 =>
     cases e2 : h' r' with
     | dead => rw [e1, e2] at hl; cases hl
     | box _ => rw [e1, e2] at hl; cases hl
     | row m2 cs2 l2 v2 z2 =>
      rw [e1, e2] at hl
      rw [e1] at t0
      rw [e2] at t1
      cases hh : h r' with
      | dead => rw [hh] at t1; exact t1.elim
      | box _ => rw [hh] at t1; exact t1.elim
      | row m cs l v z =>
       rw [hh] at t0 t1
       obtain ⟨_, _, _, t0⟩ := t0
       obtain ⟨_, _, _, t1⟩ := t1
       have hv : v1 = v2 := Nat.eq_of_beq_eq_true hl
       have t0' : v1 ≤ v := by
        rcases t0 with ⟨_, e, _⟩ | e
        ·exact Nat.le_of_eq e.symm
        ·exact Nat.le_of_lt e
       rcases t1 with ⟨_, _, t1⟩ | t1
       ·exact .inr ⟨rfl, _, _, (t1 b q g2).1⟩
       ·omega
   | _ => exact g1.elim
theorem qwl (I : Inv w0 S0 w G h) (K0 : Keep w w G0 G h0 h) (hal : G.al = G0.al) {k kx : Nat} {r : Nat} {q : Path} {ver : Nat} {u : Value} {c : CT} {t : T} {b : Bool} (hu : AVRep w G h u (.rf r q ver none)) (hr : readT h c (.rf r q ver none) = some (t, b)) (hb : b = true) :
 ∃ G', Went w0 S0 w G G' h (upd h r .dead) (fun x => x = k ∨ x = kx) ∧ (CellRep w (G'.own.t k) [] c u t ∧ okC c t = true) ∧ Hung w G0 h0 G' kx r q (h r) c u := by
 cases c with
 | sl m cs =>
  simp only [readT] at hr
  cases hc : cont h (.rf r q ver none) with
  | none => rw [hc] at hr; cases hr
  | some x =>
   obtain ⟨m', cs', l⟩ := x
   rw [hc] at hr
   simp only at hr
   cases hq : CT.beq (.sl m cs) (.sl m' cs') with
   | false => rw [hq] at hr; cases hr
   | true =>
    rw [hq, cond_true] at hr
    cases CT.beq_eq hq
    cases hr
    obtain ⟨m1, cs1, l1, hra, heq⟩ := qe7 hc
    cases heq
    obtain ⟨m0, cs0, l0, v0, e, hv, g0, g1, g2, g3, g4, g5, g6, g7⟩ := qcy I hu hra
    have g6 : u = hv := g6
    subst g6
    have ha : G.al r := hu.2.1
    have ha0 : G0.al r := by rw [← hal]; exact ha
    have t0 := (K0.al r ha0).2
    rw [g0] at t0
    have R := I.rep r
    rw [g0] at R
    have hback : ∀ x r' p, r' ≠ r → awayF r q k kx x = .blk r' p → x = .blk r' p := by
     intro x r' p hne hx
     cases x with
     | tmp a s => exact hx
     | blk r1 q1 =>
      by_cases e1 : r1 = r
      ·simp only [awayF, if_pos e1] at hx
       split at hx <;> cases hx
      ·simp only [awayF, if_neg e1] at hx
       exact hx
    have hnot : ∀ x p, awayF r q k kx x ≠ .blk r p := by
     intro x p hx
     cases x with
     | tmp a s => cases hx
     | blk r1 q1 =>
      by_cases e1 : r1 = r
      ·simp only [awayF, if_pos e1] at hx
       split at hx <;> cases hx
      ·simp only [awayF, if_neg e1] at hx
       cases hx
       exact e1 rfl
    have S : Step w w G (G.rel (awayF r q k kx)) h (upd h r .dead) (fun x => x = r) := qdg I _ _ (fun r' p hr' => by simp [awayF, hr']) (fun x r' p hr' hx => hback x r' p hr' hx) (fun r' hr' => upd_ne _ _ hr') (fun r' hr' _ => by
     subst hr'
     rw [upd_same]
     cases h r' <;> trivial)
    have I1 : Inv w0 S0 w (G.rel (awayF r q k kx)) (upd h r .dead) := S.inv I fun r' hr' => by
     subst hr'
     rw [upd_same]
     intro b p hb
     simp only [Gh.rel, Option.map_eq_some_iff] at hb
     obtain ⟨y, _, hy⟩ := hb
     exact hnot y p hy
    have hT : TmpOut G (G.rel (awayF r q k kx)) (fun x => x = k ∨ x = kx) := by
     intro k' hk' b p
     constructor
     ·intro hb; simp [Gh.rel, hb, awayF]
     ·intro hb
      simp only [Gh.rel, Option.map_eq_some_iff] at hb
      obtain ⟨y, hy, hy'⟩ := hb
      cases y with
      | tmp a s => rw [hy]; exact congrArg some hy'
      | blk r1 q1 =>
       by_cases e1 : r1 = r
       ·simp only [awayF, if_pos e1] at hy'
        split at hy'
        ·cases hy'; exact absurd (.inl rfl) hk'
        ·cases hy'; exact absurd (.inr rfl) hk'
       ·simp only [awayF, if_neg e1] at hy'
        cases hy'
    refine ⟨_, ⟨I1, S.keep I, hT, rfl⟩, ⟨?_, by simpa [okC] using qf3 I hu hra hb⟩, ?_⟩
    ·refine qa5.2 (RowRep.moved (M := G.own.m r) (π := q) (π' := []) ⟨fun hf => False.elim hf, fun b ρ hb => ⟨?_, rfl⟩⟩ g7)
     have hb : G.own b = some (.blk r (q ++ ρ)) := hb
     show (G.rel (awayF r q k kx)).own b = some (.tmp k ([] ++ ρ))
     simp [Gh.rel, hb, awayF, qgs]
    ·have hφ : G.φ r = G0.φ r ∧ ∃ l1 v1 e1, h0 r = .row m0 cs0 l1 v1 e1 ∧ v1 ≤ v0 := by
      cases hh : h0 r with
      | dead => rw [hh] at t0; exact t0.elim
      | box _ => rw [hh] at t0; exact t0.elim
      | row m9 cs9 l9 v9 e9 =>
       rw [hh] at t0
       obtain ⟨rfl, rfl, t2, t3⟩ := t0
       refine ⟨t2, l9, v9, e9, rfl, ?_⟩
       rcases t3 with ⟨_, e, _⟩ | e
       ·exact Nat.le_of_eq e.symm
       ·exact Nat.le_of_lt e
     refine ⟨m0, cs0, l0, v0, e, m, cs, l1, G.own.m r, g0, ha0, hφ.2, rfl, by rw [← hφ.1]; exact R.2.1, by rw [← hφ.1]; exact g3, g4, g5, rfl, fun b ρ hb => ?_, R.2.2⟩
     have hb : G.own b = some (.blk r ρ) := hb
     by_cases hs : ∃ s, ρ = q ++ s
     ·exact .inl hs
     ·right
      have : strip q ρ = none := by
       cases hst : strip q ρ with
       | none => rfl
       | some s => exact absurd ⟨s, qec.1 hst⟩ hs
      simp [Gh.rel, hb, awayF, this]
 | b => simp [readT, scal] at hr
 | i kk => simp [readT, scal] at hr
 | s => simp [readT, scal] at hr
 | o => simp [readT, scal] at hr
end
end Go.Proofs.YtncfoonahkieoaaGreatDoorV
namespace Go.Proofs.YtncfoonahkieoaaGreatDoorV
theorem qns {h : Hp} {r0 r : Nat} {p : Path} {cs : List AV} (hr : killR h r0 p r = .box cs) : h r = .box cs := by
 unfold killR at hr
 cases h1 : h r0 with
 | dead => rw [h1] at hr; exact hr
 | box _ => rw [h1] at hr; exact hr
 | row m cs' l v e =>
  rw [h1] at hr
  simp only at hr
  have go : ∀ B : Blk, (∀ cs, B ≠ .box cs) → upd h r0 B r = .box cs → h r = .box cs := by
   intro B hB hu
   by_cases e : r = r0
   ·subst e; rw [upd_same] at hu; exact absurd hu (hB cs)
   ·rw [upd_ne _ _ e] at hu; exact hu
  cases h2 : p.getLast? with
  | none => rw [h2] at hr; exact go _ (fun _ => by simp) hr
  | some ij =>
   rw [h2] at hr
   simp only at hr
   cases h3 : navR p.dropLast m cs' l with
   | none => rw [h3] at hr; exact go _ (fun _ => by simp) hr
   | some x => rw [h3] at hr; exact go _ (fun _ => by simp) hr
theorem qd5 {h h' : Hp} {c : CT} {v : AV} {t : T} {b : Bool} {r : Nat} {cs : List AV} (hs : sink h c v = some (t, h', b)) (hr : h' r = .box cs) : h r = .box cs := by
 cases c with
 | sl m cs' =>
  simp only [sink] at hs
  cases v with
  | nl m' cs' => cases hs; exact hr
  | rf r' p ver sub =>
   simp only at hs
   split at hs
   ·cases hq : CT.beq (.sl m cs') (.sl _ _) with
    | false => rw [hq] at hs; cases hs
    | true => rw [hq, cond_true] at hs; cases hs; exact qns hr
   ·cases hs
  | _ => cases hs
 | b => simp only [sink] at hs; split at hs <;> cases hs; exact hr
 | i k => simp only [sink] at hs; split at hs <;> cases hs; exact hr
 | s => simp only [sink] at hs; split at hs <;> cases hs; exact hr
 | o => simp only [sink] at hs; split at hs <;> cases hs; exact hr
def Done1 (w : World) (G0 : Gh) (h0 : Hp) (fz : Bool) (K W k : Nat) (p : PD) (v : AV) (u : Value) (t : T) (rs : List (Nat × Path × Blk)) (G : Gh) (h : Hp) : Prop :=
 ∀ G' h', Keep w w G G' h h' → Kept G G' (fun x => x = K + k ∨ x = K + W + k) → (fz = false → qbh h0 h' p v = true) →
  PRep1 w (G'.forCall fz K W) k p u t ∧ RowsAway w G0 h0 G' (K + W + k) (K + W + k + 1) rs (owVal p u)
def qyw (w : World) (G0 : Gh) (h0 : Hp) (fz : Bool) (K W k : Nat) (ps : List PD) (vs : List AV) (us : List Value) (ts : List T) (rs : List (Nat × Path × Blk)) (G : Gh) (h : Hp) : Prop :=
 ∀ G' h', Keep w w G G' h h' → Kept G G' (fun x => (K + k ≤ x ∧ x < K + k + ps.length) ∨ (K + W + k ≤ x ∧ x < K + W + k + ps.length)) → (fz = false → qbm h0 h' ps vs = true) →
  PReps w (G'.forCall fz K W) k ps us ts ∧ RowsAway w G0 h0 G' (K + W + k) (K + W + k + ps.length) rs (qcd ps us)
section
variable {w0 w w' : World} {S0 : Nat → Prop} {G0 G G' : Gh} {h0 h h' : Hp} {fz : Bool} {K W : Nat}
theorem qlt {k : Nat} {c : CT} {v : AV} {u : Value} {t : T} (h1 : scal c v = some t) (hu : AVRep w G h u v) (G' : Gh) : PRep1 w G' k (.v c) u t := ⟨(qfa h1 hu _ _).1, qhw h1⟩
theorem qj7 (I : Inv w0 S0 w G h) (K0 : Keep w w G0 G h0 h) (hal : G.al = G0.al) {k : Nat} (hk : k < W) (hf : ∀ b p, G.own b ≠ some (.tmp (K + k) p)) {p : PD} {v : AV} {u : Value} (hu : AVRep w G h u v) {t : T} {b : Bool} {rs : List (Nat × Path × Blk)}
 (hs : qa7 fz h p v = some (t, h', b, rs)) (hb : b = true) :
 ∃ G', Went w0 S0 w G G' h h' (fun x => x = K + k ∨ x = K + W + k) ∧ (∀ r cs, h' r = .box cs → h r = .box cs) ∧ Done1 w G0 h0 fz K W k p v u t rs G' h' := by
 have sinkc : ∀ {c : CT} {q : PD}, (q = .mv c) → sink h c v = some (t, h', b) → rs = [] → ∃ G', Went w0 S0 w G G' h h' (fun x => x = K + k ∨ x = K + W + k) ∧ (∀ r cs, h' r = .box cs → h r = .box cs) ∧ Done1 w G0 h0 fz K W k q v u t rs G' h' := by
  intro c q hq h1 hrs
  subst hq
  subst hrs
  obtain ⟨G1, W1, C1, O1⟩ := qdy I hf hu h1 hb
  exact ⟨G1, ⟨W1.1, W1.2.1, W1.2.2.1.mono (fun _ h => .inl h), W1.2.2.2⟩, fun r cs => qd5 h1, fun G' h' K1 J _ => ⟨⟨qnw C1 hk (J.mono fun _ h => .inl h), O1⟩, trivial⟩⟩
 cases p with
 | v c =>
  simp only [qa7] at hs
  cases h1 : scal c v with
  | none => rw [h1] at hs; cases hs
  | some t' =>
   rw [h1] at hs
   cases hs
   exact ⟨G, Went.refl I _, fun _ _ h => h, fun G' h' K1 J _ => ⟨qlt h1 hu _, trivial⟩⟩
 | ro c =>
  have rd : (∀ r, fz = true → ¬ refIs v r) → (match readT h c v with | some (t, b) => (some (t, h, b, []) : Option (T × Hp × Bool × List (Nat × Path × Blk))) | none => none) = some (t, h', b, rs) →
   ∃ G', Went w0 S0 w G G' h h' (fun x => x = K + k ∨ x = K + W + k) ∧ (∀ r cs, h' r = .box cs → h r = .box cs) ∧ Done1 w G0 h0 fz K W k (.ro c) v u t rs G' h' := by
   intro hfz hs
   cases h1 : readT h c v with
   | none => rw [h1] at hs; cases hs
   | some y =>
    obtain ⟨t', b'⟩ := y
    rw [h1] at hs
    cases hs
    exact ⟨G, Went.refl I _, fun _ _ h => h, fun G' h' K1 J hl => ⟨qwy I K0 hal hu h1 hb K1 (fun e r => hfz r e) hl, trivial⟩⟩
  cases v with
  | rf r q ver sub =>
   cases fz with
   | true =>
    simp only [qa7] at hs
    cases h1 : sink h c (.rf r q ver sub) with
    | none => rw [h1] at hs; cases hs
    | some y =>
     obtain ⟨t', hh, b'⟩ := y
     rw [h1] at hs
     cases hs
     obtain ⟨G1, W1, C1, O1⟩ := qow I hf hu h1 hb
     refine ⟨G1, ⟨W1.1, W1.2.1, W1.2.2.1.mono (fun _ h => .inl h), W1.2.2.2⟩, fun r cs => qd5 h1, fun G' h' K1 J _ => ⟨⟨?_, O1⟩, trivial⟩⟩
     exact CellRep.moved (M := roM G1.ro) (M' := roM (G'.forCall true K W).ro) t ⟨fun _ => trivial, fun b ρ hb => ⟨.inl (K1.ro b hb).1, rfl⟩⟩ C1
   | false => exact rd (fun r hf => by cases hf) (by simp only [qa7] at hs; exact hs)
  | _ => exact rd (fun r _ hr => hr.elim) (by simp only [qa7] at hs; exact hs)
 | mv c =>
  simp only [qa7] at hs
  cases h1 : sink h c v with
  | none => rw [h1] at hs; cases hs
  | some y =>
   obtain ⟨t', hh, b'⟩ := y
   rw [h1] at hs
   cases hs
   exact sinkc rfl h1 rfl
 | ow c =>
  simp only [qa7] at hs
  split at hs
  ·rename_i r q ver
   cases h1 : readT h c (.rf r q ver none) with
   | none => rw [h1] at hs; cases hs
   | some y =>
    obtain ⟨t', b'⟩ := y
    rw [h1] at hs
    cases hs
    obtain ⟨G1, W1, C1, H1⟩ := qwl (k := K + k) (kx := K + W + k) I K0 hal hu h1 hb
    refine ⟨G1, W1, fun r' cs hr => ?_, fun G' h' K1 J _ => ⟨⟨qnw C1.1 hk (J.mono fun _ h => .inl h), C1.2⟩, ⟨K + W + k, Nat.le_refl _, Nat.lt_succ_self _, H1.kept (J.mono fun _ h => .inr h), trivial⟩⟩⟩
    by_cases e : r' = r
    ·subst e; rw [upd_same] at hr; cases hr
    ·rw [upd_ne _ _ e] at hr; exact hr
  ·cases hs
 | fn f =>
  obtain ⟨rfl, rfl, rfl, rfl, rfl⟩ := qde hs
  obtain ⟨cs, rfl, h2⟩ := hu
  have h3 : cs = #[] := by
   obtain ⟨l⟩ := cs
   cases l with
   | nil => rfl
   | cons _ _ => exact h2.elim
  subst h3
  exact ⟨G, Went.refl I _, fun _ _ h => h, fun G' h' K1 J _ => ⟨⟨rfl, rfl⟩, trivial⟩⟩
 | ag l => cases hs
 | bx l => cases hs
theorem qm1 {p : PD} {ps : List PD} {u : Value} {us : List Value} (hp : ∀ l, p ≠ .ag l) : qcd (p :: ps) (u :: us) = owVal p u ++ qcd ps us := by
 cases p with
 | ag l => exact absurd rfl (hp l)
 | _ => rfl
theorem qj6 : ∀ {ps : List PD} {vs : List AV} {us : List Value} {ts : List T} {h h' : Hp} {b : Bool} {rs : List (Nat × Path × Blk)} {G : Gh} {k : Nat}, Inv w0 S0 w G h → Keep w w G0 G h0 h → G.al = G0.al → k + ps.length ≤ W →
 (∀ j, k ≤ j → j < W → ∀ b p, G.own b ≠ some (.tmp (K + j) p)) → AVReps w G h us vs → qai fz h ps vs = some (ts, h', b, rs) → b = true →
 ∃ G', Went w0 S0 w G G' h h' (fun x => (K + k ≤ x ∧ x < K + k + ps.length) ∨ (K + W + k ≤ x ∧ x < K + W + k + ps.length)) ∧ (∀ r cs, h' r = .box cs → h r = .box cs) ∧ qyw w G0 h0 fz K W k ps vs us ts rs G' h'
 | [], [], us, ts, h, h', b, rs, G, k, I, _, _, _, _, hu, hs, _ => by
  cases hs
  cases us with
  | nil => exact ⟨G, Went.refl I _, fun _ _ h => h, fun _ _ _ _ _ => ⟨trivial, trivial⟩⟩
  | cons _ _ => exact hu.elim
 | p :: ps, v :: vs, us, ts, h, h', b, rs, G, k, I, K0, hal, hW, hf, hu, hs, hb => by
  cases us with
  | nil => exact hu.elim
  | cons u us =>
   simp only [qai] at hs
   cases h1 : qa7 fz h p v with
   | none => rw [h1] at hs; cases hs
   | some x =>
    obtain ⟨t, hh, b1, rs1⟩ := x
    rw [h1] at hs
    simp only at hs
    cases h2 : qai fz hh ps vs with
    | none => rw [h2] at hs; cases hs
    | some y =>
     obtain ⟨ts', h'', b2, rs2⟩ := y
     rw [h2] at hs
     cases hs
     rw [Bool.and_eq_true] at hb
     simp only [List.length_cons] at hW ⊢
     have hp : ∀ l, p ≠ .ag l := fun l e => by subst e; cases h1
     obtain ⟨G1, W1, B1, D1⟩ := qj7 (W := W) I K0 hal (by omega) (hf k (Nat.le_refl _) (by omega)) hu.1 h1 hb.1
     obtain ⟨G2, W2, B2, D2⟩ := qj6 (k := k + 1) W1.1 (K0.trans W1.2.1) (W1.2.2.2.trans hal) (by omega) (fun j h1 h2 => W1.2.2.1.fresh (by omega) (hf j (by omega) h2)) (W1.2.1.avs _ hu.2) h2 hb.2
     refine ⟨G2, W1.trans W2 (fun x hx => by omega) (fun x hx => by omega), fun r cs hr => B1 r cs (B2 r cs hr), fun G' h' K1 J hl => ?_⟩
     have hl1 : fz = false → qbh h0 h' p v = true ∧ qbm h0 h' ps vs = true := fun e => by
      have := hl e
      simp only [qbm, Bool.and_eq_true] at this
      exact this
     obtain ⟨R2, A2⟩ := D2 G' h' K1 (J.mono fun x hx => by simp only [List.length_cons]; omega) (fun e => (hl1 e).2)
     obtain ⟨R1, A1⟩ := D1 G' h' (W2.2.1.trans K1) ((W2.2.2.1.kept fun x hx => by omega).trans (J.mono fun x hx => by simp only [List.length_cons]; omega)) (fun e => (hl1 e).1)
     refine ⟨⟨R1, R2⟩, ?_⟩
     rw [qm1 hp]
     exact RowsAway.append (by omega) (by simp only [List.length_cons]; omega) A1 (A2.mono (by omega) (by simp only [List.length_cons]; omega))
 | [], _ :: _, _, _, _, _, _, _, _, _, _, _, _, _, _, _, hs, _ => by cases hs
 | _ :: _, [], _, _, _, _, _, _, _, _, _, _, _, _, _, _, hs, _ => by cases hs
theorem qoa (I : Inv w0 S0 w G h) (K0 : Keep w w G0 G h0 h) (hal : G.al = G0.al) {k : Nat} (hk : k < W) (hf : ∀ b p, G.own b ≠ some (.tmp (K + k) p)) {p : PD} {v : AV} {u : Value} (hu : AVRep w G h u v) {t : T} {b : Bool}
 (hs : qas fz h p v = some (t, h', b)) (hb : b = true) :
 ∃ G', Went w0 S0 w G G' h h' (fun x => x = K + k) ∧ (∀ r cs, h' r = .box cs ↔ h r = .box cs) ∧ ∀ G2 h2, Keep w w G' G2 h' h2 → Kept G' G2 (fun x => x = K + k) → (fz = false → qbh h0 h2 p v = true) → PRep1 w (G2.forCall fz K W) k p u t := by
 cases p with
 | v c =>
  simp only [qas] at hs
  cases h1 : scal c v with
  | none => rw [h1] at hs; cases hs
  | some t' =>
   rw [h1] at hs
   cases hs
   exact ⟨G, Went.refl I _, fun _ _ => Iff.rfl, fun G' h' K1 J _ => qlt h1 hu _⟩
 | ro c =>
  have rd : (∀ r, fz = true → ¬ refIs v r) → (match readT h c v with | some (t, b) => (some (t, h, b) : Option (T × Hp × Bool)) | none => none) = some (t, h', b) →
   ∃ G', Went w0 S0 w G G' h h' (fun x => x = K + k) ∧ (∀ r cs, h' r = .box cs ↔ h r = .box cs) ∧ ∀ G2 h2, Keep w w G' G2 h' h2 → Kept G' G2 (fun x => x = K + k) → (fz = false → qbh h0 h2 (.ro c) v = true) → PRep1 w (G2.forCall fz K W) k (.ro c) u t := by
   intro hfz hs
   cases h1 : readT h c v with
   | none => rw [h1] at hs; cases hs
   | some y =>
    obtain ⟨t', b'⟩ := y
    rw [h1] at hs
    cases hs
    exact ⟨G, Went.refl I _, fun _ _ => Iff.rfl, fun G' h' K1 J hl => qwy I K0 hal hu h1 hb K1 (fun e r => hfz r e) hl⟩
  cases v with
  | rf r q ver sub =>
   cases fz with
   | true => cases hs
   | false => exact rd (fun r hf => by cases hf) (by simp only [qas] at hs; exact hs)
  | _ => exact rd (fun r _ hr => hr.elim) (by simp only [qas] at hs; exact hs)
 | ow c =>
  obtain ⟨G1, W1, C1, O1⟩ := qdy I hf hu hs hb
  exact ⟨G1, W1, fun r cs => ⟨qd5 hs, qhb hs⟩, fun G' h' K1 J _ => ⟨qnw C1 hk J, O1⟩⟩
 | mv c => cases hs
 | fn f => cases hs
 | ag l => cases hs
 | bx l => cases hs
theorem qiz : ∀ {ps : List PD} {vs : List AV} {us : List Value} {ts : List T} {h h' : Hp} {b : Bool} {G : Gh} {k : Nat}, Inv w0 S0 w G h → Keep w w G0 G h0 h → G.al = G0.al → k + ps.length ≤ W →
 (∀ j, k ≤ j → j < W → ∀ b p, G.own b ≠ some (.tmp (K + j) p)) → AVReps w G h us vs → qar fz h ps vs = some (ts, h', b) → b = true →
 ∃ G', Went w0 S0 w G G' h h' (fun x => K + k ≤ x ∧ x < K + k + ps.length) ∧ (∀ r cs, h' r = .box cs ↔ h r = .box cs) ∧
  ∀ G2 h2, Keep w w G' G2 h' h2 → Kept G' G2 (fun x => K + k ≤ x ∧ x < K + k + ps.length) → (fz = false → qbm h0 h2 ps vs = true) → PReps w (G2.forCall fz K W) k ps us ts
 | [], [], us, ts, h, h', b, G, k, I, _, _, _, _, hu, hs, _ => by
  cases hs
  cases us with
  | nil => exact ⟨G, Went.refl I _, fun _ _ => Iff.rfl, fun _ _ _ _ _ => trivial⟩
  | cons _ _ => exact hu.elim
 | p :: ps, v :: vs, us, ts, h, h', b, G, k, I, K0, hal, hW, hf, hu, hs, hb => by
  cases us with
  | nil => exact hu.elim
  | cons u us =>
   simp only [qar] at hs
   cases h1 : qas fz h p v with
   | none => rw [h1] at hs; cases hs
   | some x =>
    obtain ⟨t, hh, b1⟩ := x
    rw [h1] at hs
    simp only at hs
    cases h2 : qar fz hh ps vs with
    | none => rw [h2] at hs; cases hs
    | some y =>
     obtain ⟨ts', h'', b2⟩ := y
     rw [h2] at hs
     cases hs
     rw [Bool.and_eq_true] at hb
     simp only [List.length_cons] at hW ⊢
     obtain ⟨G1, W1, B1, D1⟩ := qoa (W := W) I K0 hal (by omega) (hf k (Nat.le_refl _) (by omega)) hu.1 h1 hb.1
     obtain ⟨G2, W2, B2, D2⟩ := qiz (k := k + 1) W1.1 (K0.trans W1.2.1) (W1.2.2.2.trans hal) (by omega) (fun j h1 h2 => W1.2.2.1.fresh (by omega) (hf j (by omega) h2)) (W1.2.1.avs _ hu.2) h2 hb.2
     refine ⟨G2, W1.trans W2 (fun x hx => by omega) (fun x hx => by omega), fun r cs => (B2 r cs).trans (B1 r cs), fun G' h' K1 J hl => ?_⟩
     have hl1 : fz = false → qbh h0 h' p v = true ∧ qbm h0 h' ps vs = true := fun e => by
      have := hl e
      simp only [qbm, Bool.and_eq_true] at this
      exact this
     exact ⟨D1 G' h' (W2.2.1.trans K1) ((W2.2.2.1.kept fun x hx => by omega).trans (J.mono fun x hx => by omega)) (fun e => (hl1 e).1), D2 G' h' K1 (J.mono fun x hx => by omega) (fun e => (hl1 e).2)⟩
 | [], _ :: _, _, _, _, _, _, _, _, _, _, _, _, _, _, hs, _ => by cases hs
 | _ :: _, [], _, _, _, _, _, _, _, _, _, _, _, _, _, hs, _ => by cases hs
end
end Go.Proofs.YtncfoonahkieoaaGreatDoorV
namespace Go.Proofs.YtncfoonahkieoaaGreatDoorV
def qux (G0 : Gh) (h0 : Hp) (x : Nat × List PD × List AV) (l : List PD) (u : Value) : Prop :=
 x.2.1 = l ∧ G0.al x.1 ∧ h0 x.1 = .box x.2.2 ∧ G0.φ x.1 = u ∧ x.2.2.length = l.length
def BoxesAway (G0 : Gh) (h0 : Hp) : List (Nat × List PD × List AV) → List (List PD) → List Value → Prop
 | [], [], [] => True
 | x :: xs, l :: ls, u :: us => qux G0 h0 x l u ∧ BoxesAway G0 h0 xs ls us
 | _, _, _ => False
def rng (K W k n x : Nat) : Prop := (K + k ≤ x ∧ x < K + k + n) ∨ (K + W + k ≤ x ∧ x < K + W + k + n)
def Done (w : World) (G0 : Gh) (h0 : Hp) (fz : Bool) (K W k : Nat) (p : PD) (v : AV) (u : Value) (t : T) (rs : List (Nat × Path × Blk)) (G : Gh) (h : Hp) : Prop :=
 ∀ G' h', Keep w w G G' h h' → Kept G G' (rng K W k (wide p)) → (fz = false → qac h0 h' [p] [v] = true) →
  PRep w (G'.forCall fz K W) k p u t ∧ RowsAway w G0 h0 G' (K + W + k) (K + W + k + wide p) rs (owVal p u)
def DoneL (w : World) (G0 : Gh) (h0 : Hp) (fz : Bool) (K W k : Nat) (ps : List PD) (vs : List AV) (us : List Value) (ts : List T) (rs : List (Nat × Path × Blk)) (G : Gh) (h : Hp) : Prop :=
 ∀ G' h', Keep w w G G' h h' → Kept G G' (rng K W k (ps.map wide).sum) → (fz = false → qac h0 h' ps vs = true) →
  PRepL w (G'.forCall fz K W) k ps us ts ∧ RowsAway w G0 h0 G' (K + W + k) (K + W + k + (ps.map wide).sum) rs (qfe ps us)
theorem qet {h0 h : Hp} {p : PD} {ps : List PD} {v : AV} {vs : List AV} : qac h0 h (p :: ps) (v :: vs) = (qac h0 h [p] [v] && qac h0 h ps vs) := by
 cases p <;> cases v <;> simp [qac]
section
variable {w0 w w' : World} {S0 : Nat → Prop} {G0 G G' : Gh} {h0 h h' : Hp} {fz : Bool} {K W : Nat}
def qab (fz : Bool) (h : Hp) (p : PD) (v : AV) : Option (T × Hp × Bool × List (Nat × Path × Blk) × List (Nat × List PD × List AV)) :=
 match p with
 | .ag l => match v with
  | .ag cs => match qai fz h l cs with | some (ts, h, b, rs) => some (.st ts, h, b, rs, []) | none => none
  | _ => none
 | .bx l => match v with
  | .bp r 0 => match h r with
   | .box cs => match qar fz h l cs with | some (ts, h, b) => some (.st ts, upd h r .dead, b, [], [(r, l, cs)]) | none => none
   | _ => none
  | _ => none
 | p => match qa7 fz h p v with | some (t, h, b, rs) => some (t, h, b, rs, []) | none => none
theorem qn2 {p : PD} {ps : List PD} {v : AV} {vs : List AV} {o : Out} (hs : qaa fz h (p :: ps) (v :: vs) = some o) :
 ∃ t h1 b rs bx o', qab fz h p v = some (t, h1, b, rs, bx) ∧ qaa fz h1 ps vs = some o' ∧ o = ⟨t :: o'.ts, o'.h, b && o'.b, rs ++ o'.rows, bx ++ o'.boxes⟩ := by
 have flat : (match qa7 fz h p v with
  | some (t, h, b, rs) => match qaa fz h ps vs with | some o => some (⟨t :: o.ts, o.h, b && o.b, rs ++ o.rows, o.boxes⟩ : Out) | none => none
  | none => none) = some o → ∃ t h1 b rs o', qa7 fz h p v = some (t, h1, b, rs) ∧ qaa fz h1 ps vs = some o' ∧ o = ⟨t :: o'.ts, o'.h, b && o'.b, rs ++ o'.rows, o'.boxes⟩ := by
  intro hs
  cases h1 : qa7 fz h p v with
  | none => rw [h1] at hs; cases hs
  | some x =>
   obtain ⟨t, hh, b, rs⟩ := x
   rw [h1] at hs
   simp only at hs
   cases h2 : qaa fz hh ps vs with
   | none => rw [h2] at hs; cases hs
   | some o' =>
    rw [h2] at hs
    cases hs
    exact ⟨t, hh, b, rs, o', rfl, h2, rfl⟩
 have done : (∃ t h1 b rs o', qa7 fz h p v = some (t, h1, b, rs) ∧ qaa fz h1 ps vs = some o' ∧ o = ⟨t :: o'.ts, o'.h, b && o'.b, rs ++ o'.rows, o'.boxes⟩) → (∀ t h1 b rs, qa7 fz h p v = some (t, h1, b, rs) → qab fz h p v = some (t, h1, b, rs, [])) →
  ∃ t h1 b rs bx o', qab fz h p v = some (t, h1, b, rs, bx) ∧ qaa fz h1 ps vs = some o' ∧ o = ⟨t :: o'.ts, o'.h, b && o'.b, rs ++ o'.rows, bx ++ o'.boxes⟩ := by
  rintro ⟨t, h1, b, rs, o', g1, g2, g3⟩ hT
  exact ⟨t, h1, b, rs, [], o', hT _ _ _ _ g1, g2, g3⟩
 cases p with
 | v c => exact done (flat (by simp only [qaa] at hs; exact hs)) (fun t h1 b rs e => by simp only [qab, e])
 | ro c => exact done (flat (by simp only [qaa] at hs; exact hs)) (fun t h1 b rs e => by simp only [qab, e])
 | ow c => exact done (flat (by simp only [qaa] at hs; exact hs)) (fun t h1 b rs e => by simp only [qab, e])
 | mv c => exact done (flat (by simp only [qaa] at hs; exact hs)) (fun t h1 b rs e => by simp only [qab, e])
 | fn f => exact done (flat (by simp only [qaa] at hs; exact hs)) (fun t h1 b rs e => by simp only [qab, e])
 | ag l =>
  simp only [qaa] at hs
  cases v with
  | ag cs =>
   simp only at hs
   cases h1 : qai fz h l cs with
   | none => rw [h1] at hs; cases hs
   | some x =>
    obtain ⟨ts, hh, b, rs⟩ := x
    rw [h1] at hs
    simp only at hs
    cases h2 : qaa fz hh ps vs with
    | none => rw [h2] at hs; cases hs
    | some o' =>
     rw [h2] at hs
     cases hs
     exact ⟨.st ts, hh, b, rs, [], o', by simp only [qab, h1], h2, rfl⟩
  | _ => cases hs
 | bx l =>
  simp only [qaa] at hs
  split at hs
  ·rename_i r
   cases h0 : h r with
   | dead => rw [h0] at hs; cases hs
   | row _ _ _ _ _ => rw [h0] at hs; cases hs
   | box cs =>
    rw [h0] at hs
    simp only at hs
    cases h1 : qar fz h l cs with
    | none => rw [h1] at hs; cases hs
    | some x =>
     obtain ⟨ts, hh, b⟩ := x
     rw [h1] at hs
     simp only at hs
     cases h2 : qaa fz (upd hh r .dead) ps vs with
     | none => rw [h2] at hs; cases hs
     | some o' =>
      rw [h2] at hs
      cases hs
      exact ⟨.st ts, upd hh r .dead, b, [], [(r, l, cs)], o', by simp only [qab, h0, h1], h2, rfl⟩
  ·cases hs
theorem qj0 : ∀ {ps : List PD} {vs : List AV} {h h' : Hp} {ts : List T} {b : Bool}, qar fz h ps vs = some (ts, h', b) → vs.length = ps.length
 | [], [], _, _, _, _, _ => rfl
 | p :: ps, v :: vs, h, h', ts, b, hs => by
  simp only [qar] at hs
  cases h1 : qas fz h p v with
  | none => rw [h1] at hs; cases hs
  | some x =>
   obtain ⟨t, hh, b1⟩ := x
   rw [h1] at hs
   simp only at hs
   cases h2 : qar fz hh ps vs with
   | none => rw [h2] at hs; cases hs
   | some y =>
    obtain ⟨ts', h'', b2⟩ := y
    simp [qj0 h2]
 | [], _ :: _, _, _, _, _, hs => by cases hs
 | _ :: _, [], _, _, _, _, hs => by cases hs
theorem qoc (I : Inv w0 S0 w G h) (K0 : Keep w w G0 G h0 h) (hal : G.al = G0.al) (hbx : ∀ r cs, h r = .box cs → h0 r = .box cs) {k : Nat} {p : PD} (hk : k + wide p ≤ W) (hf : ∀ j, k ≤ j → j < W → ∀ b p, G.own b ≠ some (.tmp (K + j) p)) {v : AV} {u : Value} (hu : AVRep w G h u v)
 {t : T} {b : Bool} {rs : List (Nat × Path × Blk)} {bx : List (Nat × List PD × List AV)} (hs : qab fz h p v = some (t, h', b, rs, bx)) (hb : b = true) :
 ∃ G', Went w0 S0 w G G' h h' (rng K W k (wide p)) ∧ (∀ r cs, h' r = .box cs → h r = .box cs) ∧ Done w G0 h0 fz K W k p v u t rs G' h' ∧ BoxesAway G0 h0 bx (bxPs [p]) (bxUs [p] [u]) := by
 have flat : ∀ {q : PD}, p = q → (∀ l, q ≠ .ag l) → (∀ l, q ≠ .bx l) → (match qa7 fz h q v with | some (t, h, b, rs) => some (t, h, b, rs, []) | none => none) = some (t, h', b, rs, bx) → wide q = 1 →
  ∃ G', Went w0 S0 w G G' h h' (rng K W k 1) ∧ (∀ r cs, h' r = .box cs → h r = .box cs) ∧ (∀ G2 h2, Keep w w G' G2 h' h2 → Kept G' G2 (rng K W k 1) → (fz = false → qbh h0 h2 q v = true) →
   PRep1 w (G2.forCall fz K W) k q u t ∧ RowsAway w G0 h0 G2 (K + W + k) (K + W + k + 1) rs (owVal q u)) ∧ bx = [] := by
  intro q hq _ _ hs hw
  subst hq
  cases h1 : qa7 fz h p v with
  | none => rw [h1] at hs; cases hs
  | some x =>
   obtain ⟨t', hh, b', rs'⟩ := x
   rw [h1] at hs
   cases hs
   obtain ⟨G1, W1, B1, D1⟩ := qj7 (W := W) I K0 hal (by omega) (hf k (Nat.le_refl _) (by omega)) hu h1 hb
   exact ⟨G1, ⟨W1.1, W1.2.1, W1.2.2.1.mono (fun x hx => by unfold rng; omega), W1.2.2.2⟩, B1, fun G2 h2 K1 J hl => D1 G2 h2 K1 (J.mono fun x hx => by unfold rng; omega) hl, rfl⟩
 cases p with
 | v c =>
  obtain ⟨G1, W1, B1, D1, rfl⟩ := flat (q := .v c) rfl (by simp) (by simp) hs rfl
  exact ⟨G1, W1, B1, fun G2 h2 K1 J hl => D1 G2 h2 K1 J (fun e => by simpa [qac] using hl e), trivial⟩
 | ro c =>
  obtain ⟨G1, W1, B1, D1, rfl⟩ := flat (q := .ro c) rfl (by simp) (by simp) hs rfl
  exact ⟨G1, W1, B1, fun G2 h2 K1 J hl => D1 G2 h2 K1 J (fun e => by simpa [qac] using hl e), trivial⟩
 | ow c =>
  obtain ⟨G1, W1, B1, D1, rfl⟩ := flat (q := .ow c) rfl (by simp) (by simp) hs rfl
  exact ⟨G1, W1, B1, fun G2 h2 K1 J hl => D1 G2 h2 K1 J (fun e => by simpa [qac] using hl e), trivial⟩
 | mv c =>
  obtain ⟨G1, W1, B1, D1, rfl⟩ := flat (q := .mv c) rfl (by simp) (by simp) hs rfl
  exact ⟨G1, W1, B1, fun G2 h2 K1 J hl => D1 G2 h2 K1 J (fun e => by simpa [qac] using hl e), trivial⟩
 | fn f =>
  obtain ⟨G1, W1, B1, D1, rfl⟩ := flat (q := .fn f) rfl (by simp) (by simp) hs rfl
  exact ⟨G1, W1, B1, fun G2 h2 K1 J hl => D1 G2 h2 K1 J (fun e => by simpa [qac] using hl e), trivial⟩
 | ag l =>
  simp only [qab] at hs
  cases v with
  | ag cs =>
   simp only at hs
   cases h1 : qai fz h l cs with
   | none => rw [h1] at hs; cases hs
   | some x =>
    obtain ⟨ts, hh, b', rs'⟩ := x
    rw [h1] at hs
    cases hs
    obtain ⟨us, rfl, hu⟩ := hu
    obtain ⟨G1, W1, B1, D1⟩ := qj6 I K0 hal hk hf hu h1 hb
    refine ⟨G1, W1, B1, fun G2 h2 K1 J hl => ?_, trivial⟩
    obtain ⟨R, A⟩ := D1 G2 h2 K1 J (fun e => by simpa [qac] using hl e)
    exact ⟨⟨us, ts, rfl, rfl, R⟩, A⟩
  | _ => cases hs
 | bx l =>
  simp only [qab] at hs
  split at hs
  ·rename_i r
   cases hr : h r with
   | dead => rw [hr] at hs; cases hs
   | row _ _ _ _ _ => rw [hr] at hs; cases hs
   | box cs =>
    rw [hr] at hs
    simp only at hs
    cases h1 : qar fz h l cs with
    | none => rw [h1] at hs; cases hs
    | some x =>
     obtain ⟨ts, hh, b'⟩ := x
     rw [h1] at hs
     cases hs
     have R := I.rep r
     rw [hr] at R
     obtain ⟨_, b0, c, ty, fz0, e1, e2, e3, e4, _⟩ := R
     simp only [wide] at hk ⊢
     obtain ⟨G1, W1, B1, D1⟩ := qiz (K := K) (W := W) (k := k + 1) I K0 hal (by omega) (fun j h1 h2 => hf j (by omega) h2) e4 h1 hb
     have hbox1 : hh r = .box cs := (B1 r cs).2 hr
     obtain ⟨g1, g2, g3⟩ := hu
     rw [hr] at g3
     obtain ⟨b1, g3, rfl⟩ := g3
     rw [e1] at g3
     cases g3
     have ht := (W1.2.1.al r g2).2
     rw [hr, hbox1] at ht
     have R1 := W1.1.rep r
     rw [hbox1] at R1
     obtain ⟨_, b2, c2, ty2, fz2, k1, k2, k3, _⟩ := R1
     rw [show G1.φ r = G.φ r from ht, e1] at k1
     cases k1
     obtain ⟨I2, K2, T2⟩ := qpk W1.1 (K := K + k) hbox1
     have W2 : Went w0 S0 w G1 (G1.rel (killF r [] (K + k))) hh (upd hh r .dead) (fun x => x = K + k) := ⟨I2, K2, T2.out rfl, rfl⟩
     have h0r : h0 r = .box cs := hbx r cs hr
     have ha0 : G0.al r := by rw [← hal]; exact g2
     have t0 := (K0.al r ha0).2
     rw [h0r, hr] at t0
     refine ⟨_, W1.trans W2 (fun x hx => by unfold rng; omega) (fun x hx => by unfold rng; omega), fun r' cs' hr' => ?_, fun G2 h2 K1 J hl => ?_, ⟨⟨rfl, ha0, h0r, ?_, ?_⟩, trivial⟩⟩
     ·by_cases e : r' = r
      ·subst e; rw [upd_same] at hr'; cases hr'
      ·rw [upd_ne _ _ e] at hr'; exact (B1 r' cs').1 hr'
     ·refine ⟨⟨b0, c, ty, fz0, ts, rfl, rfl, qir (k := k) (by omega) (J (K + k) (by unfold rng; simp only [wide]; omega) b0 [] (ql1 (p := []) (s := []) k2)), e3, ?_⟩, trivial⟩
      refine D1 G2 h2 (K2.trans K1) ((W2.2.2.1.kept fun x hx => by omega).trans (J.mono fun x hx => by unfold rng; simp only [wide]; omega)) (fun e => ?_)
      have := hl e
      simp only [qac, h0r, Bool.and_true] at this
      exact this
     ·exact t0.symm.trans e1
     ·exact qj0 h1
  ·cases hs
theorem BoxesAway.append : ∀ {xs xs' : List (Nat × List PD × List AV)} {ls ls' : List (List PD)} {us us' : List Value}, BoxesAway G0 h0 xs ls us → BoxesAway G0 h0 xs' ls' us' → BoxesAway G0 h0 (xs ++ xs') (ls ++ ls') (us ++ us')
 | [], _, [], _, [], _, _, H' => H'
 | _ :: _, _, _ :: _, _, _ :: _, _, H, H' => ⟨H.1, BoxesAway.append H.2 H'⟩
 | [], _, [], _, _ :: _, _, H, _ => H.elim
 | [], _, _ :: _, _, _, _, H, _ => H.elim
 | _ :: _, _, [], _, _, _, H, _ => H.elim
 | _ :: _, _, _ :: _, _, [], _, H, _ => H.elim
theorem qmy (p : PD) (ps : List PD) : bxPs (p :: ps) = bxPs [p] ++ bxPs ps := by cases p <;> rfl
theorem quc (p : PD) (ps : List PD) (u : Value) (us : List Value) : bxUs (p :: ps) (u :: us) = bxUs [p] [u] ++ bxUs ps us := by cases p <;> rfl
theorem qj5 : ∀ {ps : List PD} {vs : List AV} {us : List Value} {o : Out} {h : Hp} {G : Gh} {k : Nat}, Inv w0 S0 w G h → Keep w w G0 G h0 h → G.al = G0.al → (∀ r cs, h r = .box cs → h0 r = .box cs) → k + (ps.map wide).sum ≤ W →
 (∀ j, k ≤ j → j < W → ∀ b p, G.own b ≠ some (.tmp (K + j) p)) → AVReps w G h us vs → qaa fz h ps vs = some o → o.b = true →
 ∃ G', Went w0 S0 w G G' h o.h (rng K W k (ps.map wide).sum) ∧ (∀ r cs, o.h r = .box cs → h r = .box cs) ∧ DoneL w G0 h0 fz K W k ps vs us o.ts o.rows G' o.h ∧ BoxesAway G0 h0 o.boxes (bxPs ps) (bxUs ps us)
 | [], [], us, o, h, G, k, I, _, _, _, _, _, hu, hs, _ => by
  cases hs
  cases us with
  | nil => exact ⟨G, Went.refl I _, fun _ _ h => h, fun _ _ _ _ _ => ⟨trivial, trivial⟩, trivial⟩
  | cons _ _ => exact hu.elim
 | p :: ps, v :: vs, us, o, h, G, k, I, K0, hal, hbx, hW, hf, hu, hs, hb => by
  cases us with
  | nil => exact hu.elim
  | cons u us =>
   obtain ⟨t, h1, b1, rs, bx, o', g1, g2, rfl⟩ := qn2 hs
   simp only [Bool.and_eq_true] at hb
   simp only [List.map_cons, List.sum_cons] at hW ⊢
   obtain ⟨G1, W1, B1, D1, X1⟩ := qoc (W := W) I K0 hal hbx (by omega) hf hu.1 g1 hb.1
   obtain ⟨G2, W2, B2, D2, X2⟩ := qj5 (k := k + wide p) W1.1 (K0.trans W1.2.1) (W1.2.2.2.trans hal) (fun r cs hr => hbx r cs (B1 r cs hr)) (by omega) (fun j h1 h2 => W1.2.2.1.fresh (by unfold rng; omega) (hf j (by omega) h2)) (W1.2.1.avs _ hu.2) g2 hb.2
   refine ⟨G2, W1.trans W2 (fun x hx => by unfold rng at hx ⊢; omega) (fun x hx => by unfold rng at hx ⊢; omega), fun r cs hr => B1 r cs (B2 r cs hr), fun G' h' K1 J hl => ?_, ?_⟩
   ·have hl1 : fz = false → qac h0 h' [p] [v] = true ∧ qac h0 h' ps vs = true := fun e => by
     have := hl e
     rw [qet, Bool.and_eq_true] at this
     exact this
    obtain ⟨R2, A2⟩ := D2 G' h' K1 (J.mono fun x hx => by simp only [List.map_cons, List.sum_cons]; unfold rng at hx ⊢; omega) (fun e => (hl1 e).2)
    obtain ⟨R1, A1⟩ := D1 G' h' (W2.2.1.trans K1) ((W2.2.2.1.kept fun x hx => by unfold rng at hx ⊢; omega).trans (J.mono fun x hx => by simp only [List.map_cons, List.sum_cons]; unfold rng at hx ⊢; omega)) (fun e => (hl1 e).1)
    refine ⟨⟨R1, R2⟩, ?_⟩
    simp only [List.map_cons, List.sum_cons]
    exact RowsAway.append (by omega) (by omega) A1 (A2.mono (by omega) (by omega))
   ·rw [qmy, quc]
    exact X1.append X2
 | [], _ :: _, _, _, _, _, _, _, _, _, _, _, _, _, hs, _ => by cases hs
 | p :: _, [], _, _, _, _, _, _, _, _, _, _, _, _, hs, _ => by cases p <;> cases hs
theorem qnv (I : Inv w0 S0 w G h) (fz : Bool) (K W : Nat) : Inv w (fun b => ∃ x, (G.forCall fz K W).own b = some x) w (G.forCall fz K W) noBlk := by
 refine ⟨rfl, rfl, rfl, Nat.le_refl _, fun _ _ _ => rfl, fun b x hx => .inl ⟨x, hx⟩, fun b x hx => ?_, fun b hb => ?_, fun b hb => ?_, fun b hb => .inl hb, fun r b p hb => ?_⟩
 ·obtain ⟨k, p, _, h1, _⟩ := qb5 hx; exact I.cells b _ h1
 ·cases e : (G.forCall fz K W).own b with
  | none => rfl
  | some x =>
   obtain ⟨k, p, _, h1, _⟩ := qb5 e
   rcases hb with hb | ⟨_, r, q, hb⟩
   ·rw [I.roOwn b hb] at h1; cases h1
   ·rw [hb] at h1; cases h1
 ·rcases hb with hb | ⟨_, r, q, hb⟩
  ·exact I.roLt b hb
  ·exact I.ownLt hb
 ·obtain ⟨k, q, _, _, h1⟩ := qb5 hb
  cases h1
end
end Go.Proofs.YtncfoonahkieoaaGreatDoorV
namespace Go.Proofs.YtncfoonahkieoaaGreatDoorV
def Gh.after (G Gc : Gh) (H : Own) (fz : Bool) (K : Nat) : Gh :=
 { φ := G.φ, kv := G.kv, al := G.al
   own := fun b => match Gc.own b with
    | some (.tmp k p) => some (.tmp (K + k) p)
    | _ => match H b with | some _ => none | none => G.own b
   ro := fun b => G.ro b ∨ (fz = true ∧ Gc.ro b) }
section
variable {w0 w w' : World} {S0 : Nat → Prop} {G0 G G' Gc : Gh} {h0 h h' : Hp} {fz : Bool} {K K2 W : Nat}
theorem qj8 {H : Own} {b k : Nat} {p : Path} (hb : Gc.own b = some (.tmp k p)) : (G.after Gc H fz K2).own b = some (.tmp (K2 + k) p) := by
 simp only [Gh.after, hb]
theorem qut {H : Own} {b : Nat} (h1 : Gc.own b = none) (h2 : H b = none) : (G.after Gc H fz K2).own b = G.own b := by
 simp only [Gh.after, h1, h2]
theorem qeo {H : Own} {b : Nat} {x : Lab} (hb : (G.after Gc H fz K2).own b = some x) : (∃ k p, Gc.own b = some (.tmp k p) ∧ x = .tmp (K2 + k) p) ∨ ((∀ k p, Gc.own b ≠ some (.tmp k p)) ∧ H b = none ∧ G.own b = some x) := by
 simp only [Gh.after] at hb
 have old : (∀ k p, Gc.own b ≠ some (.tmp k p)) → (match H b with | some _ => none | none => G.own b) = some x → (∃ k p, Gc.own b = some (.tmp k p) ∧ x = .tmp (K2 + k) p) ∨ ((∀ k p, Gc.own b ≠ some (.tmp k p)) ∧ H b = none ∧ G.own b = some x) := by
  intro hn hb
  cases e2 : H b with
  | some y => rw [e2] at hb; cases hb
  | none => rw [e2] at hb; exact .inr ⟨hn, rfl, hb⟩
 have hc : Gc.own b = none ∨ ∃ y, Gc.own b = some y := by cases Gc.own b <;> simp
 rcases hc with e | ⟨y, e⟩
 ·rw [e] at hb; exact old (fun k p => by rw [e]; simp) hb
 ·cases y with
  | tmp k p => rw [e] at hb; cases hb; exact .inl ⟨k, p, e, rfl⟩
  | blk r q => rw [e] at hb; exact old (fun k p => by rw [e]; simp) hb
theorem quu (I : Inv w0 S0 w G h) (Ic : Inv w (fun b => ∃ x, (G.forCall fz K W).own b = some x) w' Gc noBlk) (hro : ∀ b, Gc.ro b → (G.forCall fz K W).ro b ∨ (∃ x, (G.forCall fz K W).own b = some x) ∨ w.heap.size ≤ b) (hroc : ∀ b, (G.forCall fz K W).ro b → Gc.ro b) :
 Inv w0 S0 w' (G.after Gc (G.forCall fz K W).own fz K2) h ∧ Keep w w' G (G.after Gc (G.forCall fz K W).own fz K2) h h ∧
  ∀ b x, G.own b = some x → (G.forCall fz K W).own b = none → (G.after Gc (G.forCall fz K W).own fz K2).own b = some x ∧ w'.heap[b]? = w.heap[b]? := by
 have hand : ∀ b x, (G.forCall fz K W).own b = some x → ∃ y, G.own b = some y := fun b x hx => by
  obtain ⟨k, p, _, h1, _⟩ := qb5 hx; exact ⟨_, h1⟩
 have cnone : ∀ b, (G.forCall fz K W).own b = none → b < w.heap.size → Gc.own b = none := by
  intro b h1 h2
  cases e : Gc.own b with
  | none => rfl
  | some x =>
   rcases Ic.mine b x e with ⟨y, hy⟩ | hlt
   ·rw [h1] at hy; cases hy
   ·omega
 have hsame : ∀ b, (G.forCall fz K W).own b = none → b < w.heap.size → w'.heap[b]? = w.heap[b]? := fun b h1 h2 => Ic.same b h2 (fun ⟨x, hx⟩ => by rw [h1] at hx; cases hx)
 have rest : ∀ b x, G.own b = some x → (G.forCall fz K W).own b = none → (G.after Gc (G.forCall fz K W).own fz K2).own b = some x ∧ w'.heap[b]? = w.heap[b]? := by
  intro b x hx hn
  have hlt := I.ownLt hx
  exact ⟨by rw [qut (cnone b hn hlt) hn]; exact hx, hsame b hn hlt⟩
 have roNone : ∀ b, G.ro b → (G.forCall fz K W).own b = none := fun b hb => by
  cases e : (G.forCall fz K W).own b with
  | none => rfl
  | some x => obtain ⟨y, hy⟩ := hand b x e; rw [I.roOwn b hb] at hy; cases hy
 have blkNone : ∀ b r p, G.own b = some (.blk r p) → (G.forCall fz K W).own b = none := fun b r p hb => by
  cases e : (G.forCall fz K W).own b with
  | none => rfl
  | some x => obtain ⟨k, q, _, h1, _⟩ := qb5 e; rw [hb] at h1; cases h1
 have K1 : Keep w w' G (G.after Gc (G.forCall fz K W).own fz K2) h h := by
  refine ⟨fun b hb => ⟨.inl hb, hsame b (roNone b hb) (I.roLt b hb)⟩, rfl, fun r hr => ⟨hr, ?_⟩⟩
  cases h r with
  | dead => trivial
  | box _ => rfl
  | row m cs l v e => exact ⟨rfl, rfl, rfl, .inl ⟨rfl, rfl, fun b p hb => rest b _ hb (blkNone b r p hb)⟩⟩
 have blkBack : ∀ b r p, (G.after Gc (G.forCall fz K W).own fz K2).own b = some (.blk r p) → G.own b = some (.blk r p) := by
  intro b r p hb
  rcases qeo hb with ⟨k, q, _, h1⟩ | ⟨_, _, h1⟩
  ·cases h1
  ·exact h1
 refine ⟨⟨Ic.os.trans I.os, Ic.tape.trans I.tape, Ic.output.trans I.output, Nat.le_trans I.size Ic.size, fun b hb hs => ?_, fun b x hx => ?_, fun b x hx => ?_, fun b hb => ?_, fun b hb => ?_, fun b hb => ?_, fun r => ?_⟩, K1, rest⟩
 ·have hn : (G.forCall fz K W).own b = none := by
   cases e : (G.forCall fz K W).own b with
   | none => rfl
   | some x =>
    obtain ⟨y, hy⟩ := hand b x e
    rcases I.mine b y hy with h1 | h1
    ·exact absurd h1 hs
    ·omega
  exact (hsame b hn (Nat.lt_of_lt_of_le hb I.size)).trans (I.same b hb hs)
 ·rcases qeo hx with ⟨k, q, h1, _⟩ | ⟨_, _, h1⟩
  ·rcases Ic.mine b _ h1 with ⟨y, hy⟩ | h2
   ·obtain ⟨z, hz⟩ := hand b y hy
    exact I.mine b z hz
   ·exact .inr (Nat.le_trans I.size h2)
  ·exact I.mine b x h1
 ·rcases qeo hx with ⟨k, q, h1, _⟩ | ⟨_, h2, h1⟩
  ·exact Ic.cells b _ h1
  ·obtain ⟨c, ty, fz', g1, g2⟩ := I.cells b x h1
   exact ⟨c, ty, fz', (hsame b h2 (I.ownLt h1)).trans g1, g2⟩
 ·cases e : (G.after Gc (G.forCall fz K W).own fz K2).own b with
  | none => rfl
  | some x =>
   rcases qeo e with ⟨k, q, h1, _⟩ | ⟨_, h2, h1⟩
   ·rcases hb with hb | ⟨_, hb⟩
    ·have := Ic.roOwn b (hroc b (.inl hb))
     rw [h1] at this; cases this
    ·rw [Ic.roOwn b hb] at h1; cases h1
   ·rcases hb with hb | ⟨hf, hb⟩
    ·rw [I.roOwn b hb] at h1; cases h1
    ·subst hf
     rcases hro b hb with h3 | ⟨y, hy⟩ | h3
     ·rcases h3 with h3 | ⟨h3, _⟩
      ·rw [I.roOwn b h3] at h1; cases h1
      ·cases h3
     ·rw [h2] at hy; cases hy
     ·have := I.ownLt h1; omega
 ·rcases hb with hb | ⟨_, hb⟩
  ·exact Nat.lt_of_lt_of_le (I.roLt b hb) Ic.size
  ·exact Ic.roLt b hb
 ·rcases hb with hb | ⟨hf, hb⟩
  ·exact I.roIn b hb
  ·subst hf
   rcases hro b hb with h3 | ⟨y, hy⟩ | h3
   ·rcases h3 with h3 | ⟨h3, _⟩
    ·exact I.roIn b h3
    ·cases h3
   ·obtain ⟨z, hz⟩ := hand b y hy
    exact .inr (I.mine b z hz)
   ·exact .inr (.inr (Nat.le_trans I.size h3))
 ·have R := I.rep r
  cases e : h r with
  | dead => rw [e] at R; exact fun b p hb => R b p (blkBack b r p hb)
  | box cs =>
   rw [e] at R
   obtain ⟨ha, b, c, ty, fz', g1, g2, g3, g4, g5⟩ := R
   obtain ⟨k1, k2⟩ := rest b _ g2 (blkNone b r [] g2)
   exact ⟨ha, b, c, ty, fz', g1, k1, k2.trans g3, K1.avs cs g4, g5⟩
  | row m cs l v z =>
   rw [e] at R
   obtain ⟨ha, g1, g2⟩ := R
   exact ⟨ha, RowRep.moved (M := G.own.m r) (π := []) ⟨fun hf => False.elim hf, fun b ρ hb => rest b _ hb (blkNone b r _ hb)⟩ g1, g2⟩
end
end Go.Proofs.YtncfoonahkieoaaGreatDoorV
namespace Go.Proofs.YtncfoonahkieoaaGreatDoorV
def Mixs (w : World) (G0 : Gh) (h0 : Hp) (w' : World) (G : Gh) (h : Hp) : List Value → List AV → Prop
 | [], [] => True
 | u :: us, v :: vs => (AVRep w G0 h0 u v ∨ AVRep w' G h u v) ∧ Mixs w G0 h0 w' G h us vs
 | _, _ => False
structure Back (w0 : World) (S0 : Nat → Prop) (w w' : World) (G0 : Gh) (h0 : Hp) (A : Nat → Prop) (G : Gh) (h : Hp) : Prop where
 x : InvX w0 S0 w' G h
 kp : ∀ r, G0.al r → Turn w w' G0 G r (h0 r) (h r)
 al : ∀ r, G.al r → G0.al r ∨ A r
 mono : ∀ r, G0.al r → G.al r
 ro : ∀ b, G0.ro b → G.ro b ∧ w'.heap[b]? = w.heap[b]?
 kv : G.kv = G0.kv
 new : ∀ r, A r → ¬ G0.al r
 box : ∀ r cs, h r = .box cs → ∃ b c ty fz, G.φ r = .pointer (some ⟨b, 0, none⟩) ∧ w'.heap[b]? = some (.cells c ty fz) ∧ Mixs w G0 h0 w' (G.on A) h c.toList cs
section
variable {w0 w w' : World} {S0 : Nat → Prop} {G0 G G' Gc : Gh} {h0 h h' : Hp} {fz : Bool} {K K2 W : Nat} {A A' N L : Nat → Prop}
theorem Mixs.mono (H : ∀ u v, AVRep w' G h u v → AVRep w' G' h' u v) : ∀ {us : List Value} {vs : List AV}, Mixs w G0 h0 w' G h us vs → Mixs w G0 h0 w' G' h' us vs
 | [], [], _ => trivial
 | u :: us, v :: vs, M => ⟨M.1.imp id (H u v), Mixs.mono H M.2⟩
 | [], _ :: _, M => M.elim
 | _ :: _, [], M => M.elim
theorem Mixs.avs (K : Keep w w' G0 G h0 h) : ∀ {us : List Value} {vs : List AV}, Mixs w G0 h0 w' G h us vs → AVReps w' G h us vs
 | [], [], _ => trivial
 | u :: us, v :: vs, M => ⟨M.1.elim (K.av v) id, Mixs.avs K M.2⟩
 | [], _ :: _, M => M.elim
 | _ :: _, [], M => M.elim
theorem AVReps.mixs : ∀ {us : List Value} {vs : List AV}, AVReps w' G h us vs → Mixs w G0 h0 w' G h us vs
 | [], [], _ => trivial
 | _ :: _, _ :: _, M => ⟨.inr M.1, AVReps.mixs M.2⟩
 | [], _ :: _, M => M.elim
 | _ :: _, [], M => M.elim
theorem AVReps.mixs0 : ∀ {us : List Value} {vs : List AV}, AVReps w G0 h0 us vs → Mixs w G0 h0 w' G h us vs
 | [], [], _ => trivial
 | _ :: _, _ :: _, M => ⟨.inl M.1, AVReps.mixs0 M.2⟩
 | [], _ :: _, M => M.elim
 | _ :: _, [], M => M.elim
theorem Back.keep (B : Back w0 S0 w w' G0 h0 A G h) : Keep w w' G0 G h0 h := ⟨B.ro, B.kv, fun r hr => ⟨B.mono r hr, B.kp r hr⟩⟩
theorem Back.inv (B : Back w0 S0 w w' G0 h0 A G h) : Inv w0 S0 w' G h := B.x.inv fun r cs _ e => by
 obtain ⟨b, c, ty, fz, g1, g2, g3⟩ := B.box r cs e
 exact ⟨b, c, ty, fz, g1, g2, (g3.mono fun u v hv => (Gh.onAll w' G h A).av v hv).avs B.keep⟩
theorem Back.step (B : Back w0 S0 w w' G0 h0 A G h) (X : InvX w0 S0 w' G' h') (J : Inst G G' h h' N L) (hA : ∀ r, A r → A' r) (hAN : ∀ r, A r → ¬ N r) (hN : ∀ r, N r → G'.al r → G0.al r ∨ A' r) (hnew : ∀ r, A' r → ¬ G0.al r)
 (ht : ∀ r, N r → G0.al r → Turn w w' G0 G' r (h0 r) (h' r))
 (hb : ∀ r cs, N r → h' r = .box cs → ∃ b c ty fz, G'.φ r = .pointer (some ⟨b, 0, none⟩) ∧ w'.heap[b]? = some (.cells c ty fz) ∧ Mixs w G0 h0 w' (G'.on A') h' c.toList cs) : Back w0 S0 w w' G0 h0 A' G' h' := by
 have up : ∀ u v, AVRep w' (G.on A) h u v → AVRep w' (G'.on A') h' u v := fun u v hv => (Gh.onMono w' G' h' hA).av v ((J.keepOn w' hAN).av v hv)
 refine ⟨X, fun r hr => ?_, fun r hr => ?_, fun r hr => J.al r (B.mono r hr), fun b hb => ?_, J.kv.trans B.kv, hnew, fun r cs e => ?_⟩
 ·by_cases hn : N r
  ·exact ht r hn hr
  ·obtain ⟨h1, h2, h3⟩ := J.stay r hn
   have := B.kp r hr
   rw [h1]
   cases e1 : h0 r <;> cases e2 : h r <;> rw [e1, e2] at this <;> first | trivial | exact this.elim | skip
   ·exact h2.trans this
   ·obtain ⟨g1, g2, g3, g4⟩ := this
    refine ⟨g1, g2, h2.trans g3, g4.imp (fun ⟨a1, a2, a3⟩ => ⟨a1, a2, fun b p hb => ?_⟩) id⟩
    obtain ⟨k1, k2⟩ := a3 b p hb
    exact ⟨(h3 b p).2 k1, k2⟩
 ·rcases J.alN r hr with h1 | h1
  ·exact (B.al r h1).imp id (hA r)
  ·exact hN r h1 hr
 ·rw [J.ro]
  exact B.ro b hb
 ·by_cases hn : N r
  ·exact hb r cs hn e
  ·obtain ⟨h1, h2, _⟩ := J.stay r hn
   rw [h1] at e
   obtain ⟨b, c, ty, fz, g1, g2, g3⟩ := B.box r cs e
   exact ⟨b, c, ty, fz, h2.trans g1, g2, g3.mono up⟩
def HungA (w w' : World) (G0 : Gh) (h0 : Hp) (G : Gh) (kx r : Nat) (q : Path) (B : Blk) (c : CT) (u : Value) : Prop :=
 ∃ m cs l v e m' cs' l' M0, B = .row m cs l v e ∧ G0.al r ∧ (∃ l0 v0 e0, h0 r = .row m cs l0 v0 e0 ∧ v0 ≤ v) ∧ (M0 : Mem).emp = False ∧ RowRep w M0 [] m cs (G0.φ r) l ∧ NavH w M0 [] q cs (G0.φ r) u ∧ PathOk q m cs l ∧
  navR q m cs l = some (m', cs', l') ∧ c = .sl m' cs' ∧ (∀ b ρ, M0 b ρ → (∃ s, ρ = q ++ s) ∨ (G.own b = some (.tmp kx ρ) ∧ w'.heap[b]? = w.heap[b]?)) ∧ (e = false → okL m cs l = true)
theorem Hung.after {kx r : Nat} {q : Path} {B : Blk} {c : CT} {u : Value} (H : Hung w G0 h0 G kx r q B c u) (J : ∀ b ρ, G.own b = some (.tmp kx ρ) → G'.own b = some (.tmp kx ρ) ∧ w'.heap[b]? = w.heap[b]?) : HungA w w' G0 h0 G' kx r q B c u := by
 obtain ⟨m, cs, l, v, e, m', cs', l', M0, h1, h2, h3, h4, h5, h6, h7, h8, h9, h10, h11⟩ := H
 exact ⟨m, cs, l, v, e, m', cs', l', M0, h1, h2, h3, h4, h5, h6, h7, h8, h9, fun b ρ hb => (h10 b ρ hb).imp id (J b ρ), h11⟩
theorem HungA.kept {kx r : Nat} {q : Path} {B : Blk} {c : CT} {u : Value} (H : HungA w w' G0 h0 G kx r q B c u) (J : ∀ b ρ, G.own b = some (.tmp kx ρ) → G'.own b = some (.tmp kx ρ)) : HungA w w' G0 h0 G' kx r q B c u := by
 obtain ⟨m, cs, l, v, e, m', cs', l', M0, h1, h2, h3, h4, h5, h6, h7, h8, h9, h10, h11⟩ := H
 exact ⟨m, cs, l, v, e, m', cs', l', M0, h1, h2, h3, h4, h5, h6, h7, h8, h9, fun b ρ hb => (h10 b ρ hb).imp id (fun ⟨a, b⟩ => ⟨J _ ρ a, b⟩), h11⟩
def homeF (kx kr r : Nat) (q : Path) : Lab → Lab
 | .tmp k s => if k = kx then .blk r s else if k = kr then .blk r (q ++ s) else .tmp k s
 | x => x
theorem qe3 (kx kr r : Nat) (q : Path) (k : Nat) (s : Path) : homeF kx kr r q (.tmp k s) = if k = kx then .blk r s else if k = kr then .blk r (q ++ s) else .tmp k s := rfl
theorem qk0 {kx kr r : Nat} {q : Path} : ∀ x r' p, r' ≠ r → homeF kx kr r q x = .blk r' p → x = .blk r' p := by
 intro x r' p hr' hx
 cases x with
 | blk r1 q1 => exact hx
 | tmp k s =>
  rw [qe3] at hx
  by_cases e1 : k = kx
  ·rw [if_pos e1] at hx; cases hx; exact absurd rfl hr'
  ·rw [if_neg e1] at hx
   by_cases e2 : k = kr
   ·rw [if_pos e2] at hx; cases hx; exact absurd rfl hr'
   ·rw [if_neg e2] at hx; cases hx
theorem qtg (G : Gh) (h : Hp) (kx kr r : Nat) (q : Path) (v : Value) (B : Blk) (hal : G.al r) : Inst G (G.inst (homeF kx kr r q) r v) h (upd h r B) (fun x => x = r) (fun k => k = kx ∨ k = kr) := by
 refine ⟨rfl, rfl, fun _ h => .inl h, fun r' hr' => ?_, fun x hx => ⟨upd_ne _ _ hx, upd_ne _ _ hx, fun b p => ⟨fun hb => ?_, fun hb => ?_⟩⟩, fun k hk b p => ⟨fun hb => ?_, fun hb => ?_⟩⟩
 ·exact hr'
 ·simp only [Gh.inst, Option.map_eq_some_iff] at hb
  obtain ⟨y, hy, hy'⟩ := hb
  rw [hy, qk0 y x p hx hy']
 ·simp [Gh.inst, hb, homeF]
 ·have : homeF kx kr r q (.tmp k p) = .tmp k p := by
   rw [qe3, if_neg (fun e => hk (.inl e)), if_neg (fun e => hk (.inr e))]
  simp [Gh.inst, hb, this]
 ·simp only [Gh.inst, Option.map_eq_some_iff] at hb
  obtain ⟨y, hy, hy'⟩ := hb
  cases y with
  | blk r1 q => exact absurd hy' (by simp [homeF])
  | tmp k1 s =>
   rw [qe3] at hy'
   by_cases e1 : k1 = kx
   ·rw [if_pos e1] at hy'; cases hy'
   ·rw [if_neg e1] at hy'
    by_cases e2 : k1 = kr
    ·rw [if_pos e2] at hy'; cases hy'
    ·rw [if_neg e2] at hy'; rw [hy, hy']
theorem Back.row (B : Back w0 S0 w w' G0 h0 A G h) {kx kr r : Nat} {q : Path} {Bk : Blk} {c : CT} {u : Value} {t : T} (H : HungA w w' G0 h0 G kx r q Bk c u) (hk : kr ≠ kx) (C : CellRep w' (G.own.t kr) [] c u t) (O : okC c t = true) :
 ∃ m cs l v e G', Bk = .row m cs l v e ∧ Back w0 S0 w w' G0 h0 A G' (upd h r (.row m cs (updR q m cs l fun _ => asL t) (v + 1) e)) ∧
  Inst G G' h (upd h r (.row m cs (updR q m cs l fun _ => asL t) (v + 1) e)) (fun x => x = r) (fun k => k = kx ∨ k = kr) := by
 obtain ⟨m, cs, l, v, e, m', cs', l', M0, rfl, h2, ⟨l0, v0, e0, h3, h3'⟩, h4, h5, h6, h7, h8, rfl, h10, h11⟩ := H
 obtain ⟨lt, rfl, R, Rok⟩ := qnk C O
 have J := qtg G h kx kr r q (G0.φ r) (.row m cs (updR q m cs l fun _ => lt) (v + 1) e) (B.mono r h2)
 have hR : RowRep w' ((G.inst (homeF kx kr r q) r (G0.φ r)).own.m r) [] m cs (G0.φ r) (updR q m cs l fun _ => lt) := by
  refine RowRep.replace (w := w) (M := M0) (M' := (G.inst (homeF kx kr r q) r (G0.φ r)).own.m r) q h5 h6 h7 h8 ?_ (fun hf => by rw [h4] at hf; exact hf.elim) (fun b ρ hb hs => ?_)
  ·refine RowRep.moved (M := G.own.t kr) (π := []) ⟨fun hf => False.elim hf, fun b ρ hb => ⟨?_, rfl⟩⟩ R
   have hb : G.own b = some (.tmp kr ρ) := hb
   show (G.inst (homeF kx kr r q) r (G0.φ r)).own b = some (.blk r ([] ++ q ++ ρ))
   simp only [Gh.inst, hb, Option.map_some]
   rw [qe3, if_neg hk, if_pos rfl]
   simp
  ·rcases h10 b _ hb with h9 | ⟨h9, h9'⟩
   ·exact absurd h9 hs
   ·refine ⟨?_, h9'⟩
    show (G.inst (homeF kx kr r q) r (G0.φ r)).own b = some (.blk r ([] ++ ρ))
    simp only [Gh.inst, h9, Option.map_some]
    rw [qe3, if_pos rfl]
 have X := InvX.put B.x (homeF kx kr r q) (r := r) (v := G0.φ r) (fun _ _ _ => rfl) qk0 (.row m cs (updR q m cs l fun _ => lt) (v + 1) e)
  ⟨.inr rfl, by simpa [Gh.inst, upd_same] using hR, fun he => qff q (h11 he) h7 h8 Rok⟩
 refine ⟨m, cs, l, v, e, _, rfl, B.step X J (fun _ h => h) (fun x hx e => B.new x hx (e ▸ h2)) (fun x hx _ => by subst hx; exact .inl h2) B.new (fun x hx _ => ?_) (fun x cs hx hb => ?_), J⟩
 ·subst hx
  rw [upd_same, h3]
  exact ⟨rfl, rfl, by simp [Gh.inst, upd_same], .inr (Nat.lt_succ_of_le h3')⟩
 ·subst hx
  rw [upd_same] at hb
  cases hb
end
end Go.Proofs.YtncfoonahkieoaaGreatDoorV
namespace Go.Proofs.YtncfoonahkieoaaGreatDoorV
def RowsAwayA (w w' : World) (G0 : Gh) (h0 : Hp) (G : Gh) : Nat → Nat → List (Nat × Path × Blk) → List (CT × Value) → Prop
 | _, _, [], [] => True
 | lo, hi, x :: xs, y :: ys => ∃ kx, lo ≤ kx ∧ kx < hi ∧ HungA w w' G0 h0 G kx x.1 x.2.1 x.2.2 y.1 y.2 ∧ RowsAwayA w w' G0 h0 G (kx + 1) hi xs ys
 | _, _, _, _ => False
def PRepsK (w : World) (G : Gh) : Nat → List PD → List Value → List T → Prop
 | _, [], [], [] => True
 | K, p :: ps, u :: us, t :: ts => ((∀ c, p ≠ .ro c) → PRep1 w G K p u t) ∧ PRepsK w G (K + 1) ps us ts
 | _, _, _, _ => False
def AVRepsK (w : World) (G : Gh) (h : Hp) : List PD → List Value → List AV → Prop
 | [], [], [] => True
 | p :: ps, u :: us, v :: vs => ((∀ c, p ≠ .ro c) → AVRep w G h u v) ∧ AVRepsK w G h ps us vs
 | _, _, _ => False
def qx6 (w : World) (G : Gh) (K : Nat) (l : List PD) (u : Value) (t : T) : Prop :=
 ∃ b us ty fz ts, u = .pointer (some ⟨b, 0, none⟩) ∧ t = .st ts ∧ G.own b = some (.tmp K []) ∧ w.heap[b]? = some (.cells us ty fz) ∧ PRepsK w G (K + 1) l us.toList ts ∧ (∀ v ∈ us.toList, v.oneCell' = true) ∧ us.size = l.length
def BoxesBkK (w : World) (G : Gh) : Nat → List (List PD) → List Value → List T → Prop
 | _, [], [], [] => True
 | K, x :: xs, u :: us, t :: ts => qx6 w G K x u t ∧ BoxesBkK w G (K + (x.length + 1)) xs us ts
 | _, _, _, _ => False
section
variable {w0 w w' : World} {S0 : Nat → Prop} {G0 G G' Gc : Gh} {h0 h h' : Hp} {fz : Bool} {K K2 W : Nat} {A A' N L : Nat → Prop}
theorem RowsAway.after (hG : ∀ k, K ≤ k → k < K2 → ∀ b ρ, G.own b = some (.tmp k ρ) → G'.own b = some (.tmp k ρ) ∧ w'.heap[b]? = w.heap[b]?) : ∀ {lo hi : Nat} {xs : List (Nat × Path × Blk)} {ys : List (CT × Value)}, K ≤ lo → hi ≤ K2 → RowsAway w G0 h0 G lo hi xs ys → RowsAwayA w w' G0 h0 G' lo hi xs ys
 | _, _, [], [], _, _, _ => trivial
 | _, _, _ :: _, _ :: _, h1, h2, ⟨kx, g1, g2, g3, g4⟩ => ⟨kx, g1, g2, g3.after (hG kx (by omega) (by omega)), RowsAway.after hG (by omega) h2 g4⟩
 | _, _, [], _ :: _, _, _, H => H.elim
 | _, _, _ :: _, [], _, _, H => H.elim
theorem RowsAwayA.kept : ∀ {lo hi : Nat} {xs : List (Nat × Path × Blk)} {ys : List (CT × Value)}, Kept G G' (fun k => lo ≤ k ∧ k < hi) → RowsAwayA w w' G0 h0 G lo hi xs ys → RowsAwayA w w' G0 h0 G' lo hi xs ys
 | _, _, [], [], _, _ => trivial
 | _, _, _ :: _, _ :: _, J, ⟨kx, g1, g2, g3, g4⟩ => ⟨kx, g1, g2, g3.kept (fun b ρ => J kx ⟨g1, g2⟩ b ρ), RowsAwayA.kept (J.mono fun k hk => by omega) g4⟩
 | _, _, [], _ :: _, _, H => H.elim
 | _, _, _ :: _, [], _, H => H.elim
theorem RowsBk.kept : ∀ {k : Nat} {xs : List (CT × Value)} {ts : List T}, Kept G G' (fun j => k ≤ j ∧ j < k + xs.length) → RowsBk w G k xs ts → RowsBk w G' k xs ts
 | _, [], [], _, _ => trivial
 | k, x :: xs, t :: ts, J, R => ⟨⟨CellRep.moved (M := G.own.t k) (M' := G'.own.t k) t ⟨fun hf => False.elim hf, fun b ρ hb => ⟨J k (by simp) b _ hb, rfl⟩⟩ R.1.1, R.1.2⟩, RowsBk.kept (J.mono fun j hj => by simp only [List.length_cons]; omega) R.2⟩
 | _, [], _ :: _, _, H => H.elim
 | _, _ :: _, [], _, H => H.elim
theorem Inst.kept (J : Inst G G' h h' N L) {M : Nat → Prop} (hM : ∀ k, M k → ¬ L k) : Kept G G' M := fun k hk b p hb => (J.tmp k (hM k hk) b p).1 hb
theorem qgv (rr : List T) : ∀ {xs : List (Nat × Path × Blk)} {ys : List (CT × Value)} {ts : List T} {h : Hp} {G : Gh} {lo hi K i : Nat}, Back w0 S0 w w' G0 h0 A G h → RowsAwayA w w' G0 h0 G lo hi xs ys → RowsBk w' G K ys ts → hi ≤ K →
 (∀ j x, ts[j]? = some x → nth rr (i + j) = x) → ∃ G', Back w0 S0 w w' G0 h0 A G' (qbd h rr xs i) ∧ Inst G G' h (qbd h rr xs i) G0.al (fun k => (lo ≤ k ∧ k < hi) ∨ (K ≤ k ∧ k < K + ys.length)) ∧ ts.length = xs.length
 | [], [], [], h, G, lo, hi, K, i, B, _, _, _, _ => ⟨G, B, Inst.refl _ _ _ _, rfl⟩
 | x :: xs, y :: ys, t :: ts, h, G, lo, hi, K, i, B, ⟨kx, g1, g2, g3, g4⟩, R, hK, ht => by
  obtain ⟨m, cs, l, v, e, G1, hB, B1, J1⟩ := B.row g3 (kr := K) (by omega) R.1.1 R.1.2
  have e0 : nth rr i = t := by simpa using ht 0 t rfl
  obtain ⟨G2, B2, J2, hl⟩ := qgv rr (K := K + 1) (i := i + 1) B1 (g4.kept (J1.kept fun k hk => by omega)) (R.2.kept (J1.kept fun k hk => by omega)) (by omega)
   (fun j x hx => by rw [show i + 1 + j = i + (j + 1) by omega]; exact ht (j + 1) x (by simpa using hx))
  have hstep : qbd h rr (x :: xs) i = qbd (upd h x.1 (.row m cs (updR x.2.1 m cs l fun _ => asL t) (v + 1) e)) rr xs (i + 1) := by
   obtain ⟨k, p, b⟩ := x
   have hB : b = _ := hB
   subst hB
   simp only [qbd, e0]
  have ha : G0.al x.1 := by
   obtain ⟨_, _, _, _, _, _, _, _, _, _, h2, _⟩ := g3
   exact h2
  rw [hstep]
  refine ⟨G2, B2, J1.trans J2 (fun r hr => by subst hr; exact ha) (fun _ h => h) (fun k hk => ?_) (fun k hk => ?_), by simp [hl]⟩
  ·simp only [List.length_cons]
   omega
  ·simp only [List.length_cons]
   omega
 | [], _ :: _, _, _, _, _, _, _, _, _, H, _, _, _ => H.elim
 | _ :: _, [], _, _, _, _, _, _, _, _, H, _, _, _ => H.elim
 | [], [], _ :: _, _, _, _, _, _, _, _, _, H, _, _ => H.elim
 | _ :: _, _ :: _, [], _, _, _, _, _, _, _, _, H, _, _ => H.elim
theorem PRepsK.inst (J : Inst G G' h h' N L) : ∀ {K : Nat} {ps : List PD} {us : List Value} {ts : List T}, (∀ k, K ≤ k → k < K + ps.length → ¬ L k) → PRepsK w G K ps us ts → PRepsK w G' K ps us ts
 | _, [], [], [], _, _ => trivial
 | K, p :: ps, u :: us, t :: ts, hK, H => ⟨fun hp => (H.1 hp).inst J (hK K (Nat.le_refl _) (by simp)), PRepsK.inst J (fun k h1 h2 => hK k (by omega) (by simp only [List.length_cons]; omega)) H.2⟩
 | _, [], _ :: _, _, _, H => H.elim
 | _, [], [], _ :: _, _, H => H.elim
 | _, _ :: _, [], _, _, H => H.elim
 | _, _ :: _, _ :: _, [], _, H => H.elim
theorem BoxesBkK.inst (J : Inst G G' h h' N L) : ∀ {K : Nat} {ls : List (List PD)} {us : List Value} {ts : List T}, (∀ k, K ≤ k → k < K + bxW ls → ¬ L k) → BoxesBkK w G K ls us ts → BoxesBkK w G' K ls us ts
 | _, [], [], [], _, _ => trivial
 | K, l :: ls, u :: us, t :: ts, hK, H => by
  simp only [bxW, List.map_cons, List.sum_cons] at hK
  obtain ⟨b, us', ty, fz, ts', h1, h2, h3, h4, h5, h6, h7⟩ := H.1
  exact ⟨⟨b, us', ty, fz, ts', h1, h2, (J.tmp K (hK K (Nat.le_refl _) (by omega)) b []).1 h3, h4, h5.inst J (fun k h1 h2 => hK k (by omega) (by omega)), h6, h7⟩, BoxesBkK.inst J (fun k h1 h2 => hK k (by omega) (by simp only [bxW] at h2; omega)) H.2⟩
 | _, [], _ :: _, _, _, H => H.elim
 | _, [], [], _ :: _, _, H => H.elim
 | _, _ :: _, [], _, _, H => H.elim
 | _, _ :: _, _ :: _, [], _, H => H.elim
theorem AVRepsK.mono (H : ∀ u v, AVRep w G h u v → AVRep w G' h' u v) : ∀ {ps : List PD} {us : List Value} {vs : List AV}, AVRepsK w G h ps us vs → AVRepsK w G' h' ps us vs
 | [], [], [], _ => trivial
 | _ :: _, u :: us, v :: vs, M => ⟨fun hp => H u v (M.1 hp), AVRepsK.mono H M.2⟩
 | [], _ :: _, _, M => M.elim
 | [], [], _ :: _, M => M.elim
 | _ :: _, [], _, M => M.elim
 | _ :: _, _ :: _, [], M => M.elim
theorem qke (t : T) : ∀ {ps : List PD} {us : List Value} {ts : List T} {h : Hp} {G : Gh} {n K j : Nat}, InvX w0 S0 w G h → ps.all (mvOk1 false) = true → PRepsK w G K ps us ts → (∀ i x, ts[i]? = some x → T.cell t (j + i) = x) →
 (∀ r, inN false n ps.length r → ¬ G.al r) → ps.length ≤ MV →
 ∃ G', InvX w0 S0 w G' (backs h n false ps t j).2 ∧ AVRepsK w (G'.on (inN false n ps.length)) (backs h n false ps t j).2 ps us (backs h n false ps t j).1 ∧ Inst G G' h (backs h n false ps t j).2 (inN false n ps.length) (fun k => K ≤ k ∧ k < K + ps.length) ∧
  ∀ r cs, inN false n ps.length r → (backs h n false ps t j).2 r ≠ .box cs
 | [], [], [], h, G, n, K, j, I, _, _, _, hn, _ => ⟨G, I, trivial, Inst.refl _ _ _ _, fun r cs hr => (ql2 hr).elim⟩
 | [], _ :: _, _, _, _, _, _, _, _, _, H, _, _, _ => H.elim
 | [], [], _ :: _, _, _, _, _, _, _, _, H, _, _, _ => H.elim
 | _ :: _, [], _, _, _, _, _, _, _, _, H, _, _, _ => H.elim
 | _ :: _, _ :: _, [], _, _, _, _, _, _, _, H, _, _, _ => H.elim
 | p :: ps, u :: us, t0 :: ts, h, G, n, K, j, I, hm, H, ht, hn, hW => by
  rw [List.all_cons, Bool.and_eq_true] at hm
  simp only [List.length_cons] at hn hW ⊢
  have e0 : T.cell t j = t0 := by simpa using ht 0 t0 rfl
  have one : ∃ G', InvX w0 S0 w G' (back1 h n 0 p (T.cell t j)).2 ∧ ((∀ c, p ≠ .ro c) → AVRep w (G'.on (inN false n 1)) (back1 h n 0 p (T.cell t j)).2 u (back1 h n 0 p (T.cell t j)).1) ∧ Inst G G' h (back1 h n 0 p (T.cell t j)).2 (inN false n 1) (fun x => x = K) ∧ ∀ r cs, inN false n 1 r → (back1 h n 0 p (T.cell t j)).2 r ≠ .box cs := by
   by_cases hp : ∀ c, p ≠ .ro c
   ·obtain ⟨G1, I1, A1, J1, B1⟩ := qj4 I (n := n) (k := 0) hm.1 (show PRep1 w G K p u (T.cell t j) by rw [e0]; exact H.1 hp) (fun hk0 => absurd rfl hk0) (fun r hr => hn r (qdo (by omega) hr))
    exact ⟨G1, I1, fun _ => A1, J1, B1⟩
   ·have : ∃ c, p = .ro c := by
     cases p with
     | ro c => exact ⟨c, rfl⟩
     | _ => exact absurd (fun c e => by cases e) hp
    obtain ⟨c, rfl⟩ := this
    have e2 : (back1 h n 0 (.ro c) (T.cell t j)).2 = h := by cases c <;> rfl
    rw [e2]
    exact ⟨G, I, fun hp => absurd rfl (hp c), Inst.refl _ _ _ _, fun r cs hr e => by rw [I.dead (hn r (qdo (by omega) hr))] at e; cases e⟩
  obtain ⟨G1, I1, A1, J1, B1⟩ := one
  have far : ∀ r, inN false n 1 r → ¬ inN false (n + 1) ps.length r := fun r h1 h2 => ql3 (W := ps.length + 1) (by omega) hW h1 (by simpa using h2)
  have tl : ∀ r, inN false (n + 1) ps.length r → inN false n (ps.length + 1) r := fun r hr => qfl (a := 1) (by omega) (by simpa using hr)
  have hd : ∀ r, inN false n 1 r → inN false n (ps.length + 1) r := fun r hr => qdo (by omega) hr
  obtain ⟨G2, I2, A2, J2, B2⟩ := qke t (n := n + 1) (K := K + 1) (j := j + 1) I1 hm.2 (H.2.inst J1 (fun k h1 h2 => by omega)) (fun i x hx => by rw [show j + 1 + i = j + (i + 1) by omega]; exact ht (i + 1) x (by simpa using hx))
   (fun r hr ha => by
    rcases J1.alN r ha with h1 | h1
    ·exact hn r (tl r hr) h1
    ·exact far r h1 hr) (by omega)
  refine ⟨G2, I2, ⟨fun hp => ?_, ?_⟩, J1.trans J2 hd tl (fun k hk => by omega) (fun k hk => by omega), fun r cs hr => ?_⟩
  ·exact (Gh.onMono w G2 _ hd).av _ ((J2.keepOn w far).av _ (A1 hp))
  ·exact A2.mono fun u v hv => (Gh.onMono w G2 _ tl).av _ hv
  ·by_cases e : inN false (n + 1) ps.length r
   ·exact B2 r cs e
   ·have h1 := (J2.stay r e).1
    show (backs (back1 h n 0 p (T.cell t j)).2 (n + 1) false ps t (j + 1)).2 r ≠ _
    rw [h1]
    exact B1 r cs (qip (by omega) hr (by simpa using e))
theorem qim : ∀ {ps : List PD} {us0 us : List Value} {cs vs : List AV}, AVReps w G0 h0 us0 cs → AVRepsK w' G h ps us vs → cs.length = ps.length → (∀ (i : Nat) d x, ps[i]? = some (.ro d) → us0[i]? = some x → us[i]? = some x) → Mixs w G0 h0 w' G h us (qcu ps cs vs)
 | [], us0, us, cs, vs, H0, H, hl, _ => by
  cases us with
  | nil => cases vs with
   | nil => simp only [qcu]; trivial
   | cons _ _ => exact H.elim
  | cons _ _ => exact H.elim
 | p :: ps, us0, us, cs, vs, H0, H, hl, hro => by
  cases us with
  | nil => exact H.elim
  | cons u us => cases vs with
   | nil => exact H.elim
   | cons v vs => cases cs with
    | nil => simp at hl
    | cons c cs => cases us0 with
     | nil => exact H0.elim
     | cons u0 us0 =>
      have tl := qim (ps := ps) (us0 := us0) (us := us) (cs := cs) (vs := vs) H0.2 H.2 (by simpa using hl) (fun i d x h1 h2 => by simpa using hro (i + 1) d x (by simpa using h1) (by simpa using h2))
      have key : (∀ d, p ≠ .ro d) → qcu (p :: ps) (c :: cs) (v :: vs) = v :: qcu ps cs vs := by
       intro hp
       cases p with
       | ro d => exact absurd rfl (hp d)
       | _ => rfl
      by_cases hp : ∀ d, p ≠ .ro d
      ·rw [key hp]
       exact ⟨.inr (H.1 hp), tl⟩
      ·cases p with
       | ro d =>
        have : u = u0 := by simpa using hro 0 d u0 rfl rfl
        subst this
        exact ⟨.inl H0.1, tl⟩
       | _ => exact absurd (fun d e => by cases e) hp
end
end Go.Proofs.YtncfoonahkieoaaGreatDoorV
namespace Go.Proofs.YtncfoonahkieoaaGreatDoorV
def rngA (n0 n r : Nat) : Prop := n0 ≤ r ∧ r < n
theorem qcj {n W r : Nat} (h : inN false n W r) : n ≤ r ∧ r < n + W := by
 simp only [inN, Bool.false_eq_true, false_and, or_false] at h
 exact h
section
variable {w0 w w' : World} {S0 : Nat → Prop} {G0 G G' Gc : Gh} {h0 h h' : Hp} {fz : Bool} {K K2 W : Nat} {A A' N L : Nat → Prop}
theorem qwg (I0 : Inv w0 S0 w G0 h0) {n0 n N0 : Nat} (B : Back w0 S0 w w' G0 h0 (rngA n0 n) G h) (hn0 : ∀ r, rngA n0 N0 r → ¬ G0.al r) (hn : n0 ≤ n) {k : Nat} {l0 l : List PD} {cs : List AV} {u : Value} {t : T} (hA : qux G0 h0 (k, l0, cs) l u) (hB : qx6 w' G K l u t) (hS : qqg w w' l u)
 (hm : l.all (mvOk1 false) = true) (hl : l.length ≤ MV) (hN : n + l.length ≤ N0) :
 ∃ G', Back w0 S0 w w' G0 h0 (rngA n0 (n + l.length)) G' (upd (backs h n false l t 0).2 k (.box (qcu l cs (backs h n false l t 0).1))) ∧
  Inst G G' h (upd (backs h n false l t 0).2 k (.box (qcu l cs (backs h n false l t 0).1))) (fun r => G0.al r ∨ n ≤ r) (fun x => K ≤ x ∧ x < K + (l.length + 1)) := by
 obtain ⟨_, ha, h0k, hφ, hlen⟩ := hA
 obtain ⟨b, us, ty, fz1, ts, rfl, rfl, hb, hc, hR, hone, husl⟩ := hB
 have fresh : ∀ r, inN false n l.length r → ¬ G.al r := fun r hr ha' => by
  have := qcj hr
  rcases B.al r ha' with h1 | h1
  ·exact hn0 r (by unfold rngA; omega) h1
  ·unfold rngA at h1; omega
 obtain ⟨G1, X1, A1, J1, Bx1⟩ := qke (.st ts) (n := n) (j := 0) (K := K + 1) B.x hm hR (fun i x hx => by
  simp only [T.cell, Nat.zero_add, List.getD_eq_getElem?_getD, hx, Option.getD_some]) fresh hl
 have B1 := B.step (A' := rngA n0 (n + l.length)) X1 J1 (fun r hr => by unfold rngA at hr ⊢; omega) (fun r hr hr' => by have := qcj hr'; unfold rngA at hr; omega) (fun r hr _ => .inr (by have := qcj hr; unfold rngA; omega))
  (fun r hr hr' => hn0 r (by unfold rngA at hr ⊢; omega) hr') (fun r hr hr' => absurd (B.mono r hr') (fresh r hr)) (fun r cs hr e => absurd e (Bx1 r cs hr))
 have hk1 : ¬ inN false n l.length k := fun hr => fresh k hr (B.mono k ha)
 have hb1 : G1.own b = some (.tmp K []) := (J1.tmp K (by omega) b []).1 hb
 have hback : ∀ x r' p, r' ≠ k → qb3 K k [] x = .blk r' p → x = .blk r' p := by
  intro x r' p hr' hx
  cases x with
  | blk r1 q => exact hx
  | tmp k1 s =>
   rw [qc6] at hx
   by_cases e : k1 = K
   ·rw [if_pos e] at hx; cases hx; exact absurd rfl hr'
   ·rw [if_neg e] at hx; cases hx
 have R0 := I0.rep k
 rw [h0k] at R0
 obtain ⟨_, b0, c0, ty0, fz0, e1, e2, e3, e4, _⟩ := R0
 rw [hφ] at e1
 cases e1
 have M1 : Mixs w G0 h0 w' (G1.on (inN false n l.length)) (backs h n false l (.st ts) 0).2 us.toList (qcu l cs (backs h n false l (.st ts) 0).1) :=
  qim e4 A1 hlen fun i d x h1 h2 => hS b c0 ty0 fz0 us ty fz1 rfl e3 hc i d x h1 h2
 have hsz : us.size = (qcu l cs (backs h n false l (.st ts) 0).1).length := by
  have : ∀ {us : List Value} {vs : List AV}, Mixs w G0 h0 w' (G1.on (inN false n l.length)) (backs h n false l (.st ts) 0).2 us vs → us.length = vs.length := by
   intro us
   induction us with
   | nil => intro vs H; cases vs with
    | nil => rfl
    | cons _ _ => exact H.elim
   | cons u us ih => intro vs H; cases vs with
    | nil => exact H.elim
    | cons v vs => simp [ih H.2]
  simpa using this M1
 have X2 := InvX.put X1 (qb3 K k []) (r := k) (v := .pointer (some ⟨b, 0, none⟩)) (fun _ _ _ => rfl) hback (.box (qcu l cs (backs h n false l (.st ts) 0).1))
  ⟨.inr rfl, b, us, ty, fz1, by simp [Gh.inst, upd_same], by simp [Gh.inst, hb1, qb3], hc, hsz, hone⟩
 have J2 : Inst G1 (G1.inst (qb3 K k []) k (.pointer (some ⟨b, 0, none⟩))) (backs h n false l (.st ts) 0).2 (upd (backs h n false l (.st ts) 0).2 k (.box (qcu l cs (backs h n false l (.st ts) 0).1))) (fun x => x = k) (fun x => x = K) := by
  refine ⟨rfl, rfl, fun _ h => .inl h, fun _ h => h, fun x hx => ⟨upd_ne _ _ hx, upd_ne _ _ hx, fun b p => ⟨fun hb => ?_, fun hb => ?_⟩⟩, fun k' hk b p => ⟨fun hb => ?_, fun hb => ?_⟩⟩
  ·simp only [Gh.inst, Option.map_eq_some_iff] at hb
   obtain ⟨y, hy, hy'⟩ := hb
   rw [hy, hback y x p hx hy']
  ·simp [Gh.inst, hb, qb3]
  ·simp [Gh.inst, hb, qb3, hk]
  ·simp only [Gh.inst, Option.map_eq_some_iff] at hb
   obtain ⟨y, hy, hy'⟩ := hb
   cases y with
   | blk r1 q => exact absurd hy' (by simp [qb3])
   | tmp k1 s =>
    rw [qc6] at hy'
    by_cases e : k1 = K
    ·rw [if_pos e] at hy'; cases hy'
    ·rw [if_neg e] at hy'; rw [hy, hy']
 have hnk : ∀ r, rngA n0 (n + l.length) r → r ≠ k := fun r hr e => by
  subst e
  exact hn0 r (by unfold rngA at hr ⊢; omega) ha
 refine ⟨_, B1.step X2 J2 (fun _ h => h) hnk (fun r hr _ => by subst hr; exact .inl ha) B1.new (fun r hr hr' => ?_) (fun r cs' hr e => ?_), J1.trans J2 (fun r hr => .inr (qcj hr).1) (fun r hr => by subst hr; exact .inl ha) (fun x hx => by omega) (fun x hx => by omega)⟩
 ·subst hr
  rw [upd_same, h0k]
  show (G1.inst (qb3 K r []) r (.pointer (some ⟨b, 0, none⟩))).φ r = G0.φ r
  rw [hφ]
  exact upd_same _ _ _
 ·subst hr
  rw [upd_same] at e
  cases e
  refine ⟨b, us, ty, fz1, by simp [Gh.inst, upd_same], hc, M1.mono fun u v hv => ?_⟩
  have far : ∀ x, inN false n l.length x → x ≠ r := fun x hx e => hk1 (e ▸ hx)
  exact (Gh.onMono w' _ _ (fun x hx => by have := qcj hx; unfold rngA; omega)).av _ ((J2.keepOn w' far).av _ hv)
theorem qfz (I0 : Inv w0 S0 w G0 h0) (rr : List T) {n0 N0 : Nat} (hn0 : ∀ r, rngA n0 N0 r → ¬ G0.al r) : ∀ {xs : List (Nat × List PD × List AV)} {ls : List (List PD)} {us : List Value} {ts : List T} {h : Hp} {G : Gh} {n K i : Nat}, Back w0 S0 w w' G0 h0 (rngA n0 n) G h → n0 ≤ n → n + (xs.map fun b => b.2.1.length).sum ≤ N0 →
 BoxesAway G0 h0 xs ls us → BoxesBkK w' G K ls us ts → qlj w w' ls us → (∀ l ∈ ls, l.all (mvOk1 false) = true ∧ l.length ≤ MV) → (∀ j x, ts[j]? = some x → nth rr (i + j) = x) →
 ∃ G', Back w0 S0 w w' G0 h0 (rngA n0 (n + (xs.map fun b => b.2.1.length).sum)) G' (qbb h n rr xs i) ∧ Inst G G' h (qbb h n rr xs i) (fun r => G0.al r ∨ n ≤ r) (fun _ => True)
 | [], [], [], [], h, G, n, K, i, B, _, _, _, _, _, _, _ => ⟨G, B, Inst.refl _ _ _ _⟩
 | (k, l0, cs) :: xs, l :: ls, u :: us, t :: ts, h, G, n, K, i, B, hn, hN, hA, hB, hS, hm, ht => by
  simp only [List.map_cons, List.sum_cons] at hN
  have e0 : nth rr i = t := by simpa using ht 0 t rfl
  have el : l0 = l := hA.1.1
  subst el
  obtain ⟨G1, B1, J1⟩ := qwg I0 B hn0 hn hA.1 hB.1 hS.1 (hm l0 (by simp)).1 (hm l0 (by simp)).2 (by omega)
  obtain ⟨G2, B2, J2⟩ := qfz I0 rr hn0 (n := n + l0.length) (K := K + (l0.length + 1)) (i := i + 1) B1 (by omega) (by omega) hA.2 (hB.2.inst J1 (fun k h1 h2 => by omega)) hS.2 (fun l hl => hm l (by simp [hl]))
   (fun j x hx => by rw [show i + 1 + j = i + (j + 1) by omega]; exact ht (j + 1) x (by simpa using hx))
  have hstep : qbb h n rr ((k, l0, cs) :: xs) i = qbb (upd (backs h n false l0 t 0).2 k (.box (qcu l0 cs (backs h n false l0 t 0).1))) (n + l0.length) rr xs (i + 1) := by
   simp only [qbb, e0]
  rw [hstep]
  refine ⟨G2, ?_, J1.trans J2 (fun _ h => h) (fun r hr => hr.imp id (fun h => by omega)) (fun _ _ => trivial) (fun _ _ => trivial)⟩
  simp only [List.map_cons, List.sum_cons]
  rw [← Nat.add_assoc]
  exact B2
 | [], _ :: _, _, _, _, _, _, _, _, _, _, _, H, _, _, _, _ => H.elim
 | [], [], _ :: _, _, _, _, _, _, _, _, _, _, H, _, _, _, _ => H.elim
 | [], [], [], _ :: _, _, _, _, _, _, _, _, _, _, H, _, _, _ => H.elim
 | _ :: _, [], _, _, _, _, _, _, _, _, _, _, H, _, _, _, _ => H.elim
 | _ :: _, _ :: _, [], _, _, _, _, _, _, _, _, _, H, _, _, _, _ => H.elim
 | _ :: _, _ :: _, _ :: _, [], _, _, _, _, _, _, _, _, _, H, _, _, _ => H.elim
end
end Go.Proofs.YtncfoonahkieoaaGreatDoorV
namespace Go.Proofs.YtncfoonahkieoaaGreatDoorV
section
variable {w0 w w' : World} {S0 : Nat → Prop} {G0 G G' Gc : Gh} {h0 h h' : Hp} {fz : Bool} {K K2 W : Nat} {A A' N L : Nat → Prop} {P : Program} {E : Env}
theorem PReps.toK : ∀ {K K' : Nat} {ps : List PD} {us : List Value} {ts : List T},
 (∀ j b p, j < ps.length → G.own b = some (.tmp (K + j) p) → G'.own b = some (.tmp (K' + j) p)) → PReps w G K ps us ts → PRepsK w G' K' ps us ts
 | _, _, [], [], [], _, _ => trivial
 | K, K', p :: ps, u :: us, t :: ts, hown, H => ⟨fun hp => H.1.to (fun e => by
  cases p with
  | ro c => exact absurd rfl (hp c)
  | _ => cases e) (fun b p hb => ⟨hown 0 b p (by simp) hb, rfl⟩), PReps.toK (fun j b p hj hb => by
  rw [show K + 1 + j = K + (j + 1) by omega] at hb
  rw [show K' + 1 + j = K' + (j + 1) by omega]
  exact hown (j + 1) b p (by simpa using hj) hb) H.2⟩
 | _, _, [], _ :: _, _, _, H => H.elim
 | _, _, [], [], _ :: _, _, H => H.elim
 | _, _, _ :: _, [], _, _, H => H.elim
 | _, _, _ :: _, _ :: _, [], _, H => H.elim
theorem BoxesBk.toK : ∀ {K K' : Nat} {ls : List (List PD)} {us : List Value} {ts : List T},
 (∀ j b p, j < bxW ls → G.own b = some (.tmp (K + j) p) → G'.own b = some (.tmp (K' + j) p)) → BoxesBk w G K ls us ts → BoxesBkK w G' K' ls us ts
 | _, _, [], [], [], _, _ => trivial
 | K, K', l :: ls, u :: us, t :: ts, hown, H => by
  simp only [bxW, List.map_cons, List.sum_cons] at hown
  obtain ⟨b, us', ty, fz, ts', h1, h2, h3, h4, h5⟩ := H.1
  exact ⟨⟨b, us', ty, fz, ts', h1, h2, hown 0 b [] (by omega) h3, h4, h5.toK (fun j b p hj hb => by
   rw [show K + 1 + j = K + (j + 1) by omega] at hb
   rw [show K' + 1 + j = K' + (j + 1) by omega]
   exact hown (j + 1) b p (by omega) hb), h5.one, by simpa using h5.length.1⟩, BoxesBk.toK (fun j b q hj hb => by
   simp only [bxW] at hj
   rw [show K + (l.length + 1) + j = K + (l.length + 1 + j) by omega] at hb
   rw [show K' + (l.length + 1) + j = K' + (l.length + 1 + j) by omega]
   exact hown (l.length + 1 + j) b q (by omega) hb) H.2⟩
 | _, _, [], _ :: _, _, _, H => H.elim
 | _, _, [], [], _ :: _, _, H => H.elim
 | _, _, _ :: _, [], _, _, H => H.elim
 | _, _, _ :: _, _ :: _, [], _, H => H.elim
theorem PRepL.length : ∀ {K : Nat} {ps : List PD} {us : List Value} {ts : List T}, PRepL w G K ps us ts → us.length = ps.length ∧ ts.length = ps.length
 | _, [], [], [], _ => ⟨rfl, rfl⟩
 | _, _ :: _, _ :: _, _ :: _, H => by obtain ⟨h1, h2⟩ := PRepL.length H.2; simp [h1, h2]
 | _, [], _ :: _, _, H => H.elim
 | _, [], [], _ :: _, H => H.elim
 | _, _ :: _, [], _, H => H.elim
 | _, _ :: _, _ :: _, [], H => H.elim
theorem qrv {us : List Value} {vs : List AV} (H : AVReps w G h us vs) : AVRep w G h (retV us) (tup vs) := by
 match us, vs, H with
 | [], [], _ => exact ⟨#[], rfl, trivial⟩
 | [u], [v], H => exact H.1
 | u1 :: u2 :: us, v1 :: v2 :: vs, H => exact ⟨_, rfl, by simpa using H⟩
 | [_], _ :: _ :: _, H => exact H.2.elim
 | _ :: _ :: _, [_], H => exact H.2.elim
structure FiOk (fi : Fi) : Prop where
 rs : fi.rs.all (mvOk false) = true
 bx : ∀ l ∈ bxPs fi.ps, l.all (mvOk1 false) = true ∧ l.length ≤ MV
theorem qu4 {C : Orc} {f : FuncId} {fi : Fi} (F : FiOk fi) (hC : qal P fi f (C f)) (I : Inv w0 S0 w G h) {n : Nat} (hal : ∀ r, rngA n (n + KN) r → ¬ G.al r) {args : List AV} {us : List Value} (hu : AVReps w G h us args) {b : Bool} {ts : List T} {kk : List T → AV × Hp}
 (hs : callS n h f fi args = .chk b (.call f ts kk)) (hb : b = true) {r : List T} (hr : C f ts = some r) :
 Calls P f us.toArray w fun e w' => ∃ v G', e = .returned v ∧ Inv w0 S0 w' G' (kk r).2 ∧ Keep w w' G G' h (kk r).2 ∧ AVRep w' G' (kk r).2 v (kk r).1 ∧ ∀ r, G'.al r → G.al r ∨ newR n r := by
 unfold callS at hs
 cases ho : qaa (fi.rs.any qam) h fi.ps args with
 | none => rw [ho] at hs; cases hs
 | some o =>
  rw [ho] at hs
  simp only at hs
  cases hg : (Nat.ble (needs fi.rs o.boxes) KN && (fi.rs.any qam || qac h o.h fi.ps args)) with
  | false => rw [hg] at hs; cases hs
  | true =>
   rw [hg, cond_true] at hs
   cases hs
   rw [Bool.and_eq_true] at hg
   have hneed := Nat.le_of_ble_eq_true hg.1
   have hlive : fi.rs.any qam = false → qac h o.h fi.ps args = true := fun e => by
    have := hg.2
    rw [e, Bool.false_or] at this
    exact this
   obtain ⟨K, hK⟩ := I.freshTmp
   obtain ⟨G1, W1, B1, D1, X1⟩ := qj5 (fz := fi.rs.any qam) (K := K) (W := (fi.ps.map wide).sum) (k := 0) I (Keep.refl _ _ _) rfl (fun _ _ h => h) (by omega) (fun j _ _ => hK (K + j) (by omega)) hu ho hb
   obtain ⟨R1, A1⟩ := D1 G1 o.h (Keep.refl _ _ _) (fun _ _ _ _ h => h) hlive
   have Ic := qnv W1.1 (fi.rs.any qam) K (fi.ps.map wide).sum
   refine Calls.mono (hC w _ _ us o.ts r Ic (fun _ h => h) R1 hr) ?_
   rintro e w' ⟨vs, ts', us', ws', Gc, rfl, rfl, Ic', hro, hroIn, P3, P4, P5, P6⟩
   obtain ⟨K2, hK2, hK2'⟩ : ∃ K2, (∀ k, K2 ≤ k → ∀ b p, G1.own b ≠ some (.tmp k p)) ∧ K + (fi.ps.map wide).sum + (fi.ps.map wide).sum ≤ K2 := by
    obtain ⟨K2, hK2⟩ := W1.1.freshTmp
    exact ⟨max K2 (K + (fi.ps.map wide).sum + (fi.ps.map wide).sum), fun k hk => hK2 k (by omega), by omega⟩
   obtain ⟨I2, Kp2, rest⟩ := quu (K2 := K2) W1.1 Ic' hroIn hro
   have Kp := W1.2.1.trans Kp2
   have B0 : Back w0 S0 w w' G h (rngA n n) (G1.after Gc (G1.forCall (fi.rs.any qam) K (fi.ps.map wide).sum).own (fi.rs.any qam) K2) o.h := by
    refine ⟨I2.x, fun r hr => (Kp.al r hr).2, fun r hr => ?_, fun r hr => (Kp.al r hr).1, Kp.ro, Kp.kv, fun r hr => by unfold rngA at hr; omega, fun r cs e => ?_⟩
    ·left
     have : G1.al r := hr
     rw [W1.2.2.2] at this
     exact this
    ·have e0 := B1 r cs e
     have R := I.rep r
     rw [e0] at R
     obtain ⟨ha, b, c, ty, fz, g1, g2, g3, g4, _⟩ := R
     have Rx := W1.1.rep r
     rw [e] at Rx
     obtain ⟨_, b1, c1, ty1, fz1, k1, k2, k3, _⟩ := Rx
     have ht := (W1.2.1.al r ha).2
     rw [e0, e] at ht
     rw [show G1.φ r = G.φ r from ht, g1] at k1
     cases k1
     have hn : (G1.forCall (fi.rs.any qam) K (fi.ps.map wide).sum).own b = none := by
      cases e2 : (G1.forCall (fi.rs.any qam) K (fi.ps.map wide).sum).own b with
      | none => rfl
      | some x => obtain ⟨k, q, _, h1, _⟩ := qb5 e2; rw [k2] at h1; cases h1
     exact ⟨b, c, ty, fz, (show G1.φ r = G.φ r from ht).trans g1, ((rest b _ k2 hn).2).trans g3, AVReps.mixs0 g4⟩
   have lts := P3.length.2
   have P3' := P3.to (G := Gc) (G' := G1.after Gc (G1.forCall (fi.rs.any qam) K (fi.ps.map wide).sum).own (fi.rs.any qam) K2) (K := 0) (K' := K2) (fun e b hb => ⟨.inr ⟨e, hb⟩, rfl⟩) (fun j b p _ hb => ⟨qj8 (by simpa using hb), rfl⟩)
   have P4' := P4.to (G := Gc) (G' := G1.after Gc (G1.forCall (fi.rs.any qam) K (fi.ps.map wide).sum).own (fi.rs.any qam) K2) (K' := K2 + (fi.rs.map wide).sum) (fun j b p _ hb => ⟨by rw [Nat.add_assoc]; exact qj8 hb, rfl⟩)
   have P5' := P5.toK (G := Gc) (G' := G1.after Gc (G1.forCall (fi.rs.any qam) K (fi.ps.map wide).sum).own (fi.rs.any qam) K2) (K' := K2 + ((fi.rs.map wide).sum + us'.length)) (fun j b p _ hb => by rw [Nat.add_assoc]; exact qj8 hb)
   have hWr : (fi.rs.map wide).sum + (o.boxes.map fun b => b.2.1.length).sum ≤ KN := hneed
   obtain ⟨G3, X3, A3, J3, Bx3⟩ := qgr (mv := false) false (ts' ++ us' ++ ws') (n := n) (i := 0) (K := K2) B0.x F.rs P3' (fun j x hx => by
    have hj : j < ts'.length := (List.getElem?_eq_some_iff.1 hx).1
    simp only [nth, Nat.zero_add, List.getD_eq_getElem?_getD]
    rw [List.append_assoc, List.getElem?_append_left hj, hx]; rfl) (fun hf => by cases hf) (fun r hr ha => by
    have h1 := qcj hr
    rcases B0.al r ha with h2 | h2
    ·exact hal r (by unfold rngA; omega) h2
    ·unfold rngA at h2; omega) (by unfold KN at hWr; unfold MV; omega)
   have B3 := B0.step (A' := rngA n (n + (fi.rs.map wide).sum)) X3 J3 (fun r hr => by unfold rngA at hr ⊢; omega) (fun r hr => by unfold rngA at hr; omega) (fun r hr _ => .inr (qcj hr)) (fun r hr ha => hal r (by unfold rngA at hr ⊢; omega) ha)
    (fun r hr ha => absurd ha (hal r (by have := qcj hr; unfold rngA; omega))) (fun r cs hr e => by
     obtain ⟨b, c, ty, fz, g1, g2, g3⟩ := Bx3 r cs hr e
     exact ⟨b, c, ty, fz, g1, g2, AVReps.mixs ((Gh.onMono w' G3 _ (fun x hx => qcj hx)).avs _ g3)⟩)
   have lus := P4.length
   have RA : RowsAwayA w w' G h G3 (K + (fi.ps.map wide).sum) (K + (fi.ps.map wide).sum + (fi.ps.map wide).sum) o.rows (qfe fi.ps us) := by
    refine (RowsAway.after (K := K + (fi.ps.map wide).sum) (K2 := K + (fi.ps.map wide).sum + (fi.ps.map wide).sum) (fun k h1 h2 b ρ hb => rest b _ hb ?_) (Nat.le_refl _) (Nat.le_refl _) A1).kept (J3.kept fun k hk => by omega)
    cases e2 : (G1.forCall (fi.rs.any qam) K (fi.ps.map wide).sum).own b with
    | none => rfl
    | some x =>
     obtain ⟨k', q, h3, h4, _⟩ := qb5 e2
     rw [hb] at h4
     cases h4
     omega
   obtain ⟨G4, B4, J4, l4⟩ := qgv (ts' ++ us' ++ ws') (i := fi.rs.length) B3 RA (P4'.kept (J3.kept fun k hk => by omega)) (by omega) (fun j x hx => by
    have hj : j < us'.length := (List.getElem?_eq_some_iff.1 hx).1
    simp only [nth, List.getD_eq_getElem?_getD]
    rw [List.append_assoc, List.getElem?_append_right (by omega), lts, Nat.add_sub_cancel_left, List.getElem?_append_left hj, hx]; rfl)
   obtain ⟨G5, B5, J5⟩ := qfz I (ts' ++ us' ++ ws') hal (i := fi.rs.length + o.rows.length) B4 (by omega) (by omega) X1 ((P5'.inst J3 (fun k h1 h2 => by omega)).inst J4 (fun k h1 h2 => by omega)) P6 F.bx (fun j x hx => by
    simp only [nth, List.getD_eq_getElem?_getD]
    rw [List.getElem?_append_right (by simp only [List.length_append]; omega)]
    rw [show fi.rs.length + o.rows.length + j - (ts' ++ us').length = j by simp only [List.length_append]; omega, hx]; rfl)
   refine ⟨retV vs, G5, rfl, B5.inv, B5.keep, ?_, fun r hr => ?_⟩
   ·refine qrv ((Gh.onAll w' G5 _ (inN false n (fi.rs.map wide).sum)).avs _ ?_)
    refine (J5.keepOn w' (fun r hr h2 => ?_)).avs _ ((J4.keepOn w' (fun r hr h2 => ?_)).avs _ A3)
    ·have h1 := qcj hr
     rcases h2 with h2 | h2
     ·exact hal r (by unfold rngA; omega) h2
     ·omega
    ·have h1 := qcj hr
     exact hal r (by unfold rngA; omega) h2
   ·refine (B5.al r hr).imp id fun h2 => ?_
    unfold rngA at h2
    unfold newR
    omega
end
end Go.Proofs.YtncfoonahkieoaaGreatDoorV
namespace Go.Proofs.YtncfoonahkieoaaGreatDoorV
def qqe (P : Program) (I : (α : Type) → InlK α) : Prop :=
 ∀ (α : Type) (f : Nat) (args : List AV) (h : Hp) (n : Nat) (kk : AV → Hp → Nat → Option α) (x : α), I α f args h n kk = some x → ∀ (w0 : World) (S0 : Nat → Prop) (w : World) (G : Gh) (us : List Value), Inv w0 S0 w G h → (∀ r, n ≤ r → ¬ G.al r) → AVReps w G h us args →
  Calls P f us.toArray w fun e w' => ∃ v v' h' n' G', e = .returned v' ∧ kk v h' n' = some x ∧ Inv w0 S0 w' G' h' ∧ Keep w w' G G' h h' ∧ AVRep w' G' h' v' v ∧ n ≤ n' ∧ ∀ r, G'.al r → G.al r ∨ (n ≤ r ∧ r < n')
structure FnsOk (P : Program) (E : Env) (C : Orc) (I : (α : Type) → InlK α) : Prop where
 call : ∀ f fi, E.fi f = some fi → fi.inl = false → qal P fi f (C f)
 form : ∀ f fi, E.fi f = some fi → fi.inl = false → FiOk fi
 inl : qqe P I
section
variable {w0 w w' : World} {S0 : Nat → Prop} {G0 G G' : Gh} {h0 h h' : Hp} {P : Program} {E : Env} {C : Orc} {I : (α : Type) → InlK α} {α : Type}
theorem qox {n : Nat} {st : St} {d : Option Nat} {k : St → Option α} {y : α} {x : Sem Next} : ∀ (s : Stp), s.Snd P w0 S0 w G st.h n x → s.runK C (I α) st d k = some y →
 ∃ v h', Ran P w0 S0 w G st.h n x v h' ∧ k ⟨updO st.s d v, h', st.n⟩ = some y
 | .fail, _, h => by cases h
 | .ret v h', H, h => ⟨v, h', H, h⟩
 | .chk b s, H, h => by
  cases b with
  | false => cases h
  | true => exact qox s (H rfl) h
 | .call _ _ _, H, _ => H.elim
 | .inl _ _, H, _ => H.elim
theorem qs0 {t : Nat} {st : St} {k : St → Option α} : splitK t st k = k st := by
 unfold splitK
 have key : ∀ b, st.s t = .b b → ({ st with s := upd st.s t (.b b) } : St) = st := by
  intro b hb
  have : upd st.s t (.b b) = st.s := by
   funext x
   by_cases e : x = t
   ·subst e; rw [upd_same, hb]
   ·rw [upd_ne _ _ e]
  rw [this]
 cases e : st.s t with
 | b x =>
  cases x with
  | true => simp only [cond_true]; rw [key true e]
  | false => simp only [cond_false]; rw [key false e]
 | _ => rfl
theorem qd4 : ∀ {ts : List Nat} {st : St} {k : St → Option α}, qkj ts st k = k st
 | [], _, _ => rfl
 | t :: ts, st, k => by
  rw [qkj, qs0, qd4]
theorem AVReps.app : ∀ {us us' : List Value} {vs vs' : List AV}, AVReps w G h us vs → AVReps w G h us' vs' → AVReps w G h (us ++ us') (vs ++ vs')
 | [], _, [], _, _, H => H
 | _ :: _, _, _ :: _, _, H, H' => ⟨H.1, AVReps.app H.2 H'⟩
 | [], _, _ :: _, _, H, _ => H.elim
 | _ :: _, _, [], _, H, _ => H.elim
theorem qq9 {a : Act} {s : Nat → AV} (hs : ∀ t, AVRep w G h (a.tmps.getD t undef) (s t)) (ty : Nat → Option CT) : ∀ (l : List Operand) (i : Nat), AVReps w G h (l.map a.eval) (l.mapIdx fun j x => opd s (ty (i + j)) x)
 | [], _ => trivial
 | x :: l, i => by
  rw [List.map_cons, List.mapIdx_cons]
  refine ⟨qce hs _ x, ?_⟩
  have := qq9 hs ty l (i + 1)
  have e : (fun j x => opd s (ty (i + 1 + j)) x) = (fun j x => opd s (ty (i + (j + 1))) x) := by
   funext j x
   rw [show i + 1 + j = i + (j + 1) by omega]
  rw [e] at this
  exact this
theorem qy1 (O : EnvOk P E) {o : Oper} {c : Call} {fo : Operand} (hop : o.op = .call c) (hcal : c.callee = .value fo) {a : Act} {s : Nat → AV} (hs : ∀ t, AVRep w G h (a.tmps.getD t undef) (s t)) {f : Nat} {caps : List AV} (hf : opd s none fo = .fn f caps) {fi : Fi} (hfi : E.fi f = some fi)
 {K : Act → World → Prop} {Q : Exit → Act → World → Prop} (H : ∀ us, AVReps w G h us (c.args.toList.mapIdx (fun j x => opd s ((c.argTypes[j]?).bind E.ct) x) ++ caps) → Calls P f us.toArray w fun e w' => ∃ v, e = .returned v ∧ K (a.put o.dst v) w') : o.wp P a w K Q := by
 have hv := qce (w := w) (G := G) (h := h) hs none fo
 rw [hf] at hv
 obtain ⟨vs, hv, hcaps⟩ := hv
 obtain ⟨h1, h2, h3⟩ := O.fn f fi hfi
 obtain ⟨cd, hcd⟩ := Option.isSome_iff_exists.1 h2
 have hrun : (execOp a.eval o).run P w = .ok (.enter f (c.args.map a.eval ++ vs)) w := by
  unfold execOp
  rw [hop]
  simp only [resolve, hcal, hv, Deferred.ofValue, Sem.run_bind, Sem.run_pure, Result.andThen_ok, invoke]
  have e0 : (#[] : Array Value) ++ c.args.map a.eval = c.args.map a.eval := by simp
  rw [e0]
  have h4 : fi.fn.name ≠ "runtime.NumGoroutine" := by simpa using h3
  simp [callFunc, h1, h4, hcd]
 unfold Oper.wp
 rw [hrun, Oper.upon_enter]
 have hA := H ((c.args.map a.eval ++ vs).toList) (by
  have := qq9 (w := w) (G := G) (h := h) hs (fun j => (c.argTypes[j]?).bind E.ct) c.args.toList 0
  simp only [Nat.zero_add] at this
  have := AVReps.app this hcaps
  simpa using this)
 rw [Array.toArray_toList] at hA
 refine hA.mono ?_
 rintro e w' ⟨v, rfl, hk⟩
 exact hk
theorem qpc (O : EnvOk P E) (Fs : FnsOk P E C I) {n : Nat} {st : St} (Iv : Inv w0 S0 w G st.h) {a : Act} (hs : ∀ t, AVRep w G st.h (a.tmps.getD t undef) (st.s t)) (hal : ∀ r, rngA n (n + KN) r → ¬ G.al r) (hst : ∀ r, st.n ≤ r → ¬ G.al r) (o : Oper)
 {k : St → Option α} {y : α} (hr : (opS E n o st.s st.h).runK C (I α) st o.dst k = some y) {K : Act → World → Prop} {Q : Exit → Act → World → Prop}
 (hK : ∀ v' w' G' v h' n', Inv w0 S0 w' G' h' → Keep w w' G G' st.h h' → AVRep w' G' h' v' v → st.n ≤ n' → (∀ r, G'.al r → G.al r ∨ newR n r ∨ (st.n ≤ r ∧ r < n')) → k ⟨updO st.s o.dst v, h', n'⟩ = some y → K (a.put o.dst v') w') :
 o.wp P a w K Q := by
 by_cases hc : qma o.op = false
 ·have hS := qxf (P := P) (w0 := w0) (S0 := S0) O Iv (hal n (by unfold rngA KN; omega)) hs o hc
  obtain ⟨v, h', hR, hk⟩ := qox _ hS hr
  exact Ran.wp hR fun v' w' G' I' K' hv ha => hK v' w' G' v h' st.n I' K' hv (Nat.le_refl _) (fun r hr => (ha r hr).imp id .inl) hk
 ·obtain ⟨dst, op, type, pos, after, guard⟩ := o
  cases op with
  | call c =>
   cases hcal : c.callee with
   | builtin b => exact absurd (by simp [qma, hcal]) hc
   | invoke r n => exact absurd (by simp [qma, hcal]) hc
   | value fo =>
    simp only [opS, hcal] at hr
    cases hf : opd st.s none fo with
    | fn f caps =>
     rw [hf] at hr
     simp only at hr
     cases hfi : E.fi f with
     | none => rw [hfi] at hr; cases hr
     | some fi =>
      rw [hfi] at hr
      simp only at hr
      refine qy1 O rfl hcal hs hf hfi fun us hus => ?_
      cases hin : fi.inl with
      | true =>
       rw [hin] at hr
       simp only [Stp.runK] at hr
       refine (Fs.inl α f _ _ _ _ _ hr w0 S0 w G us Iv hst hus).mono ?_
       rintro e w' ⟨v, v', h', n', G', rfl, hk, I', K', hv, hn, ha⟩
       exact ⟨v', rfl, hK v' w' G' v h' n' I' K' hv hn (fun r hr => (ha r hr).imp id .inr) hk⟩
      | false =>
       rw [hin] at hr
       simp only at hr
       cases hS : callS n st.h f fi (c.args.toList.mapIdx (fun j x => opd st.s ((c.argTypes[j]?).bind E.ct) x) ++ caps) with
       | fail => rw [hS] at hr; cases hr
       | ret v h' =>
        unfold callS at hS
        split at hS
        ·cases hg : (Nat.ble (needs fi.rs _) KN && (fi.rs.any qam || qac st.h _ fi.ps _)) with
         | false => rw [hg] at hS; cases hS
         | true => rw [hg] at hS; cases hS
        ·cases hS
       | call g ts kk =>
        unfold callS at hS
        split at hS
        ·cases hg : (Nat.ble (needs fi.rs _) KN && (fi.rs.any qam || qac st.h _ fi.ps _)) with
         | false => rw [hg] at hS; cases hS
         | true => rw [hg] at hS; cases hS
        ·cases hS
       | inl g args =>
        unfold callS at hS
        split at hS
        ·cases hg : (Nat.ble (needs fi.rs _) KN && (fi.rs.any qam || qac st.h _ fi.ps _)) with
         | false => rw [hg] at hS; cases hS
         | true => rw [hg] at hS; cases hS
        ·cases hS
       | chk b s =>
        have hform : ∃ ts kk, s = .call f ts kk := by
         unfold callS at hS
         split at hS
         ·cases hg : (Nat.ble (needs fi.rs _) KN && (fi.rs.any qam || qac st.h _ fi.ps _)) with
          | false => rw [hg] at hS; cases hS
          | true => rw [hg] at hS; cases hS; exact ⟨_, _, rfl⟩
         ·cases hS
        obtain ⟨ts, kk, rfl⟩ := hform
        rw [hS] at hr
        cases b with
        | false => cases hr
        | true =>
         simp only [Stp.runK, cond_true] at hr
         cases hcr : C f ts with
         | none => rw [hcr] at hr; cases hr
         | some r =>
          rw [hcr] at hr
          simp only [Option.bind_some] at hr
          refine (qu4 (Fs.form f fi hfi hin) (Fs.call f fi hfi hin) Iv hal hus hS rfl hcr).mono ?_
          rintro e w' ⟨v', G', rfl, I', K', hv, ha⟩
          exact ⟨v', rfl, hK v' w' G' _ _ st.n I' K' hv (Nat.le_refl _) (fun r hr => (ha r hr).imp id .inl) hr⟩
    | _ => rw [hf] at hr; cases hr
  | _ => exact absurd rfl hc
end
end Go.Proofs.YtncfoonahkieoaaGreatDoorV
namespace Go.Proofs.YtncfoonahkieoaaGreatDoorV
structure RelR (w0 : World) (S0 : Nat → Prop) (nt n0 N i : Nat) (st : St) (a : Act) (w : World) (G : Gh) : Prop where
 inv : Inv w0 S0 w G st.h
 slots : ∀ t, AVRep w G st.h (a.tmps.getD t undef) (st.s t)
 al : ∀ r, G.al r → r < n0 + KN * i ∨ (N ≤ r ∧ r < st.n)
 le : N ≤ st.n
 size : a.tmps.size = nt
 defers : a.defers = []
section
variable {w0 w w' : World} {S0 : Nat → Prop} {G0 G G' : Gh} {h0 h h' : Hp} {P : Program} {E : Env} {C : Orc} {I : (α : Type) → InlK α} {α : Type}
theorem put_defers (a : Act) (d : Option Tmp) (v : Value) : (a.put d v).defers = a.defers := by
 cases d <;> simp [Act.put]
theorem qgh (O : EnvOk P E) (Fs : FnsOk P E C I) {nt base : Nat} {ops : Array Oper} (hd : dstOk nt ops.toList = true) {n0 N : Nat} (hN : N = n0 + KN * ops.size) {Q : Exit → Act → World → Prop} {kx : St → Option α} {x : α} : ∀ (k i : Nat) (rs : List Rec) (st : St) (a : Act) (w : World) (G : Gh),
 i + k = ops.size → regK C (I α) E n0 ops.toList false (List.range' i k) rs st kx = some x → RelR w0 S0 nt n0 N i st a w G →
 (∀ st' a' w' G', kx st' = some x → RelR w0 S0 nt n0 N ops.size st' a' w' G' → KeepB base G G' st.h st'.h → Q .normal a' w') → wpOps P ops Q (List.range' i k) a w
 | 0, i, rs, st, a, w, G, hik, hr, R, hQ => by
  have : regK C (I α) E n0 ops.toList false [] rs st kx = some x := hr
  simp only [regK, Bool.not_false, Bool.true_or, cond_true] at this
  have e : i = ops.size := by omega
  subst e
  exact hQ st a w G this R (KeepB.refl _ _ _)
 | k + 1, i, rs, st, a, w, G, hik, hr, R, hQ => by
  have hi : i < ops.size := by omega
  have ho : ops[i]? = some ops[i] := Array.getElem?_eq_getElem hi
  have hol : ops.toList[i]? = some ops[i] := by simpa using ho
  have hdst : ∀ t, ops[i].dst = some t → t < a.tmps.size := by
   intro t ht
   have := List.all_eq_true.1 hd ops[i] (by simp)
   rw [ht] at this
   rw [R.size]
   simpa using this
  rw [show List.range' i (k + 1) = i :: List.range' (i + 1) k from List.range'_succ ..] at hr ⊢
  simp only [regK, hol, qd4] at hr
  simp only [wpOps, ho]
  have hKN : n0 + KN * (i + 1) = n0 + KN * i + KN := by rw [Nat.mul_add]; omega
  have hle : n0 + KN * (i + 1) ≤ N := by rw [hN]; exact Nat.add_le_add_left (Nat.mul_le_mul_left _ (by omega)) _
  cases hw : wantV ops.toList ops[i] st.s with
  | none => rw [hw] at hr; cases hr
  | some b =>
   rw [hw] at hr
   have hwt := qhl R.slots hw
   cases b with
   | true =>
    simp only [Bool.not_false, Bool.true_or, cond_true] at hr
    rw [if_pos hwt]
    left
    refine qpc O Fs R.inv R.slots (fun r hr ha => ?_) (fun r hr ha => ?_) ops[i] hr fun v' w' G' v h' n' I' K' hv hn ha hk => ?_
    ·unfold rngA at hr
     rcases R.al r ha with h1 | h1
     ·omega
     ·omega
    ·have := R.le
     rcases R.al r ha with h1 | h1
     ·have : n0 + KN * i ≤ N := by omega
      omega
     ·omega
    ·refine qgh O Fs hd hN k (i + 1) _ _ _ _ _ (by omega) hk ?_ (fun st' a' w'' G'' h1 h2 h3 => hQ st' a' w'' G'' h1 h2 ((K'.b base).trans h3))
     refine ⟨I', qdx R.slots K' hdst hv, fun r hr => ?_, Nat.le_trans R.le hn, by rw [qed]; exact R.size, by rw [put_defers]; exact R.defers⟩
     show r < n0 + KN * (i + 1) ∨ (N ≤ r ∧ r < n')
     have := R.le
     rcases ha r hr with h1 | h1 | h1
     ·rcases R.al r h1 with h2 | h2
      ·omega
      ·omega
     ·unfold newR at h1; omega
     ·omega
   | false =>
    simp only at hr
    rw [if_neg (by rw [hwt]; simp)]
    refine qgh O Fs hd hN k (i + 1) _ _ _ _ _ (by omega) hr ?_ hQ
    refine ⟨R.inv, qdx R.slots (Keep.refl _ _ _) hdst rfl, fun r hr => ?_, R.le, by rw [qed]; exact R.size, by rw [put_defers]; exact R.defers⟩
    show r < n0 + KN * (i + 1) ∨ (N ≤ r ∧ r < st.n)
    rcases R.al r hr with h2 | h2
    ·omega
    ·exact .inr h2
def qoh (P : Program) (E : Env) (C : Orc) (I : (α : Type) → InlK α) : Prop :=
 ∀ (α : Type) (nt base : Nat) (w0 : World) (S0 : Nat → Prop) (id : Nat) (ops : Array Oper) (st : St) (kx : St → Option α) (x : α) (a : Act) (w : World) (G : Gh) (Q : Exit → Act → World → Prop), dstOk nt ops.toList = true →
  regK C (I α) E st.n ops.toList true (List.range ops.size) [] { st with n := st.n + KN * ops.size } kx = some x → Rel w0 S0 nt st a w G →
  (∀ st' a' w' G', kx st' = some x → Rel w0 S0 nt st' a' w' G' → st.n ≤ st'.n → KeepB base G G' st.h st'.h → Q .normal a' w') → (Code.region id ops true).wp P Q a w
theorem qsa (O : EnvOk P E) (Fs : FnsOk P E C I) {nt base : Nat} {id : Nat} {ops : Array Oper} (hd : dstOk nt ops.toList = true) {Q : Exit → Act → World → Prop} {kx : St → Option α} {x : α} {st : St} {a : Act} (R : Rel w0 S0 nt st a w G)
 (hr : regK C (I α) E st.n ops.toList false (List.range ops.size) [] { st with n := st.n + KN * ops.size } kx = some x) (hQ : ∀ st' a' w' G', kx st' = some x → Rel w0 S0 nt st' a' w' G' → st.n ≤ st'.n → KeepB base G G' st.h st'.h → Q .normal a' w') : (Code.region id ops false).wp P Q a w := by
 refine wp_region ?_
 rw [List.range_eq_range'] at hr ⊢
 refine qgh (base := base) (w0 := w0) (S0 := S0) O Fs hd rfl ops.size 0 [] _ a w G (by omega) hr ⟨R.inv, R.slots, fun r hr => .inl (by have := R.al r hr; omega), Nat.le_refl _, R.size, R.defers⟩ ?_
 intro st' a' w' G' h1 h2 h3
 refine hQ st' a' w' G' h1 ⟨h2.inv, h2.slots, fun r hr => ?_, h2.size, h2.defers⟩ ?_ h3
 ·have := h2.le
  rcases h2.al r hr with h4 | h4
  ·omega
  ·omega
 ·have := h2.le
  omega
end
end Go.Proofs.YtncfoonahkieoaaGreatDoorV
namespace Go.Proofs.YtncfoonahkieoaaGreatDoorV
theorem qiq : ∀ {ks : List Nat} {r i x : Nat}, idxN r ks i = some x → ∃ j, x = i + j ∧ ks[j]? = some r
 | [], _, _, _, h => by cases h
 | k :: ks, r, i, x, h => by
  simp only [idxN] at h
  cases hb : Nat.beq r k with
  | true =>
   rw [hb, cond_true] at h
   cases h
   have := Nat.eq_of_beq_eq_true hb
   subst this
   exact ⟨0, rfl, rfl⟩
  | false =>
   rw [hb, cond_false] at h
   obtain ⟨j, h1, h2⟩ := qiq h
   exact ⟨j + 1, by omega, by simpa using h2⟩
def oldN (base : Nat) (seen : List Nat) (x : Nat) : Nat := if x < base then x else seen.getD (x - base) 0
theorem qcr {base : Nat} {seen : List Nat} {r x : Nat} (h : renN base seen r = some x) : oldN base seen x = r ∧ x < base + seen.length := by
 unfold renN at h
 cases hb : Nat.blt r base with
 | true =>
  rw [hb, cond_true] at h
  cases h
  have : r < base := by simpa using hb
  exact ⟨by simp [oldN, this], by omega⟩
 | false =>
  rw [hb, cond_false] at h
  obtain ⟨j, rfl, h2⟩ := qiq h
  have hj : j < seen.length := (List.getElem?_eq_some_iff.1 h2).1
  refine ⟨?_, by omega⟩
  unfold oldN
  rw [if_neg (by omega), Nat.add_sub_cancel_left, List.getD_eq_getElem?_getD, h2]
  rfl
def Gh.ren (G : Gh) (base : Nat) (seen : List Nat) : Gh :=
 { φ := fun x => G.φ (oldN base seen x), ro := G.ro, kv := G.kv, al := fun x => x < base + seen.length ∧ G.al (oldN base seen x)
   own := fun b => match G.own b with
    | some (.blk r p) => match renN base seen r with | some x => some (.blk x p) | none => none
    | _ => none }
section
variable {w0 w w' : World} {S0 : Nat → Prop} {G G' : Gh} {h h' : Hp} {base : Nat} {seen : List Nat}
theorem qko {b r x : Nat} {p : Path} (hb : G.own b = some (.blk r p)) (hx : renN base seen r = some x) : (G.ren base seen).own b = some (.blk x p) := by simp [Gh.ren, hb, hx]
theorem qhc {b : Nat} {y : Lab} (hb : (G.ren base seen).own b = some y) : ∃ r x p, G.own b = some (.blk r p) ∧ renN base seen r = some x ∧ y = .blk x p := by
 simp only [Gh.ren] at hb
 cases e : G.own b with
 | none => rw [e] at hb; cases hb
 | some z =>
  rw [e] at hb
  cases z with
  | tmp k p => cases hb
  | blk r p =>
   simp only at hb
   cases e2 : renN base seen r with
   | none => rw [e2] at hb; cases hb
   | some x => rw [e2] at hb; cases hb; exact ⟨r, x, p, rfl, e2, rfl⟩
mutual
theorem qyi (hh : ∀ r x, renN base seen r = some x → h' x = renB h base seen (h r)) : ∀ (v : AV) {u : Value}, AVRep w G h u v → AVRep w (G.ren base seen) h' u (renA h base seen v)
 | .z, _, H => H
 | .u, _, H => H
 | .un, _, H => H
 | .b _, _, H => H
 | .i _ _, _, H => H
 | .s _, _, H => H
 | .nl _ _, _, H => H
 | .np, _, H => H
 | .ro _ _ _ _, _, H => H
 | .cp _ _ _ _, _, H => H
 | .rf r p v sub, u, H => by
  have one : u.oneCell' = true := H.1
  simp only [renA]
  cases hok : okRow h r p v with
  | false => exact one
  | true =>
   simp only [cond_true]
   cases hx : renN base seen r with
   | none => exact one
   | some x =>
    obtain ⟨h1, h2, h3⟩ := H
    obtain ⟨ho, hlt⟩ := qcr hx
    unfold okRow at hok
    cases hr : h r with
    | dead => rw [hr] at hok; cases hok
    | box _ => rw [hr] at hok; cases hok
    | row m cs l v' e =>
     rw [hr] at h3 hok
     have hpv : p = [] ∨ v = v' := by
      cases p with
      | nil => exact .inl rfl
      | cons a p => exact .inr (Nat.eq_of_beq_eq_true hok)
     obtain ⟨hv, m', cs', l', g1, g2, g3, g4⟩ := h3.2 hpv
     refine ⟨h1, ⟨hlt, by rw [ho]; exact h2⟩, ?_⟩
     rw [hh r x hx, hr]
     refine ⟨Nat.le_refl _, fun _ => ⟨hv, m', cs', l', ?_, g2, g3, g4⟩⟩
     show NavH w ((G.ren base seen).own.m x) [] p cs (G.φ (oldN base seen x)) hv
     rw [ho]
     exact NavH.moved p (fun b ρ hb _ => ⟨qko hb hx, rfl⟩) g1
 | .bp r j, u, H => by
  have one : u.oneCell' = true := H.1
  simp only [renA]
  cases hx : renN base seen r with
  | none => exact one
  | some x =>
   obtain ⟨h1, h2, h3⟩ := H
   obtain ⟨ho, hlt⟩ := qcr hx
   refine ⟨h1, ⟨hlt, by rw [ho]; exact h2⟩, ?_⟩
   rw [hh r x hx]
   cases hr : h r with
   | dead => trivial
   | row _ _ _ _ _ => trivial
   | box cs =>
    rw [hr] at h3
    obtain ⟨b, g1, g2⟩ := h3
    exact ⟨b, by show G.φ (oldN base seen x) = _; rw [ho]; exact g1, g2⟩
 | .rp r p v i j, u, H => by
  have one : u.oneCell' = true := H.1
  simp only [renA]
  cases hok : okRow h r p v with
  | false => exact one
  | true =>
   simp only [cond_true]
   cases hx : renN base seen r with
   | none => exact one
   | some x =>
    obtain ⟨h1, h2, h3⟩ := H
    obtain ⟨ho, hlt⟩ := qcr hx
    unfold okRow at hok
    cases hr : h r with
    | dead => rw [hr] at hok; cases hok
    | box _ => rw [hr] at hok; cases hok
    | row m cs l v' e =>
     rw [hr] at h3 hok
     have hpv : p = [] ∨ v = v' := by
      cases p with
      | nil => exact .inl rfl
      | cons a p => exact .inr (Nat.eq_of_beq_eq_true hok)
     obtain ⟨hv, m', cs', l', b, off, n, cap, g1, g2, g3, g4⟩ := h3.2 hpv
     refine ⟨h1, ⟨hlt, by rw [ho]; exact h2⟩, ?_⟩
     rw [hh r x hx, hr]
     refine ⟨Nat.le_refl _, fun _ => ⟨hv, m', cs', l', b, off, n, cap, ?_, g2, g3, g4⟩⟩
     show NavH w ((G.ren base seen).own.m x) [] p cs (G.φ (oldN base seen x)) hv
     rw [ho]
     exact NavH.moved p (fun b ρ hb _ => ⟨qko hb hx, rfl⟩) g1
 | .ag cs, u, H => by
  obtain ⟨vs, h1, h2⟩ := H
  exact ⟨vs, h1, qev hh cs h2⟩
 | .tu cs, u, H => by
  obtain ⟨vs, h1, h2⟩ := H
  exact ⟨vs, h1, qev hh cs h2⟩
 | .fn f cs, u, H => by
  obtain ⟨vs, h1, h2⟩ := H
  exact ⟨vs, h1, qev hh cs h2⟩
theorem qev (hh : ∀ r x, renN base seen r = some x → h' x = renB h base seen (h r)) : ∀ (vs : List AV) {us : List Value}, AVReps w G h us vs → AVReps w (G.ren base seen) h' us (renAs h base seen vs)
 | [], us, H => by cases us <;> first | trivial | exact H.elim
 | x :: xs, us, H => by
  cases us with
  | nil => exact H.elim
  | cons u us => exact ⟨qyi hh x H.1, qev hh xs H.2⟩
end
theorem qs9 (I : Inv w0 S0 w G h) (hh : ∀ r x, renN base seen r = some x → h' x = renB h base seen (h r)) (ho : ∀ x, h' x ≠ .dead → renN base seen (oldN base seen x) = some x) :
 Inv w0 S0 w (G.ren base seen) h' := by
 refine ⟨I.os, I.tape, I.output, I.size, I.same, fun b y hy => ?_, fun b y hy => ?_, fun b hb => ?_, I.roLt, I.roIn, fun x => ?_⟩
 ·obtain ⟨r, x, p, h1, _, _⟩ := qhc hy; exact I.mine b _ h1
 ·obtain ⟨r, x, p, h1, _, _⟩ := qhc hy; exact I.cells b _ h1
 ·have := I.roOwn b hb
  simp [Gh.ren, this]
 ·cases e : h' x with
  | dead =>
   intro b p hb
   obtain ⟨r, x', p', h1, h2, h3⟩ := qhc hb
   cases h3
   have hx := hh r x h2
   rw [e] at hx
   have R := I.rep r
   cases hr : h r with
   | dead => rw [hr] at R; exact R b p h1
   | box _ => rw [hr] at hx; cases hx
   | row _ _ _ _ _ => rw [hr] at hx; cases hx
  | box cs =>
   have hx := ho x (by rw [e]; simp)
   have hx' := hh _ x hx
   rw [e] at hx'
   obtain ⟨_, hlt⟩ := qcr hx
   have R := I.rep (oldN base seen x)
   cases hr : h (oldN base seen x) with
   | dead => rw [hr] at hx'; cases hx'
   | row _ _ _ _ _ => rw [hr] at hx'; cases hx'
   | box ds =>
    rw [hr] at hx' R
    cases hx'
    obtain ⟨ha, b, c, ty, fz, g1, g2, g3, g4, g5⟩ := R
    exact ⟨⟨hlt, ha⟩, b, c, ty, fz, g1, qko g2 hx, g3, qev hh ds g4, g5⟩
  | row m cs l v z =>
   have hx := ho x (by rw [e]; simp)
   have hx' := hh _ x hx
   rw [e] at hx'
   obtain ⟨_, hlt⟩ := qcr hx
   have R := I.rep (oldN base seen x)
   cases hr : h (oldN base seen x) with
   | dead => rw [hr] at hx'; cases hx'
   | box _ => rw [hr] at hx'; cases hx'
   | row m' cs' l' v' z' =>
    rw [hr] at hx' R
    cases hx'
    obtain ⟨ha, g1, g2⟩ := R
    exact ⟨⟨hlt, ha⟩, RowRep.moved (M := G.own.m (oldN base seen x)) (M' := (G.ren base seen).own.m x) (π := []) ⟨fun hf => False.elim hf, fun b ρ hb => ⟨qko hb hx, rfl⟩⟩ g1, g2⟩
end
end Go.Proofs.YtncfoonahkieoaaGreatDoorV
namespace Go.Proofs.YtncfoonahkieoaaGreatDoorV
section
variable {w0 w w' : World} {S0 : Nat → Prop} {G G' : Gh} {h h' : Hp} {base : Nat} {seen : List Nat}
theorem qfg : ∀ {vs : List AV} {us : List Value} {h : Hp} {G : Gh} {n : Nat}, Inv w0 S0 w G h → (∀ r, n ≤ r → ¬ G.al r) → AVReps w G h us vs →
 ∃ G', Inv w0 S0 w G' (nlFix h n vs).2.1 ∧ Keep w w G G' h (nlFix h n vs).2.1 ∧ AVReps w G' (nlFix h n vs).2.1 us (nlFix h n vs).1 ∧ (∀ r, (nlFix h n vs).2.2 ≤ r → ¬ G'.al r)
 | [], us, h, G, n, I, hn, H => ⟨G, I, Keep.refl _ _ _, H, hn⟩
 | v :: vs, us, h, G, n, I, hn, H => by
  cases us with
  | nil => exact H.elim
  | cons u us =>
   have other : (nlFix h n (v :: vs) = (v :: (nlFix h n vs).1, (nlFix h n vs).2.1, (nlFix h n vs).2.2)) → ∃ G', Inv w0 S0 w G' (nlFix h n (v :: vs)).2.1 ∧ Keep w w G G' h (nlFix h n (v :: vs)).2.1 ∧ AVReps w G' (nlFix h n (v :: vs)).2.1 (u :: us) (nlFix h n (v :: vs)).1 ∧ (∀ r, (nlFix h n (v :: vs)).2.2 ≤ r → ¬ G'.al r) := by
    intro e
    obtain ⟨G1, I1, K1, A1, F1⟩ := qfg (vs := vs) I hn H.2
    rw [e]
    exact ⟨G1, I1, K1, ⟨K1.av v H.1, A1⟩, F1⟩
   cases v with
   | nl m cs =>
    have hu : u = .slice none 0 0 := H.1
    obtain ⟨I1, K1, A1⟩ := qdn I (hn n (Nat.le_refl _)) id (fun _ _ _ => rfl) (fun _ _ _ _ h => h) (v := u) (m := m) (cs := cs) (l := []) (.inl ⟨.inl hu, rfl⟩) rfl
    obtain ⟨G2, I2, K2, A2, F2⟩ := qfg (vs := vs) (n := n + 1) I1 (fun r hr ha => by
     rcases ha with h1 | h1
     ·exact hn r (by omega) h1
     ·omega) (K1.avs _ H.2)
    exact ⟨G2, I2, K1.trans K2, ⟨K2.av _ A1, A2⟩, F2⟩
   | _ => exact other rfl
theorem qya (I : Inv w0 S0 w G h) {r : Nat} {cs ws : List AV} (hr : h r = .box cs) (H : ∀ b c ty fz, G.φ r = .pointer (some ⟨b, 0, none⟩) → w.heap[b]? = some (.cells c ty fz) → AVReps w G h c.toList ws) :
 Inv w0 S0 w G (upd h r (.box ws)) ∧ Keep w w G G h (upd h r (.box ws)) := by
 have S : Step w w G G h (upd h r (.box ws)) (fun x => x = r) := by
  refine ⟨rfl, rfl, rfl, Nat.le_refl _, fun _ _ _ => rfl, fun b x hx => .inl ⟨x, hx⟩, I.cells, rfl, rfl, fun _ h => h, fun r' hr' => ⟨upd_ne _ _ hr', rfl, fun b p hb => ⟨hb, rfl⟩, fun b p hb => hb⟩, fun r' hr' _ => ?_⟩
  subst hr'
  rw [upd_same, hr]
  rfl
 refine ⟨S.inv I fun r' hr' => ?_, S.keep I⟩
 subst hr'
 rw [upd_same]
 have R := I.rep r'
 rw [hr] at R
 obtain ⟨ha, b, c, ty, fz, g1, g2, g3, _, g5⟩ := R
 exact ⟨ha, b, c, ty, fz, g1, g2, g3, (S.keep I).avs _ (H b c ty fz g1 g3), g5⟩
theorem quf (I : Inv w0 S0 w G h) {n r : Nat} (hn : ∀ r, n ≤ r → ¬ G.al r) {cs : List AV} (hr : h r = .box cs) :
 ∃ G', Inv w0 S0 w G' (upd (nlFix h n cs).2.1 r (.box (nlFix h n cs).1)) ∧ Keep w w G G' h (upd (nlFix h n cs).2.1 r (.box (nlFix h n cs).1)) ∧ (∀ x, (nlFix h n cs).2.2 ≤ x → ¬ G'.al x) := by
 have R := I.rep r
 rw [hr] at R
 obtain ⟨ha, b, c, ty, fz, g1, g2, g3, g4, g5⟩ := R
 obtain ⟨G1, I1, K1, A1, F1⟩ := qfg I hn g4
 have t := (K1.al r ha).2
 rw [hr] at t
 cases e : (nlFix h n cs).2.1 r with
 | dead =>
  exfalso
  have : ∀ {vs : List AV} {h : Hp} {n r : Nat}, (nlFix h n vs).2.1 r = .dead → h r = .dead := by
   intro vs
   induction vs with
   | nil => intro h n r e; exact e
   | cons v vs ih =>
    intro h n r e
    cases v with
    | nl m cs =>
     have := ih (h := upd h n (.row m cs [] 0 false)) (n := n + 1) e
     by_cases e2 : r = n
     ·subst e2; rw [upd_same] at this; cases this
     ·rw [upd_ne _ _ e2] at this; exact this
    | _ => exact ih (h := h) (n := n) e
  rw [this e] at hr
  cases hr
 | row _ _ _ _ _ => rw [e] at t; exact t.elim
 | box ds =>
  rw [e] at t
  obtain ⟨I2, K2⟩ := qya I1 e (ws := (nlFix h n cs).1) (fun b' c' ty' fz' k1 k2 => by
   rw [show G1.φ r = G.φ r from t, g1] at k1
   cases k1
   rw [g3] at k2
   cases k2
   exact A1)
  exact ⟨G1, I2, K1.trans K2, F1⟩
theorem qc0 : ∀ {rs : List Nat} {h : Hp} {G : Gh} {n : Nat}, Inv w0 S0 w G h → (∀ r, n ≤ r → ¬ G.al r) →
 ∃ G', Inv w0 S0 w G' (qbc h n rs).2.1 ∧ Keep w w G G' h (qbc h n rs).2.1 ∧ (∀ r, (qbc h n rs).2.2 ≤ r → ¬ G'.al r)
 | [], h, G, n, I, hn => ⟨G, I, Keep.refl _ _ _, hn⟩
 | r :: rs, h, G, n, I, hn => by
  cases e : h r with
  | box cs =>
   obtain ⟨G1, I1, K1, F1⟩ := quf I hn e
   obtain ⟨G2, I2, K2, F2⟩ := qc0 (rs := rs) I1 F1
   simp only [qbc, e]
   exact ⟨G2, I2, K1.trans K2, F2⟩
  | dead =>
   obtain ⟨G2, I2, K2, F2⟩ := qc0 (rs := rs) I hn
   simp only [qbc, e]
   exact ⟨G2, I2, K2, F2⟩
  | row _ _ _ _ _ =>
   obtain ⟨G2, I2, K2, F2⟩ := qc0 (rs := rs) I hn
   simp only [qbc, e]
   exact ⟨G2, I2, K2, F2⟩
theorem qbe {r : Nat} : ∀ {ks : List Nat}, memN r ks = true ↔ r ∈ ks
 | [] => by simp [memN]
 | k :: ks => by
  simp only [memN, Bool.or_eq_true, qbe (ks := ks), List.mem_cons]
  constructor
  ·rintro (h | h)
   ·exact .inl (Nat.eq_of_beq_eq_true h)
   ·exact .inr h
  ·rintro (rfl | h)
   ·exact .inl (Nat.beq_refl _)
   ·exact .inr h
structure SeenOk (base : Nat) (seen : List Nat) : Prop where
 ge : ∀ r ∈ seen, base ≤ r
 nodup : seen.Nodup
theorem SeenOk.snoc {r : Nat} (H : SeenOk base seen) (h1 : base ≤ r) (h2 : r ∉ seen) : SeenOk base (seen ++ [r]) := by
 refine ⟨fun x hx => ?_, ?_⟩
 ·rcases List.mem_append.1 hx with h | h
  ·exact H.ge x h
  ·simp at h; omega
 ·rw [List.nodup_append]
  refine ⟨H.nodup, by simp, fun a ha b hb e => ?_⟩
  simp at hb
  subst hb
  subst e
  exact h2 ha
theorem qrs {d : Dfs} {r : Nat} {vs : List AV} (I : Inv w0 S0 w G d.h) (hn : ∀ r, d.n ≤ r → ¬ G.al r) (hS : SeenOk base d.seen) :
 ∃ G', Inv w0 S0 w G' (visit base d r vs).2.h ∧ Keep w w G G' d.h (visit base d r vs).2.h ∧ (∀ x, (visit base d r vs).2.n ≤ x → ¬ G'.al x) ∧ SeenOk base (visit base d r vs).2.seen := by
 unfold visit
 cases hb : (Nat.blt r base || memN r d.seen) with
 | true => exact ⟨G, I, Keep.refl _ _ _, hn, hS⟩
 | false =>
  rw [Bool.or_eq_false_iff] at hb
  have h1 : base ≤ r := by
   have : ¬ (Nat.blt r base = true) := by rw [hb.1]; simp
   simp at this
   omega
  have h2 : r ∉ d.seen := fun hm => by have := qbe.2 hm; rw [hb.2] at this; cases this
  simp only [cond_false]
  cases e : d.h r with
  | box cs =>
   obtain ⟨G1, I1, K1, F1⟩ := quf I hn e
   exact ⟨G1, I1, K1, F1, hS.snoc h1 h2⟩
  | dead => exact ⟨G, I, Keep.refl _ _ _, hn, hS.snoc h1 h2⟩
  | row _ _ _ _ _ => exact ⟨G, I, Keep.refl _ _ _, hn, hS.snoc h1 h2⟩
theorem qnz : ∀ (f : Nat) {vs : List AV} {d : Dfs} {G : Gh}, Inv w0 S0 w G d.h → (∀ r, d.n ≤ r → ¬ G.al r) → SeenOk base d.seen →
 ∃ G', Inv w0 S0 w G' (dfs base f vs d).h ∧ Keep w w G G' d.h (dfs base f vs d).h ∧ SeenOk base (dfs base f vs d).seen
 | 0, vs, d, G, I, hn, hS => ⟨G, I, Keep.refl _ _ _, hS⟩
 | f + 1, [], d, G, I, hn, hS => ⟨G, I, Keep.refl _ _ _, hS⟩
 | f + 1, v :: vs, d, G, I, hn, hS => by
  have vis : ∀ r, dfs base (f + 1) (v :: vs) d = dfs base f (visit base d r vs).1 (visit base d r vs).2 → ∃ G', Inv w0 S0 w G' (dfs base (f + 1) (v :: vs) d).h ∧ Keep w w G G' d.h (dfs base (f + 1) (v :: vs) d).h ∧ SeenOk base (dfs base (f + 1) (v :: vs) d).seen := by
   intro r e
   rw [e]
   obtain ⟨G1, I1, K1, F1, S1⟩ := qrs (r := r) (vs := vs) I hn hS
   obtain ⟨G2, I2, K2, S2⟩ := qnz f (vs := (visit base d r vs).1) I1 F1 S1
   exact ⟨G2, I2, K1.trans K2, S2⟩
  cases v with
  | rf r _ _ _ => exact vis r rfl
  | rp r _ _ _ _ => exact vis r rfl
  | bp r _ => exact vis r rfl
  | _ => exact qnz f I hn hS
end
end Go.Proofs.YtncfoonahkieoaaGreatDoorV
namespace Go.Proofs.YtncfoonahkieoaaGreatDoorV
section
variable {w0 w w' : World} {S0 : Nat → Prop} {G G' : Gh} {h h' : Hp} {base : Nat} {seen : List Nat} {nt : Nat}
def isBlk (r : Nat) : Lab → Bool
 | .blk r' _ => Nat.beq r' r
 | .tmp _ _ => false
theorem qxr (I : Inv w0 S0 w G h) {r : Nat} {m : Bool} {cs : List CT} {l : List T} {v : Nat} {e : Bool} {u : Value} {ver : Nat} (hr : h r = .row m cs l v e) (hu : AVRep w G h u (.rf r [] ver none)) (he : (e && qaj cs) = false) :
 ∃ G', Inv w0 S0 w G' (upd h r .dead) ∧ Keep w w G G' h (upd h r .dead) ∧ AVRep w G' (upd h r .dead) u (.ro 0 m cs l) ∧ G'.al = G.al := by
 obtain ⟨I1, K1⟩ := qpq (h' := upd h r .dead) I (isBlk r) (fun x => x = r) (fun x hx => by subst hx; exact ⟨upd_same _ _ _, fun p => Nat.beq_refl _⟩) (fun x hx => ⟨upd_ne _ _ hx, fun p => by
  simp only [isBlk]
  cases e : Nat.beq x r with
  | false => rfl
  | true => exact absurd (Nat.eq_of_beq_eq_true e) hx⟩)
 refine ⟨_, I1, K1, ?_, rfl⟩
 have R := I.rep r
 rw [hr] at R
 obtain ⟨_, R1, R2⟩ := R
 have hφ : u = G.φ r := by
  have := hu.2.2
  rw [hr] at this
  obtain ⟨_, hv, m', cs', l', g1, _, _, g4⟩ := this.imp id (fun f => f (.inl rfl))
  cases g1
  exact g4
 refine ⟨?_, ?_, fun hf => absurd rfl hf⟩
 ·rw [hφ]
  exact RowRep.moved (M := G.own.m r) (π := []) (π' := []) ⟨fun hf => False.elim hf, fun b ρ hb => ⟨.inr ⟨_, hb, by simp [isBlk]⟩, rfl⟩⟩ R1
 ·cases e with
  | false => exact R2 rfl
  | true =>
   simp only [Bool.true_and] at he
   rcases R1 with ⟨_, rfl⟩ | ⟨b, off, cap, c, ty, fz, _, _, _, _, _, hE⟩
   ·rfl
   ·rw [qbi, List.all_eq_true]
    intro x hx
    obtain ⟨k, hk, rfl⟩ := List.mem_iff_getElem.1 hx
    exact ((qa3 l 0).1 hE k hk).flat he
theorem qkk {a : Act} {s : Nat → AV} (hs : ∀ t, AVRep w G h (a.tmps.getD t undef) (s t)) (K : Keep w w G G' h h') {t : Nat} {v : AV} (hv : AVRep w G' h' (a.tmps.getD t undef) v) : ∀ t', AVRep w G' h' (a.tmps.getD t' undef) (upd s t v t') := by
 intro t'
 by_cases e : t' = t
 ·subst e; rw [upd_same]; exact hv
 ·rw [upd_ne _ _ e]; exact K.av _ (hs t')
theorem qo7 {st : St} {a : Act} (I : Inv w0 S0 w G st.h) (hs : ∀ t, AVRep w G st.h (a.tmps.getD t undef) (st.s t)) (t k : Nat) :
 ∃ G', Inv w0 S0 w G' (qf4 st t k).h ∧ (∀ t', AVRep w G' (qf4 st t k).h (a.tmps.getD t' undef) ((qf4 st t k).s t')) ∧ Keep w w G G' st.h (qf4 st t k).h ∧ G'.al = G.al ∧ (qf4 st t k).n = st.n := by
 have same : ∃ G', Inv w0 S0 w G' st.h ∧ (∀ t', AVRep w G' st.h (a.tmps.getD t' undef) (st.s t')) ∧ Keep w w G G' st.h st.h ∧ G'.al = G.al ∧ st.n = st.n := ⟨G, I, hs, Keep.refl _ _ _, rfl, rfl⟩
 unfold qf4
 split
 ·rename_i r v hst
  have hu := hs t
  rw [hst] at hu
  split
  ·rename_i m cs l w1 e hr
   split
   ·cases he : (e && qaj cs) with
    | true => exact same
    | false =>
     obtain ⟨G1, I1, K1, A1, E1⟩ := qxr I hr hu he
     exact ⟨G1, I1, qkk hs K1 A1, K1, E1, rfl⟩
   ·have S : Step w w G G st.h (upd st.h r (.row m cs l w1 true)) (fun x => x = r) := by
     refine ⟨rfl, rfl, rfl, Nat.le_refl _, fun _ _ _ => rfl, fun b x hx => .inl ⟨x, hx⟩, I.cells, rfl, rfl, fun _ h => h, fun r' hr' => ⟨upd_ne _ _ hr', rfl, fun b p hb => ⟨hb, rfl⟩, fun b p hb => hb⟩, fun r' hr' _ => ?_⟩
     subst hr'
     rw [upd_same, hr]
     exact ⟨rfl, rfl, rfl, .inl ⟨rfl, rfl, fun b p hb => ⟨hb, rfl⟩⟩⟩
    refine ⟨G, S.inv I fun r' hr' => ?_, fun t' => (S.keep I).av _ (hs t'), S.keep I, rfl, rfl⟩
    subst hr'
    show qqh w G (upd st.h r' (.row m cs l w1 true)) r' (upd st.h r' (.row m cs l w1 true) r')
    rw [upd_same]
    have R := I.rep r'
    rw [hr] at R
    exact ⟨R.1, R.2.1, fun hf => by cases hf⟩
   ·refine ⟨G, I, qkk hs (Keep.refl _ _ _) ?_, Keep.refl _ _ _, rfl, rfl⟩
    obtain ⟨h1, h2, h3⟩ := hu
    refine ⟨h1, h2, ?_⟩
    rw [hr] at h3 ⊢
    refine ⟨h3.1, fun hp => ?_⟩
    obtain ⟨hv, m', cs', l', g1, g2, g3, g4⟩ := h3.2 hp
    cases g1
    have R := I.rep r
    rw [hr] at R
    refine ⟨_, m', cs', l', rfl, g2, g3, ?_⟩
    have g4 : a.tmps.getD t undef = G.φ r := g4
    rw [g4]
    rcases R.2.1 with ⟨hn, hl⟩ | ⟨b, off, cap, c, ty, fz, e1, e2, e3, e4, e5, e6⟩
    ·left
     rcases hn with hn | ⟨hf, _⟩
     ·exact ⟨hn, rfl, by rw [hl]; rfl, hn⟩
     ·exact False.elim hf
    ·right
     exact ⟨b, off, l.length, cap, off, cap, e1, by omega, by omega, e1, .inl ⟨by omega, by omega⟩⟩
  ·exact same
 ·rename_i m cs hst
  split
  ·refine ⟨G, I, qkk hs (Keep.refl _ _ _) ?_, Keep.refl _ _ _, rfl, rfl⟩
   have hu := hs t
   rw [hst] at hu
   exact ⟨.inl ⟨.inl hu, rfl⟩, rfl, fun hf => absurd rfl hf⟩
  ·exact same
 ·exact same
theorem qk7 : ∀ (co : List (Nat × Nat)) {st : St} {a : Act} {G : Gh}, Inv w0 S0 w G st.h → (∀ t, AVRep w G st.h (a.tmps.getD t undef) (st.s t)) →
 ∃ G', Inv w0 S0 w G' (coerce co st).h ∧ (∀ t', AVRep w G' (coerce co st).h (a.tmps.getD t' undef) ((coerce co st).s t')) ∧ Keep w w G G' st.h (coerce co st).h ∧ G'.al = G.al ∧ (coerce co st).n = st.n
 | [], st, a, G, I, hs => ⟨G, I, hs, Keep.refl _ _ _, rfl, rfl⟩
 | (t, k) :: co, st, a, G, I, hs => by
  obtain ⟨G1, I1, hs1, K1, A1, N1⟩ := qo7 I hs t k
  obtain ⟨G2, I2, hs2, K2, A2, N2⟩ := qk7 co I1 hs1
  exact ⟨G2, I2, hs2, K1.trans K2, A2.trans A1, N2.trans N1⟩
theorem qfj {α β : Type} (f : α → β) : ∀ l : List α, mapL f l = l.map f
 | [] => rfl
 | x :: l => by rw [mapL, qfj f l]; rfl
theorem qgb : ∀ n : Nat, upto n = List.range n
 | 0 => rfl
 | n + 1 => by rw [upto, qgb n, List.range_succ]
theorem qg2 : ∀ (l : List Blk) (i : Nat), atL l i = l.getD i .dead
 | [], i => by simp [atL]
 | b :: l, 0 => rfl
 | b :: l, i + 1 => by rw [atL, qg2 l i]; simp
theorem qm7 {a : Act} : ∀ {live : List Nat} {vs : List AV}, AVReps w G h (live.map fun t => a.tmps.getD t undef) vs → ∀ t, AVRep w G h (a.tmps.getD t undef) (lookA live vs t)
 | [], vs, _, t => by cases vs <;> exact trivial
 | k :: ks, vs, H, t => by
  cases vs with
  | nil => exact trivial
  | cons v vs =>
   simp only [lookA]
   cases e : Nat.beq k t with
   | true => have := Nat.eq_of_beq_eq_true e; subst this; exact H.1
   | false => exact qm7 H.2 t
theorem qjf {a : Act} {s : Nat → AV} (hs : ∀ t, AVRep w G h (a.tmps.getD t undef) (s t)) : ∀ live : List Nat, AVReps w G h (live.map fun t => a.tmps.getD t undef) (mapL s live)
 | [] => trivial
 | t :: live => ⟨hs t, qjf hs live⟩
structure RelC (w0 : World) (S0 : Nat → Prop) (nt : Nat) (c : CSt) (lv : List Nat) (a : Act) (w : World) (G : Gh) : Prop where
 inv : Inv w0 S0 w G (atL c.h)
 vals : AVReps w G (atL c.h) (lv.map fun t => a.tmps.getD t undef) c.s
 al : ∀ r, G.al r → r < c.h.length
 size : a.tmps.size = nt
 defers : a.defers = []
theorem RelC.rel {c : CSt} {lv : List Nat} {a : Act} (R : RelC w0 S0 nt c lv a w G) : Rel w0 S0 nt (c.st lv) a w G := ⟨R.inv, qm7 R.vals, R.al, R.size, R.defers⟩
theorem qiv (co : List (Nat × Nat)) (live : List Nat) (base : Nat) {st : St} {a : Act} (R : Rel w0 S0 nt st a w G) :
 ∃ G', RelC w0 S0 nt (canon co live base st) live a w G' ∧ base ≤ (canon co live base st).h.length ∧ KeepB base G G' st.h (atL (canon co live base st).h) := by
 obtain ⟨G1, I1, hs1, K1, A1, N1⟩ := qk7 co R.inv R.slots
 have F1 : ∀ r, (coerce co st).n ≤ r → ¬ G1.al r := fun r hr ha => by
  rw [A1] at ha
  have := R.al r ha
  omega
 obtain ⟨G2, I2, K2, V2, F2⟩ := qfg I1 F1 (qjf hs1 live)
 obtain ⟨G3, I3, K3, F3⟩ := qc0 (rs := upto base) I2 F2
 generalize hnl : nlFix (coerce co st).h (coerce co st).n (mapL (coerce co st).s live) = nl at *
 obtain ⟨vs, hA, nA⟩ := nl
 simp only at I2 K2 V2 F2 I3 K3 F3
 generalize hbb : qbc hA nA (upto base) = bb at *
 obtain ⟨ws, hB, nB⟩ := bb
 simp only at I3 K3 F3
 obtain ⟨G4, I4, K4, S4⟩ := qnz (base := base) 100000 (vs := ws ++ vs) (d := ⟨hB, nB, []⟩) I3 F3 ⟨fun _ h => by simp at h, List.nodup_nil⟩
 have hcan : canon co live base st = ⟨renAs (dfs base 100000 (ws ++ vs) ⟨hB, nB, []⟩).h base (dfs base 100000 (ws ++ vs) ⟨hB, nB, []⟩).seen vs,
  mapL (fun r => renB (dfs base 100000 (ws ++ vs) ⟨hB, nB, []⟩).h base (dfs base 100000 (ws ++ vs) ⟨hB, nB, []⟩).seen ((dfs base 100000 (ws ++ vs) ⟨hB, nB, []⟩).h r)) (upto base ++ (dfs base 100000 (ws ++ vs) ⟨hB, nB, []⟩).seen)⟩ := by
  unfold canon
  simp only [hnl, hbb]
 rw [hcan]
 clear hcan
 generalize dfs base 100000 (ws ++ vs) ⟨hB, nB, []⟩ = d at *
 obtain ⟨hC, nC, seen⟩ := d
 simp only at I4 K4 S4 ⊢
 have V4 := (K3.trans K4).avs _ V2
 have hlen : (mapL (fun r => renB hC base seen (hC r)) (upto base ++ seen)).length = base + seen.length := by rw [qfj]; simp [qgb]
 have hat : ∀ x, x < base + seen.length → atL (mapL (fun r => renB hC base seen (hC r)) (upto base ++ seen)) x = renB hC base seen (hC (oldN base seen x)) := by
  intro x hx
  rw [qg2, qfj, List.getD_eq_getElem?_getD, List.getElem?_map, qgb]
  unfold oldN
  by_cases hb : x < base
  ·rw [if_pos hb, List.getElem?_append_left (by simpa using hb), List.getElem?_range hb]
   rfl
  ·rw [if_neg hb, List.getElem?_append_right (by simpa using hb)]
   simp only [List.length_range]
   rw [List.getElem?_eq_getElem (by omega), List.getD_eq_getElem?_getD, List.getElem?_eq_getElem (by omega)]
   rfl
 have hat' : ∀ x, base + seen.length ≤ x → atL (mapL (fun r => renB hC base seen (hC r)) (upto base ++ seen)) x = .dead := by
  intro x hx
  rw [qg2, List.getD_eq_getElem?_getD, List.getElem?_eq_none (by rw [hlen]; exact hx)]
  rfl
 have hren : ∀ x, x < base + seen.length → renN base seen (oldN base seen x) = some x := by
  intro x hx
  unfold oldN renN
  by_cases hb : x < base
  ·rw [if_pos hb]
   have : Nat.blt x base = true := by simpa using hb
   rw [this]
   rfl
  ·rw [if_neg hb]
   have hj : x - base < seen.length := by omega
   have e : seen.getD (x - base) 0 = seen[x - base] := by rw [List.getD_eq_getElem?_getD, List.getElem?_eq_getElem hj]; rfl
   rw [e]
   have hge := S4.ge seen[x - base] (List.getElem_mem hj)
   have : Nat.blt seen[x - base] base = false := by
    cases e2 : Nat.blt seen[x - base] base with
    | false => rfl
    | true => have : seen[x - base] < base := by simpa using e2
              omega
   rw [this]
   simp only [cond_false]
   have key : ∀ {ks : List Nat} {j i : Nat}, ks.Nodup → (hj : j < ks.length) → idxN ks[j] ks i = some (i + j) := by
    intro ks
    induction ks with
    | nil => intro j i _ hj; simp at hj
    | cons k ks ih =>
     intro j i hn hj
     rw [List.nodup_cons] at hn
     cases j with
     | zero => simp [idxN]
     | succ j =>
      simp only [List.getElem_cons_succ, idxN]
      have hj' : j < ks.length := by simpa using hj
      have hne : Nat.beq ks[j] k = false := by
       cases e2 : Nat.beq ks[j] k with
       | false => rfl
       | true => exact absurd (Nat.eq_of_beq_eq_true e2 ▸ List.getElem_mem hj') hn.1
      rw [hne, cond_false, ih hn.2 hj']
      congr 1
      omega
   rw [key S4.nodup hj]
   congr 1
   omega
 have hh : ∀ r x, renN base seen r = some x → atL (mapL (fun r => renB hC base seen (hC r)) (upto base ++ seen)) x = renB hC base seen (hC r) := by
  intro r x hx
  obtain ⟨h1, h2⟩ := qcr hx
  rw [hat x h2, h1]
 have I5 := qs9 (base := base) (seen := seen) (h' := atL (mapL (fun r => renB hC base seen (hC r)) (upto base ++ seen))) I4 hh (fun x hx => by
  by_cases hlt : x < base + seen.length
  ·exact hren x hlt
  ·exact absurd (hat' x (by omega)) hx)
 have KB := ((K1.trans K2).trans (K3.trans K4)).b base
 refine ⟨G4.ren base seen, ⟨I5, qev hh vs V4, fun r hr => ?_, R.size, R.defers⟩, ?_, KB.trans ⟨fun _ h => h, rfl, fun r hr ha => ?_⟩⟩
 ·show r < (mapL (fun r => renB hC base seen (hC r)) (upto base ++ seen)).length
  rw [hlen]
  exact hr.1
 ·show base ≤ (mapL (fun r => renB hC base seen (hC r)) (upto base ++ seen)).length
  rw [hlen]
  omega
 ·have ho : oldN base seen r = r := by unfold oldN; rw [if_pos hr]
  refine ⟨⟨by omega, by rw [ho]; exact ha⟩, ?_, fun _ => by show G4.φ (oldN base seen r) = _; rw [ho]⟩
  show TurnB (hC r) (atL (mapL (fun r => renB hC base seen (hC r)) (upto base ++ seen)) r)
  rw [hat r (by omega), ho]
  cases hC r with
  | dead => trivial
  | box _ => trivial
  | row _ _ _ _ _ => exact ⟨rfl, rfl⟩
end
end Go.Proofs.YtncfoonahkieoaaGreatDoorV
namespace Go.Proofs.YtncfoonahkieoaaGreatDoorV
def Seg (r : List T) (i : Nat) (a : List T) : Prop := ∀ j x, a[j]? = some x → nth r (i + j) = x
theorem Seg.app {r : List T} {i : Nat} {a b : List T} (H : Seg r i (a ++ b)) : Seg r i a ∧ Seg r (i + a.length) b := by
 refine ⟨fun j x hx => H j x ?_, fun j x hx => ?_⟩
 ·have hj : j < a.length := (List.getElem?_eq_some_iff.1 hx).1
  rw [List.getElem?_append_left hj]; exact hx
 ·rw [Nat.add_assoc]
  refine H (a.length + j) x ?_
  rw [List.getElem?_append_right (by omega), Nat.add_sub_cancel_left]; exact hx
theorem Seg.head {r : List T} {i : Nat} {x : T} {a : List T} (H : Seg r i (x :: a)) : nth r i = x ∧ Seg r (i + 1) a :=
 ⟨by simpa using H 0 x rfl, fun j y hy => by rw [show i + 1 + j = i + (j + 1) by omega]; exact H (j + 1) y (by simpa using hy)⟩
theorem qsp (k : IntKind) (n : Nat) : natT (.i k (n : Int)) = n := by simp [natT, asI]
theorem qhg {r : List T} : ∀ {p q : Path} {a : List T} {i : Nat}, encP p q = some a → Seg r i a → decP p r i = (q, i + a.length)
 | [], [], a, i, h, _ => by cases h; rfl
 | (_, j) :: p, (n, j') :: q, a, i, h, hs => by
  simp only [encP] at h
  cases e : Nat.beq j j' with
  | false => rw [e] at h; cases h
  | true =>
   rw [e, cond_true] at h
   cases e2 : encP p q with
   | none => rw [e2] at h; cases h
   | some b =>
    rw [e2] at h
    cases h
    have := Nat.eq_of_beq_eq_true e
    subst this
    simp only [decP, qhg e2 hs.head.2, hs.head.1, qsp, List.length_cons]
    congr 1
    omega
 | [], _ :: _, _, _, h, _ => by cases h
 | _ :: _, [], _, _, h, _ => by cases h
def Less (v v' : AV) : Prop := ∀ (w : World) (G : Gh) (h : Hp) (u : Value), AVRep w G h u v → AVRep w G h u v'
def LessL (vs vs' : List AV) : Prop := ∀ (w : World) (G : Gh) (h : Hp) (us : List Value), AVReps w G h us vs → AVReps w G h us vs'
theorem Less.refl (v : AV) : Less v v := fun _ _ _ _ h => h
mutual
theorem qvu {r : List T} : ∀ (t v : AV) {a : List T} {i : Nat}, encA t v = some a → Seg r i a → (decA t r i).2 = i + a.length ∧ Less v (decA t r i).1
 | .z, v, a, i, h, _ => by cases v <;> cases h <;> exact ⟨rfl, fun _ _ _ _ _ => trivial⟩
 | .u, v, a, i, h, _ => by
  have h : (bif isC v then some [] else none) = some a := by cases v <;> exact h
  cases e : isC v with
  | false => rw [e] at h; cases h
  | true => rw [e] at h; cases h; exact ⟨rfl, fun _ _ _ _ H => H.one e⟩
 | .un, v, a, i, h, _ => by cases v <;> cases h <;> exact ⟨rfl, Less.refl _⟩
 | .np, v, a, i, h, _ => by cases v <;> cases h <;> exact ⟨rfl, Less.refl _⟩
 | .b _, v, a, i, h, hs => by
  cases v with
  | b x => cases h; simp only [decA, hs.head.1]; exact ⟨rfl, Less.refl _⟩
  | _ => cases h
 | .i k _, v, a, i, h, hs => by
  cases v with
  | i k' n =>
   simp only [encA] at h
   by_cases e : k = k'
   ·subst e
    rw [if_pos rfl] at h
    cases h
    simp only [decA, hs.head.1]
    exact ⟨rfl, Less.refl _⟩
   ·rw [if_neg e] at h; cases h
  | _ => cases h
 | .s _, v, a, i, h, hs => by
  cases v with
  | s x => cases h; simp only [decA, hs.head.1]; exact ⟨rfl, Less.refl _⟩
  | _ => cases h
 | .nl m cs, v, a, i, h, hs => by
  cases v with
  | nl m' cs' =>
   simp only [encA] at h
   cases e : CT.beq (.sl m cs) (.sl m' cs') with
   | false => rw [e] at h; cases h
   | true => rw [e] at h; cases h; cases CT.beq_eq e; exact ⟨rfl, Less.refl _⟩
  | _ => cases h
 | .ro k m cs _, v, a, i, h, hs => by
  cases v with
  | ro k' m' cs' l =>
   simp only [encA] at h
   cases e : (CT.beq (.sl m cs) (.sl m' cs') && Nat.beq k k') with
   | false => rw [e] at h; cases h
   | true =>
    rw [e] at h
    cases h
    rw [Bool.and_eq_true] at e
    cases CT.beq_eq e.1
    have := Nat.eq_of_beq_eq_true e.2
    subst this
    simp only [decA, hs.head.1]
    exact ⟨rfl, Less.refl _⟩
  | _ => cases h
 | .rf r1 p ver sub, v, a, i, h, hs => by
  cases v with
  | rf r2 p' ver' sub' =>
   simp only [encA] at h
   cases e : (Nat.beq r1 r2 && Nat.beq ver ver') with
   | false => rw [e] at h; cases h
   | true =>
    rw [e, cond_true] at h
    rw [Bool.and_eq_true] at e
    have e1 := Nat.eq_of_beq_eq_true e.1
    have e2 := Nat.eq_of_beq_eq_true e.2
    subst e1
    subst e2
    cases e3 : encP p p' with
    | none => rw [e3] at h; cases h
    | some a1 =>
     rw [e3] at h
     cases sub with
     | none =>
      cases sub' with
      | some _ => cases h
      | none =>
       cases h
       rw [List.append_nil] at hs ⊢
       simp only [decA, qhg e3 hs]
       exact ⟨trivial, Less.refl _⟩
     | some q =>
      cases sub' with
      | none => cases h
      | some q' =>
       obtain ⟨o, n⟩ := q'
       cases h
       obtain ⟨hs1, hs2⟩ := hs.app
       obtain ⟨g1, g2⟩ := hs2.head
       simp only [decA, qhg e3 hs1, g1, g2.head.1, qsp]
       exact ⟨by simp; omega, Less.refl _⟩
  | _ => cases h
 | .bp r1 j, v, a, i, h, hs => by
  cases v with
  | bp r2 j' =>
   simp only [encA] at h
   cases e : (Nat.beq r1 r2 && Nat.beq j j') with
   | false => rw [e] at h; cases h
   | true =>
    rw [e] at h
    cases h
    rw [Bool.and_eq_true] at e
    have e1 := Nat.eq_of_beq_eq_true e.1
    have e2 := Nat.eq_of_beq_eq_true e.2
    subst e1
    subst e2
    exact ⟨rfl, Less.refl _⟩
  | _ => cases h
 | .rp r1 p ver i1 j, v, a, i, h, hs => by
  cases v with
  | rp r2 p' ver' i2 j' =>
   simp only [encA] at h
   cases e : (Nat.beq r1 r2 && Nat.beq ver ver' && Nat.beq j j') with
   | false => rw [e] at h; cases h
   | true =>
    rw [e, cond_true] at h
    rw [Bool.and_eq_true, Bool.and_eq_true] at e
    have e1 := Nat.eq_of_beq_eq_true e.1.1
    have e2 := Nat.eq_of_beq_eq_true e.1.2
    have e4 := Nat.eq_of_beq_eq_true e.2
    subst e1
    subst e2
    subst e4
    cases e3 : encP p p' with
    | none => rw [e3] at h; cases h
    | some a1 =>
     rw [e3] at h
     cases h
     obtain ⟨hs1, hs2⟩ := hs.app
     simp only [decA, qhg e3 hs1, hs2.head.1, qsp]
     exact ⟨by simp; omega, Less.refl _⟩
  | _ => cases h
 | .cp m cs _ j, v, a, i, h, hs => by
  cases v with
  | cp m' cs' x j' =>
   simp only [encA] at h
   cases e : (CT.beq (.sl m cs) (.sl m' cs') && Nat.beq j j') with
   | false => rw [e] at h; cases h
   | true =>
    rw [e] at h
    cases h
    rw [Bool.and_eq_true] at e
    cases CT.beq_eq e.1
    have := Nat.eq_of_beq_eq_true e.2
    subst this
    simp only [decA, hs.head.1]
    exact ⟨rfl, Less.refl _⟩
  | _ => cases h
 | .ag cs, v, a, i, h, hs => by
  cases v with
  | ag ds =>
   obtain ⟨g1, g2⟩ := qdc cs ds (show encAs cs ds = some a from h) hs
   refine ⟨g1, fun w G h u H => ?_⟩
   obtain ⟨us, rfl, H⟩ := H
   exact ⟨us, rfl, g2 w G h _ H⟩
  | _ => cases h
 | .tu cs, v, a, i, h, hs => by
  cases v with
  | tu ds =>
   obtain ⟨g1, g2⟩ := qdc cs ds (show encAs cs ds = some a from h) hs
   refine ⟨g1, fun w G h u H => ?_⟩
   obtain ⟨us, rfl, H⟩ := H
   exact ⟨us, rfl, g2 w G h _ H⟩
  | _ => cases h
 | .fn f cs, v, a, i, h, hs => by
  cases v with
  | fn f' ds =>
   simp only [encA] at h
   cases e : Nat.beq f f' with
   | false => rw [e] at h; cases h
   | true =>
    rw [e, cond_true] at h
    have := Nat.eq_of_beq_eq_true e
    subst this
    obtain ⟨g1, g2⟩ := qdc cs ds h hs
    refine ⟨g1, fun w G h u H => ?_⟩
    obtain ⟨us, rfl, H⟩ := H
    exact ⟨us, rfl, g2 w G h _ H⟩
  | _ => cases h
theorem qdc {r : List T} : ∀ (ts vs : List AV) {a : List T} {i : Nat}, encAs ts vs = some a → Seg r i a → (decAs ts r i).2 = i + a.length ∧ LessL vs (decAs ts r i).1
 | [], vs, a, i, h, _ => by
  cases vs with
  | nil => cases h; exact ⟨rfl, fun _ _ _ _ H => H⟩
  | cons _ _ => cases h
 | t :: ts, vs, a, i, h, hs => by
  cases vs with
  | nil => cases h
  | cons v vs =>
   simp only [encAs] at h
   cases e : encA t v with
   | none => rw [e] at h; cases h
   | some a1 =>
    rw [e] at h
    simp only at h
    cases e2 : encAs ts vs with
    | none => rw [e2] at h; cases h
    | some a2 =>
     rw [e2] at h
     cases h
     obtain ⟨hs1, hs2⟩ := hs.app
     obtain ⟨g1, g2⟩ := qvu t v e hs1
     have hs2' : Seg r (decA t r i).2 a2 := by rw [g1]; exact hs2
     obtain ⟨k1, k2⟩ := qdc ts vs e2 hs2'
     simp only [decAs]
     refine ⟨by rw [k1, g1, List.length_append]; omega, fun w G h us H => ?_⟩
     cases us with
     | nil => exact H.elim
     | cons u us => exact ⟨g2 w G h u H.1, k2 w G h us H.2⟩
end
end Go.Proofs.YtncfoonahkieoaaGreatDoorV
namespace Go.Proofs.YtncfoonahkieoaaGreatDoorV
def BLess (b b' : Blk) : Prop := b' = .dead ∨ (∃ ds ds', b = .box ds ∧ b' = .box ds' ∧ LessL ds ds') ∨ b' = b
theorem qvt {r : List T} {t b : Blk} {a : List T} {i : Nat} (h : encB t b = some a) (hs : Seg r i a) : (decB t r i).2 = i + a.length ∧ BLess b (decB t r i).1 := by
 cases t with
 | dead => cases b <;> cases h <;> exact ⟨rfl, .inl rfl⟩
 | box cs =>
  cases b with
  | box ds =>
   obtain ⟨g1, g2⟩ := qdc cs ds (show encAs cs ds = some a from h) hs
   exact ⟨g1, .inr (.inl ⟨ds, _, rfl, rfl, g2⟩)⟩
  | _ => cases h
 | row m cs l0 v e =>
  cases b with
  | row m' cs' l v' e' =>
   simp only [encB] at h
   cases hq : (CT.beq (.sl m cs) (.sl m' cs') && Nat.beq v v' && (e == e')) with
   | false => rw [hq] at h; cases h
   | true =>
    rw [hq] at h
    cases h
    rw [Bool.and_eq_true, Bool.and_eq_true] at hq
    cases CT.beq_eq hq.1.1
    have h1 := Nat.eq_of_beq_eq_true hq.1.2
    have h2 : e = e' := by simpa using hq.2
    subst h1
    subst h2
    simp only [decB, hs.head.1]
    exact ⟨rfl, .inr (.inr rfl)⟩
  | _ => cases h
theorem qmm {r : List T} : ∀ {ts bs : List Blk} {a : List T} {i : Nat}, encBs ts bs = some a → Seg r i a → (decBs ts r i).1.length = bs.length ∧ ∀ x, BLess (atL bs x) (atL (decBs ts r i).1 x)
 | [], [], a, i, h, _ => ⟨rfl, fun x => .inr (.inr rfl)⟩
 | t :: ts, b :: bs, a, i, h, hs => by
  simp only [encBs] at h
  cases e : encB t b with
  | none => rw [e] at h; cases h
  | some a1 =>
   rw [e] at h
   simp only at h
   cases e2 : encBs ts bs with
   | none => rw [e2] at h; cases h
   | some a2 =>
    rw [e2] at h
    cases h
    obtain ⟨hs1, hs2⟩ := hs.app
    obtain ⟨g1, g2⟩ := qvt e hs1
    have hs2' : Seg r (decB t r i).2 a2 := by rw [g1]; exact hs2
    obtain ⟨k1, k2⟩ := qmm e2 hs2'
    simp only [decBs]
    refine ⟨by simp [k1], fun x => ?_⟩
    cases x with
    | zero => exact g2
    | succ x => exact k2 x
 | [], _ :: _, _, _, h, _ => by cases h
 | _ :: _, [], _, _, h, _ => by cases h
def Gh.drop (G : Gh) (D : Nat → Bool) : Gh := { G with own := fun b => match G.own b with | some (.blk r p) => bif D r then none else some (.blk r p) | x => x }
def qpm : Blk → Bool
 | .dead => true
 | _ => false
section
variable {w0 w w' : World} {S0 : Nat → Prop} {G G' : Gh} {h h' : Hp} {base nt : Nat} {P : Program} {E : Env} {C : Orc} {I : (α : Type) → InlK α}
theorem qeh {D : Nat → Bool} {b r : Nat} {p : Path} : (G.drop D).own b = some (.blk r p) ↔ G.own b = some (.blk r p) ∧ D r = false := by
 simp only [Gh.drop]
 have hc : G.own b = none ∨ ∃ y, G.own b = some y := by cases G.own b <;> simp
 rcases hc with e | ⟨y, e⟩
 ·rw [e]; simp
 ·rw [e]
  cases y with
  | tmp k q => simp
  | blk r' q =>
   simp only
   cases e2 : D r' with
   | true =>
    simp only [cond_true]
    constructor
    ·intro hf; cases hf
    ·rintro ⟨h1, h2⟩; cases h1; rw [e2] at h2; cases h2
   | false =>
    simp only [cond_false]
    constructor
    ·intro hf; cases hf; exact ⟨rfl, e2⟩
    ·rintro ⟨h1, _⟩; exact h1
theorem qmo {D : Nat → Bool} {b : Nat} {x : Lab} (hb : (G.drop D).own b = some x) : G.own b = some x := by
 simp only [Gh.drop] at hb
 have hc : G.own b = none ∨ ∃ y, G.own b = some y := by cases G.own b <;> simp
 rcases hc with e | ⟨y, e⟩
 ·rw [e] at hb; cases hb
 ·rw [e] at hb ⊢
  cases y with
  | tmp k q => exact hb
  | blk r' q =>
   simp only at hb
   cases e2 : D r' with
   | true => rw [e2] at hb; cases hb
   | false => rw [e2] at hb; exact hb
theorem qve (Iv : Inv w0 S0 w G h) (hl : ∀ r, BLess (h r) (h' r)) : Inv w0 S0 w (G.drop fun r => qpm (h' r)) h' ∧ Keep w w G (G.drop fun r => qpm (h' r)) h h' := by
 have K : Keep w w G (G.drop fun r => qpm (h' r)) h h' := by
  refine ⟨fun b hb => ⟨hb, rfl⟩, rfl, fun r hr => ⟨hr, ?_⟩⟩
  rcases hl r with e | ⟨ds, ds', e1, e2, _⟩ | e
  ·rw [e]; cases h r <;> trivial
  ·rw [e1, e2]; rfl
  ·cases e2 : h r with
   | dead => rw [e, e2]; trivial
   | box _ => rw [e, e2]; rfl
   | row m cs l v z =>
    rw [e, e2]
    exact ⟨rfl, rfl, rfl, .inl ⟨rfl, rfl, fun b p hb => ⟨qeh.2 ⟨hb, by rw [e, e2]; rfl⟩, rfl⟩⟩⟩
 refine ⟨⟨Iv.os, Iv.tape, Iv.output, Iv.size, Iv.same, fun b x hx => Iv.mine b x (qmo hx), fun b x hx => Iv.cells b x (qmo hx), fun b hb => ?_, Iv.roLt, Iv.roIn, fun r => ?_⟩, K⟩
 ·have := Iv.roOwn b hb
  simp [Gh.drop, this]
 ·have R := Iv.rep r
  rcases hl r with e | ⟨ds, ds', e1, e2, hl2⟩ | e
  ·rw [e]
   intro b p hb
   have := (qeh.1 hb).2
   rw [e] at this
   cases this
  ·rw [e1] at R
   rw [e2]
   obtain ⟨ha, b, c, ty, fz, g1, g2, g3, g4, g5⟩ := R
   exact ⟨ha, b, c, ty, fz, g1, qeh.2 ⟨g2, by rw [e2]; rfl⟩, g3, K.avs ds' (hl2 w G h _ g4), g5⟩
  ·cases e2 : h r with
   | dead =>
    rw [e2] at R e
    rw [e]
    exact fun b p hb => R b p (qeh.1 hb).1
   | box cs =>
    rw [e2] at R e
    rw [e]
    obtain ⟨ha, b, c, ty, fz, g1, g2, g3, g4, g5⟩ := R
    exact ⟨ha, b, c, ty, fz, g1, qeh.2 ⟨g2, by rw [e]; rfl⟩, g3, K.avs cs g4, g5⟩
   | row m cs l v z =>
    rw [e2] at R e
    rw [e]
    obtain ⟨ha, g1, g2⟩ := R
    exact ⟨ha, RowRep.moved (M := G.own.m r) (M' := (G.drop fun r => qpm (h' r)).own.m r) (π := []) ⟨fun hf => False.elim hf, fun b ρ hb => ⟨qeh.2 ⟨hb, by rw [e]; rfl⟩, rfl⟩⟩ g1, g2⟩
theorem qvw {t c : CSt} {ls r : List T} {lv : List Nat} {a : Act} {i0 : T} (h : encC t c = some ls) (hr : r = i0 :: ls) (R : RelC w0 S0 nt c lv a w G) :
 ∃ G', RelC w0 S0 nt (decC t r) lv a w G' ∧ (decC t r).h.length = c.h.length ∧ KeepB base G G' (atL c.h) (atL (decC t r).h) := by
 unfold encC at h
 cases e1 : encAs t.s c.s with
 | none => rw [e1] at h; cases h
 | some a1 =>
  rw [e1] at h
  simp only at h
  cases e2 : encBs t.h c.h with
  | none => rw [e2] at h; cases h
  | some a2 =>
   rw [e2] at h
   cases h
   subst hr
   have hs : Seg (i0 :: (a1 ++ a2)) 1 (a1 ++ a2) := fun j x hx => by
    simp only [nth, List.getD_eq_getElem?_getD]
    rw [show 1 + j = j + 1 by omega, List.getElem?_cons_succ, hx]; rfl
   obtain ⟨hs1, hs2⟩ := hs.app
   obtain ⟨g1, g2⟩ := qdc t.s c.s e1 hs1
   have hs2' : Seg (i0 :: (a1 ++ a2)) (decAs t.s (i0 :: (a1 ++ a2)) 1).2 a2 := by rw [g1]; exact hs2
   obtain ⟨k1, k2⟩ := qmm e2 hs2'
   have hd : decC t (i0 :: (a1 ++ a2)) = ⟨(decAs t.s (i0 :: (a1 ++ a2)) 1).1, (decBs t.h (i0 :: (a1 ++ a2)) (decAs t.s (i0 :: (a1 ++ a2)) 1).2).1⟩ := rfl
   rw [hd]
   obtain ⟨I1, K1⟩ := qve R.inv k2
   exact ⟨_, ⟨I1, K1.avs _ (g2 w G _ _ R.vals), fun r hr => by rw [k1]; exact R.al r hr, R.size, R.defers⟩, k1, K1.b base⟩
theorem qvq {e e' : Ex} (h : exBeq e e' = true) : e = e' := by
 cases e <;> cases e' <;> simp only [exBeq, Bool.false_eq_true] at h <;> first | rfl | (rw [Nat.eq_of_beq_eq_true h])
theorem qjx {base : Nat} : ∀ {xs : List (Ex × List Nat × CSt)} {i : Int} {e : Ex} {st : St} {r : List T}, leave base xs i e st = some r → ∃ j ls, r = .i .i64 j :: ls ∧ i ≤ j
 | [], _, _, _, _, h => by cases h
 | (e', lv, t) :: xs, i, e, st, r, h => by
  have tl : leave base xs (i + 1) e st = some r → ∃ j ls, r = .i .i64 j :: ls ∧ i ≤ j := fun h => by
   obtain ⟨j, ls, h1, h2⟩ := qjx h
   exact ⟨j, ls, h1, by omega⟩
  simp only [leave] at h
  cases hb : exBeq e' e with
  | false => rw [hb] at h; exact tl h
  | true =>
   rw [hb, cond_true] at h
   cases he : encC t (canon [] lv base st) with
   | none => rw [he] at h; exact tl h
   | some ls => rw [he] at h; cases h; exact ⟨i, ls, rfl, Int.le_refl _⟩
theorem qgl {α : Type} {k : Ex → St → Option α} {x : α} {r : List T} {st : St} {a : Act} (R : Rel w0 S0 nt st a w G) {e : Ex} : ∀ {xs : List (Ex × List Nat × CSt)} {i : Int}, leave base xs i e st = some r → come r k xs i = some x →
 ∃ st' G', k e st' = some x ∧ Rel w0 S0 nt st' a w G' ∧ base ≤ st'.n ∧ KeepB base G G' st.h st'.h
 | [], _, h, _ => by cases h
 | (e', lv, t) :: xs, i, h, hc => by
  have here : ∀ ls, exBeq e' e = true → encC t (canon [] lv base st) = some ls → r = .i .i64 i :: ls → k e' ((decC t r).st lv) = some x → ∃ st' G', k e st' = some x ∧ Rel w0 S0 nt st' a w G' ∧ base ≤ st'.n ∧ KeepB base G G' st.h st'.h := by
   intro ls hb he hr hk
   rw [qvq hb] at hk
   obtain ⟨G1, R1, L1, B1⟩ := qiv [] lv base R
   obtain ⟨G2, R2, L2, B2⟩ := qvw (base := base) he hr R1
   exact ⟨_, G2, hk, R2.rel, by show base ≤ (decC t r).h.length; rw [L2]; exact L1, B1.trans B2⟩
  have nxt : leave base xs (i + 1) e st = some r → ∃ st' G', k e st' = some x ∧ Rel w0 S0 nt st' a w G' ∧ base ≤ st'.n ∧ KeepB base G G' st.h st'.h := by
   intro hl
   cases xs with
   | nil => cases hl
   | cons y ys =>
    obtain ⟨j, ls, hr, hj⟩ := qjx hl
    refine qgl R hl ?_
    have hne : (asI (nth r 0) == i) = false := by
     rw [hr]
     simp only [nth, List.getD_cons_zero, asI]
     rw [beq_eq_false_iff_ne]
     omega
    simpa only [come, hne, cond_false] using hc
  simp only [leave] at h
  cases hb : exBeq e' e with
  | false => rw [hb] at h; exact nxt h
  | true =>
   rw [hb, cond_true] at h
   cases he : encC t (canon [] lv base st) with
   | none => rw [he] at h; exact nxt h
   | some ls =>
    rw [he] at h
    cases h
    refine here ls hb he rfl ?_
    cases xs with
    | nil => exact hc
    | cons y ys =>
     have hq : (asI (nth (T.i .i64 i :: ls) 0) == i) = true := by simp [nth, asI]
     simpa only [come, hq, cond_true] using hc
theorem qik {cd : Code} {ev : (α : Type) → St → (Ex → St → Option α) → Option α} (hev : qli P nt base cd ev) {co : List (Nat × Nat)} {lv : List Nat} {ex : List (Ex × List Nat × CSt)} {α : Type} {k : Ex → St → Option α} {x : α} {r : List T} (hc : come r k ex 0 = some x)
 {Q : Exit → Act → World → Prop} : ∀ (n : Nat) (c : CSt) (a : Act) (w : World) (G : Gh), loopK co lv ex base (ev (List T)) n c = some r → RelC w0 S0 nt c lv a w G → base ≤ c.h.length →
 (∀ e st' a' w' G', k e st' = some x → Rel w0 S0 nt st' a' w' G' → base ≤ st'.n → KeepB base G G' (atL c.h) st'.h → e ≠ .nrm → Q (qtp e) a' w') → Code.rounds P cd Q n a w
 | 0, _, _, _, _, h, _, _, _ => by cases h
 | n + 1, c, a, w, G, h, R, hb, hQ => by
  refine hev w0 S0 (List T) (c.st lv) _ r h a w G R.rel hb _ fun e st' a' w' G' he R' hb' K' => ?_
  cases e with
  | nrm =>
   obtain ⟨G1, R1, L1, B1⟩ := qiv co lv base R'
   exact qik hev hc n _ a' w' G1 he R1 L1 fun e st'' a'' w'' G'' h1 h2 h3 h4 hne => hQ e st'' a'' w'' G'' h1 h2 h3 ((K'.trans B1).trans h4) hne
  | ret =>
   obtain ⟨st'', G'', h1, h2, h3, h4⟩ := qgl R' he hc
   exact hQ .ret st'' a' w' G'' h1 h2 h3 (K'.trans h4) (by simp)
  | ex id =>
   obtain ⟨st'', G'', h1, h2, h3, h4⟩ := qgl R' he hc
   exact hQ (.ex id) st'' a' w' G'' h1 h2 h3 (K'.trans h4) (by simp)
end
end Go.Proofs.YtncfoonahkieoaaGreatDoorV
namespace Go.Proofs.YtncfoonahkieoaaGreatDoorV
section
variable {w0 w w' : World} {S0 : Nat → Prop} {G G' : Gh} {h h' : Hp} {base nt : Nat} {P : Program} {E : Env} {C : Orc} {I : (α : Type) → InlK α}
theorem qd1 (O : EnvOk P E) (Fs : FnsOk P E C I) (hD : qoh P E C I) {lf : Nat} {fi : Fi} {base : Nat} : ∀ (c : Code), qli P fi.fn.ntmps base c fun α st k => evK C I E lf fi base c α st k
 | .skip => fun w0 S0 α st k x h a w G R hb Q hQ => wp_skip (hQ .nrm st a w G h R hb (KeepB.refl _ _ _))
 | .label l => fun w0 S0 α st k x h a w G R hb Q hQ => wp_label (hQ .nrm st a w G h R hb (KeepB.refl _ _ _))
 | .ret => fun w0 S0 α st k x h a w G R hb Q hQ => wp_ret (hQ .ret st a w G h R hb (KeepB.refl _ _ _))
 | .exit id => fun w0 S0 α st k x h a w G R hb Q hQ => wp_exit (hQ (.ex id) st a w G h R hb (KeepB.refl _ _ _))
 | .region id ops draw => fun w0 S0 α st k x h a w G R hb Q hQ => by
  simp only [evK] at h
  cases hd : dstOk fi.fn.ntmps ops.toList with
  | false => rw [hd] at h; cases h
  | true =>
   rw [hd, cond_true] at h
   cases draw with
   | false => exact qsa (base := base) O Fs hd R h fun st' a' w' G' h1 h2 h3 h4 => hQ .nrm st' a' w' G' h1 h2 (Nat.le_trans hb h3) h4
   | true => exact hD α fi.fn.ntmps base w0 S0 id ops st _ x a w G Q hd h R fun st' a' w' G' h1 h2 h3 h4 => hQ .nrm st' a' w' G' h1 h2 (Nat.le_trans hb h3) h4
 | .seq c1 c2 => fun w0 S0 α st k x h a w G R hb Q hQ => by
  simp only [evK] at h
  refine wp_seq (qd1 O Fs hD c1 w0 S0 α st _ x h a w G R hb _ fun e st' a' w' G' he R' hb' K' => ?_)
  cases e with
  | nrm => exact qd1 O Fs hD c2 w0 S0 α st' k x he a' w' G' R' hb' Q fun e st'' a'' w'' G'' h1 h2 h3 h4 => hQ e st'' a'' w'' G'' h1 h2 h3 (K'.trans h4)
  | ret => exact hQ .ret st' a' w' G' he R' hb' K'
  | ex id => exact hQ (.ex id) st' a' w' G' he R' hb' K'
 | .cond cd c1 c2 => fun w0 S0 α st k x h a w G R hb Q hQ => by
  simp only [evK] at h
  have hv := qce (w := w) (G := G) (h := st.h) R.slots none cd
  cases hc : opd st.s none cd with
  | b t =>
   rw [hc] at h hv
   simp only at h
   refine wp_cond (t := t) hv ?_
   cases t with
   | true => exact qd1 O Fs hD c1 w0 S0 α st k x h a w G R hb Q hQ
   | false => exact qd1 O Fs hD c2 w0 S0 α st k x h a w G R hb Q hQ
  | _ => rw [hc] at h; cases h
 | .block id c => fun w0 S0 α st k x h a w G R hb Q hQ => by
  simp only [evK] at h
  refine wp_block (qd1 O Fs hD c w0 S0 α st _ x h a w G R hb _ fun e st' a' w' G' he R' hb' K' => ?_)
  cases e with
  | nrm => exact hQ .nrm st' a' w' G' he R' hb' K'
  | ret => exact hQ .ret st' a' w' G' he R' hb' K'
  | ex j =>
   simp only at he
   show (if j = id then Q .normal a' w' else Q (.exit j) a' w')
   cases hj : Nat.beq j id with
   | true =>
    rw [hj, cond_true] at he
    rw [if_pos (Nat.eq_of_beq_eq_true hj)]
    exact hQ .nrm st' a' w' G' he R' hb' K'
   | false =>
    rw [hj, cond_false] at he
    rw [if_neg (fun e => by subst e; rw [Nat.beq_refl] at hj; cases hj)]
    exact hQ (.ex j) st' a' w' G' he R' hb' K'
 | .loop c => fun w0 S0 α st k x h a w G R hb Q hQ => by
  simp only [evK] at h
  generalize qt0 fi c = lp at h
  obtain ⟨_, lv, co, cx⟩ := lp
  simp only at h
  cases hem : (qdq (canon co lv base st) cx).isEmpty with
  | true => rw [hem] at h; cases h
  | false =>
  rw [hem, cond_false] at h
  cases hr : loopK co lv (qdq (canon co lv base st) cx) base (fun st k => evK C I E lf fi base c (List T) st k) lf (canon co lv base st) with
  | none => rw [hr] at h; cases h
  | some r =>
   rw [hr, Option.bind_some] at h
   obtain ⟨G1, R1, L1, B1⟩ := qiv co lv base R
   refine wp_loop_rounds lf (qik (qd1 O Fs hD c) h lf _ a w G1 hr R1 L1 fun e st' a' w' G' h1 h2 h3 h4 _ => hQ e st' a' w' G' h1 h2 h3 (B1.trans h4))
 | .rangeFunc .. => fun w0 S0 α st k x h a w G R hb Q hQ => by cases h
 | .scope c => fun w0 S0 α st k x h a w G R hb Q hQ => by cases h
 | .goto l => fun w0 S0 α st k x h a w G R hb Q hQ => by cases h
 | .refuse r => fun w0 S0 α st k x h a w G R hb Q hQ => by cases h
end
end Go.Proofs.YtncfoonahkieoaaGreatDoorV
namespace Go.Proofs.YtncfoonahkieoaaGreatDoorV
def mix (D : Nat → Bool) (a b : Hp) : Hp := fun r => bif D r then a r else b r
def Stp.map (f : Hp → Hp) : Stp → Stp
 | .fail => .fail
 | .ret v h => .ret v (f h)
 | .chk b s => .chk b (s.map f)
 | .call g ts k => .call g ts fun r => ((k r).1, f (k r).2)
 | .inl g args => .inl g args
section
variable {D : Nat → Bool} {h g : Hp}
theorem qay {r : Nat} (hr : D r = true) : mix D h g r = h r := by simp [mix, hr]
theorem qe1 {r : Nat} (hr : D r = false) : mix D h g r = g r := by simp [mix, hr]
theorem qap {r : Nat} {x : Blk} (hr : D r = true) : upd (mix D h g) r x = mix D (upd h r x) g := by
 funext k
 by_cases e : k = r
 ·subst e; rw [upd_same, qay hr, upd_same]
 ·rw [upd_ne _ _ e]
  cases hk : D k with
  | true => rw [qay hk, qay hk, upd_ne _ _ e]
  | false => rw [qe1 hk, qe1 hk]
theorem qby {r : Nat} {p : Path} {v : Nat} (hr : D r = true) : rowAt (mix D h g) r p v = rowAt h r p v := by simp [rowAt, qay hr]
theorem qct {v : AV} (hv : inD D v = true) : cont (mix D h g) v = cont h v := by
 cases v with
 | rf r p w s => simp only [cont]; rw [qby (by simpa [inD] using hv)]
 | _ => rfl
theorem qkw {v : AV} (hv : inD D v = true) : slen (mix D h g) v = slen h v := by
 cases v with
 | rf r p w s => simp only [slen]; rw [qby (by simpa [inD] using hv)]
 | _ => rfl
theorem qsu {v : AV} (hv : inD D v = true) : holed (mix D h g) v = holed h v := by
 cases v with
 | rf r p w s => simp only [holed]; rw [qay (by simpa [inD] using hv)]
 | _ => rfl
theorem qfh {v : AV} {m : Bool} {cs : List CT} {l : List T} (hv : inD D v = true) : hchk (mix D h g) v m cs l = hchk h v m cs l := by simp [hchk, qsu hv]
theorem qie {r : Nat} {p : Path} (hr : D r = true) : killR (mix D h g) r p = mix D (killR h r p) g := by
 unfold killR
 rw [qay hr]
 cases h r with
 | dead => rfl
 | box _ => rfl
 | row m cs l v e =>
  simp only
  cases p.getLast? with
  | none => exact qap hr
  | some ij =>
   simp only
   cases navR p.dropLast m cs l with
   | none => exact qap hr
   | some x => exact qap hr
def mapSk (D : Nat → Bool) (g : Hp) {α β : Type} (x : α × Hp × β) : α × Hp × β := (x.1, mix D x.2.1 g, x.2.2)
theorem qhf {c : CT} {v : AV} (hv : inD D v = true) : sink (mix D h g) c v = (sink h c v).map (mapSk D g) := by
 cases c with
 | sl m cs =>
  simp only [sink]
  cases v with
  | nl _ _ => rfl
  | rf r p w s =>
   simp only
   rw [qct hv]
   cases cont h (.rf r p w s) with
   | none => rfl
   | some x =>
    obtain ⟨m', cs', l⟩ := x
    simp only
    rw [qie (by simpa [inD] using hv), qfh hv]
    cases CT.beq (.sl m cs) (.sl m' cs') <;> rfl
  | _ => rfl
 | b => simp only [sink]; cases scal .b v <;> rfl
 | i k => simp only [sink]; cases scal (.i k) v <;> rfl
 | s => simp only [sink]; cases scal .s v <;> rfl
 | o => simp only [sink]; cases scal .o v <;> rfl
theorem qib : ∀ {cs : List CT} {vs : List AV} {h : Hp}, inDs D vs = true → sinks (mix D h g) cs vs = (sinks h cs vs).map (mapSk D g)
 | [], [], _, _ => rfl
 | c :: cs, v :: vs, h, hv => by
  simp only [inDs, Bool.and_eq_true] at hv
  simp only [sinks]
  rw [qhf hv.1]
  cases sink h c v with
  | none => rfl
  | some x =>
   obtain ⟨t, h1, b⟩ := x
   simp only [Option.map_some, mapSk]
   rw [qib hv.2]
   cases sinks h1 cs vs with
   | none => rfl
   | some y => rfl
 | [], _ :: _, _, _ => rfl
 | _ :: _, [], _, _ => rfl
theorem qid {c : CT} {v : AV} (hv : inD D v = true) : readT (mix D h g) c v = readT h c v := by
 cases c with
 | sl m cs =>
  simp only [readT]
  rw [qct hv]
  cases cont h v with
  | none => rfl
  | some x =>
   obtain ⟨m', cs', l⟩ := x
   simp only [qfh hv]
 | _ => rfl
theorem qjz {v : AV} (hv : inD D v = true) : inDs D (qaf v) = true := by
 cases v with
 | ag cs => exact hv
 | _ => simp only [qaf, inDs, Bool.and_true]; exact hv
theorem qst {ti : Ti} {v : AV} (hv : inD D v = true) : loadV ti (mix D h g) v = loadV ti h v := by
 cases v with
 | bp r j => simp only [loadV]; rw [qay (by simpa [inD] using hv)]
 | rp r p w i j => simp only [loadV]; rw [qay (by simpa [inD] using hv), qby (by simpa [inD] using hv)]
 | _ => rfl
theorem qqw {ti : Ti} {v : AV} (hv : inD D v = true) : qju ti (mix D h g) v = qju ti h v := by
 cases v with
 | rp r p w i j => simp only [qju]; rw [qay (by simpa [inD] using hv), qby (by simpa [inD] using hv)]
 | _ => rfl
theorem qqu {ti : Ti} {a v : AV} (ha : inD D a = true) (hv : (∃ r j, a = .bp r j) ∨ inD D v = true) : qep ti (mix D h g) a v = (qep ti h a v).map fun x => (mix D x.1 g, x.2) := by
 cases a with
 | bp r j =>
  have hr : D r = true := by simpa [inD] using ha
  simp only [qep]
  rw [qay hr]
  cases h r with
  | dead => rfl
  | row _ _ _ _ _ => rfl
  | box cs =>
   simp only
   cases (Nat.beq (qaf v).length ti.cs.length && Nat.ble (j + ti.cs.length) cs.length && (qaf v).all isC) with
   | true => simp only [cond_true, Option.map_some, qap hr]
   | false => rfl
 | rp r p w i j =>
  have hr : D r = true := by simpa [inD] using ha
  have hv : inD D v = true := by
   rcases hv with ⟨_, _, e⟩ | e
   ·cases e
   ·exact e
  simp only [qep]
  rw [qib (qjz hv)]
  cases sinks h ti.cs (qaf v) with
  | none => rfl
  | some x =>
   obtain ⟨ts, h1, b⟩ := x
   simp only [Option.map_some, mapSk]
   rw [qay hr, qby hr]
   cases h1 r with
   | dead => rfl
   | box _ => rfl
   | row m cs l v' e =>
    simp only
    cases rowAt h1 r p w with
    | none => rfl
    | some y =>
     obtain ⟨m', cs', l'⟩ := y
     simp only
     cases qcn (qah cs' j ti.cs.length) ti.cs with
     | false => rfl
     | true => simp only [cond_true, Option.map_some, qap hr]
 | _ => rfl
theorem qm5 {v : AV} (hv : inD D v = true) : liveP (mix D h g) v = liveP h v := by
 cases v with
 | bp r j => simp only [liveP]; rw [qay (by simpa [inD] using hv)]
 | rp r p w i j => simp only [liveP]; rw [qby (by simpa [inD] using hv)]
 | _ => rfl
theorem qva {c : CT} {x i : AV} (hx : inD D x = true) : idxS (mix D h g) c x i = (idxS h c x i).map fun h => mix D h g := by
 cases i with
 | i k n =>
  simp only [idxS]
  cases x with
  | ro _ m cs l => simp only; cases CT.beq c (.sl m cs) <;> rfl
  | rf r p w s =>
   simp only
   rw [qkw hx, qby (by simpa [inD] using hx)]
   cases slen h (.rf r p w s) with
   | none => rfl
   | some n =>
    cases rowAt h r p w with
    | none => rfl
    | some y => obtain ⟨m, cs, _⟩ := y; simp only; cases CT.beq c (.sl m cs) <;> rfl
  | _ => rfl
 | _ => rfl
theorem qqv {c : CT} {x : AV} {lo hi : Option AV} (hx : inD D x = true) : qco (mix D h g) c x lo hi = (qco h c x lo hi).map fun h => mix D h g := by
 cases x with
 | s s =>
  simp only [qco]
  cases CT.beq c .s with
  | false => rfl
  | true =>
   simp only [cond_true]
   cases lo with
   | none => cases hi with
    | none => rfl
    | some u => simp only; cases natOf u <;> rfl
   | some l => cases hi with
    | none => simp only; cases natOf l <;> rfl
    | some u => simp only; cases natOf l <;> cases natOf u <;> rfl
 | rf r p w sub =>
  simp only [qco]
  rw [qkw hx, qby (by simpa [inD] using hx)]
  cases slen h (.rf r p w sub) with
  | none => rfl
  | some n =>
   cases rowAt h r p w with
   | none => rfl
   | some y =>
    obtain ⟨m, cs, _⟩ := y
    simp only
    cases CT.beq c (.sl m cs) with
    | false => rfl
    | true =>
     simp only [cond_true]
     cases lo with
     | none => cases hi with
      | none => rfl
      | some u => simp only; cases natOf u <;> rfl
     | some l => cases hi with
      | none => simp only; cases natOf l <;> rfl
      | some u => simp only; cases natOf l <;> cases natOf u <;> rfl
 | ro k m cs q =>
  simp only [qco]
  cases CT.beq c (.sl m cs) with
  | false => rfl
  | true =>
   simp only [cond_true]
   cases lo with
   | none => cases hi with
    | none => rfl
    | some u => simp only; cases natOf u <;> rfl
   | some l => cases hi with
    | none => simp only; cases natOf l <;> rfl
    | some u => simp only; cases natOf l <;> cases natOf u <;> rfl
 | nl m cs =>
  simp only [qco]
  cases CT.beq c (.sl m cs) with
  | false => rfl
  | true =>
   simp only [cond_true]
   cases lo with
   | none => cases hi with
    | none => rfl
    | some u => simp only; cases natOf u <;> rfl
   | some l => cases hi with
    | none => simp only; cases natOf l <;> rfl
    | some u => simp only; cases natOf l <;> cases natOf u <;> rfl
 | _ => rfl
end
end Go.Proofs.YtncfoonahkieoaaGreatDoorV
namespace Go.Proofs.YtncfoonahkieoaaGreatDoorV
section
variable {D : Nat → Bool} {h g : Hp}
theorem qqy {m : Bool} {cs : List CT} {x : AV} (hx : inD D x = true) : qdw (mix D h g) m cs x = (qdw h m cs x).map (mapSk D g) := by
 cases x with
 | s s =>
  simp only [qdw]
  split
  ·rfl
  ·rfl
 | nl m' cs' => simp only [qdw, cont]; cases CT.beq (.sl m cs) (.sl m' cs') <;> cases qaj cs <;> rfl
 | ro k m' cs' l => simp only [qdw, cont]; cases CT.beq (.sl m cs) (.sl m' cs') <;> cases qaj cs <;> rfl
 | rf r p w s =>
  have hr : D r = true := by simpa [inD] using hx
  simp only [qdw]
  rw [qct hx]
  cases cont h (.rf r p w s) with
  | none => rfl
  | some y =>
   obtain ⟨m', cs', l⟩ := y
   simp only
   cases CT.beq (.sl m cs) (.sl m' cs') with
   | false => rfl
   | true =>
    simp only [cond_true]
    cases qaj cs with
    | false => rfl
    | true =>
     simp only [cond_true]
     cases p with
     | cons _ _ => cases s <;> rfl
     | nil =>
      cases s with
      | none => simp only [Option.map_some, mapSk, qie hr, qfh hx]
      | some ok =>
       obtain ⟨o, k⟩ := ok
       simp only [qay hr]
       cases h r with
       | dead => rfl
       | box _ => rfl
       | row m1 cs1 q v e => simp only [Option.map_some, mapSk, qap hr, qfh hx]
 | _ => rfl
theorem qvc {n : Nat} {m : Bool} {cs : List CT} {d x : AV} (hn : D n = true) (hd : inD D d = true) (hx : inD D x = true) : appS n (mix D h g) m cs d x = (appS n h m cs d x).map fun h => mix D h g := by
 unfold appS
 rw [qqy hx]
 cases qdw h m cs x with
 | none => rfl
 | some y =>
  obtain ⟨xs, h1, b⟩ := y
  simp only [Option.map_some, mapSk]
  cases d with
  | nl _ _ => simp only [Stp.map, qap hn]
  | rf r p v sub =>
   have hr : D r = true := by simpa [inD] using hd
   simp only
   rw [qct hd]
   cases cont h1 (.rf r p v sub) with
   | none => rfl
   | some z =>
    obtain ⟨m', cs', l⟩ := z
    simp only
    cases CT.beq (.sl m cs) (.sl m' cs') with
    | false => rfl
    | true => simp only [cond_true, Stp.map, qfh hd, qie hr, qap hn]
  | _ => rfl
theorem qsv {ct : CT} {d x : AV} (hd : inD D d = true) (hx : inD D x = true) : copyS (mix D h g) ct d x = (copyS h ct d x).map fun h => mix D h g := by
 cases d with
 | rf r p v sub =>
  have hr : D r = true := by simpa [inD] using hd
  simp only [copyS]
  rw [qct hd, qay hr]
  cases cont h (.rf r p v sub) with
  | none => rfl
  | some z =>
   obtain ⟨m, cs, l⟩ := z
   cases h r with
   | dead => rfl
   | box _ => rfl
   | row m0 cs0 q w e =>
    simp only
    cases x with
    | s s =>
     simp only
     split
     ·cases (qaj cs || !(CT.beq ct (.sl m cs))) with
      | true => rfl
      | false => simp only [cond_false, Stp.map, qap hr]
     ·rfl
    | _ =>
     simp only [qct hx]
     split
     ·cases (qaj cs || !(CT.beq ct (.sl m cs))) with
      | true => rfl
      | false => simp only [cond_false, Stp.map, qap hr]
     ·rfl
 | _ => rfl
theorem qvb {n : Nat} (hn : D n = true) {m : Bool} {cs : List CT} {x : Int} : appZ n (mix D h g) m cs x = (appZ n h m cs x).map fun h => mix D h g := by
 unfold appZ
 cases cs.isEmpty with
 | true => rfl
 | false =>
  simp only [cond_false]
  split
  ·simp only [Stp.map, qap hn]
  ·rfl
theorem qqx {ct : CT} {d : AV} (hd : inD D d = true) : qk9 (mix D h g) ct d = (qk9 h ct d).map fun h => mix D h g := by
 cases d with
 | rf r p v sub =>
  have hr : D r = true := by simpa [inD] using hd
  simp only [qk9]
  rw [qct hd, qay hr]
  cases cont h (.rf r p v sub) with
  | none => rfl
  | some z =>
   obtain ⟨m, cs, l⟩ := z
   cases h r with
   | dead => rfl
   | box _ => rfl
   | row m0 cs0 q w e =>
    simp only
    split
    ·cases (qaj cs || !(CT.beq ct (.sl m cs))) with
     | true => rfl
     | false => simp only [cond_false, Stp.map, qap hr]
    ·rfl
 | _ => rfl
theorem qpo {vs : List AV} (hv : inDs D vs = true) : ∀ v ∈ vs, inD D v = true := by
 induction vs with
 | nil => intro v h; cases h
 | cons x xs ih =>
  simp only [inDs, Bool.and_eq_true] at hv
  intro v h
  rcases List.mem_cons.1 h with rfl | h
  ·exact hv.1
  ·exact ih hv.2 v h
theorem qjq {m : Bool} {cs : List CT} {z : T} : ∀ {k : Nat} {ps : List (Nat × AV)}, (∀ p ∈ ps, inD D p.2 = true) → qaq (mix D h g) m cs z k ps = (qaq h m cs z k ps).map (mapSk D g)
 | 0, [], _ => rfl
 | 0, _ :: _, _ => rfl
 | k + 1, ps, hp => by
  simp only [qaq]
  rw [qjq (k := k) (fun p hm => hp p (List.mem_filter.1 hm).1)]
  cases qaq h m cs z k (ps.filter fun p => Nat.blt p.1 k) with
  | none => rfl
  | some x =>
   obtain ⟨ts, h1, b⟩ := x
   simp only [Option.map_some, mapSk]
   cases hf : ps.find? fun p => Nat.beq p.1 k with
   | none => rfl
   | some iv =>
    obtain ⟨i, v⟩ := iv
    simp only
    rw [qib (qjz (hp (i, v) (List.mem_of_find?_eq_some hf)))]
    cases sinks h1 cs (qaf v) with
    | none => rfl
    | some y =>
     obtain ⟨xs, h2, b'⟩ := y
     simp only [Option.map_some, mapSk]
     cases elem m xs <;> rfl
def Clo (D : Nat → Bool) (h : Hp) : Prop := ∀ r cs, D r = true → h r = .box cs → inDs D cs = true
theorem Clo.less {h' : Hp} (H : Clo D h) (hb : ∀ r cs, h' r = .box cs → h r = .box cs) : Clo D h' := fun r cs hr e => H r cs hr (hb r cs e)
theorem qij {fz : Bool} {p : PD} {v : AV} (hv : inD D v = true) : qa7 fz (mix D h g) p v = (qa7 fz h p v).map (mapSk D g) := by
 cases p with
 | v c => simp only [qa7]; cases scal c v <;> rfl
 | ro c =>
  have rd : (match readT (mix D h g) c v with | some (t, b) => (some (t, mix D h g, b, []) : Option (T × Hp × Bool × List (Nat × Path × Blk))) | none => none) = (match readT h c v with | some (t, b) => (some (t, h, b, []) : Option (T × Hp × Bool × List (Nat × Path × Blk))) | none => none).map (mapSk D g) := by
   rw [qid hv]
   cases readT h c v with
   | none => rfl
   | some x => rfl
  cases v with
  | rf r q w s =>
   cases fz with
   | true =>
    simp only [qa7]
    rw [qhf hv]
    cases sink h c (.rf r q w s) with
    | none => rfl
    | some x => rfl
   | false => exact rd
  | _ => cases fz <;> exact rd
 | mv c =>
  simp only [qa7]
  rw [qhf hv]
  cases sink h c v with
  | none => rfl
  | some x => rfl
 | ow c =>
  cases v with
  | rf r q w s =>
   have hr : D r = true := by simpa [inD] using hv
   cases s with
   | none =>
    simp only [qa7]
    rw [qid hv, qay hr]
    cases readT h c (.rf r q w none) with
    | none => rfl
    | some x => simp only [Option.map_some, mapSk, qap hr]
   | some _ => rfl
  | _ => rfl
 | fn f => simp only [qa7]; split <;> first | rfl | (split <;> rfl)
 | ag l => rfl
 | bx l => rfl
theorem qih {fz : Bool} : ∀ {ps : List PD} {vs : List AV} {h : Hp}, inDs D vs = true → qai fz (mix D h g) ps vs = (qai fz h ps vs).map (mapSk D g)
 | [], [], _, _ => rfl
 | p :: ps, v :: vs, h, hv => by
  simp only [inDs, Bool.and_eq_true] at hv
  simp only [qai]
  rw [qij hv.1]
  cases qa7 fz h p v with
  | none => rfl
  | some x =>
   obtain ⟨t, h1, b, rs⟩ := x
   simp only [Option.map_some, mapSk]
   rw [qih hv.2]
   cases qai fz h1 ps vs with
   | none => rfl
   | some y => rfl
 | [], _ :: _, _, _ => rfl
 | _ :: _, [], _, _ => rfl
theorem qnm {fz : Bool} {p : PD} {v : AV} (hv : inD D v = true) : qas fz (mix D h g) p v = (qas fz h p v).map (mapSk D g) := by
 cases p with
 | v c => simp only [qas]; cases scal c v <;> rfl
 | ro c =>
  have rd : (match readT (mix D h g) c v with | some (t, b) => (some (t, mix D h g, b) : Option (T × Hp × Bool)) | none => none) = (match readT h c v with | some (t, b) => some (t, h, b) | none => none).map (mapSk D g) := by
   rw [qid hv]
   cases readT h c v with
   | none => rfl
   | some x => rfl
  cases v with
  | rf r q w s =>
   cases fz with
   | true => rfl
   | false => exact rd
  | _ => cases fz <;> exact rd
 | ow c => exact qhf hv
 | mv c => rfl
 | fn f => rfl
 | ag l => rfl
 | bx l => rfl
theorem qif {fz : Bool} : ∀ {ps : List PD} {vs : List AV} {h : Hp}, inDs D vs = true → qar fz (mix D h g) ps vs = (qar fz h ps vs).map (mapSk D g)
 | [], [], _, _ => rfl
 | p :: ps, v :: vs, h, hv => by
  simp only [inDs, Bool.and_eq_true] at hv
  simp only [qar]
  rw [qnm hv.1]
  cases qas fz h p v with
  | none => rfl
  | some x =>
   obtain ⟨t, h1, b⟩ := x
   simp only [Option.map_some, mapSk]
   rw [qif hv.2]
   cases qar fz h1 ps vs with
   | none => rfl
   | some y => rfl
 | [], _ :: _, _, _ => rfl
 | _ :: _, [], _, _ => rfl
theorem qg5 {fz : Bool} {h' : Hp} {p : PD} {v : AV} {t : T} {b : Bool} {rs : List (Nat × Path × Blk)} (hs : qa7 fz h p v = some (t, h', b, rs)) {r : Nat} {cs : List AV} (hr : h' r = .box cs) : h r = .box cs := by
 have snk : ∀ {c : CT}, (match sink h c v with | some (t, h, b) => (some (t, h, b, []) : Option (T × Hp × Bool × List (Nat × Path × Blk))) | none => none) = some (t, h', b, rs) → h r = .box cs := by
  intro c hs
  cases e : sink h c v with
  | none => rw [e] at hs; cases hs
  | some x => obtain ⟨t1, h1, b1⟩ := x; rw [e] at hs; cases hs; exact qd5 e hr
 have rd : ∀ {c : CT}, (match readT h c v with | some (t, b) => (some (t, h, b, []) : Option (T × Hp × Bool × List (Nat × Path × Blk))) | none => none) = some (t, h', b, rs) → h r = .box cs := by
  intro c hs
  cases e : readT h c v with
  | none => rw [e] at hs; cases hs
  | some x => obtain ⟨t1, b1⟩ := x; rw [e] at hs; cases hs; exact hr
 cases p with
 | v c => simp only [qa7] at hs; split at hs <;> cases hs; exact hr
 | ro c => cases v with
  | rf r1 q w s => cases fz with
   | true => exact snk hs
   | false => exact rd hs
  | _ => cases fz <;> exact rd hs
 | mv c => exact snk hs
 | fn f => obtain ⟨_, _, rfl, _, _⟩ := qde hs; exact hr
 | ow c => cases v with
  | rf r1 q w s => cases s with
   | none =>
    simp only [qa7] at hs
    cases e : readT h c (.rf r1 q w none) with
    | none => rw [e] at hs; cases hs
    | some x =>
     obtain ⟨t1, b1⟩ := x
     rw [e] at hs
     cases hs
     by_cases e2 : r = r1
     ·subst e2; rw [upd_same] at hr; cases hr
     ·rw [upd_ne _ _ e2] at hr; exact hr
   | some _ => cases hs
  | _ => cases hs
 | ag l => cases hs
 | bx l => cases hs
theorem qg3 {fz : Bool} : ∀ {ps : List PD} {vs : List AV} {h h' : Hp} {ts : List T} {b : Bool} {rs : List (Nat × Path × Blk)}, qai fz h ps vs = some (ts, h', b, rs) → ∀ {r : Nat} {cs : List AV}, h' r = .box cs → h r = .box cs
 | [], [], _, _, _, _, _, hs, _, _, hr => by cases hs; exact hr
 | p :: ps, v :: vs, h, h', ts, b, rs, hs, r, cs, hr => by
  simp only [qai] at hs
  cases h1 : qa7 fz h p v with
  | none => rw [h1] at hs; cases hs
  | some x =>
   obtain ⟨t, hh, b1, rs1⟩ := x
   rw [h1] at hs
   simp only at hs
   cases h2 : qai fz hh ps vs with
   | none => rw [h2] at hs; cases hs
   | some y =>
    obtain ⟨ts', h'', b2, rs2⟩ := y
    rw [h2] at hs
    cases hs
    exact qg5 h1 (qg3 h2 hr)
 | [], _ :: _, _, _, _, _, _, hs, _, _, _ => by cases hs
 | _ :: _, [], _, _, _, _, _, hs, _, _, _ => by cases hs
theorem qlf {fz : Bool} {h' : Hp} {p : PD} {v : AV} {t : T} {b : Bool} (hs : qas fz h p v = some (t, h', b)) {r : Nat} {cs : List AV} (hr : h' r = .box cs) : h r = .box cs := by
 have rd : ∀ {c : CT}, (match readT h c v with | some (t, b) => (some (t, h, b) : Option (T × Hp × Bool)) | none => none) = some (t, h', b) → h r = .box cs := by
  intro c hs
  cases e : readT h c v with
  | none => rw [e] at hs; cases hs
  | some x => obtain ⟨t1, b1⟩ := x; rw [e] at hs; cases hs; exact hr
 cases p with
 | v c => simp only [qas] at hs; split at hs <;> cases hs; exact hr
 | ro c => cases v with
  | rf r1 q w s => cases fz with
   | true => cases hs
   | false => exact rd hs
  | _ => cases fz <;> exact rd hs
 | ow c => exact qd5 hs hr
 | mv c => cases hs
 | fn f => cases hs
 | ag l => cases hs
 | bx l => cases hs
theorem qg0 {fz : Bool} : ∀ {ps : List PD} {vs : List AV} {h h' : Hp} {ts : List T} {b : Bool}, qar fz h ps vs = some (ts, h', b) → ∀ {r : Nat} {cs : List AV}, h' r = .box cs → h r = .box cs
 | [], [], _, _, _, _, hs, _, _, hr => by cases hs; exact hr
 | p :: ps, v :: vs, h, h', ts, b, hs, r, cs, hr => by
  simp only [qar] at hs
  cases h1 : qas fz h p v with
  | none => rw [h1] at hs; cases hs
  | some x =>
   obtain ⟨t, hh, b1⟩ := x
   rw [h1] at hs
   simp only at hs
   cases h2 : qar fz hh ps vs with
   | none => rw [h2] at hs; cases hs
   | some y =>
    obtain ⟨ts', h'', b2⟩ := y
    rw [h2] at hs
    cases hs
    exact qlf h1 (qg0 h2 hr)
 | [], _ :: _, _, _, _, _, hs, _, _, _ => by cases hs
 | _ :: _, [], _, _, _, _, hs, _, _, _ => by cases hs
end
end Go.Proofs.YtncfoonahkieoaaGreatDoorV
namespace Go.Proofs.YtncfoonahkieoaaGreatDoorV
def outC (x : T × Hp × Bool × List (Nat × Path × Blk) × List (Nat × List PD × List AV)) (o : Out) : Out := ⟨x.1 :: o.ts, o.h, x.2.2.1 && o.b, x.2.2.2.1 ++ o.rows, x.2.2.2.2 ++ o.boxes⟩
section
variable {D : Nat → Bool} {h g : Hp} {fz : Bool}
theorem qen {p : PD} {ps : List PD} {v : AV} {vs : List AV} : qaa fz h (p :: ps) (v :: vs) =
 (qab fz h p v).bind fun x => (qaa fz x.2.1 ps vs).map (outC x) := by
 have flat : (match qa7 fz h p v with
  | some (t, h, b, rs) => match qaa fz h ps vs with | some o => some (⟨t :: o.ts, o.h, b && o.b, rs ++ o.rows, o.boxes⟩ : Out) | none => none
  | none => none) = (match qa7 fz h p v with | some (t, h, b, rs) => some (t, h, b, rs, ([] : List (Nat × List PD × List AV))) | none => none).bind fun x => (qaa fz x.2.1 ps vs).map (outC x) := by
  cases qa7 fz h p v with
  | none => rfl
  | some x =>
   obtain ⟨t, hh, b, rs⟩ := x
   simp only [Option.bind_some]
   cases qaa fz hh ps vs <;> rfl
 cases p with
 | v c => exact flat
 | ro c => exact flat
 | ow c => exact flat
 | mv c => exact flat
 | fn f => exact flat
 | ag l =>
  cases v with
  | ag cs =>
   simp only [qaa, qab]
   cases qai fz h l cs with
   | none => rfl
   | some x =>
    obtain ⟨ts, hh, b, rs⟩ := x
    simp only [Option.bind_some]
    cases qaa fz hh ps vs <;> rfl
  | _ => rfl
 | bx l =>
  cases v with
  | bp r j =>
   cases j with
   | zero =>
    simp only [qaa, qab]
    cases h r with
    | dead => rfl
    | row _ _ _ _ _ => rfl
    | box cs =>
     simp only
     cases qar fz h l cs with
     | none => rfl
     | some x =>
      obtain ⟨ts, hh, b⟩ := x
      simp only [Option.bind_some]
      cases qaa fz (upd hh r .dead) ps vs <;> rfl
   | succ j => rfl
  | _ => rfl
theorem qg4 {h' : Hp} {p : PD} {v : AV} {t : T} {b : Bool} {rs : List (Nat × Path × Blk)} {bx : List (Nat × List PD × List AV)} (hs : qab fz h p v = some (t, h', b, rs, bx)) {r : Nat} {cs : List AV} (hr : h' r = .box cs) : h r = .box cs := by
 have flat : (match qa7 fz h p v with | some (t, h, b, rs) => some (t, h, b, rs, ([] : List (Nat × List PD × List AV))) | none => none) = some (t, h', b, rs, bx) → h r = .box cs := by
  intro hs
  cases h1 : qa7 fz h p v with
  | none => rw [h1] at hs; cases hs
  | some x => obtain ⟨t1, hh, b1, rs1⟩ := x; rw [h1] at hs; cases hs; exact qg5 h1 hr
 cases p with
 | v c => exact flat hs
 | ro c => exact flat hs
 | ow c => exact flat hs
 | mv c => exact flat hs
 | fn f => exact flat hs
 | ag l =>
  cases v with
  | ag ds =>
   simp only [qab] at hs
   cases h1 : qai fz h l ds with
   | none => rw [h1] at hs; cases hs
   | some x => obtain ⟨t1, hh, b1, rs1⟩ := x; rw [h1] at hs; cases hs; exact qg3 h1 hr
  | _ => cases hs
 | bx l =>
  cases v with
  | bp r1 j =>
   cases j with
   | zero =>
    simp only [qab] at hs
    cases h0 : h r1 with
    | dead => rw [h0] at hs; cases hs
    | row _ _ _ _ _ => rw [h0] at hs; cases hs
    | box ds =>
     rw [h0] at hs
     simp only at hs
     cases h1 : qar fz h l ds with
     | none => rw [h1] at hs; cases hs
     | some x =>
      obtain ⟨t1, hh, b1⟩ := x
      rw [h1] at hs
      cases hs
      by_cases e2 : r = r1
      ·subst e2; rw [upd_same] at hr; cases hr
      ·rw [upd_ne _ _ e2] at hr; exact qg0 h1 hr
   | succ j => cases hs
  | _ => cases hs
mutual
theorem qb7 {A : Nat → Bool} (hA : ∀ r, A r = true → D r = true) : ∀ (v : AV), inD A v = true → inD D v = true
 | .rf r _ _ _, h => hA r h
 | .bp r _, h => hA r h
 | .rp r _ _ _ _, h => hA r h
 | .ag cs, h => qck hA cs h
 | .tu cs, h => qck hA cs h
 | .fn _ cs, h => qck hA cs h
 | .z, _ => rfl
 | .u, _ => rfl
 | .un, _ => rfl
 | .b _, _ => rfl
 | .i _ _, _ => rfl
 | .s _, _ => rfl
 | .nl _ _, _ => rfl
 | .ro _ _ _ _, _ => rfl
 | .cp _ _ _ _, _ => rfl
 | .np, _ => rfl
theorem qck {A : Nat → Bool} (hA : ∀ r, A r = true → D r = true) : ∀ (vs : List AV), inDs A vs = true → inDs D vs = true
 | [], _ => rfl
 | v :: vs, h => by
  simp only [inDs, Bool.and_eq_true] at h ⊢
  exact ⟨qb7 hA v h.1, qck hA vs h.2⟩
end
theorem qii {A : Nat → Bool} (hA : ∀ r, A r = true → D r = true) {p : PD} {v : AV} (hv' : inD A v = true) (hc : Clo A h) : qab fz (mix D h g) p v = (qab fz h p v).map (mapSk D g) := by
 have hv := qb7 hA v hv'
 have flat : (match qa7 fz (mix D h g) p v with | some (t, h, b, rs) => some (t, h, b, rs, ([] : List (Nat × List PD × List AV))) | none => none) = Option.map (mapSk D g) (match qa7 fz h p v with | some (t, h, b, rs) => some (t, h, b, rs, ([] : List (Nat × List PD × List AV))) | none => none) := by
  rw [qij hv]
  cases qa7 fz h p v with
  | none => rfl
  | some x => rfl
 cases p with
 | v c => exact flat
 | ro c => exact flat
 | ow c => exact flat
 | mv c => exact flat
 | fn f => exact flat
 | ag l =>
  cases v with
  | ag cs =>
   simp only [qab]
   rw [qih (show inDs D cs = true from hv)]
   cases qai fz h l cs with
   | none => rfl
   | some x => rfl
  | _ => rfl
 | bx l =>
  cases v with
  | bp r j =>
   have hr : D r = true := by simpa [inD] using hv
   cases j with
   | zero =>
    simp only [qab]
    rw [qay hr]
    cases h0 : h r with
    | dead => rfl
    | row _ _ _ _ _ => rfl
    | box cs =>
     simp only
     rw [qif (qck hA cs (hc r cs (by simpa [inD] using hv') h0))]
     cases qar fz h l cs with
     | none => rfl
     | some x => simp only [Option.map_some, mapSk, qap hr]
   | succ j => rfl
  | _ => rfl
def Out.mix (D : Nat → Bool) (g : Hp) (o : Out) : Out := ⟨o.ts, Go.Proofs.YtncfoonahkieoaaGreatDoorV.mix D o.h g, o.b, o.rows, o.boxes⟩
theorem qig {A : Nat → Bool} (hA : ∀ r, A r = true → D r = true) : ∀ {ps : List PD} {vs : List AV} {h : Hp}, inDs A vs = true → Clo A h → qaa fz (mix D h g) ps vs = (qaa fz h ps vs).map (Out.mix D g)
 | [], [], _, _, _ => rfl
 | p :: ps, v :: vs, h, hv, hc => by
  simp only [inDs, Bool.and_eq_true] at hv
  rw [qen, qen, qii hA hv.1 hc]
  cases h1 : qab fz h p v with
  | none => rfl
  | some x =>
   obtain ⟨t, hh, b, rs, bx⟩ := x
   simp only [Option.map_some, Option.bind_some, mapSk]
   rw [qig hA hv.2 (hc.less fun r cs e => qg4 h1 e)]
   cases qaa fz hh ps vs with
   | none => rfl
   | some o => rfl
 | [], _ :: _, _, _, _ => rfl
 | p :: _, [], _, _, _ => by cases p <;> rfl
theorem qic {h0 g0 : Hp} {p : PD} {v : AV} (hv : inD D v = true) : qbh (mix D h0 g0) (mix D h g) p v = qbh h0 h p v := by
 cases p with
 | ro c => cases v with
  | rf r q w s => simp only [qbh]; rw [qay (by simpa [inD] using hv), qay (by simpa [inD] using hv)]
  | _ => rfl
 | _ => cases v <;> rfl
theorem qf1 {h0 g0 : Hp} : ∀ {ps : List PD} {vs : List AV}, inDs D vs = true → qbm (mix D h0 g0) (mix D h g) ps vs = qbm h0 h ps vs
 | [], _, _ => by simp only [qbm]
 | _ :: _, [], _ => by simp only [qbm]
 | p :: ps, v :: vs, hv => by
  simp only [inDs, Bool.and_eq_true] at hv
  simp only [qbm, qic hv.1, qf1 hv.2]
theorem qnl {A : Nat → Bool} (hA : ∀ r, A r = true → D r = true) {h0 g0 : Hp} {p : PD} {v : AV} (hv' : inD A v = true) (hc : Clo A h0) : qac (mix D h0 g0) (mix D h g) [p] [v] = qac h0 h [p] [v] := by
 have hv := qb7 hA v hv'
 have flat : ∀ {p : PD}, qbh (mix D h0 g0) (mix D h g) p v = qbh h0 h p v := fun {p} => qic hv
 cases p with
 | ag l => cases v with
  | ag cs => simp only [qac, qf1 (show inDs D cs = true from hv)]
  | _ => simp only [qac, flat]
 | bx l => cases v with
  | bp r j =>
   have hr : D r = true := by simpa [inD] using hv
   simp only [qac, qay hr]
   cases h1 : h0 r with
   | box cs => simp only [qf1 (qck hA cs (hc r cs (by simpa [inD] using hv') h1))]
   | _ => rfl
  | _ => simp only [qac, flat]
 | v c => simp only [qac, flat]
 | ro c => simp only [qac, flat]
 | ow c => simp only [qac, flat]
 | mv c => simp only [qac, flat]
 | fn f => simp only [qac, flat]
theorem qjp {A : Nat → Bool} (hA : ∀ r, A r = true → D r = true) {h0 g0 : Hp} : ∀ {ps : List PD} {vs : List AV}, inDs A vs = true → Clo A h0 → qac (mix D h0 g0) (mix D h g) ps vs = qac h0 h ps vs
 | [], _, _, _ => by simp only [qac]
 | p :: _, [], _, _ => by cases p <;> simp only [qac]
 | p :: ps, v :: vs, hv, hc => by
  simp only [inDs, Bool.and_eq_true] at hv
  rw [qet, qet (h0 := h0), qnl hA hv.1 hc, qjp hA hv.2 hc]
theorem qm6 {n k : Nat} {p : PD} {t : T} (hm : mvOk1 false p = true) (hn : D n = true) : back1 (mix D h g) n k p t = ((back1 h n k p t).1, mix D (back1 h n k p t).2 g) := by
 cases p with
 | ow c => cases c with
  | sl m cs => simp only [back1, qap hn]
  | _ => rfl
 | mv c => cases hm
 | fn f => rfl
 | ro c => cases c <;> rfl
 | _ => rfl
theorem qfi {t : T} : ∀ {ps : List PD} {h : Hp} {n j : Nat}, ps.all (mvOk1 false) = true → (∀ r, n ≤ r → r < n + ps.length → D r = true) → backs (mix D h g) n false ps t j = ((backs h n false ps t j).1, mix D (backs h n false ps t j).2 g)
 | [], _, _, _, _, _ => rfl
 | p :: ps, h, n, j, hm, hn => by
  rw [List.all_cons, Bool.and_eq_true] at hm
  simp only [List.length_cons] at hn
  simp only [backs]
  rw [qm6 hm.1 (hn n (Nat.le_refl _) (by omega)), qfi hm.2 (fun r h1 h2 => hn r (by omega) (by omega))]
theorem qsy {n : Nat} {p : PD} {t : T} (hm : mvOk false p = true) (hn : ∀ r, n ≤ r → r < n + wide p → D r = true) : backR (mix D h g) n false p t = ((backR h n false p t).1, mix D (backR h n false p t).2 g) := by
 have flat : ∀ {p : PD}, mvOk1 false p = true → wide p = 1 → (∀ r, n ≤ r → r < n + wide p → D r = true) → back1 (mix D h g) n 0 p t = ((back1 h n 0 p t).1, mix D (back1 h n 0 p t).2 g) := fun {p} hm hw hn => qm6 hm (hn n (Nat.le_refl _) (by omega))
 cases p with
 | ag l => simp only [backR]; rw [qfi hm hn]
 | bx l =>
  simp only [wide] at hn
  simp only [backR]
  rw [qfi (n := n + 1) hm (fun r h1 h2 => hn r (by omega) (by omega))]
  simp only [qap (hn n (Nat.le_refl _) (by omega))]
 | v c => exact flat (p := .v c) hm rfl hn
 | ro c => exact flat (p := .ro c) hm rfl hn
 | ow c => exact flat (p := .ow c) hm rfl hn
 | mv c => exact flat (p := .mv c) hm rfl hn
 | fn f => exact flat (p := .fn f) hm rfl hn
theorem qgk {rr : List T} : ∀ {ps : List PD} {h : Hp} {n i : Nat}, ps.all (mvOk false) = true → (∀ r, n ≤ r → r < n + (ps.map wide).sum → D r = true) → qb2 (mix D h g) n false ps rr i = ((qb2 h n false ps rr i).1, mix D (qb2 h n false ps rr i).2 g)
 | [], _, _, _, _, _ => rfl
 | p :: ps, h, n, i, hm, hn => by
  rw [List.all_cons, Bool.and_eq_true] at hm
  simp only [List.map_cons, List.sum_cons] at hn
  simp only [qb2]
  rw [qsy hm.1 (fun r h1 h2 => hn r h1 (by omega)), qgk hm.2 (fun r h1 h2 => hn r (by omega) (by omega))]
theorem qbx {rr : List T} : ∀ {xs : List (Nat × Path × Blk)} {h : Hp} {i : Nat}, (∀ x ∈ xs, D x.1 = true) → qbd (mix D h g) rr xs i = mix D (qbd h rr xs i) g
 | [], _, _, _ => rfl
 | (k, p, b) :: xs, h, i, hx => by
  have hk : D k = true := hx _ (List.mem_cons_self ..)
  cases b with
  | row m cs c v e =>
   simp only [qbd]
   rw [qap hk, qbx fun x hm => hx x (List.mem_cons_of_mem _ hm)]
  | dead => exact qbx (xs := xs) fun x hm => hx x (List.mem_cons_of_mem _ hm)
  | box _ => exact qbx (xs := xs) fun x hm => hx x (List.mem_cons_of_mem _ hm)
theorem qdj {rr : List T} : ∀ {xs : List (Nat × List PD × List AV)} {h : Hp} {n i : Nat}, (∀ x ∈ xs, D x.1 = true ∧ x.2.1.all (mvOk1 false) = true) → (∀ r, n ≤ r → r < n + (xs.map fun b => b.2.1.length).sum → D r = true) → qbb (mix D h g) n rr xs i = mix D (qbb h n rr xs i) g
 | [], _, _, _, _, _ => rfl
 | (k, l, cs) :: xs, h, n, i, hx, hn => by
  have hk := hx _ (List.mem_cons_self ..)
  simp only [List.map_cons, List.sum_cons] at hn
  simp only [qbb]
  rw [qfi hk.2 (fun r h1 h2 => hn r h1 (by simp only at h2; omega))]
  simp only [qap hk.1]
  rw [qdj (fun x hm => hx x (List.mem_cons_of_mem _ hm)) (fun r h1 h2 => hn r (by omega) (by omega))]
end
end Go.Proofs.YtncfoonahkieoaaGreatDoorV
