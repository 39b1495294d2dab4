import PyProof.Rows.All
import Wide.All
import OpenK.AllK
import Wide.FinOn
import HandS.ForMost
import HandS.ForExc
import HandS.TupAny
import HandS.Gcd
import HandS.Wide
import HandS.IsInst
import HandS.TryMany
import HandS.Zip
import HandS.Deep
import HandS.RaiseMore
import PyProof.Rows.InDataRows
import KE.GoesEnum
import HandS.Star
import HandS.Codes
import PySem.Challenge.RW_cushioned_k59_never_texts
set_option Elab.async false
set_option linter.all false
set_option maxRecDepth 100000
set_option maxHeartbeats 4000000
/-! DL1: what Python values are as data (D), how the abstract heap bears them (Rp), the state told by data (Mt), the judgements RE, RL, RT, WS. -/
namespace DL
open PySem PySem.Spec PyProof.Rows L2

/-! ### data -/
inductive D where
  | non | bl (b : Bool) | int (i : Int) | str (x : Str) | tup (xs : List D) | lst (xs : List D) | ins (C : Addr) (fs : List (Str × D))

mutual
inductive Rp (K : PySem.W.Frag) (F : Hp) : V → D → Prop
  | non : Rp K F .non .non
  | bl (b : Bool) : Rp K F (.bl b) (.bl b)
  | int (i : Int) : Rp K F (.int i) (.int i)
  | str (x : Str) : Rp K F (.str x) (.str x)
  | tup {a : Addr} {xs : List V} {ds : List D} : SqT K F a xs → RpL K F xs ds → Rp K F (.ref a) (.tup ds)
  | lst {a : Addr} {xs : List V} {ds : List D} : SqL K F a xs → RpL K F xs ds → Rp K F (.ref a) (.lst ds)
  | ins {a C dx : Addr} {fs : List (Str × V)} {ds : List (Str × D)} : F a = some (.ins C dx fs) → RpF K F fs ds → Rp K F (.ref a) (.ins C ds)
inductive RpL (K : PySem.W.Frag) (F : Hp) : List V → List D → Prop
  | nil : RpL K F [] []
  | cons {v : V} {d : D} {vs : List V} {ds : List D} : Rp K F v d → RpL K F vs ds → RpL K F (v :: vs) (d :: ds)
inductive RpF (K : PySem.W.Frag) (F : Hp) : List (Str × V) → List (Str × D) → Prop
  | nil : RpF K F [] []
  | cons {f : Str} {v : V} {d : D} {vs : List (Str × V)} {ds : List (Str × D)} : Rp K F v d → RpF K F vs ds → RpF K F ((f, v) :: vs) ((f, d) :: ds)
end

theorem same_rd {H H' : Hp} {a : Addr} {u : HO} (e : Same H H') (h : Rd H a u) : Rd H' a u :=
  h.elim (fun q => .inl (e _ _ q)) fun ⟨o, q⟩ => .inr ⟨o, e _ _ q⟩
theorem same_sqL {K : PySem.W.Frag} {H H' : Hp} {a : Addr} {xs : List V} (e : Same H H') (h : SqL K H a xs) : SqL K H' a xs := h.imp (same_rd e) id
theorem same_sqT {K : PySem.W.Frag} {H H' : Hp} {a : Addr} {xs : List V} (e : Same H H') (h : SqT K H a xs) : SqT K H' a xs := h.imp (same_rd e) id
mutual
theorem Rp.mono {K : PySem.W.Frag} {F F' : Hp} (e : Same F F') : ∀ {v : V} {d : D}, Rp K F v d → Rp K F' v d
  | _, _, .non => .non
  | _, _, .bl b => .bl b
  | _, _, .int b => .int b
  | _, _, .str b => .str b
  | _, _, .tup h r => .tup (same_sqT e h) (RpL.mono e r)
  | _, _, .lst h r => .lst (same_sqL e h) (RpL.mono e r)
  | _, _, .ins h r => .ins (e _ _ h) (RpF.mono e r)
theorem RpL.mono {K : PySem.W.Frag} {F F' : Hp} (e : Same F F') : ∀ {v : List V} {d : List D}, RpL K F v d → RpL K F' v d
  | _, _, .nil => .nil
  | _, _, .cons h r => .cons (Rp.mono e h) (RpL.mono e r)
theorem RpF.mono {K : PySem.W.Frag} {F F' : Hp} (e : Same F F') : ∀ {v : List (Str × V)} {d : List (Str × D)}, RpF K F v d → RpF K F' v d
  | _, _, .nil => .nil
  | _, _, .cons h r => .cons (Rp.mono e h) (RpF.mono e r)
end
section
variable {K : PySem.W.Frag} {F : Hp}
theorem RpL.len : ∀ {vs : List V} {ds : List D}, RpL K F vs ds → vs.length = ds.length
  | _, _, .nil => rfl
  | _, _, .cons _ r => congrArg Nat.succ r.len
theorem RpL.get : ∀ {vs : List V} {ds : List D} {i : Nat} {d : D}, RpL K F vs ds → ds[i]? = some d → ∃ v, vs[i]? = some v ∧ Rp K F v d
  | _, _, _, _, .nil, e => by simp at e
  | _, _, 0, _, .cons h _, e => by simp at e; subst e; exact ⟨_, rfl, h⟩
  | _, _, i + 1, _, .cons _ r, e => by
    obtain ⟨v, h1, h2⟩ := RpL.get (i := i) r (by simpa using e)
    exact ⟨v, by simpa using h1, h2⟩
theorem RpL.app : ∀ {vs ws : List V} {ds es : List D}, RpL K F vs ds → RpL K F ws es → RpL K F (vs ++ ws) (ds ++ es)
  | _, _, _, _, .nil, s => s
  | _, _, _, _, .cons h r, s => .cons h (RpL.app r s)
theorem RpL.take : ∀ {vs : List V} {ds : List D} (n : Nat), RpL K F vs ds → RpL K F (vs.take n) (ds.take n)
  | _, _, 0, _ => .nil
  | _, _, _ + 1, .nil => .nil
  | _, _, n + 1, .cons h r => .cons h (RpL.take n r)
theorem RpL.drop : ∀ {vs : List V} {ds : List D} (n : Nat), RpL K F vs ds → RpL K F (vs.drop n) (ds.drop n)
  | _, _, 0, r => r
  | _, _, _ + 1, .nil => .nil
  | _, _, n + 1, .cons _ r => RpL.drop n r
theorem RpL.set : ∀ {vs : List V} {ds : List D} {v : V} {d : D} (n : Nat), Rp K F v d → RpL K F vs ds → RpL K F (vs.set n v) (ds.set n d)
  | _, _, _, _, _, _, .nil => .nil
  | _, _, _, _, 0, h, .cons _ r => .cons h r
  | _, _, _, _, n + 1, h, .cons q r => .cons q (RpL.set n h r)
theorem RpF.get : ∀ {vs : List (Str × V)} {ds : List (Str × D)} {f : Str} {d : D}, RpF K F vs ds → ds.lookup f = some d → ∃ v, vs.lookup f = some v ∧ Rp K F v d
  | _, _, _, _, .nil, e => by simp at e
  | _, _, f, d, .cons (f := g) h r, e => by
    rw [List.lookup_cons] at e ⊢
    by_cases q : (f == g) = true
    · rw [q] at e ⊢; simp at e; subst e; exact ⟨_, rfl, h⟩
    · have q' : (f == g) = false := by simpa using q
      rw [q'] at e ⊢; exact RpF.get r e
theorem RpF.none : ∀ {vs : List (Str × V)} {ds : List (Str × D)} {f : Str}, RpF K F vs ds → ds.lookup f = .none → vs.lookup f = .none
  | _, _, _, .nil, _ => rfl
  | _, _, f, .cons (f := g) h r, e => by
    rw [List.lookup_cons] at e ⊢
    by_cases q : (f == g) = true
    · rw [q] at e; simp at e
    · have q' : (f == g) = false := by simpa using q
      rw [q'] at e ⊢; exact RpF.none r e
theorem RpF.len : ∀ {vs : List (Str × V)} {ds : List (Str × D)}, RpF K F vs ds → vs.length = ds.length
  | _, _, .nil => rfl
  | _, _, .cons _ r => congrArg Nat.succ r.len
theorem rpL_ints : ∀ (ns : List Int), RpL K F (ns.map V.int) (ns.map D.int)
  | [] => .nil
  | n :: r => .cons (.int n) (rpL_ints r)
theorem RpL.ints : ∀ {vs : List V} {ns : List Int}, RpL K F vs (ns.map D.int) → vs = ns.map V.int
  | _, [], .nil => rfl
  | _, _ :: _, .cons (.int _) r => by rw [RpL.ints r]; rfl
theorem RpL.strs : ∀ {vs : List V} {ns : List Str}, RpL K F vs (ns.map D.str) → vs = ns.map V.str
  | _, [], .nil => rfl
  | _, _ :: _, .cons (.str _) r => by rw [RpL.strs r]; rfl
theorem RpL.bls : ∀ {vs : List V} {ns : List Bool}, RpL K F vs (ns.map D.bl) → vs = ns.map V.bl
  | _, [], .nil => rfl
  | _, _ :: _, .cons (.bl _) r => by rw [RpL.bls r]; rfl
end

/-! ### owned objects, slots -/
/-- an object that one slot alone knows -/
inductive OD where
  | lst (ds : List D) | dK (kvs : List (Key × D)) | dT (kvs : List (List Key × D)) | ins (C : Addr) (fs : List (Str × D)) | slf (y C : Addr) (fs : List (Str × D))
inductive RpK {κ : Type} (K : PySem.W.Frag) (F : Hp) : List (κ × V) → List (κ × D) → Prop
  | nil : RpK K F [] []
  | cons {k : κ} {v : V} {d : D} {vs : List (κ × V)} {ds : List (κ × D)} : Rp K F v d → RpK K F vs ds → RpK K F ((k, v) :: vs) ((k, d) :: ds)
theorem RpK.mono {κ : Type} {K : PySem.W.Frag} {F F' : Hp} (e : Same F F') : ∀ {v : List (κ × V)} {d : List (κ × D)}, RpK K F v d → RpK K F' v d
  | _, _, .nil => .nil
  | _, _, .cons h r => .cons (h.mono e) (RpK.mono e r)
inductive SV where
  | un | dat (d : D) | own (o : OD)
def OwnAt (K : PySem.W.Frag) (F H : Hp) (p : Addr) : OD → Prop
  | .lst ds => F p = none ∧ ∃ vs, H p = some (.lst vs) ∧ RpL K F vs ds
  | .dK ds => F p = none ∧ ∃ vs, H p = some (.dK vs) ∧ RpK K F vs ds
  | .dT ds => F p = none ∧ ∃ vs, H p = some (.dT vs) ∧ RpK K F vs ds
  | .ins C ds => F p = none ∧ ∃ dx vs, H p = some (.ins C dx vs) ∧ RpF K F vs ds
  | .slf y C ds => F p = none ∧ ∃ dx vs, H p = some (.ins C dx vs) ∧ RpF K F vs ds ∧ p = y
theorem OwnAt.out {K : PySem.W.Frag} {F H : Hp} {p : Addr} {o : OD} (h : OwnAt K F H p o) : F p = none := by cases o <;> exact h.1
theorem OwnAt.there {K : PySem.W.Frag} {F H : Hp} {p : Addr} {o : OD} (h : OwnAt K F H p o) : ∃ u, H p = some u := by
  cases o with
  | ins C ds => obtain ⟨_, _, _, e, _⟩ := h; exact ⟨_, e⟩
  | slf y C ds => obtain ⟨_, _, _, e, _⟩ := h; exact ⟨_, e⟩
  | _ => obtain ⟨_, _, e, _⟩ := h; exact ⟨_, e⟩
theorem OwnAt.keep {K : PySem.W.Frag} {F F' H H' : Hp} {p : Addr} {o : OD} (h : OwnAt K F H p o) (e : Same F F') (n : F' p = none) (k : H' p = H p) : OwnAt K F' H' p o := by
  cases o with
  | lst ds => obtain ⟨_, vs, e1, r⟩ := h; exact ⟨n, vs, k.trans e1, r.mono e⟩
  | dK ds => obtain ⟨_, vs, e1, r⟩ := h; exact ⟨n, vs, k.trans e1, r.mono e⟩
  | dT ds => obtain ⟨_, vs, e1, r⟩ := h; exact ⟨n, vs, k.trans e1, r.mono e⟩
  | ins C ds => obtain ⟨_, dx, vs, e1, r⟩ := h; exact ⟨n, dx, vs, k.trans e1, r.mono e⟩
  | slf y C ds => obtain ⟨_, dx, vs, e1, r, z⟩ := h; exact ⟨n, dx, vs, k.trans e1, r.mono e, z⟩
def SlotOk (K : PySem.W.Frag) (H0 F H : Hp) (x : Option (Option V)) : SV → Prop
  | .un => True
  | .dat d => ∃ v, x = some (some v) ∧ Rp K F v d
  | .own o => ∃ p, x = some (some (.ref p)) ∧ H0 p = none ∧ OwnAt K F H p o

/-- the entry: what was frozen then (F0), all that was tracked then (H0) -/
structure Bs where
  F0 : Hp
  H0 : Hp
structure Mb (B : Bs) (F H : Hp) : Prop where
  sub : Same F H
  f0 : Same B.F0 F
  h0 : Same B.H0 H
  new : ∀ a o, F a = some o → B.F0 a = some o ∨ B.H0 a = none
/-- σ, H are told by Γ; F: the part of H that nobody changes any more -/
structure Mt (K : PySem.W.Frag) (B : Bs) (F H : Hp) (σ : L2.St) (Γ : List SV) : Prop where
  mb : Mb B F H
  len : σ.length = Γ.length
  slot : ∀ (i : Nat) (sv : SV), Γ[i]? = some sv → SlotOk K B.H0 F H σ[i]? sv
  sep : ∀ (i j : Nat) (oi oj : OD) (p : Addr), i ≠ j → Γ[i]? = some (.own oi) → Γ[j]? = some (.own oj) → σ[i]? = some (some (.ref p)) → σ[j]? ≠ some (some (.ref p))

/-- what a call (or any step that mutates nothing that stood) does to heap and frozen part -/
structure Grow (F H F' H' : Hp) : Prop where
  ff : Same F F'
  hh : Same H H'
  sub : Same F' H'
  new : ∀ a o, F' a = some o → F a = some o ∨ H a = none
theorem Grow.refl {F H : Hp} (h : Same F H) : Grow F H F H := ⟨.refl _, .refl _, h, fun _ _ e => .inl e⟩
theorem Grow.trans {F H F1 H1 F2 H2 : Hp} (a : Grow F H F1 H1) (b : Grow F1 H1 F2 H2) : Grow F H F2 H2 :=
  ⟨a.ff.trans b.ff, a.hh.trans b.hh, b.sub, fun x o e => (b.new x o e).elim (a.new x o) fun n => .inr (a.hh.free n)⟩
/-- a new object, frozen at once -/
theorem Grow.put {F H : Hp} {p : Addr} {o : HO} (s : Same F H) (n : H p = none) : Grow F H (upd F p o) (upd H p o) := by
  have nf : F p = none := s.free n
  refine ⟨fun b u e => ?_, fun b u e => ?_, fun b u e => ?_, fun b u e => ?_⟩
  · rw [upd_ne (ne_of_none e nf)]; exact e
  · rw [upd_ne (ne_of_none e n)]; exact e
  · by_cases q : b = p
    · subst q; rw [upd_same] at e ⊢; exact e
    · rw [upd_ne q] at e ⊢; exact s b u e
  · by_cases q : b = p
    · subst q; exact .inr n
    · rw [upd_ne q] at e; exact .inl e
/-- a new object, not frozen -/
theorem Grow.new1 {F H : Hp} {p : Addr} {o : HO} (s : Same F H) (n : H p = none) : Grow F H F (upd H p o) := by
  refine ⟨.refl _, fun b u e => ?_, fun b u e => ?_, fun _ _ e => .inl e⟩
  · rw [upd_ne (ne_of_none e n)]; exact e
  · rw [upd_ne (ne_of_none (s b u e) n)]; exact s b u e
section
variable {K : PySem.W.Frag} {B : Bs} {F H F' H' : Hp} {σ : L2.St} {Γ : List SV}
theorem Mb.grow (m : Mb B F H) (g : Grow F H F' H') : Mb B F' H' :=
  ⟨g.sub, m.f0.trans g.ff, m.h0.trans g.hh, fun a o e => (g.new a o e).elim (m.new a o) fun n => .inr (m.h0.free n)⟩
theorem Mt.grow (m : Mt K B F H σ Γ) (g : Grow F H F' H') : Mt K B F' H' σ Γ := by
  refine ⟨m.mb.grow g, m.len, fun i sv e => ?_, m.sep⟩
  have q := m.slot i sv e
  cases sv with
  | un => trivial
  | dat d => obtain ⟨v, e1, r⟩ := q; exact ⟨v, e1, r.mono g.ff⟩
  | own o =>
    obtain ⟨p, e1, n0, w⟩ := q
    obtain ⟨u, hu⟩ := w.there
    refine ⟨p, e1, n0, w.keep g.ff ?_ ((g.hh p u hu).trans hu.symm)⟩
    cases q : F' p with
    | none => rfl
    | some o' =>
      rcases g.new p o' q with z | z
      · rw [w.out] at z; cases z
      · rw [hu] at z; cases z
theorem Mt.at (m : Mt K B F H σ Γ) {i : Nat} {d : D} (e : Γ[i]? = some (.dat d)) : ∃ v, σ[i]? = some (some v) ∧ Rp K F v d := m.slot i _ e
theorem Mt.own (m : Mt K B F H σ Γ) {i : Nat} {o : OD} (e : Γ[i]? = some (.own o)) : ∃ p, σ[i]? = some (some (.ref p)) ∧ B.H0 p = none ∧ OwnAt K F H p o := m.slot i _ e
/-- forgetting -/
theorem Mt.weak {Γ' : List SV} (m : Mt K B F H σ Γ) (hl : Γ'.length = Γ.length) (h : ∀ (i : Nat) (sv : SV), Γ'[i]? = some sv → sv = .un ∨ Γ[i]? = some sv) : Mt K B F H σ Γ' := by
  refine ⟨m.mb, m.len.trans hl.symm, fun i sv e => ?_, fun i j oi oj p ne ei ej => ?_⟩
  · rcases h i sv e with rfl | q
    · trivial
    · exact m.slot i sv q
  · rcases h i _ ei with z | q
    · cases z
    · rcases h j _ ej with z | q'
      · cases z
      · exact m.sep i j oi oj p ne q q'
/-- a slot gets data -/
theorem Mt.put (m : Mt K B F H σ Γ) (i : Nat) {v : V} {d : D} (r : Rp K F v d) : Mt K B F H (σ.set i (some v)) (Γ.set i (.dat d)) := by
  refine ⟨m.mb, by rw [List.length_set, List.length_set]; exact m.len, fun j sv e => ?_, fun j k oj ok p ne ej ek => ?_⟩
  · by_cases q : i = j
    · subst q
      by_cases hi : i < Γ.length
      · rw [List.getElem?_set_self hi] at e; cases e
        exact ⟨v, List.getElem?_set_self (by rw [m.len]; exact hi), r⟩
      · rw [List.getElem?_eq_none (by rw [List.length_set]; omega)] at e; cases e
    · rw [List.getElem?_set_ne q] at e ⊢; exact m.slot j sv e
  · have nj : i ≠ j := fun q => by
      subst q
      by_cases hi : i < Γ.length
      · rw [List.getElem?_set_self hi] at ej; cases ej
      · rw [List.getElem?_eq_none (by rw [List.length_set]; omega)] at ej; cases ej
    have nk : i ≠ k := fun q => by
      subst q
      by_cases hi : i < Γ.length
      · rw [List.getElem?_set_self hi] at ek; cases ek
      · rw [List.getElem?_eq_none (by rw [List.length_set]; omega)] at ek; cases ek
    rw [List.getElem?_set_ne nj] at ej ⊢
    rw [List.getElem?_set_ne nk] at ek ⊢
    exact m.sep j k oj ok p ne ej ek
/-- p is no owned slot's -/
def Apart (σ : L2.St) (Γ : List SV) (p : Addr) : Prop := ∀ (i : Nat) (o : OD), Γ[i]? = some (.own o) → σ[i]? ≠ some (some (.ref p))
theorem Mt.apart (m : Mt K B F H σ Γ) {p : Addr} (n : H p = none) : Apart σ Γ p := fun i o e z => by
  obtain ⟨q, e1, _, w⟩ := m.own e
  rw [z] at e1; cases e1
  obtain ⟨u, hu⟩ := w.there
  rw [n] at hu; cases hu
/-- a slot gets a new owned object -/
theorem Mt.putOwn (m : Mt K B F H σ Γ) (i : Nat) {p : Addr} {o : OD} (n0 : B.H0 p = none) (ap : Apart σ Γ p) (w : OwnAt K F H p o) : Mt K B F H (σ.set i (some (.ref p))) (Γ.set i (.own o)) := by
  refine ⟨m.mb, by rw [List.length_set, List.length_set]; exact m.len, fun j sv e => ?_, fun j k oj ok p' ne ej ek => ?_⟩
  · by_cases q : i = j
    · subst q
      by_cases hi : i < Γ.length
      · rw [List.getElem?_set_self hi] at e; cases e
        exact ⟨p, List.getElem?_set_self (by rw [m.len]; exact hi), n0, w⟩
      · rw [List.getElem?_eq_none (by rw [List.length_set]; omega)] at e; cases e
    · rw [List.getElem?_set_ne q] at e ⊢; exact m.slot j sv e
  · by_cases hi : i < Γ.length
    · by_cases qj : i = j
      · subst qj
        rw [List.getElem?_set_self (by rw [m.len]; exact hi)]
        rw [List.getElem?_set_ne ne] at ek ⊢
        intro z z2
        cases z
        exact ap k ok ek z2
      · rw [List.getElem?_set_ne qj] at ej ⊢
        by_cases qk : i = k
        · subst qk
          rw [List.getElem?_set_self (by rw [m.len]; exact hi)]
          intro z z2
          cases z2
          exact ap j oj ej z
        · rw [List.getElem?_set_ne qk] at ek ⊢
          exact m.sep j k oj ok p' ne ej ek
    · rw [List.set_eq_of_length_le (by omega)] at ej ek
      rw [List.set_eq_of_length_le (by rw [m.len]; omega)]
      exact m.sep j k oj ok p' ne ej ek
/-- an owned object changes -/
theorem Mt.mut (m : Mt K B F H σ Γ) {i : Nat} {o o' : OD} {p : Addr} {ho : HO} (e : Γ[i]? = some (.own o)) (es : σ[i]? = some (some (.ref p))) (w : OwnAt K F (upd H p ho) p o') :
    Mt K B F (upd H p ho) σ (Γ.set i (.own o')) := by
  have hi : i < Γ.length := (List.getElem?_eq_some_iff.mp e).1
  obtain ⟨p', e1, n0, w0⟩ := m.own e
  rw [es] at e1; cases e1
  have hF : Same F (upd H p ho) := fun b u q => by
    rw [upd_ne (fun z => by subst z; rw [w0.out] at q; cases q)]; exact m.mb.sub b u q
  have hH : Same B.H0 (upd H p ho) := fun b u q => by
    rw [upd_ne (fun z => by subst z; rw [n0] at q; cases q)]; exact m.mb.h0 b u q
  refine ⟨⟨hF, m.mb.f0, hH, m.mb.new⟩, by rw [List.length_set]; exact m.len, fun j sv q => ?_, fun j k oj ok p' ne ej ek => ?_⟩
  · by_cases z : i = j
    · subst z
      rw [List.getElem?_set_self hi] at q; cases q
      exact ⟨p, es, n0, w⟩
    · rw [List.getElem?_set_ne z] at q
      have s := m.slot j sv q
      cases sv with
      | un => trivial
      | dat d => exact s
      | own o2 =>
        obtain ⟨p2, e2, n2, w2⟩ := s
        refine ⟨p2, e2, n2, w2.keep (.refl _) w2.out (upd_ne fun y => ?_)⟩
        subst y
        exact m.sep i j o o2 p2 z e q es e2
  · have fix : ∀ {l : Nat} {ol : OD}, (Γ.set i (.own o'))[l]? = some (.own ol) → ∃ o3, Γ[l]? = some (.own o3) := fun {l ol} q => by
      by_cases z : i = l
      · subst z; exact ⟨o, e⟩
      · rw [List.getElem?_set_ne z] at q; exact ⟨ol, q⟩
    obtain ⟨o3, q3⟩ := fix ej
    obtain ⟨o4, q4⟩ := fix ek
    exact m.sep j k o3 o4 p' ne q3 q4
end

/-! ### exceptions, outcomes -/
structure Exn where
  cls : Addr
  own : Option (List (Str × D))
def RpX (K : PySem.W.Frag) (F H : Hp) (x : Exn) (c : Value) (d : Option Addr) : Prop :=
  c = .ref x.cls ∧ match x.own with
    | none => d = none
    | some fs => ∃ dx vs, d = some dx ∧ H dx = some (.xd vs) ∧ RpF K F vs fs
/-- an expression's outcome: data; a new object that nobody else knows; an exception -/
inductive RO where
  | val (d : D) | frs (o : OD) | exc (x : Exn)
inductive SO where
  | nx (Γ : List SV) | ret (r : RO) | brk (Γ : List SV) | cont (Γ : List SV) | exc (x : Exn) (Γ : List SV)
def RetOk (K : PySem.W.Frag) (B : Bs) (F H : Hp) (v : V) : RO → Prop
  | .val d => Rp K F v d
  | .frs o => ∃ p, v = .ref p ∧ B.H0 p = none ∧ OwnAt K F H p o
  | .exc _ => False

/-! ### the semantics' own readings -/
def tAny (X : Cx) (e : Expr) : TE := fun σ H Q => ∀ (pins : List (Addr × Obj)) (s : Shared), Inv X pins σ H s → wpAny (model X.prog X.w) X.A (eval e X.env) (EP X pins σ Q) X.xe s
def tAnyT (X : Cx) (e : Expr) : TT := fun σ H Q => ∀ (pins : List (Addr × Obj)) (s : Shared), Inv X pins σ H s → wpAny (model X.prog X.w) X.A (isTrue e X.env (eval e X.env)) (TP X pins σ Q) X.xe s
def tAnyA (X : Cx) (es : List Expr) : TA := fun σ H Q => ∀ (pos : Pos) (pins : List (Addr × Obj)) (s : Shared), Inv X pins σ H s → wpAny (model X.prog X.w) X.A (spliced (backTo pos (starEach es X.env))) (AP X pins σ Q) X.xe s
def tAnyS (X : Cx) (st : Stmt) : TS := fun D σ H => ∀ (pins : List (Addr × Obj)) (s : Shared), Inv X pins σ H s → wpAny (model X.prog X.w) X.A (exec st X.env) (SP X pins D) X.xe s
def tAnyB (X : Cx) (st : List Stmt) : TS := fun D σ H => ∀ (pins : List (Addr × Obj)) (s : Shared), Inv X pins σ H s → wpAny (model X.prog X.w) X.A (execs st X.env) (SP X pins D) X.xe s
section
variable {X : Cx} {e : Expr} {es : List Expr} {st : Stmt} {sts : List Stmt}
theorem anyE : PE X e (tAny X e) := ⟨fun pins s _ _ _ I h => h pins s I⟩
theorem anyT : PT X e (tAnyT X e) := ⟨fun pins s _ _ _ I h => h pins s I⟩
theorem anyA : PA X es (tAnyA X es) := ⟨fun pos pins s _ _ _ I h => h pos pins s I⟩
theorem anyS : PS X st (tAnyS X st) := ⟨fun pins s _ _ _ I h => h pins s I⟩
theorem anyB : PSs X sts (tAnyB X sts) := ⟨fun pins s _ _ _ I h => h pins s I⟩
theorem toE {t : TE} (h : PE X e t) {σ : L2.St} {H : Hp} {Q : VK} (q : t σ H Q) : tAny X e σ H Q := fun pins s I => h.run pins s σ H Q I q
theorem toT {t : TT} (h : PT X e t) {σ : L2.St} {H : Hp} {Q : Bool → Hp → Prop} (q : t σ H Q) : tAnyT X e σ H Q := fun pins s I => h.run pins s σ H Q I q
theorem toA {t : TA} (h : PA X es t) {σ : L2.St} {H : Hp} {Q : List V → Hp → Prop} (q : t σ H Q) : tAnyA X es σ H Q := fun pos pins s I => h.run pos pins s σ H Q I q
theorem toS {t : TS} (h : PS X st t) {σ : L2.St} {H : Hp} {D : Ends} (q : t D σ H) : tAnyS X st D σ H := fun pins s I => h.run pins s σ H D I q
theorem toB {t : TS} (h : PSs X sts t) {σ : L2.St} {H : Hp} {D : Ends} (q : t D σ H) : tAnyB X sts D σ H := fun pins s I => h.run pins s σ H D I q
end

/-! ### the judgements -/
/-- what follows an expression -/
def EK (K : PySem.W.Frag) (B : Bs) (W : WX) (F : Hp) (σ : L2.St) (Γ : List SV) (Q : VK) : RO → Prop
  | .val d => ∀ v H' F', Mt K B F' H' σ Γ → Same F F' → Rp K F' v d → Q v H'
  | .frs o => ∀ p H' F', Mt K B F' H' σ Γ → Same F F' → B.H0 p = none → Apart σ Γ p → OwnAt K F' H' p o → Q (.ref p) H'
  | .exc x => ∀ c d H' F', Mt K B F' H' σ Γ → Same F F' → RpX K F' H' x c d → W c d σ H'
def RE (B : Bs) (X : Cx) (e : Expr) (Γ : List SV) (o : RO) : Prop := ∀ (W : WX), Takes X W → ∀ (σ : L2.St) (H F : Hp), Mt X.K B F H σ Γ → ∀ Q : VK, EK X.K B W F σ Γ Q o → tAny X e σ H Q
/-- an argument list -/
def AK (K : PySem.W.Frag) (B : Bs) (W : WX) (F : Hp) (σ : L2.St) (Γ : List SV) (Q : List V → Hp → Prop) : Except Exn (List D) → Prop
  | .ok ds => ∀ vs H' F', Mt K B F' H' σ Γ → Same F F' → RpL K F' vs ds → Q vs H'
  | .error x => ∀ c d H' F', Mt K B F' H' σ Γ → Same F F' → RpX K F' H' x c d → W c d σ H'
def RL (B : Bs) (X : Cx) (es : List Expr) (Γ : List SV) (o : Except Exn (List D)) : Prop := ∀ (W : WX), Takes X W → ∀ (σ : L2.St) (H F : Hp), Mt X.K B F H σ Γ → ∀ Q : List V → Hp → Prop, AK X.K B W F σ Γ Q o → tAnyA X es σ H Q
/-- a test -/
def RT (B : Bs) (X : Cx) (e : Expr) (Γ : List SV) (b : Bool) : Prop := ∀ (W : WX), Takes X W → ∀ (σ : L2.St) (H F : Hp), Mt X.K B F H σ Γ → ∀ Q : Bool → Hp → Prop, (∀ H' F', Mt X.K B F' H' σ Γ → Same F F' → Q b H') → tAnyT X e σ H Q
/-- what follows a statement -/
structure SK (K : PySem.W.Frag) (B : Bs) (W : WX) (F : Hp) (post : SO → Prop) (D : Ends) : Prop where
  nx : ∀ σ H F' Γ, post (.nx Γ) → Mt K B F' H σ Γ → Same F F' → D.nx σ H
  rt : ∀ v H F' r, post (.ret r) → Mb B F' H → Same F F' → RetOk K B F' H v r → D.rt v H
  bk : ∀ σ H F' Γ, post (.brk Γ) → Mt K B F' H σ Γ → Same F F' → D.bk σ H
  ct : ∀ σ H F' Γ, post (.cont Γ) → Mt K B F' H σ Γ → Same F F' → D.ct σ H
  ex : ∀ c d σ H F' Γ x, post (.exc x Γ) → Mt K B F' H σ Γ → Same F F' → RpX K F' H x c d → W c d σ H
theorem SK.mono {K : PySem.W.Frag} {B : Bs} {W : WX} {F F1 : Hp} {post : SO → Prop} {D : Ends} (k : SK K B W F post D) (h : Same F F1) : SK K B W F1 post D :=
  ⟨fun σ H F' Γ p m s => k.nx σ H F' Γ p m (h.trans s), fun v H F' r p m s => k.rt v H F' r p m (h.trans s), fun σ H F' Γ p m s => k.bk σ H F' Γ p m (h.trans s),
   fun σ H F' Γ p m s => k.ct σ H F' Γ p m (h.trans s), fun c d σ H F' Γ x p m s => k.ex c d σ H F' Γ x p m (h.trans s)⟩
def W1 (B : Bs) (X : Cx) (st : Stmt) (Γ : List SV) (post : SO → Prop) : Prop := ∀ (W : WX), Takes X W → ∀ (σ : L2.St) (H F : Hp), Mt X.K B F H σ Γ → ∀ D : Ends, SK X.K B W F post D → tAnyS X st D σ H
def WS (B : Bs) (X : Cx) (st : List Stmt) (Γ : List SV) (post : SO → Prop) : Prop := ∀ (W : WX), Takes X W → ∀ (σ : L2.St) (H F : Hp), Mt X.K B F H σ Γ → ∀ D : Ends, SK X.K B W F post D → tAnyB X st D σ H
end DL

/-! DL2: the rules of expressions over data. -/
namespace DL
open PySem PySem.Spec PyProof.Rows L2
section
variable {K : PySem.W.Frag} {B : Bs} {W : WX} {F F1 H H1 : Hp} {σ : L2.St} {Γ : List SV} {Q : VK} {o : RO}
theorem EK.mono (k : EK K B W F σ Γ Q o) (s : Same F F1) : EK K B W F1 σ Γ Q o := by
  cases o with
  | val d => exact fun v H' F' m s' r => k v H' F' m (s.trans s') r
  | frs u => exact fun p H' F' m s' n ap w => k p H' F' m (s.trans s') n ap w
  | exc x => exact fun c d H' F' m s' r => k c d H' F' m (s.trans s') r
theorem EK.go {d : D} {v : V} (k : EK K B W F σ Γ Q (.val d)) (m : Mt K B F H σ Γ) (r : Rp K F v d) : Q v H := k v H F m (.refl F) r
theorem EK.lst {ds : List D} {vs : List V} (k : EK K B W F σ Γ Q (.frs (.lst ds))) (m : Mt K B F H σ Γ) (r : RpL K F vs ds) {p : Addr} (n : H p = none) : Q (.ref p) (upd H p (.lst vs)) :=
  k p _ F (m.grow (.new1 m.mb.sub n)) (.refl F) (m.mb.h0.free n) (m.apart n) ⟨m.mb.sub.free n, vs, upd_same, r⟩
theorem EK.tup {ds : List D} {vs : List V} (k : EK K B W F σ Γ Q (.val (.tup ds))) (m : Mt K B F H σ Γ) (r : RpL K F vs ds) {p : Addr} (n : H p = none) : Q (.ref p) (upd H p (.tup vs)) :=
  k (.ref p) _ _ (m.grow (.put m.mb.sub n)) (Grow.put m.mb.sub n).ff (.tup (SqT.of upd_same) (r.mono (Grow.put m.mb.sub n).ff))
/-- an owned list, tuple .. is frozen -/
theorem Mt.freeze (m : Mt K B F H σ Γ) {p : Addr} {u : HO} (e : H p = some u) (nf : F p = none) (n0 : B.H0 p = none) (ap : Apart σ Γ p) : Mt K B (upd F p u) H σ Γ ∧ Same F (upd F p u) := by
  have sf : Same F (upd F p u) := fun b x q => by rw [upd_ne (ne_of_none q nf)]; exact q
  refine ⟨⟨⟨fun b x q => ?_, m.mb.f0.trans sf, m.mb.h0, fun a x q => ?_⟩, m.len, fun i sv q => ?_, m.sep⟩, sf⟩
  · by_cases z : b = p
    · subst z; rw [upd_same] at q; cases q; exact e
    · rw [upd_ne z] at q; exact m.mb.sub b x q
  · by_cases z : a = p
    · subst z; exact .inr n0
    · rw [upd_ne z] at q; exact m.mb.new a x q
  · have s := m.slot i sv q
    cases sv with
    | un => trivial
    | dat d => obtain ⟨v, e1, r⟩ := s; exact ⟨v, e1, r.mono sf⟩
    | own o =>
      obtain ⟨p', e1, n1, w⟩ := s
      have ne : p' ≠ p := fun z => by subst z; exact ap i o q e1
      exact ⟨p', e1, n1, w.keep sf (by rw [upd_ne ne]; exact w.out) rfl⟩
end

section
variable {B : Bs} {X : Cx} {Γ : List SV} {a b c e : Expr} {es : List Expr} {pos : Pos}
/-- a new list, handed on: from now on nobody changes it -/
theorem re_frz {ds : List D} (h : RE B X e Γ (.frs (.lst ds))) : RE B X e Γ (.val (.lst ds)) := fun W tk σ H F m Q k =>
  h W tk σ H F m Q fun p H' F' m' s n0 ap w => by
    obtain ⟨nf, vs, e1, r⟩ := w
    obtain ⟨m2, s2⟩ := m'.freeze e1 nf n0 ap
    exact k _ _ _ m2 (s.trans s2) (.lst (SqL.of upd_same) (r.mono s2))
theorem re_frzI {C : Addr} {ds : List (Str × D)} (h : RE B X e Γ (.frs (.ins C ds))) : RE B X e Γ (.val (.ins C ds)) := fun W tk σ H F m Q k =>
  h W tk σ H F m Q fun p H' F' m' s n0 ap w => by
    obtain ⟨nf, dx, vs, e1, r⟩ := w
    obtain ⟨m2, s2⟩ := m'.freeze e1 nf n0 ap
    exact k _ _ _ m2 (s.trans s2) (.ins upd_same (r.mono s2))

/-! ### names, constants -/
theorem re_var (i : Nat) {x : Str} {d : D} (hΓ : Γ[i]? = some (.dat d)) (hN : X.N[i]? = some x := by rfl) (hv : Vis X.env.scope x := by first | exact Or.inl rfl | exact Or.inr (Or.inl rfl) | exact Or.inr (Or.inr rfl))
    (h1 : (x == ("__debug__" : Str)) = false := by decide) (h2 : (x == ("__classdict__" : Str)) = false := by decide) : RE B X (.Name x pos) Γ (.val d) := fun W _ σ H F m Q k => by
  obtain ⟨v, e1, r⟩ := m.at hΓ
  exact toE (pe_var hN hv h1 h2) ⟨v, e1, k.go m r⟩
theorem re_int {i : Int} {j} : RE B X (.Constant (.int i) j pos) Γ (.val (.int i)) := fun W _ σ H F m Q k => toE pe_int (k.go m (.int i))
theorem re_str {i : Str} {j} : RE B X (.Constant (.str i) j pos) Γ (.val (.str i)) := fun W _ σ H F m Q k => toE pe_str (k.go m (.str i))
theorem re_bl {i : Bool} {j} : RE B X (.Constant (.bool i) j pos) Γ (.val (.bl i)) := fun W _ σ H F m Q k => toE pe_bl (k.go m (.bl i))
theorem re_non {j} : RE B X (.Constant .none j pos) Γ (.val .non) := fun W _ σ H F m Q k => toE pe_non (k.go m .non)
/-- what a module's name is worth -/
def GV (K : PySem.W.Frag) (mg : Str → Option Value) (x : Str) (d : D) : Prop := ∃ v u, mg x = some u ∧ RelV v u ∧ ∀ F, Rp K F v d
theorem re_glob {x : Str} {d : D} (g : GV X.K X.mg x d) (hg : Gl X x := by rfl) (h1 : (x == ("__debug__" : Str)) = false := by decide) : RE B X (.Name x pos) Γ (.val d) := fun W _ σ H F m Q k => by
  obtain ⟨v, u, e1, r, q⟩ := g
  exact toE (pe_glob hg e1 r h1) (k.go m (q F))

/-! ### operators -/
def OJ (B : Bs) (X : Cx) (Γ : List SV) (r : R2) (d1 d2 : D) (o : RO) : Prop := ∀ (W : WX) (σ : L2.St) (H F : Hp) (x y : V), Mt X.K B F H σ Γ → Rp X.K F x d1 → Rp X.K F y d2 → ∀ Q : VK, EK X.K B W F σ Γ Q o → r x y H Q
theorem re_bin {op : Operator} {r : R2} {d1 d2 : D} {o : RO} (ho : OpR X (binaryOp op) r) (ha : RE B X a Γ (.val d1)) (hb : RE B X b Γ (.val d2)) (hj : OJ B X Γ r d1 d2 o) : RE B X (.BinOp a op b pos) Γ o := fun W tk σ H F m Q k =>
  toE (pe_op ho anyE anyE) (ha W tk σ H F m _ fun x H1 F1 m1 s1 r1 => hb W tk σ H1 F1 m1 _ fun y H2 F2 m2 s2 r2 => hj W σ H2 F2 x y m2 (r1.mono s2) r2 Q (k.mono (s1.trans s2)))
theorem oj_I0 {g : Int → Int → Int} {i j : Int} : OJ B X Γ (rI0 fun i j => .int (g i j)) (.int i) (.int j) (.val (.int (g i j))) := fun W σ H F x y m r1 r2 Q k => by
  cases r1; cases r2; exact ⟨i, j, rfl, rfl, k.go m (.int _)⟩
theorem oj_B0 {g : Int → Int → Bool} {i j : Int} : OJ B X Γ (rI0 fun i j => .bl (g i j)) (.int i) (.int j) (.val (.bl (g i j))) := fun W σ H F x y m r1 r2 Q k => by
  cases r1; cases r2; exact ⟨i, j, rfl, rfl, k.go m (.bl _)⟩
theorem oj_I {C : Int → Int → Prop} {g : Int → Int → Int} {i j : Int} (hc : C i j) : OJ B X Γ (rI C fun i j => .int (g i j)) (.int i) (.int j) (.val (.int (g i j))) := fun W σ H F x y m r1 r2 Q k => by
  cases r1; cases r2; exact ⟨i, j, rfl, rfl, hc, k.go m (.int _)⟩
theorem re_add {i j : Int} (ha : RE B X a Γ (.val (.int i))) (hb : RE B X b Γ (.val (.int j))) : RE B X (.BinOp a .Add b pos) Γ (.val (.int (i + j))) := re_bin op_add ha hb (oj_I0 (g := fun i j => i + j))
theorem re_sub {i j : Int} (ha : RE B X a Γ (.val (.int i))) (hb : RE B X b Γ (.val (.int j))) : RE B X (.BinOp a .Sub b pos) Γ (.val (.int (i - j))) := re_bin op_sub ha hb (oj_I0 (g := fun i j => i - j))
theorem re_mul {i j : Int} (hc : CMul i j) (ha : RE B X a Γ (.val (.int i))) (hb : RE B X b Γ (.val (.int j))) : RE B X (.BinOp a .Mult b pos) Γ (.val (.int (i * j))) := re_bin op_mul ha hb (oj_I (g := fun i j => i * j) hc)
theorem re_mod {i j : Int} (hc : 0 < j) (ha : RE B X a Γ (.val (.int i))) (hb : RE B X b Γ (.val (.int j))) : RE B X (.BinOp a .Mod b pos) Γ (.val (.int (i % j))) := re_bin op_mod ha hb (oj_I (g := fun i j => i % j) hc)
theorem re_fdiv {i j : Int} (hc : CDiv i j) (ha : RE B X a Γ (.val (.int i))) (hb : RE B X b Γ (.val (.int j))) : RE B X (.BinOp a .FloorDiv b pos) Γ (.val (.int (i / j))) := re_bin op_fdiv ha hb (oj_I (g := fun i j => i / j) hc)
theorem re_pow {i j : Int} (hc : CPow i j) (ha : RE B X a Γ (.val (.int i))) (hb : RE B X b Γ (.val (.int j))) : RE B X (.BinOp a .Pow b pos) Γ (.val (.int (i ^ j.toNat))) := re_bin op_pow ha hb (oj_I (g := fun i j => i ^ j.toNat) hc)
theorem re_addS {x y : Str} (hz : x.length + y.length ≤ sizeLine) (ha : RE B X a Γ (.val (.str x))) (hb : RE B X b Γ (.val (.str y))) : RE B X (.BinOp a .Add b pos) Γ (.val (.str (x ++ y))) :=
  re_bin op_add_str ha hb fun W σ H F u v m r1 r2 Q k => by cases r1; cases r2; exact ⟨x, y, rfl, rfl, hz, k.go m (.str _)⟩
theorem re_neg {i : Int} (ha : RE B X a Γ (.val (.int i))) : RE B X (.UnaryOp .USub a pos) Γ (.val (.int (-i))) := fun W tk σ H F m Q k =>
  toE (pe_un un_neg anyE) (ha W tk σ H F m _ fun x H1 F1 m1 s1 r1 => by cases r1; exact ⟨i, rfl, (k.mono s1).go m1 (.int _)⟩)

/-! ### comparisons -/
/-- a comparison of two, as a value or as a test -/
def CO (B : Bs) (X : Cx) (op : CmpOp) (a b : Expr) (Γ : List SV) (k : Bool) : Prop :=
  ∃ (r : R2), OpR X (compareOp op) r ∧ behindInMarks op b = false ∧ ∀ (W : WX), Takes X W → ∀ (σ : L2.St) (H F : Hp), Mt X.K B F H σ Γ → ∀ Q : VK, (∀ H' F', Mt X.K B F' H' σ Γ → Same F F' → Q (.bl k) H') → tOp r (tAny X a) (tAny X b) σ H Q
theorem re_co {op : CmpOp} {k : Bool} (h : CO B X op a b Γ k) : RE B X (.Compare a [op] [b] pos) Γ (.val (.bl k)) := fun W tk σ H F m Q kk => by
  obtain ⟨r, ho, hm, h⟩ := h
  exact toE (pe_cmpR ho anyE anyE hm) (h W tk σ H F m Q fun H' F' m' s => kk _ _ _ m' s (.bl _))
theorem rt_co {op : CmpOp} {k : Bool} (h : CO B X op a b Γ k) : RT B X (.Compare a [op] [b] pos) Γ k := fun W tk σ H F m Q kk => by
  obtain ⟨r, ho, hm, h⟩ := h
  exact toT (pt_cmpR ho anyE anyE hm) (h W tk σ H F m _ fun H' F' m' s => ⟨k, rfl, kk _ _ m' s⟩)
theorem co_of {op : CmpOp} {r : R2} {d1 d2 : D} {k : Bool} (ho : OpR X (compareOp op) r) (hm : behindInMarks op b = false) (ha : RE B X a Γ (.val d1)) (hb : RE B X b Γ (.val d2)) (hj : OJ B X Γ r d1 d2 (.val (.bl k))) : CO B X op a b Γ k :=
  ⟨r, ho, hm, fun W tk σ H F m Q kk => ha W tk σ H F m _ fun x H1 F1 m1 s1 r1 => hb W tk σ H1 F1 m1 _ fun y H2 F2 m2 s2 r2 => hj W σ H2 F2 x y m2 (r1.mono s2) r2 Q fun v H3 F3 m3 s3 r3 => by cases r3; exact kk H3 F3 m3 ((s1.trans s2).trans s3)⟩
theorem c_lt {i j : Int} (ha : RE B X a Γ (.val (.int i))) (hb : RE B X b Γ (.val (.int j))) : CO B X .Lt a b Γ (decide (i < j)) := co_of op_lt (nomark _) ha hb (oj_B0 (g := fun i j => decide (i < j)))
theorem c_le {i j : Int} (ha : RE B X a Γ (.val (.int i))) (hb : RE B X b Γ (.val (.int j))) : CO B X .LtE a b Γ (decide (i ≤ j)) := co_of op_le (nomark _) ha hb (oj_B0 (g := fun i j => decide (i ≤ j)))
theorem c_gt {i j : Int} (ha : RE B X a Γ (.val (.int i))) (hb : RE B X b Γ (.val (.int j))) : CO B X .Gt a b Γ (decide (j < i)) := co_of op_gt (nomark _) ha hb (oj_B0 (g := fun i j => decide (j < i)))
theorem c_ge {i j : Int} (ha : RE B X a Γ (.val (.int i))) (hb : RE B X b Γ (.val (.int j))) : CO B X .GtE a b Γ (decide (j ≤ i)) := co_of op_ge (nomark _) ha hb (oj_B0 (g := fun i j => decide (j ≤ i)))
/-- == of scalars: what it answers -/
def eqS : D → D → Option Bool
  | .non, .non => some true | .non, .int _ => some false | .int _, .non => some false | .non, .bl _ => some false | .bl _, .non => some false | .non, .str _ => some false | .str _, .non => some false
  | .int i, .int j => some (decide (i = j)) | .bl i, .bl j => some (decide (i = j)) | .str i, .str j => some (decide (i = j))
  | .int _, .str _ => some false | .str _, .int _ => some false | .bl _, .str _ => some false | .str _, .bl _ => some false
  | _, _ => none
theorem eqS_rel {K : PySem.W.Frag} {F : Hp} {x y : V} {d1 d2 : D} {k : Bool} (r1 : Rp K F x d1) (r2 : Rp K F y d2) (h : eqS d1 d2 = some k) : scal x y = true ∧ decide (x = y) = k := by
  cases r1 <;> cases r2 <;> simp [eqS] at h <;> subst h <;> exact ⟨rfl, by simp⟩
theorem c_eqS {d1 d2 : D} {k : Bool} (ha : RE B X a Γ (.val d1)) (hb : RE B X b Γ (.val d2)) (h : eqS d1 d2 = some k) : CO B X .Eq a b Γ k :=
  co_of op_eq (nomark _) ha hb fun W σ H F x y m r1 r2 Q kk => by obtain ⟨e1, e2⟩ := eqS_rel r1 r2 h; exact ⟨e1, by rw [e2]; exact kk.go m (.bl _)⟩
theorem c_neS {d1 d2 : D} {k : Bool} (ha : RE B X a Γ (.val d1)) (hb : RE B X b Γ (.val d2)) (h : eqS d1 d2 = some k) : CO B X .NotEq a b Γ (!k) :=
  co_of op_ne (nomark _) ha hb fun W σ H F x y m r1 r2 Q kk => by obtain ⟨e1, e2⟩ := eqS_rel r1 r2 h; exact ⟨e1, by rw [e2]; exact kk.go m (.bl _)⟩
def isNon : D → Bool
  | .non => true
  | _ => false
theorem isNon_rel {K : PySem.W.Frag} {F : Hp} {x : V} {d : D} (r : Rp K F x d) : decide (x = .non) = isNon d := by cases r <;> simp [isNon]
theorem c_isN {d : D} {j} {p2 : Pos} (ha : RE B X a Γ (.val d)) : CO B X .Is a (.Constant .none j p2) Γ (isNon d) :=
  co_of op_isN (nomark _) ha re_non fun W σ H F x y m r1 r2 Q kk => by cases r2; exact ⟨rfl, by rw [isNon_rel r1]; exact kk.go m (.bl _)⟩
theorem c_notN {d : D} {j} {p2 : Pos} (ha : RE B X a Γ (.val d)) : CO B X .IsNot a (.Constant .none j p2) Γ (!isNon d) :=
  co_of op_notN (nomark _) ha re_non fun W σ H F x y m r1 r2 Q kk => by cases r2; exact ⟨rfl, by rw [isNon_rel r1]; exact kk.go m (.bl _)⟩
/-- one sign in a text -/
theorem c_inC {n : Nat} {z : Str} (hm : behindInMarks .In b = false) (ha : RE B X a Γ (.val (.str ⟨#[n]⟩))) (hb : RE B X b Γ (.val (.str z))) : CO B X .In a b Γ (decide (n ∈ z.cps.toList)) :=
  co_of op_in_sign hm ha hb fun W σ H F x y m r1 r2 Q kk => by cases r1; cases r2; exact ⟨n, z, rfl, rfl, kk.go m (.bl _)⟩
theorem c_niC {n : Nat} {z : Str} (hm : behindInMarks .NotIn b = false) (ha : RE B X a Γ (.val (.str ⟨#[n]⟩))) (hb : RE B X b Γ (.val (.str z))) : CO B X .NotIn a b Γ (!decide (n ∈ z.cps.toList)) :=
  co_of op_notIn_sign hm ha hb fun W σ H F x y m r1 r2 Q kk => by cases r1; cases r2; exact ⟨n, z, rfl, rfl, kk.go m (.bl _)⟩
/-- a < b < c of ints and its like -/
def CO3 (B : Bs) (X : Cx) (op op' : CmpOp) (a b c : Expr) (Γ : List SV) (k : Bool) : Prop :=
  ∃ (r r' : R2), OpR X (compareOp op) r ∧ OpR X (compareOp op') r' ∧ lastMarks [op, op'] [b, c] = false ∧ ∀ (W : WX), Takes X W → ∀ (σ : L2.St) (H F : Hp), Mt X.K B F H σ Γ → ∀ Q : VK, (∀ H' F', Mt X.K B F' H' σ Γ → Same F F' → Q (.bl k) H') →
    tChain r r' (tAny X a) (tAny X b) (tAny X c) σ H Q
theorem re_co3 {op op' : CmpOp} {k : Bool} (h : CO3 B X op op' a b c Γ k) : RE B X (.Compare a [op, op'] [b, c] pos) Γ (.val (.bl k)) := fun W tk σ H F m Q kk => by
  obtain ⟨r, r', ho, ho', hm, h⟩ := h
  exact toE (pe_chain ho ho' anyE anyE anyE hm) (h W tk σ H F m Q fun H' F' m' s => kk _ _ _ m' s (.bl _))
theorem rt_co3 {op op' : CmpOp} {k : Bool} (h : CO3 B X op op' a b c Γ k) : RT B X (.Compare a [op, op'] [b, c] pos) Γ k := fun W tk σ H F m Q kk => by
  obtain ⟨r, r', ho, ho', hm, h⟩ := h
  exact toT (pt_chain ho ho' anyE anyE anyE hm) (h W tk σ H F m _ fun H' F' m' s => ⟨k, rfl, kk _ _ m' s⟩)
theorem c3_of {op op' : CmpOp} {g g' : Int → Int → Bool} {i j l : Int} (ho : OpR X (compareOp op) (rI0 fun i j => .bl (g i j))) (ho' : OpR X (compareOp op') (rI0 fun i j => .bl (g' i j))) (hm : lastMarks [op, op'] [b, c] = false)
    (ha : RE B X a Γ (.val (.int i))) (hb : RE B X b Γ (.val (.int j))) (hc : RE B X c Γ (.val (.int l))) : CO3 B X op op' a b c Γ (g i j && g' j l) := ⟨_, _, ho, ho', hm, fun W tk σ H F m Q k =>
  ha W tk σ H F m _ fun x H1 F1 m1 s1 r1 => hb W tk σ H1 F1 m1 _ fun y H2 F2 m2 s2 r2 => by
    cases r1; cases r2
    refine ⟨i, j, rfl, rfl, _, rfl, ?_⟩
    cases hg : g i j with
    | false => rw [hg] at k; exact ite_ff (k _ _ m2 (s1.trans s2))
    | true =>
      rw [hg] at k
      refine ite_tt (hc W tk σ H2 F2 m2 _ fun z H3 F3 m3 s3 r3 => ?_)
      cases r3
      exact ⟨j, l, rfl, rfl, k _ _ m3 ((s1.trans s2).trans s3)⟩⟩
theorem c3_lele {i j l : Int} (ha : RE B X a Γ (.val (.int i))) (hb : RE B X b Γ (.val (.int j))) (hc : RE B X c Γ (.val (.int l))) (hm : lastMarks [.LtE, .LtE] [b, c] = false := by with_unfolding_all rfl) :
    CO3 B X .LtE .LtE a b c Γ (decide (i ≤ j) && decide (j ≤ l)) := c3_of (g := fun i j => decide (i ≤ j)) (g' := fun i j => decide (i ≤ j)) op_le op_le hm ha hb hc
theorem c3_lelt {i j l : Int} (ha : RE B X a Γ (.val (.int i))) (hb : RE B X b Γ (.val (.int j))) (hc : RE B X c Γ (.val (.int l))) (hm : lastMarks [.LtE, .Lt] [b, c] = false := by with_unfolding_all rfl) :
    CO3 B X .LtE .Lt a b c Γ (decide (i ≤ j) && decide (j < l)) := c3_of (g := fun i j => decide (i ≤ j)) (g' := fun i j => decide (i < j)) op_le op_lt hm ha hb hc

/-! ### and, or, not, if, as values -/
theorem re_one {op} {o : RO} (h : RE B X a Γ o) : RE B X (.BoolOp op [a] pos) Γ o := fun W tk σ H F m Q k => toE (pe_one anyE) (h W tk σ H F m Q k)
theorem re_and {k1 k2 : Bool} {rest : List Expr} (ha : RE B X a Γ (.val (.bl k1))) (hb : k1 = true → RE B X (.BoolOp .And (b :: rest) pos) Γ (.val (.bl k2))) : RE B X (.BoolOp .And (a :: b :: rest) pos) Γ (.val (.bl (k1 && k2))) := fun W tk σ H F m Q k =>
  toE (pe_and anyE anyE) (ha W tk σ H F m _ fun x H1 F1 m1 s1 r1 => by
    cases r1
    refine ⟨k1, rfl, ?_⟩
    have k2 := k.mono s1
    cases k1 with
    | false => exact ite_ff (k2.go m1 (.bl _))
    | true => exact ite_tt (hb rfl W tk σ H1 F1 m1 Q k2))
theorem re_or {k1 k2 : Bool} {rest : List Expr} (ha : RE B X a Γ (.val (.bl k1))) (hb : k1 = false → RE B X (.BoolOp .Or (b :: rest) pos) Γ (.val (.bl k2))) : RE B X (.BoolOp .Or (a :: b :: rest) pos) Γ (.val (.bl (k1 || k2))) := fun W tk σ H F m Q k =>
  toE (pe_or anyE anyE) (ha W tk σ H F m _ fun x H1 F1 m1 s1 r1 => by
    cases r1
    refine ⟨k1, rfl, ?_⟩
    have k2 := k.mono s1
    cases k1 with
    | true => exact ite_tt (k2.go m1 (.bl _))
    | false => exact ite_ff (hb rfl W tk σ H1 F1 m1 Q k2))
theorem re_not {k1 : Bool} (ha : RE B X a Γ (.val (.bl k1))) : RE B X (.UnaryOp .Not a pos) Γ (.val (.bl (!k1))) := fun W tk σ H F m Q k =>
  toE (pe_not anyE) (ha W tk σ H F m _ fun x H1 F1 m1 s1 r1 => by cases r1; exact ⟨k1, rfl, (k.mono s1).go m1 (.bl _)⟩)
theorem re_if {k1 : Bool} {o : RO} (hc : RT B X c Γ k1) (ha : k1 = true → RE B X a Γ o) (hb : k1 = false → RE B X b Γ o) : RE B X (.IfExp c a b pos) Γ o := fun W tk σ H F m Q k =>
  toE (pe_ifExp anyT anyE anyE) (hc W tk σ H F m _ fun H1 F1 m1 s1 => by
    cases k1 with
    | true => exact ite_tt (ha rfl W tk σ H1 F1 m1 Q (k.mono s1))
    | false => exact ite_ff (hb rfl W tk σ H1 F1 m1 Q (k.mono s1)))
theorem re_is {o o' : RO} (h : RE B X e Γ o) (q : o = o') : RE B X e Γ o' := q ▸ h

/-! ### tests -/
theorem rt_val {k : Bool} (h : RE B X e Γ (.val (.bl k))) (he : ∀ whole, isTrue e X.env whole = (do let v ← whole; standAt e.pos; holding [v] (truthy v)) := by intro _; rfl) : RT B X e Γ k := fun W tk σ H F m Q kk =>
  toT (pt_val anyE he) (h W tk σ H F m _ fun v H' F' m' s r => by cases r; exact ⟨k, rfl, kk _ _ m' s⟩)
/-- a value's truth -/
def truD : D → Option Bool
  | .non => some false | .bl b => some b | .int i => some (i != 0) | .tup ds => some (!ds.isEmpty) | .lst ds => some (!ds.isEmpty)
  | _ => none
theorem RpL.emp {K : PySem.W.Frag} {F : Hp} {vs : List V} {ds : List D} (r : RpL K F vs ds) : (!vs.isEmpty) = !ds.isEmpty := by cases r <;> rfl
theorem truD_rel {K : PySem.W.Frag} {F H : Hp} {x : V} {d : D} {k : Bool} (s : Same F H) (r : Rp K F x d) (h : truD d = some k) : TruV K x H k := by
  cases r with
  | non => simp [truD] at h; exact h
  | bl b => simp [truD] at h; exact h.symm
  | int i => simp only [truD, Option.some.injEq] at h; exact h.symm
  | str i => simp [truD] at h
  | tup q r => simp only [truD, Option.some.injEq] at h; exact .inr (.inl ⟨_, same_sqT s q, by rw [r.emp]; exact h.symm⟩)
  | lst q r => simp only [truD, Option.some.injEq] at h; exact .inl ⟨_, same_sqL s q, by rw [r.emp]; exact h.symm⟩
  | ins q r => simp [truD] at h
theorem rt_tru {d : D} {k : Bool} (h : RE B X e Γ (.val d)) (hd : truD d = some k) (he : ∀ whole, isTrue e X.env whole = (do let v ← whole; standAt e.pos; holding [v] (truthy v)) := by intro _; rfl) : RT B X e Γ k := fun W tk σ H F m Q kk =>
  toT (pt_truth anyE he) (h W tk σ H F m _ fun v H' F' m' s r => ⟨k, truD_rel m'.mb.sub r hd, kk _ _ m' s⟩)
theorem rt_not {k : Bool} (h : RT B X a Γ k) : RT B X (.UnaryOp .Not a pos) Γ (!k) := fun W tk σ H F m Q kk => toT (pt_not anyT) (h W tk σ H F m _ fun H' F' m' s => kk _ _ m' s)
def tAnyW (X : Cx) (e : Expr) : TT := fun σ H Q => ∀ (whole : Sem Value) (pins : List (Addr × Obj)) (s : Shared), Inv X pins σ H s → wpAny (model X.prog X.w) X.A (isTrue e X.env whole) (TP X pins σ Q) X.xe s
theorem anyW : PW X e (tAnyW X e) := ⟨fun whole pins s _ _ _ I h => h whole pins s I⟩
theorem toW {t : TT} (h : PW X e t) {σ : L2.St} {H : Hp} {Q : Bool → Hp → Prop} (q : t σ H Q) : tAnyW X e σ H Q := fun whole pins s I => h.run whole pins s σ H Q I q
def RW (B : Bs) (X : Cx) (e : Expr) (Γ : List SV) (b : Bool) : Prop := ∀ (W : WX), Takes X W → ∀ (σ : L2.St) (H F : Hp), Mt X.K B F H σ Γ → ∀ Q : Bool → Hp → Prop, (∀ H' F', Mt X.K B F' H' σ Γ → Same F F' → Q b H') → tAnyW X e σ H Q
theorem rt_w {k : Bool} (h : RW B X e Γ k) : RT B X e Γ k := fun W tk σ H F m Q kk => toT anyW.pt (h W tk σ H F m Q kk)
theorem rw_and1 {k : Bool} (h : RT B X a Γ k) : RW B X (.BoolOp .And [a] pos) Γ k := fun W tk σ H F m Q kk => toW (pw_and1 anyT) (h W tk σ H F m Q kk)
theorem rw_or1 {k : Bool} (h : RT B X a Γ k) : RW B X (.BoolOp .Or [a] pos) Γ k := fun W tk σ H F m Q kk => toW (pw_or1 anyT) (h W tk σ H F m Q kk)
theorem rw_and {k1 k2 : Bool} {rest : List Expr} (ha : RT B X a Γ k1) (hb : k1 = true → RW B X (.BoolOp .And (b :: rest) pos) Γ k2) : RW B X (.BoolOp .And (a :: b :: rest) pos) Γ (k1 && k2) := fun W tk σ H F m Q kk =>
  toW (pw_and anyT anyW) (ha W tk σ H F m _ fun H' F' m' s => by
    cases k1 with
    | true => exact ite_tt (hb rfl W tk σ H' F' m' Q fun H2 F2 m2 s2 => kk _ _ m2 (s.trans s2))
    | false => exact ite_ff (kk _ _ m' s))
theorem rw_or {k1 k2 : Bool} {rest : List Expr} (ha : RT B X a Γ k1) (hb : k1 = false → RW B X (.BoolOp .Or (b :: rest) pos) Γ k2) : RW B X (.BoolOp .Or (a :: b :: rest) pos) Γ (k1 || k2) := fun W tk σ H F m Q kk =>
  toW (pw_or anyT anyW) (ha W tk σ H F m _ fun H' F' m' s => by
    cases k1 with
    | false => exact ite_ff (hb rfl W tk σ H' F' m' Q fun H2 F2 m2 s2 => kk _ _ m2 (s.trans s2))
    | true => exact ite_tt (kk _ _ m' s))
theorem rt_is {k k' : Bool} (h : RT B X e Γ k) (q : k = k') : RT B X e Γ k' := q ▸ h

/-! ### lists and tuples that are looked at -/
def SqB (K : PySem.W.Frag) (H : Hp) (p : Addr) (vs : List V) : Bool → Prop
  | true => SqL K H p vs
  | false => SqT K H p vs
theorem SqB.or {K : PySem.W.Frag} {H : Hp} {p : Addr} {vs : List V} : ∀ {t : Bool}, SqB K H p vs t → SqL K H p vs ∨ SqT K H p vs
  | true, h => .inl h
  | false, h => .inr h
/-- e is a list (true) or a tuple of ds; it stays one while nothing owned changes -/
def RP (B : Bs) (X : Cx) (e : Expr) (Γ : List SV) (t : Bool) (ds : List D) : Prop := ∀ (W : WX), Takes X W → ∀ (σ : L2.St) (H F : Hp), Mt X.K B F H σ Γ → ∀ Q : VK,
  (∀ p H' F', Mt X.K B F' H' σ Γ → Same F F' → (∀ H2 F2, Mt X.K B F2 H2 σ Γ → Same F' F2 → ∃ vs, SqB X.K H2 p vs t ∧ RpL X.K F2 vs ds) → Q (.ref p) H') → tAny X e σ H Q
theorem rp_lst {ds : List D} (h : RE B X e Γ (.val (.lst ds))) : RP B X e Γ true ds := fun W tk σ H F m Q k =>
  h W tk σ H F m Q fun v H' F' m' s r => by
    cases r with
    | lst q r => exact k _ _ _ m' s fun H2 F2 m2 s2 => ⟨_, same_sqL (s2.trans m2.mb.sub) q, r.mono s2⟩
theorem rp_tup {ds : List D} (h : RE B X e Γ (.val (.tup ds))) : RP B X e Γ false ds := fun W tk σ H F m Q k =>
  h W tk σ H F m Q fun v H' F' m' s r => by
    cases r with
    | tup q r => exact k _ _ _ m' s fun H2 F2 m2 s2 => ⟨_, same_sqT (s2.trans m2.mb.sub) q, r.mono s2⟩
theorem rp_own (i : Nat) {x : Str} {ds : List D} (hΓ : Γ[i]? = some (.own (.lst ds))) (hN : X.N[i]? = some x := by rfl) (hv : Vis X.env.scope x := by first | exact Or.inl rfl | exact Or.inr (Or.inl rfl) | exact Or.inr (Or.inr rfl))
    (h1 : (x == ("__debug__" : Str)) = false := by decide) (h2 : (x == ("__classdict__" : Str)) = false := by decide) : RP B X (.Name x pos) Γ true ds := fun W _ σ H F m Q k => by
  obtain ⟨p, e1, n0, w⟩ := m.own hΓ
  refine toE (pe_var hN hv h1 h2) ⟨.ref p, e1, k p H F m (.refl F) fun H2 F2 m2 s2 => ?_⟩
  obtain ⟨p', e2, _, _, vs, e3, r3⟩ := m2.own hΓ
  rw [e1] at e2; cases e2
  exact ⟨vs, SqL.of e3, r3⟩

/-! ### arguments -/
theorem rl_nil : RL B X [] Γ (.ok []) := fun W tk σ H F m Q k => toA pa_nil (k _ _ _ m (.refl F) .nil)
theorem rl_cons {d : D} {ds : List D} (ha : RE B X e Γ (.val d)) (hr : RL B X es Γ (.ok ds)) (hs : starEach (e :: es) X.env = (false, eval e X.env) :: starEach es X.env := by rfl) : RL B X (e :: es) Γ (.ok (d :: ds)) := fun W tk σ H F m Q k =>
  toA (pa_cons anyE anyA hs) (ha W tk σ H F m _ fun x H1 F1 m1 s1 r1 => hr W tk σ H1 F1 m1 _ fun xs H2 F2 m2 s2 r2 => k _ _ _ m2 (s1.trans s2) (.cons (r1.mono s2) r2))
theorem rl_consX {x : Exn} (ha : RE B X e Γ (.exc x)) (hs : starEach (e :: es) X.env = (false, eval e X.env) :: starEach es X.env := by rfl) : RL B X (e :: es) Γ (.error x) := fun W tk σ H F m Q k =>
  toA (pa_cons anyE anyA hs) (ha W tk σ H F m _ fun c d H1 F1 m1 s1 r1 => k c d _ _ m1 s1 r1)
theorem rl_consY {d : D} {x : Exn} (ha : RE B X e Γ (.val d)) (hr : RL B X es Γ (.error x)) (hs : starEach (e :: es) X.env = (false, eval e X.env) :: starEach es X.env := by rfl) : RL B X (e :: es) Γ (.error x) := fun W tk σ H F m Q k =>
  toA (pa_cons anyE anyA hs) (ha W tk σ H F m _ fun v H1 F1 m1 s1 r1 => hr W tk σ H1 F1 m1 _ fun c d H2 F2 m2 s2 r2 => k c d _ _ m2 (s1.trans s2) r2)

/-! ### displays -/
theorem re_tup {ds : List D} {j} (h : RL B X es Γ (.ok ds)) (hz : ds.length ≤ sizeLine := by show _ ≤ 16777216; simp) : RE B X (.Tuple es j pos) Γ (.val (.tup ds)) := fun W tk σ H F m Q k =>
  toE (pe_tup anyA) (h W tk σ H F m _ fun vs H' F' m' s r => ⟨by rw [r.len]; exact hz, fun p n => (k.mono s).tup m' r n⟩)
theorem re_lst {ds : List D} (h : RL B X es Γ (.ok ds)) (hz : ds.length ≤ sizeLine := by show _ ≤ 16777216; simp) : RE B X (.List es pos) Γ (.frs (.lst ds)) := fun W tk σ H F m Q k =>
  toE (pe_lst anyA) (h W tk σ H F m _ fun vs H' F' m' s r => ⟨by rw [r.len]; exact hz, fun p n => (k.mono s).lst m' r n⟩)

/-! ### built-in functions and types, called -/
def CJ (B : Bs) (X : Cx) (Γ : List SV) (r : List V → Hp → VK → Prop) (ds : List D) (o : RO) : Prop := ∀ (W : WX) (σ : L2.St) (H F : Hp) (vs : List V), Mt X.K B F H σ Γ → RpL X.K F vs ds → ∀ Q : VK, EK X.K B W F σ Γ Q o → r vs H Q
theorem re_callB {id : String} {r : List V → Hp → VK → Prop} {ds : List D} {o : RO} {x : Str} {p : Pos} (hc : CallR X (.builtin id) r) (hm : X.mg x = none) (hv : bootBuiltins x = some (.builtin id)) (ha : RL B X (e :: es) Γ (.ok ds)) (hj : CJ B X Γ r ds o)
    (hg : Gl X x := by rfl) (hn : x ≠ "__name__" := by decide) (hbug : (x == ("__debug__" : Str)) = false := by decide) (he : starEach (e :: es) X.env = (false, eval e X.env) :: starEach es X.env := by rfl) (hpl : (backTo pos (starEach es X.env)).any (·.1) = false := by rfl) :
    RE B X (.Call (.Name x p) (e :: es) [] pos) Γ o := fun W tk σ H F m Q k =>
  toE (pe_callB hc hg hm hv anyA hn hbug he hpl) (ha W tk σ H F m _ fun vs H' F' m' s r => hj W σ H' F' vs m' r Q (k.mono s))
theorem re_callTy {T : String} {r : List V → Hp → VK → Prop} {ds : List D} {o : RO} {x : Str} {p : Pos} (hc : CallR X (.type T) r) (hm : X.mg x = none) (hv : bootBuiltins x = some (.type T)) (ha : RL B X (e :: es) Γ (.ok ds)) (hj : CJ B X Γ r ds o)
    (hg : Gl X x := by rfl) (hn : x ≠ "__name__" := by decide) (hbug : (x == ("__debug__" : Str)) = false := by decide) (he : starEach (e :: es) X.env = (false, eval e X.env) :: starEach es X.env := by rfl) (hpl : (backTo pos (starEach es X.env)).any (·.1) = false := by rfl) :
    RE B X (.Call (.Name x p) (e :: es) [] pos) Γ o := fun W tk σ H F m Q k =>
  toE (pe_callTy hc hg hm hv anyA hn hbug he hpl) (ha W tk σ H F m _ fun vs H' F' m' s r => hj W σ H' F' vs m' r Q (k.mono s))
/-- .. with one list or tuple that is only looked at -/
def PJ (B : Bs) (X : Cx) (Γ : List SV) (r : List V → Hp → VK → Prop) (t : Bool) (ds : List D) (o : RO) : Prop := ∀ (W : WX) (σ : L2.St) (H F : Hp) (p : Addr) (vs : List V), Mt X.K B F H σ Γ → SqB X.K H p vs t → RpL X.K F vs ds → ∀ Q : VK, EK X.K B W F σ Γ Q o → r [.ref p] H Q
theorem re_peekB {id : String} {r : List V → Hp → VK → Prop} {t : Bool} {ds : List D} {o : RO} {x : Str} {p : Pos} (hc : CallR X (.builtin id) r) (hm : X.mg x = none) (hv : bootBuiltins x = some (.builtin id)) (ha : RP B X e Γ t ds) (hj : PJ B X Γ r t ds o)
    (hg : Gl X x := by rfl) (hn : x ≠ "__name__" := by decide) (hbug : (x == ("__debug__" : Str)) = false := by decide) (he : starEach [e] X.env = (false, eval e X.env) :: starEach [] X.env := by rfl) (hpl : (backTo pos (starEach [] X.env)).any (·.1) = false := by rfl) :
    RE B X (.Call (.Name x p) [e] [] pos) Γ o := fun W tk σ H F m Q k =>
  toE (pe_callB hc hg hm hv (pa_cons anyE pa_nil he) hn hbug he hpl) (ha W tk σ H F m _ fun q H' F' m' s st => by obtain ⟨vs, h1, h2⟩ := st H' F' m' (.refl F'); exact hj W σ H' F' q vs m' h1 h2 Q (k.mono s))
theorem re_peekTy {T : String} {r : List V → Hp → VK → Prop} {t : Bool} {ds : List D} {o : RO} {x : Str} {p : Pos} (hc : CallR X (.type T) r) (hm : X.mg x = none) (hv : bootBuiltins x = some (.type T)) (ha : RP B X e Γ t ds) (hj : PJ B X Γ r t ds o)
    (hg : Gl X x := by rfl) (hn : x ≠ "__name__" := by decide) (hbug : (x == ("__debug__" : Str)) = false := by decide) (he : starEach [e] X.env = (false, eval e X.env) :: starEach [] X.env := by rfl) (hpl : (backTo pos (starEach [] X.env)).any (·.1) = false := by rfl) :
    RE B X (.Call (.Name x p) [e] [] pos) Γ o := fun W tk σ H F m Q k =>
  toE (pe_callTy hc hg hm hv (pa_cons anyE pa_nil he) hn hbug he hpl) (ha W tk σ H F m _ fun q H' F' m' s st => by obtain ⟨vs, h1, h2⟩ := st H' F' m' (.refl F'); exact hj W σ H' F' q vs m' h1 h2 Q (k.mono s))
section
variable {p pos : Pos}
theorem re_len (mx : X.mg "len" = none) {t : Bool} {ds : List D} (h : RP B X e Γ t ds) (hg : Gl X "len" := by rfl) (he : starEach [e] X.env = (false, eval e X.env) :: starEach [] X.env := by rfl) : RE B X (.Call (.Name "len" p) [e] [] pos) Γ (.val (.int ds.length)) :=
  re_peekB call_len_seq mx PySem.boot_len h (fun W σ H F q vs m h1 h2 Q k => ⟨q, vs, rfl, h1.or, by rw [h2.len]; exact k.go m (.int _)⟩) hg (he := he)
theorem re_lenS (mx : X.mg "len" = none) {z : Str} (h : RE B X e Γ (.val (.str z))) (hz : z.length ≤ sizeLine) (hg : Gl X "len" := by rfl) (he : starEach [e] X.env = (false, eval e X.env) :: starEach [] X.env := by rfl) : RE B X (.Call (.Name "len" p) [e] [] pos) Γ (.val (.int z.length)) :=
  re_callB call_len_str mx PySem.boot_len (rl_cons h rl_nil he) (fun W σ H F vs m r Q k => by
    cases r with
    | cons r1 r2 => cases r1; cases r2; exact ⟨z, rfl, hz, k.go m (.int _)⟩) hg (he := he)
theorem re_abs (ma : X.mg "abs" = none) {i : Int} (h : RE B X e Γ (.val (.int i))) (hg : Gl X "abs" := by rfl) (he : starEach [e] X.env = (false, eval e X.env) :: starEach [] X.env := by rfl) : RE B X (.Call (.Name "abs" p) [e] [] pos) Γ (.val (.int (if i < 0 then -i else i))) :=
  re_callB call_abs ma (by decide +kernel) (rl_cons h rl_nil he) (fun W σ H F vs m r Q k => by
    cases r with
    | cons r1 r2 => cases r1; cases r2; exact ⟨i, rfl, k.go m (.int _)⟩) hg (he := he)
theorem re_intI (mi : X.mg "int" = none) {i : Int} (h : RE B X e Γ (.val (.int i))) (hg : Gl X "int" := by rfl) (he : starEach [e] X.env = (false, eval e X.env) :: starEach [] X.env := by rfl) : RE B X (.Call (.Name "int" p) [e] [] pos) Γ (.val (.int i)) :=
  re_callTy call_int1 mi (by decide +kernel) (rl_cons h rl_nil he) (fun W σ H F vs m r Q k => by
    cases r with
    | cons r1 r2 => cases r1; cases r2; exact .inl ⟨i, rfl, k.go m (.int _)⟩) hg (he := he)
theorem re_intB (mi : X.mg "int" = none) {i : Bool} (h : RE B X e Γ (.val (.bl i))) (hg : Gl X "int" := by rfl) (he : starEach [e] X.env = (false, eval e X.env) :: starEach [] X.env := by rfl) : RE B X (.Call (.Name "int" p) [e] [] pos) Γ (.val (.int (if i then 1 else 0))) :=
  re_callTy call_int1 mi (by decide +kernel) (rl_cons h rl_nil he) (fun W σ H F vs m r Q k => by
    cases r with
    | cons r1 r2 => cases r1; cases r2; exact .inr ⟨i, rfl, k.go m (.int _)⟩) hg (he := he)
theorem re_max2 (mM : X.mg "max" = none) {b : Expr} {i j : Int} (hc : X.calm = true) (h : RE B X e Γ (.val (.int i))) (h' : RE B X b Γ (.val (.int j))) (hg : Gl X "max" := by rfl) (he : starEach [e, b] X.env = (false, eval e X.env) :: starEach [b] X.env := by rfl) (he2 : starEach [b] X.env = (false, eval b X.env) :: starEach [] X.env := by rfl) :
    RE B X (.Call (.Name "max" p) [e, b] [] pos) Γ (.val (.int (if j > i then j else i))) :=
  re_callB (call_max2 hc) mM (by decide +kernel) (rl_cons h (rl_cons h' rl_nil he2) he) (fun W σ H F vs m r Q k => by
    cases r with
    | cons r1 r2 =>
      cases r2 with
      | cons r2 r3 => cases r1; cases r2; cases r3; exact ⟨i, j, rfl, k.go m (.int _)⟩) hg (he := he) (hpl := by rw [he2]; rfl)
theorem re_min2 (mm : X.mg "min" = none) {b : Expr} {i j : Int} (hc : X.calm = true) (h : RE B X e Γ (.val (.int i))) (h' : RE B X b Γ (.val (.int j))) (hg : Gl X "min" := by rfl) (he : starEach [e, b] X.env = (false, eval e X.env) :: starEach [b] X.env := by rfl) (he2 : starEach [b] X.env = (false, eval b X.env) :: starEach [] X.env := by rfl) :
    RE B X (.Call (.Name "min" p) [e, b] [] pos) Γ (.val (.int (if j < i then j else i))) :=
  re_callB (call_min2 hc) mm (by decide +kernel) (rl_cons h (rl_cons h' rl_nil he2) he) (fun W σ H F vs m r Q k => by
    cases r with
    | cons r1 r2 =>
      cases r2 with
      | cons r2 r3 => cases r1; cases r2; cases r3; exact ⟨i, j, rfl, k.go m (.int _)⟩) hg (he := he) (hpl := by rw [he2]; rfl)
theorem re_list (ml : X.mg "list" = none) {t : Bool} {ds : List D} (h : RP B X e Γ t ds) (hg : Gl X "list" := by rfl) (he : starEach [e] X.env = (false, eval e X.env) :: starEach [] X.env := by rfl) : RE B X (.Call (.Name "list" p) [e] [] pos) Γ (.frs (.lst ds)) :=
  re_peekTy call_list_of ml (by decide +kernel) h (fun W σ H F q vs m h1 h2 Q k => ⟨q, vs, rfl, h1.or, fun l n => k.lst m h2 n⟩) hg (he := he)
theorem re_tupleL (mt : X.mg "tuple" = none) {ds : List D} (h : RP B X e Γ true ds) (hg : Gl X "tuple" := by rfl) (he : starEach [e] X.env = (false, eval e X.env) :: starEach [] X.env := by rfl) : RE B X (.Call (.Name "tuple" p) [e] [] pos) Γ (.val (.tup ds)) :=
  re_peekTy call_tuple_of mt (by decide +kernel) h (fun W σ H F q vs m h1 h2 Q k => ⟨q, vs, rfl, .inl ⟨h1, fun l n => k.tup m h2 n⟩⟩) hg (he := he)
theorem re_tupleT (mt : X.mg "tuple" = none) {ds : List D} (h : RE B X e Γ (.val (.tup ds))) (hg : Gl X "tuple" := by rfl) (he : starEach [e] X.env = (false, eval e X.env) :: starEach [] X.env := by rfl) : RE B X (.Call (.Name "tuple" p) [e] [] pos) Γ (.val (.tup ds)) :=
  re_callTy call_tuple_of mt (by decide +kernel) (rl_cons h rl_nil he) (fun W σ H F vs m r Q k => by
    cases r with
    | cons r1 r2 =>
      cases r2
      cases r1 with
      | tup q r => exact ⟨_, _, rfl, .inr ⟨same_sqT m.mb.sub q, k.go m (.tup q r)⟩⟩) hg (he := he)
theorem re_all (mall : X.mg "all" = none) {bs : List Bool} (hc : X.calm = true) (h : RP B X e Γ true (bs.map D.bl)) (hg : Gl X "all" := by rfl) (he : starEach [e] X.env = (false, eval e X.env) :: starEach [] X.env := by rfl) : RE B X (.Call (.Name "all" p) [e] [] pos) Γ (.val (.bl (bs.all id))) :=
  re_peekB (cr_all hc) mall (by decide +kernel) h (fun W σ H F q vs m h1 h2 Q k => by rw [h2.bls] at h1; exact ⟨q, bs, rfl, h1, k.go m (.bl _)⟩) hg (he := he)
theorem re_any (many : X.mg "any" = none) {bs : List Bool} (hc : X.calm = true) (h : RP B X e Γ true (bs.map D.bl)) (hg : Gl X "any" := by rfl) (he : starEach [e] X.env = (false, eval e X.env) :: starEach [] X.env := by rfl) : RE B X (.Call (.Name "any" p) [e] [] pos) Γ (.val (.bl (bs.any id))) :=
  re_peekB (cr_any hc) many (by decide +kernel) h (fun W σ H F q vs m h1 h2 Q k => by rw [h2.bls] at h1; exact ⟨q, bs, rfl, h1, k.go m (.bl _)⟩) hg (he := he)
theorem re_strI (ms : X.mg "str" = none) {i : Int} (hz : i.natAbs.log2 < 1920) (h : RE B X e Γ (.val (.int i))) (hg : Gl X "str" := by rfl) (he : starEach [e] X.env = (false, eval e X.env) :: starEach [] X.env := by rfl) : RE B X (.Call (.Name "str" p) [e] [] pos) Γ (.val (.str (toString i))) :=
  re_callTy call_str_int ms (by decide +kernel) (rl_cons h rl_nil he) (fun W σ H F vs m r Q k => by
    cases r with
    | cons r1 r2 => cases r1; cases r2; exact ⟨i, rfl, hz, k.go m (.str _)⟩) hg (he := he)
end
end
end DL

/-! DL3: calls of defs, attributes, subscripts; statements; loops; comprehensions; the rule of a def. -/
namespace DL
open PySem PySem.Spec PyProof.Rows L2
section
variable {B : Bs} {X : Cx} {Γ : List SV} {a b c e : Expr} {es : List Expr} {pos : Pos}

/-! ### subscripts, slices -/
theorem re_ix {t : Bool} {ds : List D} {i : Int} {d : D} (ha : RP B X a Γ t ds) (hb : RE B X b Γ (.val (.int i))) (h : atI ds i = some d) (hs : PlainIx b := by intro _ _; rfl) : RE B X (.Subscript a b pos) Γ (.val d) := fun W tk σ H F m Q k =>
  toE (pe_ix ix_seq anyE anyE hs) (ha W tk σ H F m _ fun p H1 F1 m1 s1 st => hb W tk σ H1 F1 m1 _ fun y H2 F2 m2 s2 r2 => by
    cases r2
    obtain ⟨vs, h1, h2⟩ := st H2 F2 m2 s2
    obtain ⟨j, hj, hd⟩ : ∃ j, ixN ds.length i = some j ∧ ds[j]? = some d := by
      unfold atI at h
      cases q : ixN ds.length i with
      | none => rw [q] at h; cases h
      | some j => rw [q] at h; exact ⟨j, rfl, h⟩
    obtain ⟨v, hv, rv⟩ := h2.get hd
    have hat : atI vs i = some v := by unfold atI; rw [h2.len, hj]; exact hv
    have kk := (k.mono (s1.trans s2)).go m2 rv
    cases t with
    | true => exact .inl ⟨p, vs, i, v, rfl, rfl, h1, hat, kk⟩
    | false => exact .inr (.inl ⟨p, vs, i, v, rfl, rfl, h1, hat, kk⟩))
theorem re_ixS {z : Str} {i : Int} {n : Nat} (ha : RE B X a Γ (.val (.str z))) (hb : RE B X b Γ (.val (.int i))) (hz : z.length ≤ sizeLine) (h : atI z.cps.toList i = some n) (hs : PlainIx b := by intro _ _; rfl) : RE B X (.Subscript a b pos) Γ (.val (.str ⟨#[n]⟩)) := fun W tk σ H F m Q k =>
  toE (pe_ix ix_str anyE anyE hs) (ha W tk σ H F m _ fun p H1 F1 m1 s1 r1 => hb W tk σ H1 F1 m1 _ fun y H2 F2 m2 s2 r2 => by
    cases r1; cases r2
    exact ⟨z, i, n, rfl, rfl, hz, h, (k.mono (s1.trans s2)).go m2 (.str _)⟩)
/-- the part of a slice: left out, or an int -/
def RO1 (B : Bs) (X : Cx) (e : Option Expr) (Γ : List SV) (o : Option Int) : Prop := ∃ t : TO, PO X e t ∧ ∀ (W : WX), Takes X W → ∀ (σ : L2.St) (H F : Hp), Mt X.K B F H σ Γ → ∀ Q : Option Int → Hp → Prop, (∀ H' F', Mt X.K B F' H' σ Γ → Same F F' → Q o H') → t σ H Q
theorem ro_none : RO1 B X none Γ none := ⟨_, po_none, fun W tk σ H F m Q k => k _ _ m (.refl F)⟩
theorem ro_some {i : Int} (h : RE B X e Γ (.val (.int i))) : RO1 B X (some e) Γ (some i) := ⟨_, po_some anyE, fun W tk σ H F m Q k => h W tk σ H F m _ fun v H' F' m' s r => by cases r; exact ⟨i, rfl, k _ _ m' s⟩⟩
def cutD (ds : List D) (lo hi : Option Int) : List D := (ds.drop (HT.sIx ds.length 0 lo)).take (HT.sIx ds.length ds.length hi - HT.sIx ds.length 0 lo)
theorem RpL.cut {K : PySem.W.Frag} {F : Hp} {vs : List V} {ds : List D} (r : RpL K F vs ds) (lo hi : Option Int) : RpL K F (cutV vs lo hi) (cutD ds lo hi) := by
  unfold cutV cutD
  rw [r.len]
  exact (r.drop _).take _
theorem re_slL {ds : List D} {lo hi : Option Expr} {l u : Option Int} {p2 : Pos} (ha : RP B X a Γ true ds) (hl : RO1 B X lo Γ l) (hu : RO1 B X hi Γ u) : RE B X (.Subscript a (.Slice lo hi none p2) pos) Γ (.frs (.lst (cutD ds l u))) := fun W tk σ H F m Q k => by
  obtain ⟨t1, p1, h1⟩ := hl
  obtain ⟨t2, p2, h2⟩ := hu
  refine toE (pe_slice sl_list anyE p1 p2) (ha W tk σ H F m _ fun p H1 F1 m1 s1 st => h1 W tk σ H1 F1 m1 _ fun H2 F2 m2 s2 => h2 W tk σ H2 F2 m2 _ fun H3 F3 m3 s3 => ?_)
  obtain ⟨vs, q1, q2⟩ := st H3 F3 m3 (s2.trans s3)
  exact ⟨p, vs, rfl, q1, fun q n => (k.mono ((s1.trans s2).trans s3)).lst m3 (q2.cut l u) n⟩
theorem cut_whole {ds : List D} {l u : Option Int} (h : HT.sIx ds.length 0 l = 0 ∧ HT.sIx ds.length ds.length u = ds.length) : cutD ds l u = ds := by
  unfold cutD
  rw [h.1, h.2]
  simp
theorem re_slT {ds : List D} {lo hi : Option Expr} {l u : Option Int} {p2 : Pos} (ha : RE B X a Γ (.val (.tup ds))) (hl : RO1 B X lo Γ l) (hu : RO1 B X hi Γ u) : RE B X (.Subscript a (.Slice lo hi none p2) pos) Γ (.val (.tup (cutD ds l u))) := fun W tk σ H F m Q k => by
  obtain ⟨t1, p1, h1⟩ := hl
  obtain ⟨t2, p2, h2⟩ := hu
  refine toE (pe_slice sl_tupA anyE p1 p2) (ha W tk σ H F m _ fun v H1 F1 m1 s1 r1 => h1 W tk σ H1 F1 m1 _ fun H2 F2 m2 s2 => h2 W tk σ H2 F2 m2 _ fun H3 F3 m3 s3 => ?_)
  have s13 := s2.trans s3
  have kk := k.mono (s1.trans s13)
  cases r1 with
  | tup q r =>
    refine ⟨_, _, rfl, same_sqT (s13.trans m3.mb.sub) q, fun hw => ?_, fun _ p n => kk.tup m3 ((r.cut l u).mono s13) n⟩
    rw [r.len] at hw
    rw [cut_whole hw] at kk
    exact kk.go m3 (.tup (same_sqT s13 q) (r.mono s13))
/-- t + u of tuples -/
theorem re_addT {ds es : List D} (hz : ds.length + es.length ≤ sizeLine) (ha : RE B X a Γ (.val (.tup ds))) (hb : RE B X b Γ (.val (.tup es))) : RE B X (.BinOp a .Add b pos) Γ (.val (.tup (ds ++ es))) := fun W tk σ H F m Q k =>
  toE (pe_op op_catA anyE anyE) (ha W tk σ H F m _ fun x H1 F1 m1 s1 r1 => hb W tk σ H1 F1 m1 _ fun y H2 F2 m2 s2 r2 => by
    have kk := k.mono (s1.trans s2)
    cases r1 with
    | tup q1 r1 =>
      cases r2 with
      | tup q2 r2 =>
        refine ⟨_, _, _, _, rfl, rfl, same_sqT (s2.trans m2.mb.sub) q1, same_sqT m2.mb.sub q2, by rw [r1.len, r2.len]; exact hz, fun e => ?_, fun _ e => ?_, fun _ _ p n => kk.tup m2 ((r1.mono s2).app r2) n⟩
        · subst e; cases r1; exact kk.go m2 (.tup q2 r2)
        · subst e; cases r2; rw [List.append_nil] at kk; exact kk.go m2 (.tup (same_sqT s2 q1) (r1.mono s2)))
/-- xs + ys of lists -/
theorem op_catS : OpR X (binaryOp .Add) (fun x y H Q => ∃ l b xs zs, x = .ref l ∧ y = .ref b ∧ SqL X.K H l xs ∧ SqL X.K H b zs ∧ xs.length + zs.length ≤ sizeLine ∧ ∀ p, H p = none → Q (.ref p) (upd H p (.lst (xs ++ zs)))) := by
  intro pins s σ H x y v u Q I rx ry h
  obtain ⟨l, b, xs, zs, rfl, rfl, hx, hy, hz, q⟩ := h
  cases rx
  cases ry
  obtain ⟨its, r1, ⟨⟨ca, da, ta, la⟩, n1, o1, c1, d1, t1⟩, z1⟩ := I.list hx
  obtain ⟨its2, r2, ⟨⟨cb, db, tb, lb⟩, n2, o2, c2, d2, t2⟩, z2⟩ := I.list hy
  simp only at c1 d1 t1 c2 d2 t2
  subst c1 d1 t1 c2 d2 t2
  have e1 := r1.length
  have e2 := r2.length
  refine concat_meets ⟨_, o1, rfl⟩ ⟨_, o2, rfl⟩ noFill_list_add seq_list_add PySem.F.slot_list_add PySem.F.entry_list_add (PySem.F.args_list_add_2 _ _) (list_addW l b its.toArray its2.toArray n1 n2 _ _ la lb (by simp; omega)) ⟨o1, o2, ?_⟩
  rw [show its.toArray ++ its2.toArray = (its ++ its2).toArray by simp]
  exact ⟨.ref _, _, I.lnew (t' := s.toks) (Vals.append r1 r2) (by rw [List.length_append]; omega), rfl, q _ I.fresh⟩
theorem re_addL {ds es : List D} (hz : ds.length + es.length ≤ sizeLine) (ha : RE B X a Γ (.val (.lst ds))) (hb : RE B X b Γ (.val (.lst es))) : RE B X (.BinOp a .Add b pos) Γ (.frs (.lst (ds ++ es))) :=
  re_bin op_catS ha hb fun W σ H F x y m r1 r2 Q k => by
    cases r1 with
    | lst q1 r1 =>
      cases r2 with
      | lst q2 r2 => exact ⟨_, _, _, _, rfl, rfl, same_sqL m.mb.sub q1, same_sqL m.mb.sub q2, by rw [r1.len, r2.len]; exact hz, fun p n => k.lst m (r1.app r2) n⟩
end

/-! ### statements -/
section
variable {B : Bs} {X : Cx} {Γ : List SV} {a b c e : Expr} {es : List Expr} {pos pos' : Pos} {post : SO → Prop} {st : Stmt} {rest : List Stmt}
theorem ws_nil (h : post (.nx Γ)) : WS B X [] Γ post := fun W tk σ H F m D k => toB pss_nil (k.nx σ H F Γ h m (.refl F))
def thenS (B : Bs) (X : Cx) (rest : List Stmt) (post : SO → Prop) : SO → Prop
  | .nx Γ' => WS B X rest Γ' post
  | .ret r => post (.ret r)
  | .brk Γ => post (.brk Γ)
  | .cont Γ => post (.cont Γ)
  | .exc x Γ => post (.exc x Γ)
theorem ws_cons (h : W1 B X st Γ (thenS B X rest post)) : WS B X (st :: rest) Γ post := fun W tk σ H F m D k =>
  toB (pss_cons anyS anyB) (h W tk σ H F m { D with nx := tAnyB X rest D } ⟨fun σ' H' F' Γ' p m' s => p W tk σ' H' F' m' D (k.mono s), fun v H' F' r p m' s q => k.rt v H' F' r p m' s q, fun σ' H' F' Γ' p m' s => k.bk σ' H' F' Γ' p m' s,
    fun σ' H' F' Γ' p m' s => k.ct σ' H' F' Γ' p m' s, fun c d σ' H' F' Γ' x p m' s r => k.ex c d σ' H' F' Γ' x p m' s r⟩)
theorem ws_one (h : W1 B X st Γ post) : WS B X [st] Γ post := fun W tk σ H F m D k => toB (pss_one anyS) (h W tk σ H F m D k)
theorem ws_frz (i : Nat) {ds : List D} {sts : List Stmt} (hΓ : Γ[i]? = some (.own (.lst ds))) (h : WS B X sts (Γ.set i (.dat (.lst ds))) post) : WS B X sts Γ post := fun W tk σ H F m D k => by
  obtain ⟨p, e1, n0, w⟩ := m.own hΓ
  obtain ⟨nf, vs, e2, r⟩ := w
  have sf : Same F (upd F p (.lst vs)) := fun b x q => by rw [upd_ne (ne_of_none q nf)]; exact q
  have m0 : Mt X.K B (upd F p (.lst vs)) H σ (Γ.set i (.dat (.lst ds))) := by
    have mw : Mt X.K B F H σ (Γ.set i .un) := m.weak (List.length_set ..) fun j sv q => by
      by_cases z : i = j
      · subst z
        rw [List.getElem?_set_self (List.getElem?_eq_some_iff.mp hΓ).1] at q; cases q; exact .inl rfl
      · rw [List.getElem?_set_ne z] at q; exact .inr q
    have ap : Apart σ (Γ.set i .un) p := fun j o q z => by
      by_cases z2 : i = j
      · subst z2
        rw [List.getElem?_set_self (List.getElem?_eq_some_iff.mp hΓ).1] at q; cases q
      · rw [List.getElem?_set_ne z2] at q; exact m.sep i j _ _ p z2 hΓ q e1 z
    obtain ⟨mf, _⟩ := mw.freeze e2 nf n0 ap
    have mp := mf.put i (v := .ref p) (d := .lst ds) (.lst (SqL.of upd_same) (r.mono sf))
    rw [List.set_set] at mp
    have es : σ.set i (some (.ref p)) = σ := by
      apply List.ext_getElem?
      intro j
      by_cases z : i = j
      · subst z
        rw [List.getElem?_set_self (List.getElem?_eq_some_iff.mp e1).1, e1]
      · rw [List.getElem?_set_ne z]
    rw [es] at mp
    exact mp
  exact h W tk σ H _ m0 D (k.mono sf)
theorem w1_pass (h : post (.nx Γ)) : W1 B X (.Pass pos) Γ post := fun W tk σ H F m D k => toS ps_pass (k.nx σ H F Γ h m (.refl F))
theorem w1_break (h : post (.brk Γ)) : W1 B X (.Break pos) Γ post := fun W tk σ H F m D k => toS ps_break (k.bk σ H F Γ h m (.refl F))
theorem w1_cont (h : post (.cont Γ)) : W1 B X (.Continue pos) Γ post := fun W tk σ H F m D k => toS ps_continue (k.ct σ H F Γ h m (.refl F))
theorem w1_set (i : Nat) {x : Str} {d : D} (hd : X.N.Nodup) (he : RE B X e Γ (.val d)) (h : post (.nx (Γ.set i (.dat d)))) (hi : X.N[i]? = some x := by rfl) (hx : Loc X.env.scope x := by first | exact .inl rfl | exact .inr rfl)
    (hs : swapsWith e (some (.Name x pos')) pos.line X.env = pure false := by rfl) (hf : X.fn x = true ∨ X.env.scope.names.lookup x = some .local := by first | exact .inl rfl | exact .inr rfl) : W1 B X (.Assign [.Name x pos'] e pos) Γ post := fun W tk σ H F m D k =>
  toS (ps_set hd hi hx anyE hs hf) (he W tk σ H F m _ fun v H' F' m' s r => k.nx _ H' F' _ h (m'.put i r) s)
theorem w1_setO (i : Nat) {x : Str} {o : OD} (hd : X.N.Nodup) (he : RE B X e Γ (.frs o)) (h : post (.nx (Γ.set i (.own o)))) (hi : X.N[i]? = some x := by rfl) (hx : Loc X.env.scope x := by first | exact .inl rfl | exact .inr rfl)
    (hs : swapsWith e (some (.Name x pos')) pos.line X.env = pure false := by rfl) (hf : X.fn x = true ∨ X.env.scope.names.lookup x = some .local := by first | exact .inl rfl | exact .inr rfl) : W1 B X (.Assign [.Name x pos'] e pos) Γ post := fun W tk σ H F m D k =>
  toS (ps_set hd hi hx anyE hs hf) (he W tk σ H F m _ fun p H' F' m' s n0 ap w => k.nx _ H' F' _ h (m'.putOwn i n0 ap w) s)
theorem w1_setX {x : Str} {i : Nat} {z : Exn} (hd : X.N.Nodup) (he : RE B X e Γ (.exc z)) (h : post (.exc z Γ)) (hi : X.N[i]? = some x) (hx : Loc X.env.scope x := by first | exact .inl rfl | exact .inr rfl)
    (hs : swapsWith e (some (.Name x pos')) pos.line X.env = pure false := by rfl) (hf : X.fn x = true ∨ X.env.scope.names.lookup x = some .local := by first | exact .inl rfl | exact .inr rfl) : W1 B X (.Assign [.Name x pos'] e pos) Γ post := fun W tk σ H F m D k =>
  toS (ps_set hd hi hx anyE hs hf) (he W tk σ H F m _ fun c d H' F' m' s r => k.ex c d σ H' F' Γ z h m' s r)
theorem w1_expr {d : D} (he : RE B X e Γ (.val d)) (h : post (.nx Γ)) (hs : swapsWith e none pos.line X.env = pure false := by rfl) : W1 B X (.Expr e pos) Γ post := fun W tk σ H F m D k =>
  toS (ps_expr anyE hs) (he W tk σ H F m _ fun v H' F' m' s r => k.nx σ H' F' Γ h m' s)
theorem w1_exprX {z : Exn} (he : RE B X e Γ (.exc z)) (h : post (.exc z Γ)) (hs : swapsWith e none pos.line X.env = pure false := by rfl) : W1 B X (.Expr e pos) Γ post := fun W tk σ H F m D k =>
  toS (ps_expr anyE hs) (he W tk σ H F m _ fun c d H' F' m' s r => k.ex c d σ H' F' Γ z h m' s r)
theorem w1_ret {d : D} (he : RE B X e Γ (.val d)) (h : post (.ret (.val d))) : W1 B X (.Return (some e) pos) Γ post := fun W tk σ H F m D k =>
  toS (ps_ret anyE) (he W tk σ H F m _ fun v H' F' m' s r => k.rt v H' F' _ h m'.mb s r)
theorem w1_retO {o : OD} (he : RE B X e Γ (.frs o)) (h : post (.ret (.frs o))) : W1 B X (.Return (some e) pos) Γ post := fun W tk σ H F m D k =>
  toS (ps_ret anyE) (he W tk σ H F m _ fun p H' F' m' s n0 ap w => k.rt _ H' F' _ h m'.mb s ⟨p, rfl, n0, w⟩)
theorem w1_retX {z : Exn} (he : RE B X e Γ (.exc z)) (h : post (.exc z Γ)) : W1 B X (.Return (some e) pos) Γ post := fun W tk σ H F m D k =>
  toS (ps_ret anyE) (he W tk σ H F m _ fun c d H' F' m' s r => k.ex c d σ H' F' Γ z h m' s r)
/-- return x, x an owned object's only name -/
theorem w1_retN (i : Nat) {x : Str} {o : OD} (hΓ : Γ[i]? = some (.own o)) (h : post (.ret (.frs o))) (hN : X.N[i]? = some x := by rfl) (hv : Vis X.env.scope x := by first | exact Or.inl rfl | exact Or.inr (Or.inl rfl) | exact Or.inr (Or.inr rfl))
    (h1 : (x == ("__debug__" : Str)) = false := by decide) (h2 : (x == ("__classdict__" : Str)) = false := by decide) : W1 B X (.Return (some (.Name x pos')) pos) Γ post := fun W tk σ H F m D k => by
  obtain ⟨p, e1, n0, w⟩ := m.own hΓ
  exact toS (ps_ret (pe_var hN hv h1 h2)) ⟨.ref p, e1, k.rt _ H F _ h m.mb (.refl F) ⟨p, rfl, n0, w⟩⟩
theorem w1_retNone (h : post (.ret (.val .non))) : W1 B X (.Return none pos) Γ post := fun W tk σ H F m D k => toS ps_retN (k.rt .non H F _ h m.mb (.refl F) .non)
theorem w1_if {k1 : Bool} {x y : List Stmt} (hc : RT B X c Γ k1) (ha : k1 = true → WS B X x Γ post) (hb : k1 = false → WS B X y Γ post) : W1 B X (.If c x y pos) Γ post := fun W tk σ H F m D k =>
  toS (ps_if anyT anyB anyB) (hc W tk σ H F m _ fun H' F' m' s => by
    cases k1 with
    | true => exact ite_tt (ha rfl W tk σ H' F' m' D (k.mono s))
    | false => exact ite_ff (hb rfl W tk σ H' F' m' D (k.mono s)))
/-- xs.append(e), xs an owned list -/
theorem w1_append (i : Nat) {ds : List D} {d : D} {call : Expr} (hΓ : Γ[i]? = some (.own (.lst ds))) (hp : ∀ t : TE, PE X e t → PE X call (tBM X.K "list" rAppend (tVar i) (tCons t tNil))) (he : RE B X e Γ (.val d)) (hz : ds.length < sizeLine) (h : post (.nx (Γ.set i (.own (.lst (ds ++ [d]))))))
    (hs : swapsWith call none pos.line X.env = pure false := by rfl) : W1 B X (.Expr call pos) Γ post := fun W tk σ H F m D k => by
  obtain ⟨p, e1, n0, w⟩ := m.own hΓ
  refine toS (ps_expr (hp _ anyE) hs) ⟨.ref p, e1, ?_, he W tk σ H F m _ fun v H' F' m' s r => ?_⟩
  · obtain ⟨_, vs, e2, _⟩ := w
    exact .inl ⟨rfl, vs, SqL.of e2⟩
  · obtain ⟨p', e1', _, w'⟩ := m'.own hΓ
    rw [e1] at e1'; cases e1'
    obtain ⟨nf, vs, e2, r2⟩ := w'
    exact ⟨p, vs, v, rfl, rfl, e2, by rw [r2.len]; exact hz, k.nx σ _ F' _ h (m'.mut hΓ e1 ⟨nf, _, upd_same, r2.app (.cons r .nil)⟩) s⟩
/-- xs[j] = e -/
theorem w1_setAt (i : Nat) {x : Str} {ds : List D} {d : D} {j : Int} {n : Nat} {p1 p2 : Pos} (hΓ : Γ[i]? = some (.own (.lst ds))) (he : RE B X e Γ (.val d)) (hj : RE B X b Γ (.val (.int j))) (hn : ixN ds.length j = some n) (h : post (.nx (Γ.set i (.own (.lst (ds.set n d)))))) (hN : X.N[i]? = some x := by rfl)
    (hv : Vis X.env.scope x := by first | exact Or.inl rfl | exact Or.inr (Or.inl rfl) | exact Or.inr (Or.inr rfl)) (h1 : (x == ("__debug__" : Str)) = false := by decide) (h2 : (x == ("__classdict__" : Str)) = false := by decide)
    (ha : ∀ v, assign (.Subscript (.Name x p1) b p2) X.env v = (do
      let ov ← holding [v] (eval (.Name x p1) X.env)
      let iv ← holding [v, ov] (eval b X.env)
      standAt p2
      holding [v, ov, iv] (setItem ov iv v)
      release [v, ov, iv] []) := by intro _; rfl)
    (hs : swapsWithSole [.Subscript (.Name x p1) b p2] e pos.line X.env = pure false := by rfl) (hw : swappedStores [.Subscript (.Name x p1) b p2] e X.env = pure none := by rfl)
    (h3 : (assignEach [.Subscript (.Name x p1) b p2] X.env).map (·.2) = [assign (.Subscript (.Name x p1) b p2) X.env] := by rfl) :
    W1 B X (.Assign [.Subscript (.Name x p1) b p2] e pos) Γ post := fun W tk σ H F m D k => by
  obtain ⟨p, e1, n0, w⟩ := m.own hΓ
  refine toS (ps_asg anyE (pg_sub (pe_var hN hv h1 h2) anyE set_list ha) hs hw h3) (he W tk σ H F m _ fun v H1 F1 m1 s1 r1 => ⟨.ref p, e1, hj W tk σ H1 F1 m1 _ fun y H2 F2 m2 s2 r2 => ?_⟩)
  cases r2
  obtain ⟨p', e1', _, w'⟩ := m2.own hΓ
  rw [e1] at e1'; cases e1'
  obtain ⟨nf, vs, e2, r3⟩ := w'
  exact ⟨p, vs, j, n, rfl, rfl, e2, by rw [r3.len]; exact hn, k.nx σ _ F2 _ h (m2.mut hΓ e1 ⟨nf, _, upd_same, r3.set n (r1.mono s2)⟩) (s1.trans s2)⟩
/-- x += e, x -= e -/
theorem w1_aug (i : Nat) {x : Str} {op : Operator} {f : Int → Int → Int} {u v : Int} (ho : PIp X op (ipI f)) (hd : X.N.Nodup) (hΓ : Γ[i]? = some (.dat (.int u))) (he : RE B X e Γ (.val (.int v))) (h : post (.nx (Γ.set i (.dat (.int (f u v)))))) (hi : X.N[i]? = some x := by rfl)
    (hx : Loc X.env.scope x := by first | exact .inl rfl | exact .inr rfl) (hf : X.fn x = true ∨ X.env.scope.names.lookup x = some .local := by first | exact .inl rfl | exact .inr rfl) : W1 B X (.AugAssign (.Name x pos') op e pos) Γ post := fun W tk σ H F m D k => by
  obtain ⟨w, e1, r1⟩ := m.at hΓ
  cases r1
  refine toS (ps_aug hd hi hx anyE ho hf) ⟨.int u, e1, he W tk σ H F m _ fun y H' F' m' s r => ?_⟩
  cases r
  exact ⟨u, v, rfl, rfl, k.nx _ H' F' _ h (m'.put i (.int _)) s⟩

/-! ### targets -/
def RG (K : PySem.W.Frag) (B : Bs) (g : TG) (Γ : List SV) (d : D) (Γ' : List SV) : Prop := ∀ (σ : L2.St) (H F : Hp) (v : V), Mt K B F H σ Γ → Rp K F v d → ∀ Q : L2.St → Hp → Prop, (∀ σ', Mt K B F H σ' Γ' → Q σ' H) → g v σ H Q
def RGs (K : PySem.W.Frag) (B : Bs) (g : TGs) (Γ : List SV) (ds : List D) (Γ' : List SV) : Prop := ∀ (σ : L2.St) (H F : Hp) (vs : List V), Mt K B F H σ Γ → RpL K F vs ds → ∀ Q : L2.St → Hp → Prop, (∀ σ', Mt K B F H σ' Γ' → Q σ' H) → g vs σ H Q
variable {K : PySem.W.Frag}
theorem rg_name (i : Nat) {d : D} : RG K B (gName i) Γ d (Γ.set i (.dat d)) := fun σ H F v m r Q k => k _ (m.put i r)
theorem rgs_nil : RGs K B gNil Γ [] Γ := fun σ H F vs m r Q k => by cases r; exact ⟨rfl, k _ m⟩
theorem rgs_cons {g : TG} {gs : TGs} {d : D} {ds : List D} {Γ1 Γ2 : List SV} (h : RG K B g Γ d Γ1) (hs : RGs K B gs Γ1 ds Γ2) : RGs K B (gCons g gs) Γ (d :: ds) Γ2 := fun σ H F vs m r Q k => by
  cases r with
  | cons r rs => exact ⟨_, _, rfl, h σ H F _ m r _ fun σ' m' => hs σ' H F _ m' rs Q k⟩
theorem rg_tup {n : Nat} {gs : TGs} {ds : List D} {Γ' : List SV} (hn : ds.length = n) (hs : RGs K B gs Γ ds Γ') : RG K B (gTup K n gs) Γ (.tup ds) Γ' := fun σ H F v m r Q k => by
  cases r with
  | tup q rs => exact ⟨_, _, rfl, same_sqT m.mb.sub q, by rw [rs.len]; exact hn, hs σ H F _ m rs Q k⟩
theorem w1_asg {tg : Expr} {g : TG} {d : D} {Γ' : List SV} (hg : PG X tg g) (he : RE B X e Γ (.val d)) (hr : RG X.K B g Γ d Γ') (h : post (.nx Γ')) (hs : swapsWithSole [tg] e pos.line X.env = pure false := by rfl) (hw : swappedStores [tg] e X.env = pure none := by rfl)
    (h1 : (assignEach [tg] X.env).map (·.2) = [assign tg X.env] := by rfl) : W1 B X (.Assign [tg] e pos) Γ post := fun W tk σ H F m D k =>
  toS (ps_asg anyE hg hs hw h1) (he W tk σ H F m _ fun v H' F' m' s r => hr σ H' F' v m' r _ fun σ' m2 => k.nx σ' H' F' Γ' h m2 s)
theorem w1_asgX {tg : Expr} {g : TG} {z : Exn} (hg : PG X tg g) (he : RE B X e Γ (.exc z)) (h : post (.exc z Γ)) (hs : swapsWithSole [tg] e pos.line X.env = pure false := by rfl) (hw : swappedStores [tg] e X.env = pure none := by rfl)
    (h1 : (assignEach [tg] X.env).map (·.2) = [assign tg X.env] := by rfl) : W1 B X (.Assign [tg] e pos) Γ post := fun W tk σ H F m D k =>
  toS (ps_asg anyE hg hs hw h1) (he W tk σ H F m _ fun c d H' F' m' s r => k.ex c d σ H' F' Γ z h m' s r)
/-- x, y = a, b -/
theorem w1_par (i j : Nat) {x y : Str} {d1 d2 : D} {px py pt : Pos} {kt k2 pt2} (hc : X.calm = true) (hd : X.N.Nodup) (h1 : RE B X a Γ (.val d1)) (h2 : RE B X b Γ (.val d2)) (h : post (.nx ((Γ.set i (.dat d1)).set j (.dat d2)))) (hi : X.N[i]? = some x := by rfl) (hj : X.N[j]? = some y := by rfl) (hij : i ≠ j := by decide)
    (hx : X.env.scope.names.lookup x = some .local := by rfl) (hy : X.env.scope.names.lookup y = some .local := by rfl) (hs1 : starEach [a, b] X.env = (false, eval a X.env) :: starEach [b] X.env := by rfl) (hs2 : starEach [b] X.env = (false, eval b X.env) :: starEach [] X.env := by rfl)
    (hw : swappedStores [.Tuple [.Name x px, .Name y py] kt pt] (.Tuple [a, b] k2 pt2) X.env = pure (some [x, y]) := by rfl)
    (hs : swapsWithSole [.Tuple [.Name x px, .Name y py] kt pt] (.Tuple [a, b] k2 pt2) pos.line X.env = pure false := by rfl) :
    W1 B X (.Assign [.Tuple [.Name x px, .Name y py] kt pt] (.Tuple [a, b] k2 pt2) pos) Γ post := fun W tk σ H F m D k =>
  toS (ps_par hc hd hi hj hij hx hy (pa_cons anyE (pa_cons anyE pa_nil hs2) hs1) hw hs) (h1 W tk σ H F m _ fun v1 H1 F1 m1 s1 r1 => h2 W tk σ H1 F1 m1 _ fun v2 H2 F2 m2 s2 r2 =>
    ⟨v1, v2, rfl, k.nx _ H2 F2 _ h ((m2.put i (r1.mono s2)).put j r2) (s1.trans s2)⟩)
end
end DL

/-! DL4: defs: promises over data, calls, methods, makings; raise; loops, comprehensions. -/
namespace DL
open PySem PySem.Spec PyProof.Rows L2

/-! ### promises -/
/-- what a def's caller gets -/
def DK (K : PySem.W.Frag) (F H : Hp) (Q : VK) (E : XK) : RO → Prop
  | .val d => ∀ v H' F', Grow F H F' H' → Rp K F' v d → Q v H'
  | .frs o => ∀ p H' F', Grow F H F' H' → H p = none → OwnAt K F' H' p o → Q (.ref p) H'
  | .exc x => ∀ c d H' F', Grow F H F' H' → RpX K F' H' x c d → E c d H'
abbrev DSp := List D → RO → Prop
def spD (K : PySem.W.Frag) (S : DSp) : Sp := fun vs H Q E => ∃ (F : Hp) (ds : List D) (o : RO), Same F H ∧ RpL K F vs ds ∧ S ds o ∧ DK K F H Q E o
/-- an __init__: what the instance's fields are behind it -/
abbrev ISp := List D → Except Exn (List (Str × D)) → Prop
def spI (K : PySem.W.Frag) (C : Addr) (S : ISp) : Sp := fun vs Hx Q E => ∃ (F H : Hp) (x dx : Addr) (rest : List V) (ds : List D) (o : Except Exn (List (Str × D))), vs = .ref x :: rest ∧ H x = none ∧ H dx = none ∧ dx ≠ x ∧ Hx = upd (upd H dx (.own x)) x (.ins C dx []) ∧
  Same F H ∧ RpL K F rest ds ∧ S ds o ∧ match o with
    | .ok fs => ∀ H' F', Grow F H F' H' → OwnAt K F' H' x (.ins C fs) → Q .non H'
    | .error z => ∀ c d H' F', Grow F H F' H' → RpX K F' H' z c d → E c d H'

/-- a def of the module at hand: its promise S (the defaults dd fill up) -/
structure Defn (P : Program) (w : World) (K : PySem.W.Frag) (mg : Str → Option Value) (base : Heap) (k : Nat) (x : Str) (dd : List D) (S : DSp) : Prop where
  ex : ∃ (f : Addr) (fd : FuncData) (ps : List Str) (dvs : List V) (dv : List Value), FnOk P w K mg base (L2.CX P w) k f fd ps (spD K S) ∧ mg x = some (.ref f) ∧ PySem.W.keepIn K (.ref f) = true ∧ Binds K fd ps dv ∧ Vals dvs dv ∧ ∀ F, RpL K F dvs dd
structure Mth (P : Program) (w : World) (K : PySem.W.Frag) (mg : Str → Option Value) (base : Heap) (k : Nat) (C : Addr) (x : Str) (dd : List D) (S : DSp) : Prop where
  cls : Cls K C
  ex : ∃ (f : Addr) (fd : FuncData) (ps : List Str) (dvs : List V) (dv : List Value), FnOk P w K mg base (L2.CX P w) k f fd ps (spD K S) ∧ Meth K C x f ∧ Binds K fd ps dv ∧ Vals dvs dv ∧ ∀ F, RpL K F dvs dd
structure Mkr (P : Program) (w : World) (K : PySem.W.Frag) (mg : Str → Option Value) (base : Heap) (k : Nat) (x : Str) (C : Addr) (dd : List D) (S : ISp) : Prop where
  ex : ∃ (f : Addr) (fd : FuncData) (ps : List Str) (dvs : List V) (dv : List Value), FnOk P w K mg base (L2.CX P w) k f fd ps (spI K C S) ∧ Mk K C f ∧ mg x = some (.ref C) ∧ Binds K fd ps dv ∧ Vals dvs dv ∧ ∀ F, RpL K F dvs dd

section
variable {B : Bs} {X : Cx} {Γ : List SV} {a b c e : Expr} {es : List Expr} {pos : Pos} {σ : L2.St} {H F : Hp} {W : WX} {pins : List (Addr × Obj)} {s : Shared} {Q : VK}
theorem EK.dk {o : RO} (m : Mt X.K B F H σ Γ) (k : EK X.K B W F σ Γ Q o) : DK X.K F H Q (fun c d H' => W c d σ H') o := by
  cases o with
  | val d => exact fun v H' F' g r => k v H' F' (m.grow g) g.ff r
  | frs o => exact fun p H' F' g n w => k p H' F' (m.grow g) g.ff (m.mb.h0.free n) (m.apart n) w
  | exc x => exact fun c d H' F' g r => k c d H' F' (m.grow g) g.ff r
theorem run_d {f : Addr} {fd : FuncData} {ps : List Str} {k : Nat} {sp : Sp} {us dv : List Value} {vs dvs : List V} (G : FnOk X.prog X.w X.K X.mg X.base (L2.CX X.prog X.w) k f fd ps sp) (hr : Room k X.A) (hb : Binds X.K fd ps dv) (hd : Vals dvs dv) (tk : Takes X W)
    (I : Inv X pins σ H s) (r : Vals vs us) (h : sp (vs ++ dvs) H Q fun c d H' => W c d σ H') : wpAny (model X.prog X.w) X.A (call (.ref f) us) (EP X pins σ Q) X.xe s := by
  have r2 := Vals.append r hd
  refine wpAny_call (codeAny_mono (G.run X.A X.stack s H ⟨us, []⟩ (us ++ dv) (vs ++ dvs) Q _ hr I.env0 (hb s us I.kIn (by rw [← r2.length]; exact G.len _ _ _ _ h)) r2 h) fun z s' hq => ?_)
  match z, hq with
  | .error u, hq => exact tk u s' (XE.of_call I (fun _ _ _ q => q) hq)
  | .ok (.ret u), hq => exact I.after hq
theorem re_call {x : Str} {p : Pos} {k : Nat} {dd ds : List D} {S : DSp} {o : RO} (G : Defn X.prog X.w X.K X.mg X.base k x dd S) (hr : Room k X.A) (ha : RL B X (e :: es) Γ (.ok ds)) (hs : S (ds ++ dd) o) (hg : Gl X x := by rfl) (hbug : (x == ("__debug__" : Str)) = false := by decide)
    (he : starEach (e :: es) X.env = (false, eval e X.env) :: starEach es X.env := by rfl) (hpl : (backTo pos (starEach es X.env)).any (·.1) = false := by rfl) : RE B X (.Call (.Name x p) (e :: es) [] pos) Γ o := fun W tk σ H F m Q k pins s I => by
  obtain ⟨f, fd, ps, dvs, dv, G, hm, hk, hb, hd, hdd⟩ := G.ex
  refine wpAny_Call_Name_kw (ld_glob I hg hm ?_ hbug)
  refine PySem.W.callWith_K (h₀ := X.base) I.ok.mod.kin hk ?_ he hpl
  refine thn (ha W tk σ H F m (fun vs H1 => ∃ F1, Mt X.K B F1 H1 σ Γ ∧ Same F F1 ∧ RpL X.K F1 vs ds) (fun vs H1 F1 m1 s1 r1 => ⟨F1, m1, s1, r1⟩) pos pins s I) fun us s1 ⟨vs, H1, I1, r, F1, m1, sf, r1⟩ => ⟨I1.kIn, ?_⟩
  exact run_d G hr hb hd tk I1 r ⟨F1, _, o, m1.mb.sub, r1.app (hdd F1), hs, EK.dk m1 (k.mono sf)⟩
theorem re_call0 {x : Str} {p : Pos} {k : Nat} {dd : List D} {S : DSp} {o : RO} (G : Defn X.prog X.w X.K X.mg X.base k x dd S) (hr : Room k X.A) (hs : S dd o) (hg : Gl X x := by rfl) (hbug : (x == ("__debug__" : Str)) = false := by decide) :
    RE B X (.Call (.Name x p) [] [] pos) Γ o := fun W tk σ H F m Q k pins s I => by
  obtain ⟨f, fd, ps, dvs, dv, G, hm, hk, hb, hd, hdd⟩ := G.ex
  refine wpAny_Call_Name_kw (ld_glob I hg hm ?_ hbug)
  exact PySem.W.callWith_K0 I.kIn hk (run_d (vs := []) (us := []) G hr hb hd tk I .nil ⟨F, _, o, m.mb.sub, hdd F, hs, EK.dk m k⟩)
/-- an argument raises -/
theorem re_callX {x : Str} {p : Pos} {k : Nat} {dd : List D} {S : DSp} {z : Exn} (G : Defn X.prog X.w X.K X.mg X.base k x dd S) (ha : RL B X (e :: es) Γ (.error z)) (hg : Gl X x := by rfl) (hbug : (x == ("__debug__" : Str)) = false := by decide)
    (he : starEach (e :: es) X.env = (false, eval e X.env) :: starEach es X.env := by rfl) (hpl : (backTo pos (starEach es X.env)).any (·.1) = false := by rfl) : RE B X (.Call (.Name x p) (e :: es) [] pos) Γ (.exc z) := fun W tk σ H F m Q k pins s I => by
  obtain ⟨f, fd, ps, dvs, dv, G, hm, hk, hb, hd, hdd⟩ := G.ex
  refine wpAny_Call_Name_kw (ld_glob I hg hm ?_ hbug)
  refine PySem.W.callWith_K (h₀ := X.base) I.ok.mod.kin hk ?_ he hpl
  exact thn (ha W tk σ H F m (fun _ _ => False) (fun c d H1 F1 m1 s1 r1 => k c d H1 F1 m1 s1 r1) pos pins s I) fun us s1 ⟨vs, H1, I1, r, q⟩ => q.elim

/-! ### fields, methods -/
theorem re_fld {C : Addr} {fs : List (Str × D)} {f : Str} {d : D} (ha : RE B X a Γ (.val (.ins C fs))) (c : Cls X.K C) (n : NoAttr X.K C f) (h : fs.lookup f = some d) (hb : attributeBase a f X.env (eval a X.env) = eval a X.env := by rfl) : RE B X (.Attribute a f pos) Γ (.val d) := fun W tk σ H F m Q k =>
  toE (pe_fld anyE hb) (ha W tk σ H F m _ fun v H1 F1 m1 s1 r1 => by
    cases r1 with
    | ins q r =>
      obtain ⟨v, e1, rv⟩ := r.get h
      exact ⟨_, C, _, _, v, rfl, m1.mb.sub _ _ q, c, n, e1, (k.mono s1).go m1 rv⟩)
/-- .. of an owned instance -/
theorem re_fldO (i : Nat) {x : Str} {C : Addr} {fs : List (Str × D)} {f : Str} {d : D} {p : Pos} (hΓ : Γ[i]? = some (.own (.ins C fs))) (c : Cls X.K C) (n : NoAttr X.K C f) (h : fs.lookup f = some d) (hN : X.N[i]? = some x := by rfl)
    (hv : Vis X.env.scope x := by first | exact Or.inl rfl | exact Or.inr (Or.inl rfl) | exact Or.inr (Or.inr rfl)) (h1 : (x == ("__debug__" : Str)) = false := by decide) (h2 : (x == ("__classdict__" : Str)) = false := by decide)
    (hb : attributeBase (.Name x p) f X.env (eval (.Name x p) X.env) = eval (.Name x p) X.env := by rfl) : RE B X (.Attribute (.Name x p) f pos) Γ (.val d) := fun W tk σ H F m Q k => by
  obtain ⟨q, e1, n0, w⟩ := m.own hΓ
  obtain ⟨nf, dx, vs, e2, r⟩ := w
  obtain ⟨v, e3, rv⟩ := r.get h
  exact toE (pe_fld (pe_var hN hv h1 h2) hb) ⟨.ref q, e1, q, C, dx, vs, v, rfl, e2, c, n, e3, k.go m rv⟩
theorem re_meth {pl : Sem Bool} {C : Addr} {fs : List (Str × D)} {x : Str} {k : Nat} {dd ds : List D} {S : DSp} {o : RO} {apos : Pos} (G : Mth X.prog X.w X.K X.mg X.base k C x dd S) (hr : Room k X.A) (ho : RE B X a Γ (.val (.ins C fs))) (hl : fs.lookup x = none) (ha : RL B X (e :: es) Γ (.ok ds)) (hs : S (.ins C fs :: (ds ++ dd)) o)
    (hst : starEach (e :: es) X.env = (false, eval e X.env) :: starEach es X.env := by rfl) (hpl : (backTo pos (starEach es X.env)).any (·.1) = false := by rfl)
    (ht : eval (.Call (.Attribute a x apos) (e :: es) [] pos) X.env = (do
      let ov ← eval a X.env
      standAt apos.atName
      let (f, first) ← holding [ov] (getMethod ov x pl)
      callWith pos f first (backTo pos (starEach (e :: es) X.env)) (backToKw pos (keywordEach [] X.env))) := by rfl) : RE B X (.Call (.Attribute a x apos) (e :: es) [] pos) Γ o := fun W tk σ H F m Q kk pins s I => by
  obtain ⟨f, fd, ps, dvs, dv, G', hm, hb, hd, hdd⟩ := G.ex
  refine PySem.W.methodCall_KW (pl := pl) (thn (ho W tk σ H F m (fun v H1 => ∃ F1, Mt X.K B F1 H1 σ Γ ∧ Same F F1 ∧ Rp X.K F1 v (.ins C fs)) (fun v H1 F1 m1 s1 r1 => ⟨F1, m1, s1, r1⟩) pins s I) fun u s1 ⟨v, H1, I1, rx, F1, m1, sf, r1⟩ => ?_) ht
  cases r1 with
  | @ins q _ dx vf _ h1 rf =>
    obtain rfl : u = Value.ref q := rx
    refine getmeth_ok I1 (m1.mb.sub _ _ h1) G.cls hm (rf.none hl) ?_
    refine PySem.W.callWith_K (first := [.ref q]) (h₀ := X.base) I.ok.mod.kin hm.kp ?_ hst hpl
    refine thn (ha W tk σ H1 F1 m1 (fun vs H2 => ∃ F2, Mt X.K B F2 H2 σ Γ ∧ Same F1 F2 ∧ RpL X.K F2 vs ds) (fun vs H2 F2 m2 s2 r2 => ⟨F2, m2, s2, r2⟩) pos pins s1 I1) fun us s2 ⟨vs, H2, I2, r, F2, m2, sf2, r2⟩ => ⟨I2.kIn, ?_⟩
    exact run_d (vs := .ref q :: vs) (us := .ref q :: us) G' hr hb hd tk I2 (.cons rfl r) ⟨F2, _, o, m2.mb.sub, .cons (.ins (sf2 _ _ h1) (rf.mono sf2)) (r2.app (hdd F2)), hs, EK.dk m2 (kk.mono (sf.trans sf2))⟩
theorem re_meth0 {pl : Sem Bool} {C : Addr} {fs : List (Str × D)} {x : Str} {k : Nat} {dd : List D} {S : DSp} {o : RO} {apos : Pos} (G : Mth X.prog X.w X.K X.mg X.base k C x dd S) (hr : Room k X.A) (ho : RE B X a Γ (.val (.ins C fs))) (hl : fs.lookup x = none) (hs : S (.ins C fs :: dd) o)
    (ht : eval (.Call (.Attribute a x apos) [] [] pos) X.env = (do
      let ov ← eval a X.env
      standAt apos.atName
      let (f, first) ← holding [ov] (getMethod ov x pl)
      callWith pos f first (backTo pos (starEach [] X.env)) (backToKw pos (keywordEach [] X.env))) := by rfl) : RE B X (.Call (.Attribute a x apos) [] [] pos) Γ o := fun W tk σ H F m Q kk pins s I => by
  obtain ⟨f, fd, ps, dvs, dv, G', hm, hb, hd, hdd⟩ := G.ex
  refine PySem.W.methodCall_KW (pl := pl) (thn (ho W tk σ H F m (fun v H1 => ∃ F1, Mt X.K B F1 H1 σ Γ ∧ Same F F1 ∧ Rp X.K F1 v (.ins C fs)) (fun v H1 F1 m1 s1 r1 => ⟨F1, m1, s1, r1⟩) pins s I) fun u s1 ⟨v, H1, I1, rx, F1, m1, sf, r1⟩ => ?_) ht
  cases r1 with
  | @ins q _ dx vf _ h1 rf =>
    obtain rfl : u = Value.ref q := rx
    refine getmeth_ok I1 (m1.mb.sub _ _ h1) G.cls hm (rf.none hl) ?_
    exact PySem.W.callWith_K0 (first := [.ref q]) I1.kIn hm.kp (run_d (vs := [.ref q]) (us := [.ref q]) G' hr hb hd tk I1 (.cons rfl .nil) ⟨F1, _, o, m1.mb.sub, .cons (.ins h1 rf) (hdd F1), hs, EK.dk m1 (kk.mono sf)⟩)
/-- the receiver raises -/
theorem re_methX {pl : Sem Bool} {x : Str} {z : Exn} {apos : Pos} (ho : RE B X a Γ (.exc z))
    (ht : eval (.Call (.Attribute a x apos) es [] pos) X.env = (do
      let ov ← eval a X.env
      standAt apos.atName
      let (f, first) ← holding [ov] (getMethod ov x pl)
      callWith pos f first (backTo pos (starEach es X.env)) (backToKw pos (keywordEach [] X.env))) := by rfl) : RE B X (.Call (.Attribute a x apos) es [] pos) Γ (.exc z) := fun W tk σ H F m Q kk pins s I =>
  PySem.W.methodCall_KW (pl := pl) (thn (ho W tk σ H F m (fun _ _ => False) (fun c d H1 F1 m1 s1 r1 => kk c d H1 F1 m1 s1 r1) pins s I) fun u s1 ⟨v, H1, I1, rx, q⟩ => q.elim) ht
/-- a new instance -/
theorem run_mk {f C : Addr} {fd : FuncData} {ps : List Str} {k : Nat} {S : ISp} {us dv : List Value} {vs dvs : List V} {ds : List D} {o : Except Exn (List (Str × D))} (M : Mk X.K C f) (G : FnOk X.prog X.w X.K X.mg X.base (L2.CX X.prog X.w) k f fd ps (spI X.K C S)) (hr : Room (k + 1) X.A) (hb : Binds X.K fd ps dv) (hd : Vals dvs dv) (tk : Takes X W)
    (I : Inv X pins σ H s) (r : Vals vs us) (m : Mt X.K B F H σ Γ) (rd : RpL X.K F (vs ++ dvs) ds) (hs : S ds o) (kk : EK X.K B W F σ Γ Q (match o with | .ok fs => .frs (.ins C fs) | .error z => .exc z)) : wpAny (model X.prog X.w) X.A (call (.ref C) us) (EP X pins σ Q) X.xe s := by
  obtain ⟨n, hn⟩ : ∃ n, n = s.heap.objs.size := ⟨_, rfl⟩
  have I2 := Inv.made (C := C) I
  rw [← hn] at I2
  have f1 : H n = none := I.hok.fresh (Nat.le_of_eq hn.symm)
  have f2 : H (n + 1) = none := I.hok.fresh (by rw [hn]; exact Nat.le_succ _)
  have ne : n ≠ n + 1 := Nat.ne_of_lt (Nat.lt_succ_self _)
  have hq : spI X.K C S (.ref (n + 1) :: (vs ++ dvs)) (upd (upd H n (.own (n + 1))) (n + 1) (.ins C n [])) (fun v H2 => v = .non ∧ Q (.ref (n + 1)) H2) (fun c d H' => W c d σ H') := by
    refine ⟨F, H, n + 1, n, _, ds, o, rfl, f2, f1, ne, rfl, m.mb.sub, rd, hs, ?_⟩
    cases o with
    | ok fs => exact fun H' F' g w => ⟨rfl, kk _ H' F' (m.grow g) g.ff (m.mb.h0.free f2) (m.apart f2) w⟩
    | error z => exact fun c d H' F' g rx => kk c d H' F' (m.grow g) g.ff rx
  have r2 : Vals (V.ref (n + 1) :: (vs ++ dvs)) (Value.ref (n + 1) :: (us ++ dv)) := .cons rfl (Vals.append r hd)
  have hl : (Value.ref (n + 1) :: us ++ dv).length = ps.length := by
    rw [← G.len _ _ _ _ hq, r2.length]; rfl
  refine wpAny_call (make_map (f := f) I.kIn M.makes M.init (beq_iff_eq.mp M.fn) ?_)
  rw [← hn]
  refine codeAny_mono (G.run _ X.stack _ _ ⟨Value.ref (n + 1) :: us, []⟩ (Value.ref (n + 1) :: (us ++ dv)) _ _ _ (hr.make C us []) (I2.env0.make C us []) (hb _ (Value.ref (n + 1) :: us) I2.kIn hl) r2 hq) fun z s' hz => ?_
  match z, hz with
  | .error u, hz =>
    refine tk u s' (XE.of_call (E := fun c d H' => W c d σ H') I2 (fun _ _ _ q => q) hz)
  | .ok (.ret u), hz =>
    obtain ⟨v, H', I3, rv, ev, q3⟩ := I2.after hz
    subst ev
    exact ⟨rv, ⟨V.ref (n + 1), H', I3, rfl, q3⟩⟩
def mkO (C : Addr) : Except Exn (List (Str × D)) → RO
  | .ok fs => .frs (.ins C fs)
  | .error z => .exc z
theorem re_mkO {x : Str} {p : Pos} {k : Nat} {C : Addr} {dd ds : List D} {S : ISp} {o : Except Exn (List (Str × D))} (G : Mkr X.prog X.w X.K X.mg X.base k x C dd S) (hr : Room (k + 1) X.A) (ha : RL B X (e :: es) Γ (.ok ds)) (hs : S (ds ++ dd) o) (hg : Gl X x := by rfl) (hbug : (x == ("__debug__" : Str)) = false := by decide)
    (he : starEach (e :: es) X.env = (false, eval e X.env) :: starEach es X.env := by rfl) (hpl : (backTo pos (starEach es X.env)).any (·.1) = false := by rfl) : RE B X (.Call (.Name x p) (e :: es) [] pos) Γ (mkO C o) := fun W tk σ H F m Q k pins s I => by
  obtain ⟨f, fd, ps, dvs, dv, G, M, hm, hb, hd, hdd⟩ := G.ex
  refine wpAny_Call_Name_kw (ld_glob I hg hm ?_ hbug)
  refine PySem.W.callWith_K (h₀ := X.base) I.ok.mod.kin M.kp ?_ he hpl
  refine thn (ha W tk σ H F m (fun vs H1 => ∃ F1, Mt X.K B F1 H1 σ Γ ∧ Same F F1 ∧ RpL X.K F1 vs ds) (fun vs H1 F1 m1 s1 r1 => ⟨F1, m1, s1, r1⟩) pos pins s I) fun us s1 ⟨vs, H1, I1, r, F1, m1, sf, r1⟩ => ⟨I1.kIn, ?_⟩
  exact run_mk M G hr hb hd tk I1 r m1 (r1.app (hdd F1)) hs (by cases o <;> exact k.mono sf)
theorem re_mk {x : Str} {p : Pos} {k : Nat} {C : Addr} {dd ds : List D} {S : ISp} {fs : List (Str × D)} (G : Mkr X.prog X.w X.K X.mg X.base k x C dd S) (hr : Room (k + 1) X.A) (ha : RL B X (e :: es) Γ (.ok ds)) (hs : S (ds ++ dd) (.ok fs)) (hg : Gl X x := by rfl) (hbug : (x == ("__debug__" : Str)) = false := by decide)
    (he : starEach (e :: es) X.env = (false, eval e X.env) :: starEach es X.env := by rfl) (hpl : (backTo pos (starEach es X.env)).any (·.1) = false := by rfl) : RE B X (.Call (.Name x p) (e :: es) [] pos) Γ (.val (.ins C fs)) := re_frzI (re_mkO G hr ha hs hg hbug he hpl)
theorem re_mkE {x : Str} {p : Pos} {k : Nat} {C : Addr} {dd ds : List D} {S : ISp} {z : Exn} (G : Mkr X.prog X.w X.K X.mg X.base k x C dd S) (hr : Room (k + 1) X.A) (ha : RL B X (e :: es) Γ (.ok ds)) (hs : S (ds ++ dd) (.error z)) (hg : Gl X x := by rfl) (hbug : (x == ("__debug__" : Str)) = false := by decide)
    (he : starEach (e :: es) X.env = (false, eval e X.env) :: starEach es X.env := by rfl) (hpl : (backTo pos (starEach es X.env)).any (·.1) = false := by rfl) : RE B X (.Call (.Name x p) (e :: es) [] pos) Γ (.exc z) := re_mkO G hr ha hs hg hbug he hpl
theorem re_mkX {x : Str} {p : Pos} {k : Nat} {C : Addr} {dd : List D} {S : ISp} {z : Exn} (G : Mkr X.prog X.w X.K X.mg X.base k x C dd S) (ha : RL B X (e :: es) Γ (.error z)) (hg : Gl X x := by rfl) (hbug : (x == ("__debug__" : Str)) = false := by decide)
    (he : starEach (e :: es) X.env = (false, eval e X.env) :: starEach es X.env := by rfl) (hpl : (backTo pos (starEach es X.env)).any (·.1) = false := by rfl) : RE B X (.Call (.Name x p) (e :: es) [] pos) Γ (.exc z) := fun W tk σ H F m Q k pins s I => by
  obtain ⟨f, fd, ps, dvs, dv, G, M, hm, hb, hd, hdd⟩ := G.ex
  refine wpAny_Call_Name_kw (ld_glob I hg hm ?_ hbug)
  refine PySem.W.callWith_K (h₀ := X.base) I.ok.mod.kin M.kp ?_ he hpl
  exact thn (ha W tk σ H F m (fun _ _ => False) (fun c d H1 F1 m1 s1 r1 => k c d H1 F1 m1 s1 r1) pos pins s I) fun us s1 ⟨vs, H1, I1, r, q⟩ => q.elim
end
end DL

/-! DL5: raise; what is walked; for, while; list comprehensions; the rule of a def. -/
namespace DL
open PySem PySem.Spec PyProof.Rows L2
/-- what of the text an error class over ValueError (without an __init__ of its own) must have -/
structure XCls (K : PySem.W.Frag) (mg : Str → Option Value) (x : Str) (C : Addr) : Prop where
  g : mg x = some (.ref C)
  ex : PySem.W.excIn K C [.type "ValueError", .type "Exception", .type "BaseException", .type "object"] "ValueError.__new__" = true
  kp : PySem.W.keepIn K (.ref C) = true
  b : PySem.W.subIn K (.ref C) (.type "BaseException") = some true
  t : PySem.W.typeIn K (.ref C) = some (.type "type")
section
variable {B : Bs} {X : Cx} {Γ : List SV} {a b c e : Expr} {es : List Expr} {pos pos' : Pos} {post : SO → Prop}
theorem w1_raise {x msg : Str} {C : Addr} {j : Nat} {p p2 : Pos} (hc : X.calm = true) (T : XCls X.K X.mg x C) (h : post (.exc ⟨C, none⟩ Γ)) (hg : Gl X x := by rfl) (h1 : (x == ("__debug__" : Str)) = false := by decide) :
    W1 B X (.Raise (some (.Call (.Name x p) [.Constant (.str msg) j p2] [] pos')) none pos) Γ post := fun W tk σ H F m D k =>
  toS (ps_raise hc tk (pmk_own PySem.F.excBase_ValueError T.ex T.g T.kp (raises_own T.b T.t) hg h1)) (k.ex _ _ σ H F Γ ⟨C, none⟩ h m (.refl F) ⟨rfl, rfl⟩)

/-! ### what is walked -/
/-- the iterator J yields the data ds, one after another; F1: what is frozen when it begins -/
def Yields (K : PySem.W.Frag) (F1 : Hp) (J : It) (ds : List D) : Prop := ∀ (i : Nat) (F H : Hp), Same F1 F → Same F H →
  (∀ d, ds[i]? = some d → J.go i H ∧ ∀ x H', J.yld i H x H' → ∃ F', Grow F H F' H' ∧ Rp K F' x d) ∧ (ds.length = i → J.stop i H)
def RI (B : Bs) (X : Cx) (tg iter : Expr) (Γ : List SV) (ds : List D) : Prop := ∃ wi : TI, PI X tg iter wi ∧ ∀ (W : WX), Takes X W → ∀ (σ : L2.St) (H F : Hp), Mt X.K B F H σ Γ → ∀ R : It → Hp → Prop,
  (∀ J H1 F1, Mt X.K B F1 H1 σ Γ → Same F F1 → Yields X.K F1 J ds → R J H1) → wi σ H R
theorem rpL_at {K : PySem.W.Frag} {F : Hp} {vs : List V} {ds : List D} {i : Nat} {d : D} {x : V} (r : RpL K F vs ds) (h : ds[i]? = some d) (hx : vs[i]? = some x) : Rp K F x d := by
  obtain ⟨v, e, q⟩ := r.get h
  rw [hx] at e; cases e; exact q
variable {tg : Expr}
theorem ri_list {ds : List D} (h : RE B X e Γ (.val (.lst ds))) : RI B X tg e Γ ds := ⟨_, pi_list anyE, fun W tk σ H F m R k => h W tk σ H F m _ fun v H1 F1 m1 s1 r1 => by
  cases r1 with
  | @lst p vs _ q r =>
    refine ⟨p, rfl, ⟨vs, same_sqL m1.mb.sub q⟩, k _ H1 F1 m1 s1 fun i F2 H2 s2 sh => ⟨fun d hd => ?_, fun hi => ?_⟩⟩
    · have q2 := same_sqL (s2.trans sh) q
      obtain ⟨v, hv, rv⟩ := r.get hd
      refine ⟨⟨vs, v, q2, hv⟩, fun x H' hy => ?_⟩
      obtain ⟨rfl, hy⟩ := hy
      exact ⟨F2, .refl sh, (rpL_at r hd (hy vs q2)).mono s2⟩
    · exact ⟨vs, same_sqL (s2.trans sh) q, by rw [r.len]; exact Nat.le_of_eq hi⟩⟩
theorem ri_tup {ds : List D} (h : RE B X e Γ (.val (.tup ds))) : RI B X tg e Γ ds := ⟨_, pi_tup anyE, fun W tk σ H F m R k => h W tk σ H F m _ fun v H1 F1 m1 s1 r1 => by
  cases r1 with
  | @tup p vs _ q r =>
    refine ⟨p, rfl, ⟨vs, same_sqT m1.mb.sub q⟩, k _ H1 F1 m1 s1 fun i F2 H2 s2 sh => ⟨fun d hd => ?_, fun hi => ?_⟩⟩
    · have q2 := same_sqT (s2.trans sh) q
      obtain ⟨v, hv, rv⟩ := r.get hd
      refine ⟨⟨vs, v, q2, hv⟩, fun x H' hy => ?_⟩
      obtain ⟨rfl, hy⟩ := hy
      exact ⟨F2, .refl sh, (rpL_at r hd (hy vs q2)).mono s2⟩
    · exact ⟨vs, same_sqT (s2.trans sh) q, by rw [r.len]; exact Nat.le_of_eq hi⟩⟩
def rngD (lo : Int) (n : Nat) : List D := (List.range n).map fun (k : Nat) => D.int (lo + (k : Int))
theorem yields_range {K : PySem.W.Frag} {F1 : Hp} {lo : Int} {n : Nat} : Yields K F1 (Itr lo n) (rngD lo n) := fun i F H s sh => ⟨fun d hd => by
    unfold rngD at hd
    rw [List.getElem?_map] at hd
    obtain ⟨k, hk, rfl⟩ := Option.map_eq_some_iff.mp hd
    obtain ⟨h1, h2⟩ := List.getElem?_eq_some_iff.mp hk
    rw [List.length_range] at h1
    rw [List.getElem_range] at h2
    subst h2
    refine ⟨h1, fun x H' hy => ?_⟩
    obtain ⟨rfl, rfl⟩ := hy
    exact ⟨F, .refl sh, .int _⟩, fun hi => by
    unfold rngD at hi
    rw [List.length_map, List.length_range] at hi
    exact Nat.le_of_eq hi⟩
theorem ri_range1 {n : Int} {p : Pos} (hm : X.mg "range" = none) (h : RE B X e Γ (.val (.int n))) (h1 : -(2 ^ 62) ≤ n) (h2 : n < 2 ^ 62) (hg : Gl X "range" := by rfl) (hs : starEach [e] X.env = [(false, eval e X.env)] := by rfl) (hs2 : starEach [e] X.env = (false, eval e X.env) :: starEach [] X.env := by rfl) :
    RI B X tg (.Call (.Name "range" p) [e] [] pos) Γ (rngD 0 n.toNat) := ⟨_, pi_range1 hg hm (pa_cons anyE pa_nil hs2) hs, fun W tk σ H F m R k => h W tk σ H F m _ fun v H1 F1 m1 s1 r1 => by
  cases r1
  exact ⟨n, rfl, h1, h2, k _ H1 F1 m1 s1 yields_range⟩⟩
theorem ri_range2 {lo hi : Int} {p : Pos} (hm : X.mg "range" = none) (ha : RE B X a Γ (.val (.int lo))) (hb : RE B X b Γ (.val (.int hi))) (hz : -(2 ^ 62) ≤ lo ∧ lo < 2 ^ 62 ∧ -(2 ^ 62) ≤ hi ∧ hi < 2 ^ 62) (hg : Gl X "range" := by rfl)
    (hs : starEach [a, b] X.env = [(false, eval a X.env), (false, eval b X.env)] := by rfl) (hs2 : starEach [b] X.env = [(false, eval b X.env)] := by rfl) (hs3 : starEach [a, b] X.env = (false, eval a X.env) :: starEach [b] X.env := by rfl) (hs4 : starEach [b] X.env = (false, eval b X.env) :: starEach [] X.env := by rfl) :
    RI B X tg (.Call (.Name "range" p) [a, b] [] pos) Γ (rngD lo (hi - lo).toNat) := ⟨_, pi_range2 hg hm (pa_cons anyE (pa_cons anyE pa_nil hs4) hs3) hs hs2, fun W tk σ H F m R k => ha W tk σ H F m _ fun v H1 F1 m1 s1 r1 => hb W tk σ H1 F1 m1 _ fun u H2 F2 m2 s2 r2 => by
  cases r1
  cases r2
  exact ⟨lo, hi, rfl, hz, k _ H2 F2 m2 (s1.trans s2) yields_range⟩⟩
/-- the signs of a text -/
def signs (x : Str) : List D := x.cps.toList.map fun n => D.str ⟨#[n]⟩
theorem ri_str {x : Str} (h : RE B X e Γ (.val (.str x))) : RI B X tg e Γ (signs x) := ⟨_, pi_str anyE, fun W tk σ H F m R k => h W tk σ H F m _ fun v H1 F1 m1 s1 r1 => by
  cases r1
  refine ⟨x, rfl, k _ H1 F1 m1 s1 fun i F2 H2 s2 sh => ⟨fun d hd => ?_, fun hi => ?_⟩⟩
  · unfold signs at hd
    rw [List.getElem?_map] at hd
    obtain ⟨n, hn, rfl⟩ := Option.map_eq_some_iff.mp hd
    have hn' : x.cps[i]? = some n := by rw [← hn, Array.getElem?_toList]
    refine ⟨(Array.getElem?_eq_some_iff.mp hn').1, fun v H' hy => ?_⟩
    obtain ⟨rfl, n', e1, rfl⟩ := hy
    rw [hn'] at e1; cases e1
    exact ⟨F2, .refl sh, .str _⟩
  · unfold signs at hi
    rw [List.length_map, Array.length_toList] at hi
    exact Nat.le_of_eq hi⟩
/-- enumerate(xs) -/
def enumD (ds : List D) : List D := ds.zipIdx.map fun p => D.tup [.int (p.2 : Nat), p.1]
theorem ri_enum {ds : List D} {p tpos : Pos} {elts : List Expr} {kk : Nat} (hm : X.mg "enumerate" = none) (h : RP B X e Γ true ds) (hfz : RE B X e Γ (.val (.lst ds))) (hg : Gl X "enumerate" := by rfl) (hs : starEach [e] X.env = [(false, eval e X.env)] := by rfl) (hs2 : starEach [e] X.env = (false, eval e X.env) :: starEach [] X.env := by rfl) :
    RI B X (.Tuple elts kk tpos) (.Call (.Name "enumerate" p) [e] [] pos) Γ (enumD ds) := ⟨_, pi_enum hg hm (pa_cons anyE pa_nil hs2) hs, fun W tk σ H F m R k => hfz W tk σ H F m _ fun v H1 F1 m1 s1 r1 => by
  cases r1 with
  | @lst q vs _ sq r =>
    refine ⟨q, vs, rfl, same_sqL m1.mb.sub sq, k _ H1 F1 m1 s1 fun i F2 H2 s2 sh => ⟨fun d hd => ?_, fun hi => ?_⟩⟩
    · have q2 := same_sqL (s2.trans sh) sq
      unfold enumD at hd
      rw [List.getElem?_map, List.getElem?_zipIdx] at hd
      simp only [Nat.zero_add, Option.map_map] at hd
      obtain ⟨u, hu, rfl⟩ := Option.map_eq_some_iff.mp hd
      obtain ⟨v, hv, rv⟩ := r.get hu
      refine ⟨⟨vs, v, q2, hv⟩, fun x H' hy => ?_⟩
      obtain ⟨T, y, rfl, nT, rfl, hy⟩ := hy
      have ry := (rpL_at r hu (hy vs q2)).mono s2
      have g := Grow.put (o := .tup [.int (i : Nat), y]) sh nT
      exact ⟨_, g, .tup (SqT.of upd_same) (.cons (.int _) (.cons (ry.mono g.ff) .nil))⟩
    · unfold enumD at hi
      rw [List.length_map, List.length_zipIdx] at hi
      exact ⟨vs, same_sqL (s2.trans sh) sq, by rw [r.len]; exact Nat.le_of_eq hi⟩⟩
/-- zip(xs, ys) of lists -/
def zipD (ds es : List D) : List D := (ds.zip es).map fun p => D.tup [p.1, p.2]
theorem ri_zip {ds fs : List D} {p tpos : Pos} {elts : List Expr} {kk : Nat} (hm : X.mg "zip" = none) (ha : RE B X a Γ (.val (.lst ds))) (hb : RE B X b Γ (.val (.lst fs))) (hg : Gl X "zip" := by rfl)
    (hs : starEach [a, b] X.env = (false, eval a X.env) :: starEach [b] X.env := by rfl) (hpl : (backTo pos (starEach [b] X.env)).any (·.1) = false := by rfl) (hs4 : starEach [b] X.env = (false, eval b X.env) :: starEach [] X.env := by rfl) :
    RI B X (.Tuple elts kk tpos) (.Call (.Name "zip" p) [a, b] [] pos) Γ (zipD ds fs) := ⟨_, pi_zip hg hm (pa_cons anyE (pa_cons anyE pa_nil hs4) hs) hs hpl, fun W tk σ H F m R k => ha W tk σ H F m _ fun v H1 F1 m1 s1 r1 => hb W tk σ H1 F1 m1 _ fun u H2 F2 m2 s2 r2 => by
  cases r1 with
  | @lst q vs _ sq r =>
    cases r2 with
    | @lst q' ws _ sq' r' =>
      refine ⟨q, q', vs, ws, rfl, same_sqL (s2.trans m2.mb.sub) sq, same_sqL m2.mb.sub sq', k _ H2 F2 m2 (s1.trans s2) fun i F3 H3 s3 sh => ⟨fun d hd => ?_, fun hi => ?_⟩⟩
      · have q2 := same_sqL ((s2.trans s3).trans sh) sq
        have q3 := same_sqL (s3.trans sh) sq'
        unfold zipD at hd
        rw [List.getElem?_map] at hd
        obtain ⟨⟨x, y⟩, hxy, rfl⟩ := Option.map_eq_some_iff.mp hd
        rw [List.getElem?_zip_eq_some] at hxy
        obtain ⟨v, hv, rv⟩ := r.get hxy.1
        obtain ⟨w, hw, rw'⟩ := r'.get hxy.2
        refine ⟨⟨vs, ws, v, w, q2, q3, hv, hw⟩, fun z H' hy => ?_⟩
        obtain ⟨T, v', w', rfl, nT, rfl, y1, y2⟩ := hy
        have rx := (rpL_at r hxy.1 (y1 vs q2)).mono (s2.trans s3)
        have ry := (rpL_at r' hxy.2 (y2 ws q3)).mono s3
        have g := Grow.put (o := .tup [v', w']) sh nT
        exact ⟨_, g, .tup (SqT.of upd_same) (.cons (rx.mono g.ff) (.cons (ry.mono g.ff) .nil))⟩
      · unfold zipD at hi
        rw [List.length_map, List.length_zip] at hi
        refine ⟨vs, ws, same_sqL ((s2.trans s3).trans sh) sq, same_sqL (s3.trans sh) sq', ?_⟩
        rw [r.len, r'.len]
        omega⟩

/-! ### for, while -/
/-- Γ' is Γ with some slots forgotten -/
inductive Wk : List SV → List SV → Prop
  | nil : Wk [] []
  | un {sv : SV} {r r' : List SV} : Wk r r' → Wk (sv :: r) (.un :: r')
  | same {sv : SV} {r r' : List SV} : Wk r r' → Wk (sv :: r) (sv :: r')
theorem Wk.eqv {sv sv' : SV} {r r' : List SV} (e : sv = sv') (h : Wk r r') : Wk (sv :: r) (sv' :: r') := by subst e; exact .same h
theorem Wk.refl : ∀ Γ : List SV, Wk Γ Γ
  | [] => .nil
  | _ :: r => .same (Wk.refl r)
theorem Wk.len : ∀ {Γ Γ' : List SV}, Wk Γ Γ' → Γ'.length = Γ.length
  | _, _, .nil => rfl
  | _, _, .un h => congrArg Nat.succ h.len
  | _, _, .same h => congrArg Nat.succ h.len
theorem Wk.get : ∀ {Γ Γ' : List SV} (_ : Wk Γ Γ') (i : Nat) (sv : SV), Γ'[i]? = some sv → sv = .un ∨ Γ[i]? = some sv
  | _, _, .nil, _, _, e => by simp at e
  | _, _, .un _, 0, _, e => by simp at e; exact .inl e.symm
  | _, _, .same _, 0, _, e => .inr e
  | _, _, .un h, i + 1, sv, e => by simpa using h.get i sv (by simpa using e)
  | _, _, .same h, i + 1, sv, e => by simpa using h.get i sv (by simpa using e)
theorem Mt.wk {K : PySem.W.Frag} {F H : Hp} {σ : L2.St} {Γ Γ' : List SV} (m : Mt K B F H σ Γ) (h : Wk Γ Γ') : Mt K B F H σ Γ' := m.weak h.len h.get
/-- what is wanted behind a loop's body -/
def bodyP (I : List SV → Prop) (post : SO → Prop) : SO → Prop
  | .nx Γ => ∃ Γ', Wk Γ Γ' ∧ I Γ'
  | .cont Γ => ∃ Γ', Wk Γ Γ' ∧ I Γ'
  | .brk Γ => post (.nx Γ)
  | .ret r => post (.ret r)
  | .exc x Γ => post (.exc x Γ)
theorem ws_wk {sts : List Stmt} {Γ' : List SV} (h : Wk Γ Γ') (k : WS B X sts Γ' post) : WS B X sts Γ post := fun W tk σ H F m D kk => k W tk σ H F (m.wk h) D kk
theorem w1_for {iter : Expr} {body : List Stmt} {g : TG} {ds : List D} (hp : PassesOwn (model X.prog X.w) X.A X.env X.xe) (hc : X.calm = true) (hi : RI B X tg iter Γ ds) (hg : PG X tg g) (I : Nat → List SV → Prop) (h0 : I 0 Γ)
    (hs : ∀ i d Γi, ds[i]? = some d → I i Γi → ∃ Γ', RG X.K B g Γi d Γ' ∧ WS B X body Γ' (bodyP (I (i + 1)) post)) (hd : ∀ Γi, I ds.length Γi → post (.nx Γi))
    (hf : ∀ x, foldedSetIterable iter X.env x = pure x := by intro _; rfl) : W1 B X (.For tg iter body [] pos) Γ post := fun W tk σ H F m D k => by
  obtain ⟨wi, pi, hi⟩ := hi
  refine toS (ps_for hp hc pi hg anyB hf) (hi W tk σ H F m _ fun J H1 F1 m1 s1 y => ?_)
  refine ⟨fun i n σ' H' => n = ds.length - i ∧ i ≤ ds.length ∧ ∃ F' Γ', Mt X.K B F' H' σ' Γ' ∧ Same F1 F' ∧ I i Γ', ⟨ds.length, by omega, Nat.zero_le _, F1, Γ, m1, .refl F1, h0⟩, ?_⟩
  rintro i n σ' H' ⟨rfl, hle, F', Γ', m', s', hI⟩
  obtain ⟨y1, y2⟩ := y i F' H' s' m'.mb.sub
  by_cases hlt : i < ds.length
  · obtain ⟨g1, g2⟩ := y1 ds[i] (List.getElem?_eq_getElem hlt)
    refine .inr ⟨g1, fun σ2 H2 => ∃ F2 Γ2, Mt X.K B F2 H2 σ2 Γ2 ∧ Same F1 F2 ∧ I (i + 1) Γ2, fun σ2 H2 ⟨F2, Γ2, q1, q2, q3⟩ => ⟨ds.length - (i + 1), by omega, rfl, hlt, F2, Γ2, q1, q2, q3⟩, fun x H3 hy => ?_⟩
    obtain ⟨F3, gr, rx⟩ := g2 x H3 hy
    obtain ⟨Γ2, hr, hw⟩ := hs i _ Γ' (List.getElem?_eq_getElem hlt) hI
    have s3 := s'.trans gr.ff
    refine hr σ' H3 F3 x (m'.grow gr) rx _ fun σ4 m4 => hw W tk σ4 H3 F3 m4 _ ⟨fun σ5 H5 F5 Γ5 ⟨Γ6, wk, p⟩ q s5 => ⟨F5, Γ6, q.wk wk, s3.trans s5, p⟩, fun v H5 F5 r p q s5 => ?_, fun σ5 H5 F5 Γ5 p q s5 => ?_, fun σ5 H5 F5 Γ5 ⟨Γ6, wk, p⟩ q s5 => ⟨F5, Γ6, q.wk wk, s3.trans s5, p⟩, fun c d σ5 H5 F5 Γ5 z p q s5 rz => ?_⟩
    · exact k.rt v H5 F5 r p q ((s1.trans s3).trans s5)
    · exact k.nx σ5 H5 F5 Γ5 p q ((s1.trans s3).trans s5)
    · exact k.ex c d σ5 H5 F5 Γ5 z p q ((s1.trans s3).trans s5) rz
  · have e : i = ds.length := by omega
    subst e
    exact .inl ⟨y2 rfl, k.nx σ' H' F' Γ' (hd Γ' hI) m' (s1.trans s')⟩
/-- .. whose state is a fold: St s tells the slots, step what a turn does -/
theorem w1_fold {α S : Type} {iter : Expr} {body : List Stmt} {g : TG} (xs : List α) (f : α → D) (G : S → List SV) (step : S → α → S) (s0 : S) (hp : PassesOwn (model X.prog X.w) X.A X.env X.xe) (hc : X.calm = true) (hi : RI B X tg iter Γ (xs.map f)) (hg : PG X tg g) (h0 : Wk Γ (G s0))
    (hs : ∀ pre x suf, xs = pre ++ x :: suf → ∃ Γ', RG X.K B g (G (pre.foldl step s0)) (f x) Γ' ∧ WS B X body Γ' (bodyP (fun Γ => Wk Γ (G (step (pre.foldl step s0) x))) post)) (hd : ∀ Γ', Wk Γ' (G (xs.foldl step s0)) → post (.nx Γ'))
    (hf : ∀ x, foldedSetIterable iter X.env x = pure x := by intro _; rfl) : W1 B X (.For tg iter body [] pos) Γ post := by
  refine w1_for hp hc hi hg (fun i Γ => Wk Γ (G ((xs.take i).foldl step s0))) h0 (fun i d Γi hd' hI => ?_) (fun Γi hI => ?_) hf
  · rw [List.getElem?_map] at hd'
    obtain ⟨x, hx, rfl⟩ := Option.map_eq_some_iff.mp hd'
    obtain ⟨hl, hx'⟩ := List.getElem?_eq_some_iff.mp hx
    obtain ⟨Γ', h1, h2⟩ := hs (xs.take i) x (xs.drop (i + 1)) (by rw [← hx', List.getElem_cons_drop, List.take_append_drop])
    refine ⟨Γ', fun σ H F v m r Q k => h1 σ H F v (m.wk hI) r Q k, ?_⟩
    have e : (xs.take (i + 1)).foldl step s0 = step ((xs.take i).foldl step s0) x := by rw [List.take_add_one, hx, List.foldl_append]; rfl
    rw [e]
    exact h2
  · rw [List.length_map, List.take_length] at hI
    exact hd Γi hI
theorem w1_while {body : List Stmt} (hp : PassesOwn (model X.prog X.w) X.A X.env X.xe) (I : Nat → List SV → Prop) (n : Nat) (h0 : I n Γ)
    (hs : ∀ n Γi, I n Γi → ∃ Γ2 k1, Wk Γi Γ2 ∧ RT B X c Γ2 k1 ∧ (k1 = true → WS B X body Γ2 (bodyP (fun Γ' => ∃ n', n' < n ∧ I n' Γ') post)) ∧ (k1 = false → post (.nx Γ2))) : W1 B X (.While c body [] pos) Γ post := fun W tk σ H F m D k => by
  refine toS (ps_while hp anyT anyB) ?_
  refine ⟨fun n σ' H' => ∃ F' Γ', Mt X.K B F' H' σ' Γ' ∧ Same F F' ∧ I n Γ', ⟨n, F, Γ, m, .refl F, h0⟩, ?_⟩
  rintro n σ' H' ⟨F', Γ', m', s', hI⟩
  obtain ⟨Γ', k1, hwk, hc, ht, hf⟩ := hs n Γ' hI
  replace m' := m'.wk hwk
  refine hc W tk σ' H' F' m' _ fun H2 F2 m2 s2 => ?_
  cases k1 with
  | false => exact ite_ff (k.nx σ' H2 F2 Γ' (hf rfl) m2 (s'.trans s2))
  | true =>
    refine ite_tt ⟨fun σ5 H5 => ∃ n', n' < n ∧ ∃ F5 Γ5, Mt X.K B F5 H5 σ5 Γ5 ∧ Same F F5 ∧ I n' Γ5, fun σ5 H5 ⟨n', h1, h2⟩ => ⟨n', h1, h2⟩, ht rfl W tk σ' H2 F2 m2 _ ⟨fun σ5 H5 F5 Γ5 p q s5 => ?_, fun v H5 F5 r p q s5 => ?_, fun σ5 H5 F5 Γ5 p q s5 => ?_, fun σ5 H5 F5 Γ5 p q s5 => ?_, fun c d σ5 H5 F5 Γ5 z p q s5 rz => ?_⟩⟩
    · obtain ⟨Γ6, wk, n', h1, h2⟩ := p
      exact ⟨n', h1, F5, Γ6, q.wk wk, (s'.trans s2).trans s5, h2⟩
    · exact k.rt v H5 F5 r p q ((s'.trans s2).trans s5)
    · exact k.nx σ5 H5 F5 Γ5 p q ((s'.trans s2).trans s5)
    · obtain ⟨Γ6, wk, n', h1, h2⟩ := p
      exact ⟨n', h1, F5, Γ6, q.wk wk, (s'.trans s2).trans s5, h2⟩
    · exact k.ex c d σ5 H5 F5 Γ5 z p q ((s'.trans s2).trans s5) rz
end
end DL

/-! DL6: list comprehensions; the rule of a def, of an __init__; the end. -/
namespace DL
open PySem PySem.Spec PyProof.Rows L2
theorem wipe_get (σ : L2.St) (j : Nat) : ∀ vs : List Nat, (wipe σ vs)[j]? = if j ∈ vs then (σ[j]?).map (fun _ => none) else σ[j]?
  | [] => by simp [wipe]
  | v :: vs => by
    have ih := wipe_get σ j vs
    have hl := wipe_length σ vs
    unfold wipe
    by_cases e : v = j
    · subst e
      rw [if_pos (List.mem_cons_self)]
      by_cases h : v < σ.length
      · rw [List.getElem?_set_self (by rw [hl]; exact h), List.getElem?_eq_getElem h]; rfl
      · rw [List.getElem?_eq_none (by rw [List.length_set, hl]; omega), List.getElem?_eq_none (by omega)]; rfl
    · rw [List.getElem?_set_ne e, ih]
      by_cases h : j ∈ vs
      · rw [if_pos h, if_pos (List.mem_cons_of_mem _ h)]
      · rw [if_neg h, if_neg (fun z => (List.mem_cons.mp z).elim (fun q => e q.symm) h)]
theorem wipe_set {σ : L2.St} {i : Nat} {x : Option V} {vs : List Nat} (h : i ∈ vs) : wipe (σ.set i x) vs = wipe σ vs := by
  apply List.ext_getElem?
  intro j
  rw [wipe_get, wipe_get]
  by_cases e : i = j
  · subst e
    rw [if_pos h, if_pos h]
    by_cases q : i < σ.length
    · rw [List.getElem?_set_self q, List.getElem?_eq_getElem q]; rfl
    · rw [List.getElem?_eq_none (by rw [List.length_set]; omega), List.getElem?_eq_none (by omega)]
  · rw [List.getElem?_set_ne e]
theorem wipe_wipe (σ : L2.St) (vs : List Nat) : wipe (wipe σ vs) vs = wipe σ vs := by
  apply List.ext_getElem?
  intro j
  rw [wipe_get, wipe_get]
  by_cases h : j ∈ vs
  · rw [if_pos h, if_pos h, Option.map_map]; rfl
  · rw [if_neg h]
/-- the target's names are the comprehension's own -/
def Inside (vs : List Nat) (g : TG) : Prop := ∀ (v : V) (σ : L2.St) (H : Hp) (Q : L2.St → Hp → Prop), g v σ H Q → g v σ H fun σ' H' => wipe σ' vs = wipe σ vs ∧ Q σ' H'
def Insides (vs : List Nat) (g : TGs) : Prop := ∀ (v : List V) (σ : L2.St) (H : Hp) (Q : L2.St → Hp → Prop), g v σ H Q → g v σ H fun σ' H' => wipe σ' vs = wipe σ vs ∧ Q σ' H'
theorem in_name {vs : List Nat} {i : Nat} (h : i ∈ vs) : Inside vs (gName i) := fun v σ H Q q => ⟨wipe_set h, q⟩
theorem ins_nil {vs : List Nat} : Insides vs gNil := fun v σ H Q q => ⟨q.1, rfl, q.2⟩
/-- targets whose wish may be weakened -/
def Mono (g : TG) : Prop := ∀ (v : V) (σ : L2.St) (H : Hp) (Q Q' : L2.St → Hp → Prop), (∀ σ H, Q σ H → Q' σ H) → g v σ H Q → g v σ H Q'
def Monos (g : TGs) : Prop := ∀ (v : List V) (σ : L2.St) (H : Hp) (Q Q' : L2.St → Hp → Prop), (∀ σ H, Q σ H → Q' σ H) → g v σ H Q → g v σ H Q'
theorem mono_name {i : Nat} : Mono (gName i) := fun _ _ _ _ _ h q => h _ _ q
theorem monos_nil : Monos gNil := fun _ _ _ _ _ h q => ⟨q.1, h _ _ q.2⟩
theorem monos_cons {g : TG} {gs : TGs} (h : Mono g) (hs : Monos gs) : Monos (gCons g gs) := fun _ _ _ _ _ k ⟨v, r, e, q⟩ => ⟨v, r, e, h _ _ _ _ _ (fun _ _ q => hs _ _ _ _ _ k q) q⟩
theorem mono_tup {K : PySem.W.Frag} {n : Nat} {gs : TGs} (hs : Monos gs) : Mono (gTup K n gs) := fun _ _ _ _ _ k ⟨a, xs, e, s, l, q⟩ => ⟨a, xs, e, s, l, hs _ _ _ _ _ k q⟩
theorem ins_cons {vs : List Nat} {g : TG} {gs : TGs} (m : Mono g) (h : Inside vs g) (hm : Monos gs) (hs : Insides vs gs) : Insides vs (gCons g gs) := fun v σ H Q ⟨x, r, e, q⟩ =>
  ⟨x, r, e, m _ _ _ _ _ (fun σ1 H1 ⟨e1, q1⟩ => hm _ _ _ _ _ (fun σ2 H2 ⟨e2, q2⟩ => ⟨e2.trans e1, q2⟩) (hs _ _ _ _ q1)) (h _ _ _ _ q)⟩
theorem in_tup {vs : List Nat} {K : PySem.W.Frag} {n : Nat} {gs : TGs} (hs : Insides vs gs) : Inside vs (gTup K n gs) := fun v σ H Q ⟨a, xs, e, s, l, q⟩ => ⟨a, xs, e, s, l, hs _ _ _ _ q⟩

/-- the slots that a comprehension's block sees -/
def wipeG (vs : List Nat) : Nat → List SV → List SV
  | _, [] => []
  | n, .dat d :: r => (if vs.elem n then .un else .dat d) :: wipeG vs (n + 1) r
  | n, _ :: r => .un :: wipeG vs (n + 1) r
theorem wipeG_len (vs : List Nat) : ∀ (n : Nat) (Γ : List SV), (wipeG vs n Γ).length = Γ.length
  | _, [] => rfl
  | n, .dat _ :: r => congrArg Nat.succ (wipeG_len vs (n + 1) r)
  | n, .un :: r => congrArg Nat.succ (wipeG_len vs (n + 1) r)
  | n, .own _ :: r => congrArg Nat.succ (wipeG_len vs (n + 1) r)
theorem wipeG_get (vs : List Nat) : ∀ (n : Nat) (Γ : List SV) (j : Nat) (sv : SV), (wipeG vs n Γ)[j]? = some sv → sv = .un ∨ ∃ d, sv = .dat d ∧ Γ[j]? = some (.dat d) ∧ n + j ∉ vs
  | _, [], _, _, h => by simp [wipeG] at h
  | n, x :: r, 0, sv, h => by
    cases x with
    | un => simp [wipeG] at h; exact .inl h.symm
    | own o => simp [wipeG] at h; exact .inl h.symm
    | dat d =>
      simp only [wipeG, List.getElem?_cons_zero, Option.some.injEq] at h
      by_cases q : vs.elem n = true
      · rw [if_pos q] at h; exact .inl h.symm
      · rw [if_neg q] at h
        exact .inr ⟨d, h.symm, rfl, fun z => q (List.elem_eq_true_of_mem z)⟩
  | n, x :: r, j + 1, sv, h => by
    have h' : (wipeG vs (n + 1) r)[j]? = some sv := by cases x <;> simpa [wipeG] using h
    rcases wipeG_get vs (n + 1) r j sv h' with e | ⟨d, e1, e2, e3⟩
    · exact .inl e
    · exact .inr ⟨d, e1, by simpa using e2, by rw [show n + (j + 1) = n + 1 + j by omega]; exact e3⟩
theorem Mt.blk {K : PySem.W.Frag} {B : Bs} {F H F' H' : Hp} {σ : L2.St} {Γ : List SV} {vs : List Nat} (m : Mt K B F H σ Γ) (g : Grow F H F' H') : Mt K ⟨F', H'⟩ F' H' (wipe σ vs) (wipeG vs 0 Γ) := by
  have m2 := m.grow g
  refine ⟨⟨g.sub, .refl _, .refl _, fun a o e => .inl e⟩, by rw [wipe_length, wipeG_len]; exact m.len, fun i sv e => ?_, fun i j oi oj p ne ei ej => ?_⟩
  · rcases wipeG_get vs 0 Γ i sv e with rfl | ⟨d, rfl, e2, e3⟩
    · trivial
    · obtain ⟨v, e4, r⟩ := m2.at e2
      refine ⟨v, ?_, r⟩
      rw [Nat.zero_add] at e3
      rw [wipe_get, if_neg e3]
      exact e4
  · rcases wipeG_get vs 0 Γ i _ ei with z | ⟨d, z, _⟩ <;> cases z

/-- the core: what the reading of a comprehension asks -/
theorem lc_D {K : PySem.W.Frag} {B : Bs} {α : Type} {xs : List α} {f v : α → D} {p : α → Bool} {J : It} {g : TG} {tt : TT} {te : TE} {vs : List Nat} {σ : L2.St} {Γ : List SV} {H1 F1 : Hp} {Q : VK} {W : WX} {Dl : Addr} (m1 : Mt K B F1 H1 σ Γ) (y : Yields K F1 J (xs.map f)) (hz : xs.length ≤ sizeLine) (hin : Inside vs g) (mon : Mono g)
    (hs : ∀ x ∈ xs, ∃ Γd, (∀ B', RG K B' g (wipeG vs 0 Γ) (f x) Γd) ∧ (∀ (B' : Bs) (σ2 : L2.St) (H F : Hp), Mt K B' F H σ2 Γd → ∀ R : Bool → Hp → Prop, (∀ H' F', Mt K B' F' H' σ2 Γd → Same F F' → R (p x) H') → tt σ2 H R) ∧
      (p x = true → ∀ (B' : Bs) (σ2 : L2.St) (H F : Hp), Mt K B' F H σ2 Γd → ∀ R : VK, (∀ u H' F', Mt K B' F' H' σ2 Γd → Same F F' → Rp K F' u (v x) → R u H') → te σ2 H R))
    (k : EK K B W F1 σ Γ Q (.frs (.lst ((xs.filter p).map v)))) (nD : H1 Dl = none) :
    ∃ W : Nat → Nat → Hp → Prop, (∃ m, W 0 m (upd H1 Dl (.lst []))) ∧ ∀ i m H, W i m H → (J.stop i H ∧ Q (.ref Dl) H) ∨ (J.go i H ∧ ∃ Nx : Hp → Prop, (∀ H', Nx H' → ∃ m', m' < m ∧ W (i + 1) m' H') ∧ ∀ x H', J.yld i H x H' → g x (wipe σ vs) H' fun σ2 H2 => wipe σ2 vs = wipe σ vs ∧ tt σ2 H2 fun b H3 =>
      if b = true then te σ2 H3 fun y H4 => ∃ acc, H4 Dl = some (.lst acc) ∧ acc.length < sizeLine ∧ Nx (upd H4 Dl (.lst (acc ++ [y]))) else Nx H3) := by
  have fD : F1 Dl = none := m1.mb.sub.free nD
  refine ⟨fun i m H => m = xs.length - i ∧ i ≤ xs.length ∧ ∃ F' acc, Grow F1 H1 F' H ∧ F' Dl = none ∧ H Dl = some (.lst acc) ∧ RpL K F' acc (((xs.take i).filter p).map v), ⟨xs.length, by omega, Nat.zero_le _, F1, [], Grow.new1 m1.mb.sub nD, fD, upd_same, .nil⟩, ?_⟩
  rintro i m H ⟨rfl, hle, F', acc, gr, nf, hD, racc⟩
  obtain ⟨y1, y2⟩ := y i F' H gr.ff gr.sub
  rw [List.length_map] at y2
  by_cases hlt : i < xs.length
  · have hx : (xs.map f)[i]? = some (f xs[i]) := by rw [List.getElem?_map, List.getElem?_eq_getElem hlt]; rfl
    obtain ⟨g1, g2⟩ := y1 _ hx
    have et : xs.take (i + 1) = xs.take i ++ [xs[i]] := by rw [List.take_add_one, List.getElem?_eq_getElem hlt]; rfl
    refine .inr ⟨g1, fun H5 => ∃ F5 acc5, Grow F1 H1 F5 H5 ∧ F5 Dl = none ∧ H5 Dl = some (.lst acc5) ∧ RpL K F5 acc5 (((xs.take (i + 1)).filter p).map v), fun H5 h5 => ⟨xs.length - (i + 1), by omega, rfl, hlt, h5⟩, fun u H2 hy => ?_⟩
    obtain ⟨F2, gr2, ru⟩ := g2 u H2 hy
    obtain ⟨Γd, hr, ht, he⟩ := hs xs[i] (List.getElem_mem hlt)
    have gg := gr.trans gr2
    have nf2 : F2 Dl = none := by
      cases q : F2 Dl with
      | none => rfl
      | some o => rcases gr2.new _ _ q with z | z
                  · rw [nf] at z; cases z
                  · rw [hD] at z; cases z
    have hD2 := gr2.hh _ _ hD
    refine mon _ _ _ _ _ (fun σ2 H3 q => ⟨q.1.trans (wipe_wipe σ vs), q.2⟩) (hin _ _ _ _ (hr ⟨F2, H2⟩ _ H2 F2 u (m1.blk gg) ru _ fun σ2 m2 => ?_))
    have step : ∀ {F4 H4 : Hp}, Mt K ⟨F2, H2⟩ F4 H4 σ2 Γd → Grow F1 H1 F4 H4 ∧ F4 Dl = none ∧ H4 Dl = some (.lst acc) ∧ RpL K F4 acc (((xs.take i).filter p).map v) := fun {F4 H4} m4 => by
      have g4 : Grow F2 H2 F4 H4 := ⟨m4.mb.f0, m4.mb.h0, m4.mb.sub, m4.mb.new⟩
      refine ⟨gg.trans g4, ?_, g4.hh _ _ hD2, racc.mono (gr2.ff.trans g4.ff)⟩
      cases q : F4 Dl with
      | none => rfl
      | some o => rcases g4.new _ _ q with z | z
                  · rw [nf2] at z; cases z
                  · rw [hD2] at z; cases z
    refine ht _ σ2 H2 F2 m2 _ fun H3 F3 m3 s3 => ?_
    cases hp : p xs[i] with
    | false =>
      obtain ⟨q1, q2, q3, q4⟩ := step m3
      refine ite_ff ⟨F3, acc, q1, q2, q3, ?_⟩
      rw [et, List.filter_append, List.filter_cons_of_neg (by rw [hp]; exact Bool.false_ne_true), List.filter_nil, List.append_nil]
      exact q4
    | true =>
      refine ite_tt (he hp _ σ2 H3 F3 m3 _ fun w H4 F4 m4 s4 rw' => ?_)
      obtain ⟨q1, q2, q3, q4⟩ := step m4
      refine ⟨acc, q3, ?_, F4, acc ++ [w], ⟨q1.ff, fun b o e => ?_, fun b o e => ?_, q1.new⟩, q2, upd_same, ?_⟩
      · have := q4.len
        rw [List.length_map] at this
        have h2 := List.length_filter_le p (xs.take i)
        rw [List.length_take] at h2
        omega
      · rw [upd_ne (ne_of_none e nD)]; exact q1.hh b o e
      · rw [upd_ne (ne_of_none e q2)]; exact q1.sub b o e
      · rw [et, List.filter_append, List.filter_cons_of_pos (by rw [hp]), List.filter_nil, List.map_append]
        exact q4.app (.cons rw' .nil)
  · have e : i = xs.length := by omega
    subst e
    rw [List.take_length] at racc
    exact .inl ⟨y2 (by omega), k Dl H F' (m1.grow gr) gr.ff (m1.mb.h0.free nD) (m1.apart nD) ⟨nf, acc, hD, racc⟩⟩

section
variable {B : Bs} {X : Cx} {Γ Γw : List SV} {elt tg iter c : Expr} {scope : Scope} {own : List (Str × Nat)} {pos pos' spos : Pos} {g : TG} {α : Type} {post : SO → Prop}
abbrev Blk (X : Cx) (scope : Scope) (q : Shared × Hp × Addr × List (Str × Addr) × List Addr) : Cx := X.blk q.1 q.2.1 scope (compEnvC scope q.2.2.2.1 q.2.2.1 X.env) q.2.2.2.2
/-- the element, over all blocks -/
def tEl (X : Cx) (scope : Scope) (elt : Expr) : TE := fun σ H Q => ∀ q, tAny (Blk X scope q) elt σ H Q
def tTs (X : Cx) (scope : Scope) (c : Expr) : TT := fun σ H Q => ∀ q, tAnyT (Blk X scope q) c σ H Q
theorem elE : ∀ (s : Shared) (H : Hp) (C : Addr) (cl : List (Str × Addr)) (fp : List Addr), PE (X.blk s H scope (compEnvC scope cl C X.env) fp) elt (tEl X scope elt) := fun s H C cl fp => ⟨fun pins s' _ _ _ I h => h (s, H, C, cl, fp) pins s' I⟩
theorem tsT : ∀ (s : Shared) (H : Hp) (C : Addr) (cl : List (Str × Addr)) (fp : List Addr), PTs (X.blk s H scope (compEnvC scope cl C X.env) fp) [c] (tTs X scope c) := fun s H C cl fp => pts_one ⟨fun pins s' _ _ _ I h => h (s, H, C, cl, fp) pins s' I⟩
theorem tsN : ∀ (s : Shared) (H : Hp) (C : Addr) (cl : List (Str × Addr)) (fp : List Addr), PTs (X.blk s H scope (compEnvC scope cl C X.env) fp) [] tYes := fun _ _ _ _ _ => pts_nil
/-- [elt for tg in iter] -/
theorem re_lc (xs : List α) (f v : α → D) (hc : X.calm = true) (hN : X.N.Nodup) (hi : RI B X tg iter Γ (xs.map f)) (ok : BlkOk X.N X.env.scope scope own) (hg : ∀ (s : Shared) (H : Hp) (C : Addr) (cl : List (Str × Addr)) (fp : List Addr), PG (X.blk s H scope (compEnvC scope cl C X.env) fp) tg g)
    (hin : Inside (own.map (·.2)) g) (mon : Mono g) (hw : wipeG (own.map (·.2)) 0 Γ = Γw) (hz : xs.length ≤ sizeLine)
    (hs : ∀ x ∈ xs, ∃ Γd, (∀ B', RG X.K B' g Γw (f x) Γd) ∧ ∀ B' q, RE B' (Blk X scope q) elt Γd (.val (v x))) (hf : ∀ x, foldedSetIterable iter X.env x = pure x := by intro _; rfl) :
    RE B X (.ListComp elt [⟨tg, iter, [], 0⟩] scope pos) Γ (.frs (.lst (xs.map v))) := fun W tk σ H F m Q k => by
  obtain ⟨wi, pi, hi⟩ := hi
  refine toE (pe_lc hc hN pi ok hg tsN elE hf) (hi W tk σ H F m _ fun J H1 F1 m1 s1 y => fun Dl nD => ?_)
  refine lc_D (p := fun _ => true) (v := v) (W := W) m1 y hz hin mon (fun x hx => ?_) (by rw [List.filter_eq_self.mpr (fun _ _ => rfl)]; exact k.mono s1) nD
  obtain ⟨Γd, h1, h2⟩ := hs x hx
  exact ⟨Γd, by rw [hw]; exact h1, fun B' σ2 H F m R kk => kk H F m (.refl F), fun _ B' σ2 H F m R kk q => h2 B' q _ takes0 σ2 H F m R kk⟩
/-- [elt for tg in iter if c] -/
theorem re_lcIf (xs : List α) (f v : α → D) (p : α → Bool) (hc : X.calm = true) (hN : X.N.Nodup) (hi : RI B X tg iter Γ (xs.map f)) (ok : BlkOk X.N X.env.scope scope own) (hg : ∀ (s : Shared) (H : Hp) (C : Addr) (cl : List (Str × Addr)) (fp : List Addr), PG (X.blk s H scope (compEnvC scope cl C X.env) fp) tg g)
    (hin : Inside (own.map (·.2)) g) (mon : Mono g) (hw : wipeG (own.map (·.2)) 0 Γ = Γw) (hz : xs.length ≤ sizeLine)
    (hs : ∀ x ∈ xs, ∃ Γd, (∀ B', RG X.K B' g Γw (f x) Γd) ∧ (∀ B' q, RT B' (Blk X scope q) c Γd (p x)) ∧ (p x = true → ∀ B' q, RE B' (Blk X scope q) elt Γd (.val (v x)))) (hf : ∀ x, foldedSetIterable iter X.env x = pure x := by intro _; rfl) :
    RE B X (.ListComp elt [⟨tg, iter, [c], 0⟩] scope pos) Γ (.frs (.lst ((xs.filter p).map v))) := fun W tk σ H F m Q k => by
  obtain ⟨wi, pi, hi⟩ := hi
  refine toE (pe_lc hc hN pi ok hg tsT elE hf) (hi W tk σ H F m _ fun J H1 F1 m1 s1 y => fun Dl nD => ?_)
  refine lc_D (p := p) (v := v) (W := W) m1 y hz hin mon (fun x hx => ?_) (k.mono s1) nD
  obtain ⟨Γd, h1, h2, h3⟩ := hs x hx
  exact ⟨Γd, by rw [hw]; exact h1, fun B' σ2 H F m R kk q => h2 B' q _ takes0 σ2 H F m R kk, fun hp B' σ2 H F m R kk q => h3 hp B' q _ takes0 σ2 H F m R kk⟩
/-- y = [elt for tg in iter] -/
theorem w1_lc (i : Nat) {y : Str} {py : Pos} (xs : List α) (f v : α → D) (hc : X.calm = true) (hN : X.N.Nodup) (hi : RI B X tg iter Γ (xs.map f)) (ok : BlkOk X.N X.env.scope scope own) (hg : ∀ (s : Shared) (H : Hp) (C : Addr) (cl : List (Str × Addr)) (fp : List Addr), PG (X.blk s H scope (compEnvC scope cl C X.env) fp) tg g)
    (hin : Inside (own.map (·.2)) g) (mon : Mono g) (hw : wipeG (own.map (·.2)) 0 Γ = Γw) (hz : xs.length ≤ sizeLine)
    (hs : ∀ x ∈ xs, ∃ Γd, (∀ B', RG X.K B' g Γw (f x) Γd) ∧ ∀ B' q, RE B' (Blk X scope q) elt Γd (.val (v x))) (h : post (.nx (Γ.set i (.own (.lst (xs.map v))))))
    (hsw : swapsWith (.ListComp elt [⟨tg, iter, [], 0⟩] scope pos) (some (.Name y py)) spos.line X.env = pure true) (hy : X.N[i]? = some y := by rfl) (hyl : X.env.scope.names.lookup y = some .local := by rfl) (hf : ∀ x, foldedSetIterable iter X.env x = pure x := by intro _; rfl) :
    W1 B X (.Assign [.Name y py] (.ListComp elt [⟨tg, iter, [], 0⟩] scope pos) spos) Γ post := fun W tk σ H F m D k => by
  obtain ⟨wi, pi, hi⟩ := hi
  refine toS (ps_setLc hc hN hy hyl hsw pi ok hg tsN elE hf) (hi W tk σ H F m _ fun J H1 F1 m1 s1 yy => fun Dl nD => ?_)
  refine lc_D (Q := fun x H1 => gName i x σ H1 D.nx) (p := fun _ => true) (v := v) (W := W) m1 yy hz hin mon (fun x hx => ?_) (fun p H' F' m' s n0 ap w => ?_) nD
  · obtain ⟨Γd, h1, h2⟩ := hs x hx
    exact ⟨Γd, by rw [hw]; exact h1, fun B' σ2 H F m R kk => kk H F m (.refl F), fun _ B' σ2 H F m R kk q => h2 B' q _ takes0 σ2 H F m R kk⟩
  · rw [List.filter_eq_self.mpr (fun _ _ => rfl)] at w
    exact k.nx _ H' F' _ h (m'.putOwn i n0 ap w) (s1.trans s)
theorem w1_lcIf (i : Nat) {y : Str} {py : Pos} (xs : List α) (f v : α → D) (p : α → Bool) (hc : X.calm = true) (hN : X.N.Nodup) (hi : RI B X tg iter Γ (xs.map f)) (ok : BlkOk X.N X.env.scope scope own) (hg : ∀ (s : Shared) (H : Hp) (C : Addr) (cl : List (Str × Addr)) (fp : List Addr), PG (X.blk s H scope (compEnvC scope cl C X.env) fp) tg g)
    (hin : Inside (own.map (·.2)) g) (mon : Mono g) (hw : wipeG (own.map (·.2)) 0 Γ = Γw) (hz : xs.length ≤ sizeLine)
    (hs : ∀ x ∈ xs, ∃ Γd, (∀ B', RG X.K B' g Γw (f x) Γd) ∧ (∀ B' q, RT B' (Blk X scope q) c Γd (p x)) ∧ (p x = true → ∀ B' q, RE B' (Blk X scope q) elt Γd (.val (v x)))) (h : post (.nx (Γ.set i (.own (.lst ((xs.filter p).map v))))))
    (hsw : swapsWith (.ListComp elt [⟨tg, iter, [c], 0⟩] scope pos) (some (.Name y py)) spos.line X.env = pure true) (hy : X.N[i]? = some y := by rfl) (hyl : X.env.scope.names.lookup y = some .local := by rfl) (hf : ∀ x, foldedSetIterable iter X.env x = pure x := by intro _; rfl) :
    W1 B X (.Assign [.Name y py] (.ListComp elt [⟨tg, iter, [c], 0⟩] scope pos) spos) Γ post := fun W tk σ H F m D k => by
  obtain ⟨wi, pi, hi⟩ := hi
  refine toS (ps_setLc hc hN hy hyl hsw pi ok hg tsT elE hf) (hi W tk σ H F m _ fun J H1 F1 m1 s1 yy => fun Dl nD => ?_)
  refine lc_D (Q := fun x H1 => gName i x σ H1 D.nx) (p := p) (v := v) (W := W) m1 yy hz hin mon (fun x hx => ?_) (fun p' H' F' m' s n0 ap w => ?_) nD
  · obtain ⟨Γd, h1, h2, h3⟩ := hs x hx
    exact ⟨Γd, by rw [hw]; exact h1, fun B' σ2 H F m R kk q => h2 B' q _ takes0 σ2 H F m R kk, fun hp B' σ2 H F m R kk q => h3 hp B' q _ takes0 σ2 H F m R kk⟩
  · exact k.nx _ H' F' _ h (m'.putOwn i n0 ap w) (s1.trans s)
end

/-! ### the rule of a def -/
def startG (n : Nat) (ds : List D) : List SV := ds.map .dat ++ List.replicate (n - ds.length) .un
theorem mt_start {K : PySem.W.Frag} {F H : Hp} {N : List Str} {vs : List V} {ds : List D} (s : Same F H) (r : RpL K F vs ds) (hn : ds.length ≤ N.length) : Mt K ⟨F, H⟩ F H (L2.start N vs) (startG N.length ds) := by
  refine ⟨⟨s, .refl _, .refl _, fun a o e => .inl e⟩, ?_, fun i sv e => ?_, fun i j oi oj p ne ei ej => ?_⟩
  · unfold L2.start startG
    rw [List.length_append, List.length_append, List.length_map, List.length_map, List.length_replicate, List.length_replicate, r.len]
  · unfold startG at e
    by_cases hi : i < ds.length
    · rw [List.getElem?_append_left (by rw [List.length_map]; exact hi), List.getElem?_map, List.getElem?_eq_getElem hi] at e
      cases e
      obtain ⟨v, hv, rv⟩ := r.get (List.getElem?_eq_getElem hi)
      refine ⟨v, ?_, rv⟩
      unfold L2.start
      rw [List.getElem?_append_left (by rw [List.length_map, r.len]; exact hi), List.getElem?_map, hv]
      rfl
    · rw [List.getElem?_append_right (by rw [List.length_map]; omega), List.getElem?_replicate] at e
      split at e
      · cases e; trivial
      · cases e
  · unfold startG at ei
    by_cases hi : i < ds.length
    · rw [List.getElem?_append_left (by rw [List.length_map]; exact hi), List.getElem?_map, List.getElem?_eq_getElem hi] at ei
      cases ei
    · rw [List.getElem?_append_right (by rw [List.length_map]; omega), List.getElem?_replicate] at ei
      split at ei <;> cases ei
def retP (o : RO) : SO → Prop
  | .nx _ => o = .val .non
  | .ret r => r = o
  | .exc x _ => o = .exc x
  | _ => False
theorem Mb.gr {B : Bs} {F H : Hp} (m : Mb B F H) : Grow B.F0 B.H0 F H := ⟨m.f0, m.h0, m.sub, m.new⟩
section
variable {P : Program} {w : World} {K : PySem.W.Frag} {mg : Str → Option Value} {base : Heap}
theorem fn_D {x qual : Str} {st : Stmt} {f : Addr} {fd : FuncData} {N ps : List Str} {k : Nat} {S : DSp} (F : Fun K x qual st f fd) (Sc : FnScope N ps (defScope st)) (hn : ps.length ≤ N.length) (len : ∀ ds o, S ds o → ds.length = ps.length)
    (body : ∀ ds o, S ds o → ∀ (B : Bs) (cdv : Value) (A : Around) (outer : List Env) (s : Shared) (H : Hp) (E : XK), Room k (A.deeper (envOfC qual (defScope st) s.heap.objs.size f cdv)) →
      WS B (cxOf (L2.CX P w) P w K mg base N qual (defScope st) f cdv A outer s H E) (defBody st) (startG N.length ds) (retP o)) : FnOk P w K mg base (L2.CX P w) (k + 1) f fd ps (spD K S) := by
  refine F.okX Sc (fun vs H Q E h => ?_) (fun cdv A outer s H vs Q E hr h => ⟨_, anyB, ?_⟩)
  · obtain ⟨_, ds, o, _, r, hs, _⟩ := h
    rw [r.len]; exact len ds o hs
  · obtain ⟨F0, ds, o, sf, r, hs, dk⟩ := h
    refine body ds o hs ⟨F0, H⟩ cdv A outer s H E hr (fun c d _ H => E c d H) (takes_of rfl rfl rfl rfl) _ H F0 (mt_start sf r (by rw [len ds o hs]; exact hn)) _ ⟨fun σ' H' F' Γ p m s' => ?_, fun v H' F' r' p m s' ok => ?_, fun σ' H' F' Γ p => p.elim, fun σ' H' F' Γ p => p.elim, fun c d σ' H' F' Γ z p m s' rz => ?_⟩
    · have p' : o = .val .non := p
      subst p'
      exact dk .non H' F' m.mb.gr .non
    · have p' : r' = o := p
      subst p'
      cases r' with
      | val d => exact dk v H' F' m.gr ok
      | frs od => obtain ⟨q, rfl, n0, w⟩ := ok; exact dk q H' F' m.gr n0 w
      | exc z => exact ok.elim
    · have p' : o = .exc z := p
      subst p'
      exact dk c d H' F' m.mb.gr rz
def iniP (o : Except Exn (List (Str × D))) (y C : Addr) : SO → Prop
  | .nx Γ => ∃ fs, Γ[0]? = some (.own (.slf y C fs)) ∧ o = .ok fs
  | .exc x _ => o = .error x
  | _ => False
theorem fn_I {x qual : Str} {st : Stmt} {f : Addr} {fd : FuncData} {N ps : List Str} {k : Nat} {C : Addr} {S : ISp} (F : Fun K x qual st f fd) (Sc : FnScope N ps (defScope st)) (hn : ps.length ≤ N.length) (len : ∀ ds o, S ds o → ds.length + 1 = ps.length)
    (body : ∀ ds o, S ds o → ∀ (B : Bs) (y : Addr) (cdv : Value) (A : Around) (outer : List Env) (s : Shared) (H : Hp) (E : XK), Room k (A.deeper (envOfC qual (defScope st) s.heap.objs.size f cdv)) →
      WS B (cxOf (L2.CX P w) P w K mg base N qual (defScope st) f cdv A outer s H E) (defBody st) (.own (.slf y C []) :: startG (N.length - 1) ds) (iniP o y C)) : FnOk P w K mg base (L2.CX P w) (k + 1) f fd ps (spI K C S) := by
  refine F.okX Sc (fun vs H Q E h => ?_) (fun cdv A outer s H vs Q E hr h => ⟨_, anyB, ?_⟩)
  · obtain ⟨_, _, _, _, rest, ds, o, rfl, _, _, _, _, _, r, hs, _⟩ := h
    rw [List.length_cons, r.len]; exact len ds o hs
  · obtain ⟨F0, H0, y, dx, rest, ds, o, rfl, ny, nd, ne, rfl, sf, r, hs, dk⟩ := h
    have hl := len ds o hs
    have nlen : N.length = (N.length - 1) + 1 := by omega
    have s1 : Same H0 (upd (upd H0 dx (.own y)) y (.ins C dx [])) := fun b u e => by
      rw [upd_ne (ne_of_none e ny), upd_ne (ne_of_none e nd)]; exact e
    have m0 : Mt K ⟨F0, H0⟩ F0 (upd (upd H0 dx (.own y)) y (.ins C dx [])) (L2.start N (.ref y :: rest)) (.own (.slf y C []) :: startG (N.length - 1) ds) := by
      have ms := mt_start (N := N.tail) sf r (by rw [List.length_tail]; omega)
      rw [List.length_tail] at ms
      have es : L2.start N (.ref y :: rest) = some (.ref y) :: L2.start N.tail rest := by
        unfold L2.start
        rw [List.map_cons, List.length_cons, List.cons_append, List.length_tail, show N.length - (rest.length + 1) = N.length - 1 - rest.length by omega]
      rw [es]
      refine ⟨⟨sf.trans s1, .refl _, s1, fun a o e => .inl e⟩, by rw [List.length_cons, List.length_cons]; exact congrArg Nat.succ ms.len, fun i sv e => ?_, fun i j oi oj p hne ei ej => ?_⟩
      · cases i with
        | zero => cases e; exact ⟨y, rfl, ny, sf.free ny, dx, [], upd_same, .nil, rfl⟩
        | succ i =>
          have q := ms.slot i sv e
          cases sv with
          | un => trivial
          | dat d => exact q
          | own o' =>
            exfalso
            unfold startG at e
            rw [List.getElem?_cons_succ] at e
            by_cases hi : i < ds.length
            · rw [List.getElem?_append_left (by rw [List.length_map]; exact hi), List.getElem?_map, List.getElem?_eq_getElem hi] at e
              cases e
            · rw [List.getElem?_append_right (by rw [List.length_map]; omega), List.getElem?_replicate] at e
              split at e <;> cases e
      · have nz : ∀ (l : Nat) (ol : OD), (SV.own (.slf y C []) :: startG (N.length - 1) ds)[l]? = some (.own ol) → l = 0 := fun l ol q => by
          cases l with
          | zero => rfl
          | succ l =>
            exfalso
            unfold startG at q
            rw [List.getElem?_cons_succ] at q
            by_cases hi : l < ds.length
            · rw [List.getElem?_append_left (by rw [List.length_map]; exact hi), List.getElem?_map, List.getElem?_eq_getElem hi] at q
              cases q
            · rw [List.getElem?_append_right (by rw [List.length_map]; omega), List.getElem?_replicate] at q
              split at q <;> cases q
        exact absurd ((nz i oi ei).trans (nz j oj ej).symm) hne
    refine body ds o hs ⟨F0, H0⟩ y cdv A outer s _ E hr (fun c d _ H => E c d H) (takes_of rfl rfl rfl rfl) _ _ F0 m0 _ ⟨fun σ' H' F' Γ p m s' => ?_, fun v H' F' r' p => p.elim, fun σ' H' F' Γ p => p.elim, fun σ' H' F' Γ p => p.elim, fun c d σ' H' F' Γ z p m s' rz => ?_⟩
    · obtain ⟨fs, e, rfl⟩ := p
      obtain ⟨q, e1, n0, nf, dx', vs', e2, r2, rfl⟩ := m.own e
      exact dk H' F' m.mb.gr ⟨nf, dx', vs', e2, r2⟩
    · have p' : o = .error z := p
      subst p'
      exact dk c d H' F' m.mb.gr rz
end
end DL

/-! DL7: lists told by a map; texts; nested data compared; the module's own names; the end of a law. -/
namespace DL
open PySem PySem.Spec PyProof.Rows L2
/-! ### ints of a list by place -/
def nth (ns : List Int) (i : Int) : Int := ns.getD i.toNat 0
theorem ixN_in {n : Nat} {i : Int} (h0 : 0 ≤ i) (h1 : i < n) : ixN n i = some i.toNat := by
  unfold ixN
  rw [if_pos h0, if_pos h1]
theorem ix_map {α : Type} {f : α → D} {xs : List α} {i : Int} {x : α} (h0 : 0 ≤ i) (h : xs[i.toNat]? = some x) : atI (xs.map f) i = some (f x) := by
  have hl := (List.getElem?_eq_some_iff.mp h).1
  unfold atI
  rw [List.length_map, ixN_in h0 (by omega)]
  show (xs.map f)[i.toNat]? = _
  rw [List.getElem?_map, h]; rfl
theorem ix_ints {ns : List Int} {i : Int} (h0 : 0 ≤ i) (h1 : i < ns.length) : atI (ns.map D.int) i = some (.int (nth ns i)) := by
  refine ix_map h0 ?_
  unfold nth
  have hl : i.toNat < ns.length := by omega
  rw [List.getElem?_eq_getElem hl, List.getD_eq_getElem?_getD, List.getElem?_eq_getElem hl]; rfl
def cutL {α : Type} (ds : List α) (lo hi : Option Int) : List α := (ds.drop (HT.sIx ds.length 0 lo)).take (HT.sIx ds.length ds.length hi - HT.sIx ds.length 0 lo)
theorem cut_map {α : Type} {f : α → D} {xs : List α} {lo hi : Option Int} : cutD (xs.map f) lo hi = (cutL xs lo hi).map f := by
  unfold cutD cutL
  rw [List.length_map, List.map_take, List.map_drop]
theorem cutL_upto {α : Type} (xs : List α) (n : Nat) : cutL xs none (some (n : Int)) = xs.take n := by
  unfold cutL
  rw [HT.sIx_none, HT.sIx_nat, List.drop_zero, Nat.sub_zero]
  by_cases h : n ≤ xs.length
  · rw [Nat.min_eq_left h]
  · rw [Nat.min_eq_right (by omega), List.take_of_length_le (Nat.le_refl _), List.take_of_length_le (by omega)]
theorem cutL_from {α : Type} (xs : List α) (n : Nat) : cutL xs (some (n : Int)) none = xs.drop n := by
  unfold cutL
  rw [HT.sIx_none, HT.sIx_nat, List.take_of_length_le (by rw [List.length_drop]; omega)]
  by_cases h : n ≤ xs.length
  · rw [Nat.min_eq_left h]
  · rw [Nat.min_eq_right (by omega), List.drop_of_length_le (Nat.le_refl _), List.drop_of_length_le (by omega)]
section
variable {B : Bs} {X : Cx} {Γ : List SV} {a b c e : Expr} {es : List Expr} {pos : Pos} {post : SO → Prop}
theorem re_slM {α : Type} {f : α → D} {xs : List α} {lo hi : Option Expr} {l u : Option Int} {p2 : Pos} (ha : RP B X a Γ true (xs.map f)) (hl : RO1 B X lo Γ l) (hu : RO1 B X hi Γ u) : RE B X (.Subscript a (.Slice lo hi none p2) pos) Γ (.frs (.lst ((cutL xs l u).map f))) := by
  rw [← cut_map]; exact re_slL ha hl hu
theorem w1_appendM {α : Type} {f : α → D} {xs : List α} {v : α} (i : Nat) {call : Expr} (hΓ : Γ[i]? = some (.own (.lst (xs.map f)))) (hp : ∀ t : TE, PE X e t → PE X call (tBM X.K "list" rAppend (tVar i) (tCons t tNil))) (he : RE B X e Γ (.val (f v))) (hz : xs.length < sizeLine) (h : post (.nx (Γ.set i (.own (.lst ((xs ++ [v]).map f))))))
    (hs : swapsWith call none pos.line X.env = pure false := by rfl) : W1 B X (.Expr call pos) Γ post :=
  w1_append i hΓ hp he (by rw [List.length_map]; exact hz) (by rw [List.map_append] at h; exact h) hs
theorem ri_id {tg iter : Expr} {ds : List D} (h : RI B X tg iter Γ ds) : RI B X tg iter Γ (ds.map id) := by rw [List.map_id]; exact h
theorem ri_is {tg iter : Expr} {ds ds' : List D} (h : RI B X tg iter Γ ds) (e : ds = ds') : RI B X tg iter Γ ds' := e ▸ h
theorem rp_is {t : Bool} {ds ds' : List D} (h : RP B X e Γ t ds) (q : ds = ds') : RP B X e Γ t ds' := q ▸ h

/-! ### texts -/
theorem re_join {sep : Str} {ys : List Str} {t : Bool} {apos : Pos} (ho : RE B X a Γ (.val (.str sep))) (he : RP B X e Γ t (ys.map D.str)) (hz : (ys.map (·.length)).sum + ys.length * sep.length ≤ 16777216) (hs : starEach [e] X.env = [(false, eval e X.env)] := by rfl)
    (hbase : attributeBase a "join" X.env (eval a X.env) = eval a X.env := by rfl) (hline : (apos.endLine == pos.line) = true := by rfl) : RE B X (.Call (.Attribute a "join" apos) [e] [] pos) Γ (.val (.str (Txt.join sep ys))) := fun W tk σ H F m Q k =>
  toE (pe_join anyE anyE hs hbase hline) (ho W tk σ H F m _ fun v H1 F1 m1 s1 r1 => by
    cases r1
    refine ⟨⟨sep, rfl⟩, he W tk σ H1 F1 m1 _ fun p H2 F2 m2 s2 st => ?_⟩
    obtain ⟨vs, h1, h2⟩ := st H2 F2 m2 (.refl F2)
    rw [h2.strs] at h1
    exact ⟨sep, p, ys, rfl, rfl, h1.or, hz, (k.mono (s1.trans s2)).go m2 (.str _)⟩)
theorem rpL_strs {K : PySem.W.Frag} {F : Hp} : ∀ (ns : List Str), RpL K F (ns.map V.str) (ns.map D.str)
  | [] => .nil
  | n :: r => .cons (.str n) (rpL_strs r)
theorem re_split {x sep : Str} {apos : Pos} (ho : RE B X a Γ (.val (.str x))) (he : RE B X e Γ (.val (.str sep))) (h1 : (sep.length == 0) = false) (hz : x.length + 2 ≤ sizeLine) (hs : starEach [e] X.env = [(false, eval e X.env)] := by rfl)
    (hbase : attributeBase a "split" X.env (eval a X.env) = eval a X.env := by rfl) (hline : (apos.endLine == pos.line) = true := by rfl) : RE B X (.Call (.Attribute a "split" apos) [e] [] pos) Γ (.frs (.lst ((Txt.split x sep).map D.str))) := fun W tk σ H F m Q k =>
  toE (pe_split anyE anyE hs hbase hline) (ho W tk σ H F m _ fun v H1 F1 m1 s1 r1 => by
    cases r1
    refine ⟨⟨x, rfl⟩, he W tk σ H1 F1 m1 _ fun v H2 F2 m2 s2 r2 => ?_⟩
    cases r2
    exact ⟨x, sep, rfl, rfl, h1, hz, fun p n => (k.mono (s1.trans s2)).lst m2 (rpL_strs _) n⟩)
section
variable {p : Pos}
theorem re_strS (ms : X.mg "str" = none) {x : Str} (h : RE B X e Γ (.val (.str x))) (hg : Gl X "str" := by rfl) (he : starEach [e] X.env = (false, eval e X.env) :: starEach [] X.env := by rfl) : RE B X (.Call (.Name "str" p) [e] [] pos) Γ (.val (.str x)) :=
  re_callTy SkE.call_str_str ms (by decide +kernel) (rl_cons h rl_nil he) (fun W σ H F vs m r Q k => by
    cases r with
    | cons r1 r2 => cases r1; cases r2; exact ⟨x, rfl, k.go m (.str _)⟩) hg (he := he)
theorem re_intS (ms : X.mg "int" = none) {x : Str} {n : Int} (h : RE B X e Γ (.val (.str x))) (hn : PySem.intText? x = some n) (hz : x.length ≤ 640) (hg : Gl X "int" := by rfl) (he : starEach [e] X.env = (false, eval e X.env) :: starEach [] X.env := by rfl) : RE B X (.Call (.Name "int" p) [e] [] pos) Γ (.val (.int n)) :=
  re_callTy call_int_str ms (by decide +kernel) (rl_cons h rl_nil he) (fun W σ H F vs m r Q k => by
    cases r with
    | cons r1 r2 => cases r1; cases r2; exact ⟨x, n, rfl, hn, hz, k.go m (.int _)⟩) hg (he := he)
/-- a text's slice -/
theorem re_slS {z : Str} {lo hi : Option Expr} {l u : Option Int} {p2 : Pos} (ha : RE B X a Γ (.val (.str z))) (hl : RO1 B X lo Γ l) (hu : RO1 B X hi Γ u) (hz : z.length ≤ sizeLine) : RE B X (.Subscript a (.Slice lo hi none p2) pos) Γ (.val (.str (cutS z l u))) := fun W tk σ H F m Q k => by
  obtain ⟨t1, p1, h1⟩ := hl
  obtain ⟨t2, p2, h2⟩ := hu
  refine toE (pe_slice sl_str anyE p1 p2) (ha W tk σ H F m _ fun v H1 F1 m1 s1 r1 => h1 W tk σ H1 F1 m1 _ fun H2 F2 m2 s2 => h2 W tk σ H2 F2 m2 _ fun H3 F3 m3 s3 => ?_)
  cases r1
  exact ⟨z, rfl, hz, (k.mono ((s1.trans s2).trans s3)).go m3 (.str _)⟩
end

/-! ### nested data compared -/
mutual
def py : D → PyData
  | .non => .none
  | .bl b => .bool b
  | .int i => .int i
  | .str x => .str x
  | .tup ds => .tuple (pyL ds)
  | .lst ds => .list (pyL ds)
  | .ins _ _ => .none
def pyL : List D → List PyData
  | [] => []
  | d :: r => py d :: pyL r
end
theorem pyL_map : ∀ ds : List D, pyL ds = ds.map py
  | [] => rfl
  | d :: r => by rw [pyL, pyL_map r]; rfl
/-- data of lists, tuples and scalars, to depth n -/
def Sh : Nat → D → Prop
  | _, .non => True
  | _, .bl _ => True
  | _, .int _ => True
  | _, .str x => PyData.strOk x = true
  | 0, .tup _ => False
  | 0, .lst _ => False
  | n + 1, .tup ds => ∀ d ∈ ds, Sh n d
  | n + 1, .lst ds => ∀ d ∈ ds, Sh n d
  | _, .ins _ _ => False
theorem lay_all {P : PyData → Prop} (hP : ∀ p, P p → p.canLay0 = true) : ∀ (ps : List PyData), (∀ p ∈ ps, P p) → PyData.canLayAll0 ps = true
  | [], _ => rfl
  | p :: r, h => by rw [PyData.canLayAll0, hP p (h p List.mem_cons_self), lay_all hP r fun q hq => h q (List.mem_cons_of_mem _ hq)]; rfl
theorem depth_all {n : Nat} : ∀ (ps : List PyData), (∀ p ∈ ps, p.depth ≤ n) → PyData.depthAll ps ≤ n
  | [], _ => Nat.zero_le _
  | p :: r, h => by
    rw [PyData.depthAll]
    exact Nat.max_le.mpr ⟨h p List.mem_cons_self, depth_all r fun q hq => h q (List.mem_cons_of_mem _ hq)⟩
theorem Sh.lay : ∀ {n : Nat} {d : D}, Sh n d → (py d).canLay0 = true ∧ (py d).depth ≤ n
  | _, .non, _ => ⟨rfl, Nat.zero_le _⟩
  | _, .bl _, _ => ⟨rfl, Nat.zero_le _⟩
  | _, .int _, _ => ⟨rfl, Nat.zero_le _⟩
  | n, .str x, h => ⟨by cases n <;> exact h, Nat.zero_le _⟩
  | 0, .tup _, h => h.elim
  | 0, .lst _, h => h.elim
  | 0, .ins _ _, h => h.elim
  | _ + 1, .ins _ _, h => h.elim
  | n + 1, .tup ds, h => by
    have q : ∀ p ∈ pyL ds, p.canLay0 = true ∧ p.depth ≤ n := fun p hp => by
      rw [pyL_map] at hp
      obtain ⟨d, hd, rfl⟩ := List.mem_map.mp hp
      exact Sh.lay (h d hd)
    exact ⟨lay_all (P := fun p => p.canLay0 = true) (fun _ z => z) _ fun p hp => (q p hp).1, Nat.succ_le_succ (depth_all _ fun p hp => (q p hp).2)⟩
  | n + 1, .lst ds, h => by
    have q : ∀ p ∈ pyL ds, p.canLay0 = true ∧ p.depth ≤ n := fun p hp => by
      rw [pyL_map] at hp
      obtain ⟨d, hd, rfl⟩ := List.mem_map.mp hp
      exact Sh.lay (h d hd)
    exact ⟨lay_all (P := fun p => p.canLay0 = true) (fun _ z => z) _ fun p hp => (q p hp).1, Nat.succ_le_succ (depth_all _ fun p hp => (q p hp).2)⟩
theorem Sh.shaped {n : Nat} {d : D} (h : Sh n d) (hn : n ≤ 64) : SeqAt.shaped (py d) = true := by
  unfold SeqAt.shaped
  rw [h.lay.1, decide_eq_true (Nat.le_trans h.lay.2 hn)]; rfl
mutual
theorem Rp.dp {K : PySem.W.Frag} {F H : Hp} (s : Same F H) : ∀ {n : Nat} {v : V} {d : D}, Rp K F v d → Sh n d → Dp K H v (py d)
  | _, _, _, .non, _ => .non
  | _, _, _, .bl b, _ => .bl b
  | _, _, _, .int i, _ => .int i
  | _, _, _, .str x, _ => .str x
  | n + 1, _, _, .tup q r, h => .tup (same_sqT s q) (RpL.dp s r h)
  | n + 1, _, _, .lst q r, h => .lst (same_sqL s q) (RpL.dp s r h)
  | 0, _, _, .tup q r, h => h.elim
  | 0, _, _, .lst q r, h => h.elim
  | 0, _, _, .ins q r, h => h.elim
  | n + 1, _, _, .ins q r, h => h.elim
theorem RpL.dp {K : PySem.W.Frag} {F H : Hp} (s : Same F H) : ∀ {n : Nat} {vs : List V} {ds : List D}, RpL K F vs ds → (∀ d ∈ ds, Sh n d) → DpAll K H vs (pyL ds)
  | _, _, _, .nil, _ => .nil
  | _, _, _, .cons h r, hs => .cons (Rp.dp s h (hs _ List.mem_cons_self)) (RpL.dp s r fun d hd => hs d (List.mem_cons_of_mem _ hd))
end
def eqD (d e : D) : Bool := PyData.eqv (py d) (py e)
theorem eqD_refl {n : Nat} {d : D} (h : Sh n d) : eqD d d = true := SeqAt.eqv_refl _ h.lay.1
/-- no bools: == is equality -/
def Nb : Nat → D → Prop
  | _, .non => True
  | _, .bl _ => False
  | _, .int _ => True
  | _, .str _ => True
  | 0, .tup _ => False
  | 0, .lst _ => False
  | n + 1, .tup ds => ∀ d ∈ ds, Nb n d
  | n + 1, .lst ds => ∀ d ∈ ds, Nb n d
  | _, .ins _ _ => False
mutual
theorem eqv_nb : ∀ {n m : Nat} {d e : D}, Nb n d → Nb m e → PyData.eqv (py d) (py e) = true → d = e
  | _, _, .non, .non, _, _, _ => rfl
  | _, _, .int i, .int j, _, _, h => by
    have : i = j := by simpa [py, PyData.eqv] using h
    rw [this]
  | _, _, .str x, .str y, _, _, h => by
    have : x = y := by simpa [py, PyData.eqv] using h
    rw [this]
  | n + 1, m + 1, .tup ds, .tup es, h1, h2, h => by
    have q : PyData.eqvAll (pyL ds) (pyL es) = true := by simpa [py, PyData.eqv] using h
    rw [eqvL_nb h1 h2 q]
  | n + 1, m + 1, .lst ds, .lst es, h1, h2, h => by
    have q : PyData.eqvAll (pyL ds) (pyL es) = true := by simpa [py, PyData.eqv] using h
    rw [eqvL_nb h1 h2 q]
  | _, _, .non, .int _, _, _, h => by simp [py, PyData.eqv] at h
  | _, _, .non, .str _, _, _, h => by simp [py, PyData.eqv] at h
  | _, _, .non, .tup _, _, _, h => by simp [py, PyData.eqv] at h
  | _, _, .non, .lst _, _, _, h => by simp [py, PyData.eqv] at h
  | _, _, .int _, .non, _, _, h => by simp [py, PyData.eqv] at h
  | _, _, .int _, .str _, _, _, h => by simp [py, PyData.eqv] at h
  | _, _, .int _, .tup _, _, _, h => by simp [py, PyData.eqv] at h
  | _, _, .int _, .lst _, _, _, h => by simp [py, PyData.eqv] at h
  | _, _, .str _, .non, _, _, h => by simp [py, PyData.eqv] at h
  | _, _, .str _, .int _, _, _, h => by simp [py, PyData.eqv] at h
  | _, _, .str _, .tup _, _, _, h => by simp [py, PyData.eqv] at h
  | _, _, .str _, .lst _, _, _, h => by simp [py, PyData.eqv] at h
  | _, _, .tup _, .non, _, _, h => by simp [py, PyData.eqv] at h
  | _, _, .tup _, .int _, _, _, h => by simp [py, PyData.eqv] at h
  | _, _, .tup _, .str _, _, _, h => by simp [py, PyData.eqv] at h
  | _, _, .tup _, .lst _, _, _, h => by simp [py, PyData.eqv] at h
  | _, _, .lst _, .non, _, _, h => by simp [py, PyData.eqv] at h
  | _, _, .lst _, .int _, _, _, h => by simp [py, PyData.eqv] at h
  | _, _, .lst _, .str _, _, _, h => by simp [py, PyData.eqv] at h
  | _, _, .lst _, .tup _, _, _, h => by simp [py, PyData.eqv] at h
  | 0, _, .tup _, _, h1, _, _ => h1.elim
  | 0, _, .lst _, _, h1, _, _ => h1.elim
  | _, 0, _, .tup _, _, h2, _ => h2.elim
  | _, 0, _, .lst _, _, h2, _ => h2.elim
  | n, _, .bl _, _, h1, _, _ => by cases n <;> exact h1.elim
  | n, _, .ins _ _, _, h1, _, _ => by cases n <;> exact h1.elim
  | _, m, _, .bl _, _, h2, _ => by cases m <;> exact h2.elim
  | _, m, _, .ins _ _, _, h2, _ => by cases m <;> exact h2.elim
theorem eqvL_nb : ∀ {n m : Nat} {ds es : List D}, (∀ d ∈ ds, Nb n d) → (∀ d ∈ es, Nb m d) → PyData.eqvAll (pyL ds) (pyL es) = true → ds = es
  | _, _, [], [], _, _, _ => rfl
  | _, _, [], _ :: _, _, _, h => by simp [pyL, PyData.eqvAll] at h
  | _, _, _ :: _, [], _, _, h => by simp [pyL, PyData.eqvAll] at h
  | _, _, d :: ds, e :: es, h1, h2, h => by
    have q : PyData.eqv (py d) (py e) = true ∧ PyData.eqvAll (pyL ds) (pyL es) = true := by simpa [pyL, PyData.eqvAll] using h
    rw [eqv_nb (h1 d List.mem_cons_self) (h2 e List.mem_cons_self) q.1, eqvL_nb (fun x hx => h1 x (List.mem_cons_of_mem _ hx)) (fun x hx => h2 x (List.mem_cons_of_mem _ hx)) q.2]
end
theorem c_eqD {n m : Nat} {d1 d2 : D} (hu : X.A.units + 64 < cLine) (ha : RE B X a Γ (.val d1)) (hb : RE B X b Γ (.val d2)) (h1 : Sh n d1) (h2 : Sh m d2) (hn : n ≤ 64 := by decide) (hm : m ≤ 64 := by decide) : CO B X .Eq a b Γ (eqD d1 d2) :=
  co_of (op_eqD hu) (nomark _) ha hb fun W σ H F x y mt r1 r2 Q k => ⟨_, _, r1.dp mt.mb.sub h1, r2.dp mt.mb.sub h2, h1.shaped hn, h2.shaped hm, k.go mt (.bl _)⟩
theorem c_neD {n m : Nat} {d1 d2 : D} (hu : X.A.units + 64 < cLine) (ha : RE B X a Γ (.val d1)) (hb : RE B X b Γ (.val d2)) (h1 : Sh n d1) (h2 : Sh m d2) (hn : n ≤ 64 := by decide) (hm : m ≤ 64 := by decide) : CO B X .NotEq a b Γ (!eqD d1 d2) :=
  co_of (op_neD hu) (nomark _) ha hb fun W σ H F x y mt r1 r2 Q k => ⟨_, _, r1.dp mt.mb.sub h1, r2.dp mt.mb.sub h2, h1.shaped hn, h2.shaped hm, k.go mt (.bl _)⟩
/-- x in xs, of any data -/
def rInB (K : PySem.W.Frag) (neg : Bool) : R2 := fun x y H Q => ∃ d ds, Dp K H x d ∧ (Dp K H y (.list ds) ∨ Dp K H y (.tuple ds)) ∧ SeqAt.shaped d = true ∧ PyData.canLayAll0 ds = true ∧ Q (.bl (if neg then !(ds.any fun z => PyData.eqv z d) else ds.any fun z => PyData.eqv z d)) H
theorem op_inB (hu : X.A.units + 65 < cLine) : OpR X (compareOp .In) (rInB X.K false) := by
  intro pins s σ H x y v u Q I rx ry h
  obtain ⟨d, ds, hd, he, sd, se, q⟩ := h
  obtain ⟨as, r1⟩ := Dp.reads I d x v hd rx
  have rm : X.A.units + 1 + min (PyData.depthAll ds) d.depth < cLine := room_in_shaped sd hu
  rcases he with he | he
  · obtain ⟨bs, r2⟩ := Dp.reads I (.list ds) y u he ry
    exact SeqAt.in_list_reads r2 r1 se (SeqAt.canLay_of_shaped sd) rm ⟨.bl _, H, I, rfl, q⟩
  · obtain ⟨bs, r2⟩ := Dp.reads I (.tuple ds) y u he ry
    exact SeqAt.in_tuple_reads r2 r1 se (SeqAt.canLay_of_shaped sd) rm ⟨.bl _, H, I, rfl, q⟩
theorem op_niB (hu : X.A.units + 65 < cLine) : OpR X (compareOp .NotIn) (rInB X.K true) := by
  intro pins s σ H x y v u Q I rx ry h
  obtain ⟨d, ds, hd, he, sd, se, q⟩ := h
  obtain ⟨as, r1⟩ := Dp.reads I d x v hd rx
  have rm : X.A.units + 1 + min (PyData.depthAll ds) d.depth < cLine := room_in_shaped sd hu
  rcases he with he | he
  · obtain ⟨bs, r2⟩ := Dp.reads I (.list ds) y u he ry
    exact SeqAt.notIn_list_reads r2 r1 se (SeqAt.canLay_of_shaped sd) rm ⟨.bl _, H, I, rfl, q⟩
  · obtain ⟨bs, r2⟩ := Dp.reads I (.tuple ds) y u he ry
    exact SeqAt.notIn_tuple_reads r2 r1 se (SeqAt.canLay_of_shaped sd) rm ⟨.bl _, H, I, rfl, q⟩
def inD (d : D) (ds : List D) : Bool := ds.any fun z => eqD z d
theorem any_pyL (d : D) : ∀ ds : List D, ((pyL ds).any fun z => PyData.eqv z (py d)) = inD d ds
  | [] => rfl
  | e :: r => by rw [pyL, List.any_cons, any_pyL d r]; rfl
theorem canLay_L {m : Nat} {ds : List D} (h : ∀ d ∈ ds, Sh m d) : PyData.canLayAll0 (pyL ds) = true := by
  refine lay_all (P := fun p => p.canLay0 = true) (fun _ z => z) _ fun p hp => ?_
  rw [pyL_map] at hp
  obtain ⟨d, hd, rfl⟩ := List.mem_map.mp hp
  exact (h d hd).lay.1
theorem SqB.dp {K : PySem.W.Frag} {F H : Hp} {p : Addr} {vs : List V} {ds : List D} {t : Bool} {m : Nat} (s : Same F H) (q : SqB K H p vs t) (r : RpL K F vs ds) (h : ∀ d ∈ ds, Sh m d) : Dp K H (.ref p) (.list (pyL ds)) ∨ Dp K H (.ref p) (.tuple (pyL ds)) := by
  cases t with
  | true => exact .inl (.lst q (r.dp s h))
  | false => exact .inr (.tup q (r.dp s h))
theorem c_inP {n m : Nat} {t : Bool} {d : D} {ds : List D} (hu : X.A.units + 65 < cLine) (hm : behindInMarks .In b = false) (ha : RE B X a Γ (.val d)) (hb : RP B X b Γ t ds) (h1 : Sh n d) (h2 : ∀ d ∈ ds, Sh m d) (hn : n ≤ 64 := by decide) : CO B X .In a b Γ (inD d ds) :=
  ⟨_, op_inB hu, hm, fun W tk σ H F mt Q k => ha W tk σ H F mt _ fun x H1 F1 m1 s1 r1 => hb W tk σ H1 F1 m1 _ fun p H2 F2 m2 s2 st => by
    obtain ⟨vs, q1, q2⟩ := st H2 F2 m2 (.refl F2)
    refine ⟨py d, pyL ds, (r1.mono s2).dp m2.mb.sub h1, q1.dp m2.mb.sub q2 h2, h1.shaped hn, canLay_L h2, ?_⟩
    rw [any_pyL]
    exact k H2 F2 m2 (s1.trans s2)⟩
theorem c_niP {n m : Nat} {t : Bool} {d : D} {ds : List D} (hu : X.A.units + 65 < cLine) (hm : behindInMarks .NotIn b = false) (ha : RE B X a Γ (.val d)) (hb : RP B X b Γ t ds) (h1 : Sh n d) (h2 : ∀ d ∈ ds, Sh m d) (hn : n ≤ 64 := by decide) : CO B X .NotIn a b Γ (!inD d ds) :=
  ⟨_, op_niB hu, hm, fun W tk σ H F mt Q k => ha W tk σ H F mt _ fun x H1 F1 m1 s1 r1 => hb W tk σ H1 F1 m1 _ fun p H2 F2 m2 s2 st => by
    obtain ⟨vs, q1, q2⟩ := st H2 F2 m2 (.refl F2)
    refine ⟨py d, pyL ds, (r1.mono s2).dp m2.mb.sub h1, q1.dp m2.mb.sub q2 h2, h1.shaped hn, canLay_L h2, ?_⟩
    rw [any_pyL]
    exact k H2 F2 m2 (s1.trans s2)⟩
end

/-! ### the module's names -/
structure Bis (mg : Str → Option Value) : Prop where
  len : mg "len" = none
  abs : mg "abs" = none
  int : mg "int" = none
  max : mg "max" = none
  min : mg "min" = none
  list : mg "list" = none
  tuple : mg "tuple" = none
  all : mg "all" = none
  any : mg "any" = none
  str : mg "str" = none
  range : mg "range" = none
  enumerate : mg "enumerate" = none
  zip : mg "zip" = none
  sorted : mg "sorted" = none
  sum : mg "sum" = none
  isinstance : mg "isinstance" = none
  repr : mg "repr" = none
section
variable {P : Program} {w : World} {K : PySem.W.Frag} {mg : Str → Option Value} {base : Heap}
theorem defn_mk {x qual : Str} {st : Stmt} {f : Addr} {fd : FuncData} {ps : List Str} {k : Nat} {S : DSp} (F : Fun K x qual st f fd) (ok : FnOk P w K mg base (L2.CX P w) k f fd ps (spD K S)) (g : mg x = some (.ref f)) (b : Binds K fd ps []) : Defn P w K mg base k x [] S :=
  ⟨f, fd, ps, [], [], ok, g, F.kp, b, .nil, fun _ => .nil⟩
theorem gv_int {x : Str} {i : Int} {t : Tok} (h : mg x = some (.int i t)) : GV K mg x (.int i) := ⟨.int i, _, h, ⟨t, rfl⟩, fun _ => .int i⟩
theorem gv_str {x z : Str} {t : Tok} (h : mg x = some (.str z t)) : GV K mg x (.str z) := ⟨.str z, _, h, ⟨t, rfl⟩, fun _ => .str z⟩
end
/-- what a law is to be: at every script it answers True -/
def SLaw : DSp := fun ds o => ∃ ns : List Int, ds = [.lst (ns.map .int)] ∧ ns.length ≤ 63 ∧ o = .val (.bl true)
theorem law_sp {K : PySem.W.Frag} {H : Hp} {a : Addr} {ns : List Int} (hl : ns.length ≤ 63) (h : SqL K H a (ns.map V.int)) : spD K SLaw [.ref a] H (fun v _ => v = .bl true) fun _ _ _ => False :=
  ⟨H, [.lst (ns.map .int)], .val (.bl true), .refl H, .cons (.lst h (rpL_ints ns)) .nil, ⟨ns, rfl, hl, rfl⟩, fun v H' F' g r => by cases r; rfl⟩
theorem law_cx {P : Program} {w : World} {H : Hp} {s s' : Shared} {e : Value} (h : L2.CX P w [] H s (fun _ _ _ => False) e s') : False := by
  obtain ⟨_, _, _, _, _, _, _, _, _, _, _, _, z⟩ := h
  exact z
end DL

/-! DL8: enumerate over a list or a tuple, from any number on; a star in a display; isinstance. -/
namespace DL
open PySem PySem.Spec PyProof.Rows L2
open Sem (wp)
open AutoSeq1 (wpAny_loadPart')
/-- the iterator below: of a list, of a tuple -/
def Sub (t : Bool) (it a : Addr) (i : Nat) (h : Heap) : Prop := match t with
  | true => h.IsListIter it a i
  | false => h.IsTupleIter it a i
def SeqOf (t : Bool) (a : Addr) (its : Array Value) (h : Heap) : Prop := match t with
  | true => h.IsList a its
  | false => h.IsTuple a its
theorem sub_draws {prog : Program} {w : World} {A : Around} (hh : A.handled = none) (t : Bool) (it a : Addr) (hne : a ≠ it) (its : Array Value) : Draws prog w A it [it, a] its.size (fun i v => its[i]? = some v) (fun i h => Sub t it a i h ∧ SeqOf t a its h) := by
  cases t with
  | true => exact Draws.list hh it a hne its
  | false => exact Draws.tuple hh it a hne its
theorem seq_of {X : Cx} {pins : List (Addr × Obj)} {σ : L2.St} {H : Hp} {s : Shared} {a : Addr} {xs : List V} {t : Bool} (I : Inv X pins σ H s) (h : SqB X.K H a xs t) : ∃ its : List Value, Vals xs its ∧ SeqOf t a its.toArray s.heap ∧ xs.length ≤ sizeLine := by
  cases t with
  | true => obtain ⟨its, r, p, z⟩ := I.list h; exact ⟨its, r, p.isList, z⟩
  | false => obtain ⟨its, r, p, z⟩ := I.tuple h; exact ⟨its, r, p, z⟩
theorem sqB_inj {X : Cx} {pins : List (Addr × Obj)} {σ : L2.St} {H : Hp} {s : Shared} {a : Addr} {xs ys : List V} {t : Bool} (I : Inv X pins σ H s) (h : SqB X.K H a xs t) (h' : SqB X.K H a ys t) : xs = ys := by
  cases t with
  | true => exact I.list_inj h h'
  | false => exact I.tuple_inj h h'
theorem seq_lt {t : Bool} {a : Addr} {its : Array Value} {h : Heap} (q : SeqOf t a its h) : a < h.objs.size := by
  cases t with
  | true => obtain ⟨o, e, _⟩ := q; exact Heap.lt_size e
  | false => obtain ⟨o, e, _⟩ := q; exact Heap.lt_size e
theorem seq_live {t : Bool} {a : Addr} {its : Array Value} {h : Heap} (q : SeqOf t a its h) : ∃ o c, h.get? a = some o ∧ o.cls = .type c ∧ (c = "list" ∨ c = "tuple") := by
  cases t with
  | true => obtain ⟨o, e, c, _⟩ := q; exact ⟨o, _, e, c, .inl rfl⟩
  | false => obtain ⟨o, e, c, _⟩ := q; exact ⟨o, _, e, c, .inr rfl⟩
theorem sub_obj {t : Bool} {it a : Addr} {i : Nat} {h : Heap} (q : Sub t it a i h) : ∃ o c, h.get? it = some o ∧ (∀ v, o.data ≠ .cell v) ∧ o.cls = .type c ∧ c ≠ "list" ∧ c ≠ "tuple" := by
  cases t with
  | true => obtain ⟨o, e, c, d⟩ := q; exact ⟨o, _, e, (fun v z => by rw [d] at z; cases z), c, by decide, by decide⟩
  | false => obtain ⟨o, e, c, d⟩ := q; exact ⟨o, _, e, (fun v z => by rw [d] at z; cases z), c, by decide, by decide⟩
theorem sub_at {t : Bool} {it a : Addr} {i : Nat} {h h' : Heap} (q : Sub t it a i h) (k : ∀ o, h.get? it = some o → h'.get? it = some o) : Sub t it a i h' := by
  cases t with
  | true => exact q.at k
  | false => exact q.at k
def IteK (K : PySem.W.Frag) (t : Bool) (k : Int) (a : Addr) : It :=
  ⟨fun i H => ∃ (xs : List V) (x : V), SqB K H a xs t ∧ xs[i]? = some x, fun i H v H' => ∃ T x, v = .ref T ∧ H T = none ∧ H' = upd H T (.tup [.int (k + (i : Int)), x]) ∧ ∀ xs, SqB K H a xs t → xs[i]? = some x, fun i H => ∃ xs : List V, SqB K H a xs t ∧ xs.length = i⟩
theorem turn_enumK {P : Program} {w : World} {K : PySem.W.Frag} {elts : List Expr} {kk : Nat} {tpos : Pos} (t : Bool) (k : Int) (a e it : Addr) :
    Turn P w K (.Tuple elts kk tpos) (IteK K t k a) [e, it] e (fun i h => (∃ old, IsEnum h e it (k + (i : Int)) old) ∧ Sub t it a i h ∧ e ≠ it) where
  mem := by simp
  obj := fun i h st b hb => by
    obtain ⟨⟨old, he⟩, hs, _⟩ := st
    rcases (show b = e ∨ b = it by simpa using hb) with z | z
    · subst z; exact ⟨_, he, fun v q => nomatch q⟩
    · subst z; obtain ⟨o, _, e1, d, _⟩ := sub_obj hs; exact ⟨o, e1, d⟩
  keep := fun i h h' st q => let ⟨⟨old, he⟩, hi, hne⟩ := st; ⟨⟨old, q e (by simp) _ he⟩, sub_at hi (fun o z => q it (by simp) o z), hne⟩
  item := by
    intro X hP hw hK hc i pins s σ H E I hf st hg
    subst hP hw hK
    obtain ⟨⟨old, he⟩, hit, hne⟩ := st
    obtain ⟨xs, x, hq, hx⟩ := hg
    obtain ⟨its, rv, p, hz⟩ := seq_of I hq
    obtain ⟨u, hu, ru⟩ := rv.get hx
    have hel : e < s.heap.objs.size := Heap.lt_size he
    have hil : it < s.heap.objs.size := by obtain ⟨_, _, q, _⟩ := sub_obj hit; exact Heap.lt_size q
    obtain ⟨oa, ca, ea, cla, hca⟩ := seq_live p
    have hea : a ≠ e := fun z => by
      subst z
      rw [he] at ea; cases ea
      rcases hca with q | q <;> (subst q; exact absurd (Value.type.inj cla) (by decide))
    have hai : a ≠ it := fun z => by
      subst z
      obtain ⟨o2, c2, e2, _, q1, q2, q3⟩ := sub_obj hit
      rw [ea] at e2; cases e2
      rw [cla] at q1; cases q1
      exact hca.elim q2 q3
    have D := sub_draws (prog := X.prog) (w := X.w) (A := X.A.in1) (show X.A.in1.handled = none from I.ok.hd hc) t it a hai its.toArray
    have hlt : i < its.toArray.size := by rw [List.size_toArray]; exact (List.getElem?_eq_some_iff.mp hu).1
    refine wpAny_pyNext_enum_itemC D he ⟨hit, p⟩ hlt hne (by simp; exact ⟨hne, fun z => hea z.symm⟩) fun y h' tk hP ho hs' hT hsz hk => ?_
    have ey : y = u := by
      have : its.toArray[i]? = some u := by simpa using hu
      rw [this] at hP; exact (Option.some.inj hP).symm
    subst ey
    refine ⟨_, rfl, wpAny_letOwnedTupleGo_enum (s := { s with heap := h', toks := tk + 1 }) ho fun h'' he' sb => ?_⟩
    have hT2 : h''.get? s.heap.objs.size = some { cls := .type "tuple", data := .seq #[.int (k + (i : Int)) tk, y] } := (sb.2 _ (Nat.ne_of_gt hel)).trans hT
    have new : ObjOk X.prog X.w (upd H s.heap.objs.size (.tup [.int (k + (i : Int)), x])) h'' s.heap.objs.size (.tup [.int (k + (i : Int)), x]) :=
      ⟨by show 2 ≤ sizeLine; decide, [.int (k + (i : Int)) tk, y], .cons ⟨_, rfl⟩ (.cons ru .nil), ⟨_, hT2, rfl, _, rfl⟩⟩
    have I1 : Inv X pins σ (upd H s.heap.objs.size (.tup [.int (k + (i : Int)), x])) { s with heap := h'', toks := tk + 1 } :=
      I.turnedNew (ch := [e, it]) (fun b ob hb q => (sb.2 b (fun z => hb (by simp [z]))).trans (hk b ob (fun z => hb (by simp [z])) (fun z => hb (by simp [z])) q)) hf (Nat.le_refl _) new
    refine ⟨.ref s.heap.objs.size, _, I1, rfl, ⟨_, x, rfl, I.hok.fresh (Nat.le_refl _), rfl, fun ys hy => by rw [sqB_inj I hy hq]; exact hx⟩, ⟨⟨y, ?_⟩, sub_at hs'.1 (fun o q => (sb.2 it (Ne.symm hne)).trans q), hne⟩, fun b hb => ?_⟩
    · rw [show k + ((i + 1 : Nat) : Int) = k + (i : Int) + 1 by omega]; exact he'
    · have hb' : b < s.heap.objs.size := (show b = e ∨ b = it by simpa using hb).elim (fun z => by rw [z]; exact hel) fun z => by rw [z]; exact hil
      rw [upd_ne (Nat.ne_of_lt hb')]
      exact (hf b hb).1
  done := by
    intro X hP hw hK hc i pins s σ H E I hf st hg
    subst hP hw hK
    obtain ⟨⟨old, he⟩, hit, hne⟩ := st
    obtain ⟨xs, hq, hx⟩ := hg
    obtain ⟨its, rv, p, hz⟩ := seq_of I hq
    obtain ⟨f0, f1, f2, f3, f4, f5⟩ := hf it (by simp)
    have hl := rv.length
    have hai : a ≠ it := fun z => by
      subst z
      obtain ⟨oa, ca, ea, cla, hca⟩ := seq_live p
      obtain ⟨o2, c2, e2, _, q1, q2, q3⟩ := sub_obj hit
      rw [ea] at e2; cases e2
      rw [cla] at q1; cases q1
      exact hca.elim q2 q3
    have D := sub_draws (prog := X.prog) (w := X.w) (A := X.A.in1) (show X.A.in1.handled = none from I.ok.hd hc) t it a hai its.toArray
    have e : i = its.toArray.size := by rw [List.size_toArray]; omega
    refine wpAny_pyNext_enum_endD D he (by rw [← e]; exact ⟨hit, p⟩) fun h' eb => ⟨rfl, I.turned (t' := s.toks) (fun b o hb q => eb b o hb q) f0 f1 f3 f4 f5⟩
  self := fun A i s Q E st h => let ⟨⟨_, he⟩, _⟩ := st; wpAny_pyIter_enum he h
/-- the new iterator's object -/
def begO (t : Bool) (a : Addr) : Obj := match t with
  | true => { cls := .type "list_iterator", data := .fields #[.ref a, .int 0 0] }
  | false => { cls := .type "tuple_iterator", data := .fields #[.ref a, .int 0 0] }
theorem begins_seq (t : Bool) (a : Addr) (its : Array Value) : Begins (.ref a) (begO t a) (SeqOf t a its) := by
  cases t with
  | true => exact begins_list a its
  | false => exact begins_tuple a its
theorem sub_beg {t : Bool} {a it : Addr} {h : Heap} (e : h.get? it = some (begO t a)) : Sub t it a 0 h := by
  cases t with
  | true => exact ⟨_, e, rfl, rfl⟩
  | false => exact ⟨_, e, rfl, rfl⟩
def iEnumK (K : PySem.W.Frag) (t : Bool) (ta : TA) : TI := fun σ H R => ta σ H fun vs H1 => ∃ a xs k, vs = [.ref a, .int k] ∧ -(2 ^ 63) ≤ k ∧ k < 2 ^ 63 ∧ SqB K H1 a xs t ∧ R (IteK K t k a) H1
section
variable {B : Bs} {X : Cx} {Γ : List SV} {a b c e : Expr} {es : List Expr} {pos : Pos}
theorem pi_enumK {ta : TA} {p tpos : Pos} {elts : List Expr} {kk : Nat} {t : Bool} (hg : Gl X "enumerate") (hm : X.mg "enumerate" = none) (ha : PA X [e, c] ta) (he : starEach [e, c] X.env = (false, eval e X.env) :: starEach [c] X.env := by rfl) (hpl : (backTo pos (starEach [c] X.env)).any (·.1) = false := by rfl) :
    PI X (.Tuple elts kk tpos) (.Call (.Name "enumerate" p) [e, c] [] pos) (iEnumK X.K t ta) := by
  refine ⟨fun pins s σ H R I h => ?_⟩
  refine Call_ (ld_blt I hg hm boot_enumerate (PyProof.Rows.callWith_type1 (thn (ha.run pos pins s σ H _ I h) fun us s1 ⟨vs, H1, I1, r1, q1⟩ => ?_) he hpl))
  obtain ⟨a, xs, k, ex, k0, k1, hq, q⟩ := q1
  subst ex
  cases r1 with
  | cons r rr =>
    cases rr with
    | cons r' rr =>
    cases rr
    cases r
    obtain ⟨tk, rfl⟩ := r'
    obtain ⟨its, rv, p', hz⟩ := seq_of I1 hq
    refine enum_begins (begins_seq t a its.toArray) p' k0 k1 fun h' he hit hsz hk => wpAny_pyIter_enum he ?_
    have I2 : Inv X pins σ H1 { s1 with heap := h' } := I1.kept (t' := s1.toks) hk
    refine ⟨s1.heap.objs.size + 1, [s1.heap.objs.size + 1, s1.heap.objs.size], _, _, H1, rfl, I2, turn_enumK t k a (s1.heap.objs.size + 1) s1.heap.objs.size, ⟨⟨.none, by rw [show k + ((0 : Nat) : Int) = k by omega]; exact he⟩, sub_beg hit, Nat.succ_ne_self _⟩, fun b hb => ?_, q⟩
    have e' : b = s1.heap.objs.size + 1 ∨ b = s1.heap.objs.size := by simpa using hb
    have hle : s1.heap.objs.size ≤ b := by
      rcases e' with z | z
      · rw [z]; exact Nat.le_add_right _ _
      · rw [z]; exact Nat.le_refl _
    exact I1.fpOk hle (I1.hok.fresh hle)
/-- enumerate(xs, k) -/
def enumDK (ds : List D) (k : Int) : List D := ds.zipIdx.map fun p => D.tup [.int (k + (p.2 : Nat)), p.1]
theorem sqB_frz {K : PySem.W.Frag} {F : Hp} {v : V} {t : Bool} {ds : List D} (h : Rp K F v (if t then .lst ds else .tup ds)) : ∃ p vs, v = .ref p ∧ SqB K F p vs t ∧ RpL K F vs ds := by
  cases t with
  | true => cases h with
            | lst q r => exact ⟨_, _, rfl, q, r⟩
  | false => cases h with
             | tup q r => exact ⟨_, _, rfl, q, r⟩
theorem same_sqB {K : PySem.W.Frag} {H H' : Hp} {a : Addr} {xs : List V} {t : Bool} (e : Same H H') (h : SqB K H a xs t) : SqB K H' a xs t := by
  cases t with
  | true => exact same_sqL e h
  | false => exact same_sqT e h
theorem yields_enumK {K : PySem.W.Frag} {F1 : Hp} {t : Bool} {k : Int} {q : Addr} {vs : List V} {ds : List D} (sq : SqB K F1 q vs t) (r : RpL K F1 vs ds) : Yields K F1 (IteK K t k q) (enumDK ds k) := fun i F2 H2 s2 sh => ⟨fun d hd => by
    have q2 := same_sqB (s2.trans sh) sq
    unfold enumDK at hd
    rw [List.getElem?_map, List.getElem?_zipIdx] at hd
    simp only [Nat.zero_add, Option.map_map] at hd
    obtain ⟨u, hu, rfl⟩ := Option.map_eq_some_iff.mp hd
    obtain ⟨v, hv, rv⟩ := r.get hu
    refine ⟨⟨vs, v, q2, hv⟩, fun x H' hy => ?_⟩
    obtain ⟨T, y, rfl, nT, rfl, hy⟩ := hy
    have ry := (rpL_at r hu (hy vs q2)).mono s2
    have g := Grow.put (o := .tup [.int (k + (i : Int)), y]) sh nT
    exact ⟨_, g, .tup (SqT.of upd_same) (.cons (.int _) (.cons (ry.mono g.ff) .nil))⟩, fun hi => by
    unfold enumDK at hi
    rw [List.length_map, List.length_zipIdx] at hi
    exact ⟨vs, same_sqB (s2.trans sh) sq, by rw [r.len]; exact hi⟩⟩
theorem ri_enumK {ds : List D} {k : Int} {t : Bool} {p tpos : Pos} {elts : List Expr} {kk : Nat} (hm : X.mg "enumerate" = none) (h : RE B X e Γ (.val (if t then .lst ds else .tup ds))) (hc : RE B X c Γ (.val (.int k))) (k0 : -(2 ^ 63) ≤ k := by decide) (k1 : k < 2 ^ 63 := by decide) (hg : Gl X "enumerate" := by rfl)
    (he : starEach [e, c] X.env = (false, eval e X.env) :: starEach [c] X.env := by rfl) (hpl : (backTo pos (starEach [c] X.env)).any (·.1) = false := by rfl) (he2 : starEach [c] X.env = (false, eval c X.env) :: starEach [] X.env := by rfl) :
    RI B X (.Tuple elts kk tpos) (.Call (.Name "enumerate" p) [e, c] [] pos) Γ (enumDK ds k) := ⟨_, pi_enumK (t := t) hg hm (pa_cons anyE (pa_cons anyE pa_nil he2) he) he hpl, fun W tk σ H F m R kk => h W tk σ H F m _ fun v H1 F1 m1 s1 r1 => hc W tk σ H1 F1 m1 _ fun u H2 F2 m2 s2 r2 => by
  obtain ⟨q, vs, rfl, sq, r⟩ := sqB_frz r1
  cases r2
  exact ⟨q, vs, k, rfl, k0, k1, same_sqB (s2.trans m2.mb.sub) sq, kk _ H2 F2 m2 (s1.trans s2) (yields_enumK (same_sqB s2 sq) (r.mono s2))⟩⟩

/-! ### a star in a display -/
theorem rl_star {t : Bool} {ds es' : List D} {p : Pos} (ha : RP B X e Γ t ds) (hr : RL B X es Γ (.ok es')) (hs : starEach (.Starred e p :: es) X.env = (true, eval e X.env) :: starEach es X.env := by rfl) : RL B X (.Starred e p :: es) Γ (.ok (ds ++ es')) := fun W tk σ H F m Q k =>
  toA (StX.pa_star anyE anyA hs) (ha W tk σ H F m _ fun q H1 F1 m1 s1 st => by
    obtain ⟨vs, h1, h2⟩ := st H1 F1 m1 (.refl F1)
    exact ⟨q, vs, rfl, h1.or.symm, hr W tk σ H1 F1 m1 _ fun ws H2 F2 m2 s2 r2 => k _ _ _ m2 (s1.trans s2) ((h2.mono s2).app r2)⟩)

/-! ### isinstance -/
def tyD : D → String
  | .non => "NoneType"
  | .bl _ => "bool"
  | .int _ => "int"
  | .str _ => "str"
  | .tup _ => "tuple"
  | .lst _ => "list"
  | .ins _ _ => ""
theorem Rp.ty {K : PySem.W.Frag} {F H : Hp} {v : V} {d : D} (s : Same F H) (r : Rp K F v d) (hn : tyD d ≠ "") : TyX K H v (.type (tyD d)) := by
  cases r with
  | non => exact .base .non
  | bl b => exact .base (.bl b)
  | int i => exact .base (.int i)
  | str x => exact .base (.str x)
  | tup q r =>
    rcases q with q | ⟨o, its, n, h1, h2, _⟩
    · rcases q with q | ⟨o, q⟩
      · exact .base (.tup (s _ _ q))
      · exact .fTuple (s _ _ q)
    · exact .kTuple h1 h2
  | lst q r =>
    rcases q with q | ⟨o, its, n, h1, h2, _⟩
    · rcases q with q | ⟨o, q⟩
      · exact .base (.lst (s _ _ q))
      · exact .base (.frz (s _ _ q))
    · exact .kList h1 h2
  | ins h r => exact absurd rfl hn
/-- isinstance(e, T), T a built-in type -/
theorem re_isi (T ty : String) {d : D} {r : Bool} {y : Str} {p p2 : Pos} (hm : X.mg "isinstance" = none) (hmT : X.mg y = none) (h : RE B X e Γ (.val d)) (ht : tyD d = ty := by rfl) (hb : kitB ty T = some r := by decide +kernel) (hn : ty ≠ "" := by decide) (hv : bootBuiltins y = some (.type T) := by decide +kernel) (hg : Gl X "isinstance" := by rfl) (hgT : Gl X y := by rfl)
    (hy : y ≠ "__name__" := by decide) (hyd : (y == ("__debug__" : Str)) = false := by decide)
    (he : starEach [e, .Name y p2] X.env = (false, eval e X.env) :: starEach [.Name y p2] X.env := by rfl) (hpl : (backTo pos (starEach [.Name y p2] X.env)).any (·.1) = false := by rfl) (he2 : starEach [.Name y p2] X.env = (false, eval (.Name y p2) X.env) :: starEach [] X.env := by rfl) :
    RE B X (.Call (.Name "isinstance" p) [e, .Name y p2] [] pos) Γ (.val (.bl r)) := fun W tk σ H F m Q k =>
  toE (pe_callB call_isi hg hm (by decide +kernel) (pa_cons anyE (pa_cons (pe_bltn (v := .ty T) hgT hmT hv rfl hy hyd) pa_nil he2) he) (by decide) (by decide) he hpl)
    (h W tk σ H F m _ fun v H1 F1 m1 s1 r1 => ⟨v, .ty T, .type ty, .type T, r, rfl, .ty T, by subst ht; exact r1.ty m1.mb.sub hn, kit_ty hb, (k.mono s1).go m1 (.bl _)⟩)
end
end DL

/-! DL9: plain laws of texts: joined, split, numbers as texts; equality of data. -/
namespace DL
open PySem PySem.Spec PyProof.Rows L2
theorem sum_le {b : Nat} : ∀ {l : List Str}, (∀ x ∈ l, x.length ≤ b) → (l.map (·.length)).sum ≤ l.length * b
  | [], _ => by simp
  | x :: r, h => by
    have h1 := h x List.mem_cons_self
    have h2 := sum_le fun y hy => h y (List.mem_cons_of_mem _ hy)
    rw [List.map_cons, List.sum_cons, List.length_cons, Nat.succ_mul]
    omega
theorem joinL_len (S : List Nat) : ∀ l : List (List Nat), (TL.joinL S l).length ≤ (l.map (·.length)).sum + l.length * S.length
  | [] => by simp [TL.joinL]
  | [p] => by simp [TL.joinL]
  | p :: q :: r => by
    have := joinL_len S (q :: r)
    simp only [TL.joinL, List.length_append, List.map_cons, List.sum_cons, List.length_cons, Nat.succ_mul] at this ⊢
    omega
theorem len_tl (x : Str) : (TL.tl x).length = x.length := by simp [TL.tl, Str.length]
theorem join_len (y : Str) (l : List Str) : (Txt.join y l).length ≤ (l.map (·.length)).sum + l.length * y.length := by
  have h := joinL_len (TL.tl y) (l.map TL.tl)
  rw [← TL.tl_join, len_tl, len_tl, List.length_map, List.map_map] at h
  rw [TL.join_eq]
  exact h
theorem join_len_le {y : Str} {l : List Str} {n b : Nat} (hy : y.length ≤ 2) (h : ∀ x ∈ l, x.length ≤ b) (hn : l.length ≤ n) : (Txt.join y l).length ≤ n * (b + 2) := by
  have h1 := join_len y l
  have h2 := sum_le h
  have h3 : l.length * y.length ≤ l.length * 2 := Nat.mul_le_mul_left _ hy
  have h4 : l.length * (b + 2) ≤ n * (b + 2) := Nat.mul_le_mul_right _ hn
  rw [Nat.mul_add] at h4
  omega
theorem join_sz {y : Str} {l : List Str} {n b : Nat} (hy : y.length ≤ 2) (h : ∀ x ∈ l, x.length ≤ b) (hn : l.length ≤ n) (hz : n * (b + 2) ≤ 16777216) : (l.map (·.length)).sum + l.length * y.length ≤ 16777216 := by
  have h2 := sum_le h
  have h3 : l.length * y.length ≤ l.length * 2 := Nat.mul_le_mul_left _ hy
  have h4 : l.length * (b + 2) ≤ n * (b + 2) := Nat.mul_le_mul_right _ hn
  rw [Nat.mul_add] at h4
  omega
theorem joinL_free {s : Nat} {S : List Nat} (hs : s ∉ S) : ∀ {l : List (List Nat)}, (∀ p ∈ l, s ∉ p) → s ∉ TL.joinL S l
  | [], _ => by simp [TL.joinL]
  | [p], h => by simpa [TL.joinL] using h p List.mem_cons_self
  | p :: q :: r, h => by
    have h1 := h p List.mem_cons_self
    have h2 := joinL_free hs (l := q :: r) fun x hx => h x (List.mem_cons_of_mem _ hx)
    simp only [TL.joinL, List.mem_append, not_or]
    exact ⟨h1, hs, h2⟩
theorem join_free {s : Nat} {y : Str} {l : List Str} (hs : s ∉ TL.tl y) (h : ∀ p ∈ l, s ∉ TL.tl p) : s ∉ TL.tl (Txt.join y l) := by
  rw [TL.join_eq, TL.tl_join]
  exact joinL_free hs fun p hp => by
    obtain ⟨z, hz, rfl⟩ := List.mem_map.mp hp
    exact h z hz
/-- the text of a number -/
abbrev numT (i : Int) : Str := Str.ofString (toString i)
theorem tl_numT {i : Int} (h : 0 ≤ i) : TL.tl (numT i) = TL.numL i.toNat := by
  have e : i = ((i.toNat : Nat) : Int) := by omega
  conv => lhs; rw [e]
  exact TL.tl_num _
theorem numT_len {i : Int} {k : Nat} (h0 : 0 ≤ i) (h1 : i < 10 ^ k) (hk : 0 < k) : (numT i).length ≤ k := by
  rw [← len_tl, tl_numT h0]
  refine TL.numL_len hk ?_
  have : ((i.toNat : Nat) : Int) < ((10 ^ k : Nat) : Int) := by rw [Int.natCast_pow]; show _ < (10 : Int) ^ k; omega
  exact Int.ofNat_lt.mp this
theorem numT_free {i : Int} {s : Nat} (h0 : 0 ≤ i) (h : s < 48 ∨ 57 < s) : s ∉ TL.tl (numT i) := by rw [tl_numT h0]; exact TL.numL_free h
theorem numT_ne {i : Int} (h0 : 0 ≤ i) : TL.tl (numT i) ≠ [] := by rw [tl_numT h0]; exact TL.numL_ne _
theorem numT_int {i : Int} (h0 : 0 ≤ i) (h1 : i < 10 ^ 600) : intText? (numT i) = some i := by
  have e : i = ((i.toNat : Nat) : Int) := by omega
  conv => lhs; rw [e]
  rw [TL.int_num, ← e]
  have := numT_len h0 h1 (by decide)
  rw [← len_tl, tl_numT h0] at this
  omega
theorem numT_log {i : Int} (h0 : 0 ≤ i) (h1 : i < 10 ^ 500) : i.natAbs.log2 < 1920 := by
  by_cases hz : i.natAbs = 0
  · rw [hz]; decide
  refine (Nat.log2_lt hz).mpr ?_
  have h2 : i.natAbs < 10 ^ 500 := by
    have e : ((i.natAbs : Nat) : Int) = i := by omega
    have e2 : ((10 ^ 500 : Nat) : Int) = (10 : Int) ^ 500 := Int.natCast_pow 10 500
    omega
  exact Nat.lt_of_lt_of_le h2 (by decide +kernel)
theorem numL_head {n : Nat} (h : 0 < n) : ∃ r c, TL.numL n = c :: r ∧ c ≠ 48 := by
  induction n using Nat.strongRecOn with
  | _ n ih =>
    by_cases h10 : n < 10
    · exact ⟨[], 48 + n, TL.numL_lt h10, by omega⟩
    · obtain ⟨r, c, e, hc⟩ := ih (n / 10) (by omega) (by omega)
      exact ⟨r ++ [48 + n % 10], c, by rw [TL.numL_step (by omega), e]; rfl, hc⟩
theorem numT_mem {i : Int} (h0 : 0 ≤ i) : ∀ c ∈ TL.tl (numT i), 48 ≤ c ∧ c ≤ 57 := by
  rw [tl_numT h0]
  exact fun c hc => TL.numL_digits _ c hc

/-! ### equality of data -/
theorem inD_true {n : Nat} {d : D} {ds : List D} (hs : Sh n d) (h : d ∈ ds) : inD d ds = true := List.any_eq_true.mpr ⟨d, h, eqD_refl hs⟩
theorem inD_false {n m : Nat} {d : D} {ds : List D} (hd : Nb n d) (hs : ∀ e ∈ ds, Nb m e) (h : d ∉ ds) : inD d ds = false := by
  cases q : inD d ds with
  | false => rfl
  | true =>
    obtain ⟨e, he, q⟩ := List.any_eq_true.mp q
    have := eqv_nb (hs e he) hd q
    subst this
    exact absurd he h
theorem eqD_ne {n m : Nat} {d e : D} (hd : Nb n d) (he : Nb m e) (h : d ≠ e) : eqD d e = false := by
  cases q : eqD d e with
  | false => rfl
  | true => exact absurd (eqv_nb hd he q) h
theorem foldl_snoc {α β : Type} (g : α → β) (l : List α) : ∀ a : List β, l.foldl (fun a x => a ++ [g x]) a = a ++ l.map g := by
  induction l with
  | nil => intro a; simp
  | cons x r ih => intro a; rw [List.foldl_cons, ih]; simp
theorem units65 {k : Nat} {A : Around} (r : Room k A) : A.units + 65 < cLine := by have := r.un; omega
theorem atI_nat {α : Type} {xs : List α} {n : Nat} {d : α} (h : xs[n]? = some d) : atI xs (n : Int) = some d := by
  unfold atI
  rw [ixN_in (by omega) (by have := (List.getElem?_eq_some_iff.mp h).1; omega)]
  exact h
theorem atI_0 {α : Type} {xs : List α} {d : α} : atI (d :: xs) 0 = some d := atI_nat (n := 0) rfl
theorem cut1 {x : D} {xs : List D} : cutD (x :: xs) (some 1) none = xs := by
  have := cut_map (f := id) (xs := x :: xs) (lo := some 1) (hi := none)
  rw [List.map_id, List.map_id] at this
  rw [this]
  exact cutL_from (x :: xs) 1
theorem strOk_of {x : Str} (h : ∀ c ∈ TL.tl x, c < 0x110000) : PyData.strOk x = true := by
  unfold PyData.strOk
  rw [Array.all_eq_true']
  intro c hc
  exact decide_eq_true (h c (by simpa [TL.tl] using hc))
theorem numT_ok {i : Int} (h0 : 0 ≤ i) : PyData.strOk (numT i) = true := strOk_of fun c hc => by have := numT_mem h0 c hc; omega
theorem enumDK_map {α : Type} {f : α → D} {xs : List α} {k : Int} : enumDK (xs.map f) k = xs.zipIdx.map fun p => D.tup [.int (k + (p.2 : Nat)), f p.1] := by
  unfold enumDK
  rw [List.zipIdx_map, List.map_map]
  rfl
theorem fold_zip {α : Type} (l : List α) : l.zipIdx.foldl (fun (a : List α) p => a ++ [p.1]) [] = l := by
  rw [foldl_snoc (fun p : α × Nat => p.1), List.nil_append, List.zipIdx_map_fst]
end DL
namespace DL
open PySem PySem.Spec PyProof.Rows L2
local macro_rules | `(tactic| walk_at "wk") => `(tactic| (repeat (first | exact Wk.nil | refine Wk.un ?_ | refine Wk.same ?_ | refine Wk.eqv (by simp only [List.map_append, List.map_cons, List.map_nil]) ?_)))
def topS (i : Nat) : Stmt := PySem.Challenge.pw_cushioned_k59_never_texts.main.body.getD i (.Pass ⟨0, 0, 0, 0⟩)
abbrev s__law_row : Stmt := topS 12
abbrev s__law_numbers : Stmt := topS 13
abbrev s_is_number : Stmt := topS 8
abbrev s_are_numbers : Stmt := topS 9
abbrev s_never_text : Stmt := topS 7
abbrev s_parse_never : Stmt := topS 10
abbrev s__law_figure : Stmt := topS 14
abbrev s_law : Stmt := topS 15
section
variable {P : Program} {w : World} {K : PySem.W.Frag} {mg : Str → Option Value} {base : Heap}
/-! ### the law's numbers: _law_row, _law_numbers -/
def absI (c : Int) : Int := if c < 0 then -c else c
def lrStep (c : Int) (s : Int × Int × List Int) (k : Nat) : Int × Int × List Int :=
  if 10 ^ (18 : Int).toNat ≤ absI c then ((s.1 * 16807 + 271 * ((0 + (k : Int)) + 3)) % 2147483629, s.2.1 / 1009, s.2.2 ++ [s.2.1 % 1009])
  else ((s.1 * 16807 + 271 * ((0 + (k : Int)) + 3)) % 2147483629, s.2.1, s.2.2 ++ [(s.1 * 16807 + 271 * ((0 + (k : Int)) + 3)) % 2147483629 / 7 % 1009])
def lawRow (c n : Int) : List Int := ((List.range n.toNat).foldl (lrStep c) ((absI c * 48271 + 69621) % 2147483647, absI c, [])).2.2
theorem lr_len (c : Int) : ∀ (l : List Nat) (s : Int × Int × List Int), (l.foldl (lrStep c) s).2.2.length = s.2.2.length + l.length
  | [], s => rfl
  | k :: l, s => by
    rw [List.foldl_cons, lr_len c l, List.length_cons]
    unfold lrStep
    split <;> simp <;> omega
theorem lr_in (c : Int) : ∀ (l : List Nat) (s : Int × Int × List Int), (∀ x ∈ s.2.2, 0 ≤ x ∧ x < 1009) → ∀ x ∈ (l.foldl (lrStep c) s).2.2, 0 ≤ x ∧ x < 1009
  | [], s, h => h
  | k :: l, s, h => by
    rw [List.foldl_cons]
    refine lr_in c l _ fun x hx => ?_
    unfold lrStep at hx
    split at hx
    all_goals
      rcases List.mem_append.mp hx with q | q
      · exact h x q
      · rw [List.mem_singleton] at q; subst q; omega
theorem lawRow_len (c n : Int) : (lawRow c n).length = n.toNat := by
  unfold lawRow
  rw [lr_len, List.length_range]; simp
theorem lawRow_in (c n : Int) : ∀ x ∈ lawRow c n, 0 ≤ x ∧ x < 1009 := lr_in c _ _ fun x hx => by cases hx
abbrev N__law_row : List Str := ["_law_cell", "_law_many", "_law_row_here", "_law_rest", "_law_mixed", "_law_k"]
theorem sc__law_row : FnScope N__law_row ["_law_cell", "_law_many"] (defScope s__law_row) := ⟨rfl, rfl, rfl, by decide +kernel, rfl, by decide +kernel, by decide +kernel⟩
def S__law_row : DSp := fun ds o => ∃ c n : Int, ds = [.int c, .int n] ∧ 0 ≤ n ∧ n ≤ 100000 ∧ o = .frs (.lst ((lawRow c n).map .int))
theorem ok__law_row (bi : Bis mg) {f : Addr} {fd : FuncData} (F : Fun K "_law_row" "_law_row" s__law_row f fd) : FnOk P w K mg base (L2.CX P w) 1 f fd ["_law_cell", "_law_many"] (spD K S__law_row) := by
  refine fn_D F sc__law_row (by decide) (fun ds o h => ?_) (fun ds o h B cdv A outer s H E hr => ?_)
  · obtain ⟨c, n, rfl, _⟩ := h; rfl
  · obtain ⟨c, n, rfl, h0, hn, rfl⟩ := h
    show WS _ _ _ [.dat (.int c), .dat (.int n), .un, .un, .un, .un] _
    refine ws_cons (w1_setO 2 sc__law_row.nd (re_lst rl_nil) ?_)
    show WS _ _ _ [_, _, _, _, _, _] _
    refine ws_cons (w1_set 3 sc__law_row.nd (re_abs bi.abs (re_var 0 rfl)) ?_)
    show WS _ _ _ [_, _, _, _, _, _] _
    refine ws_cons (w1_set 4 sc__law_row.nd (re_mod (by omega) (re_intI bi.int (re_add (re_mul (.inr ⟨by omega, by omega⟩) (re_var 3 rfl) re_int) re_int)) re_int) ?_)
    show WS _ _ _ [_, _, _, _, _, _] _
    refine ws_cons (w1_fold (List.range n.toNat) (fun k => D.int (0 + (k : Int))) (fun s : Int × Int × List Int => [.dat (.int c), .dat (.int n), .own (.lst (s.2.2.map D.int)), .dat (.int s.2.1), .dat (.int s.1), .un]) (lrStep c) ((absI c * 48271 + 69621) % 2147483647, absI c, [])
      (passes_of rfl) rfl (ri_range1 bi.range (re_var 1 rfl) (by omega) (by omega)) (pg_name (i := 5) sc__law_row.nd rfl (Or.inl rfl)) (by walk_at "wk") (fun pre x suf hx => ⟨_, rg_name 5, ?_⟩) (fun Γ' hw => ?_))
    · have hl := lr_len c pre ((absI c * 48271 + 69621) % 2147483647, absI c, [])
      have hlen := congrArg List.length hx
      rw [List.length_range, List.length_append, List.length_cons] at hlen
      generalize pre.foldl (lrStep c) ((absI c * 48271 + 69621) % 2147483647, absI c, []) = s at hl ⊢
      rw [List.length_nil, Nat.zero_add] at hl
      show WS _ _ _ [_, _, _, _, _, _] _
      refine ws_cons (w1_set 4 sc__law_row.nd (re_mod (by omega) (re_intI bi.int (re_add (re_mul (.inr ⟨by omega, by omega⟩) (re_var 4 rfl) re_int) (re_mul (.inl ⟨by omega, by omega⟩) re_int (re_add (re_var 5 rfl) re_int)))) re_int) ?_)
      show WS _ _ _ [_, _, _, _, _, _] _
      refine ws_cons (w1_if (rt_co (c_ge (re_abs bi.abs (re_var 0 rfl)) (re_pow ⟨by decide, by decide, by decide⟩ re_int re_int))) (fun hb => ?_) (fun hb => ?_))
      · have hc : 10 ^ (18 : Int).toNat ≤ absI c := of_decide_eq_true hb
        refine ws_cons (w1_appendM (f := D.int) (xs := s.2.2) 2 rfl (fun _ h => pe_bm PySem.F.plainAttrs_list PySem.F.slot_list_append PySem.F.type_list_append mt_append (pv 2) (pa_cons h pa_nil)) (re_mod (by omega) (re_intI bi.int (re_var 3 rfl)) re_int) (by rw [sizeLine_eq]; omega) ?_)
        show WS _ _ _ [_, _, _, _, _, _] _
        refine ws_cons (w1_set 3 sc__law_row.nd (re_fdiv ⟨by omega, by omega⟩ (re_var 3 rfl) re_int) ?_)
        show WS _ _ _ [_, _, _, _, _, _] _
        refine ws_nil (ws_nil ⟨_, .refl _, ?_⟩)
        unfold lrStep
        rw [if_pos hc]
        walk_at "wk"
      · have hc : ¬ 10 ^ (18 : Int).toNat ≤ absI c := of_decide_eq_false hb
        refine ws_cons (w1_appendM (f := D.int) (xs := s.2.2) 2 rfl (fun _ h => pe_bm PySem.F.plainAttrs_list PySem.F.slot_list_append PySem.F.type_list_append mt_append (pv 2) (pa_cons h pa_nil)) (re_mod (by omega) (re_intI bi.int (re_fdiv ⟨by omega, by omega⟩ (re_var 4 rfl) re_int)) re_int) (by rw [sizeLine_eq]; omega) ?_)
        show WS _ _ _ [_, _, _, _, _, _] _
        refine ws_nil (ws_nil ⟨_, .refl _, ?_⟩)
        unfold lrStep
        rw [if_neg hc]
        walk_at "wk"
    refine ws_wk hw ?_
    show WS _ _ _ [_, _, _, _, _, _] _
    exact ws_cons (w1_retN 2 rfl rfl)
def lnEach (ns : List Int) (m : Int) : Int := 1 + m / (if ((cutL ns none (some 63)).length : Int) > 1 then ((cutL ns none (some 63)).length : Int) else 1)
def lnAll (ns : List Int) (m : Int) : List Int := (cutL ns none (some 63)).foldl (fun a c => a ++ lawRow c (lnEach ns m)) []
def lnPad (ns : List Int) (m : Int) : List Int := lnAll ns m ++ List.replicate (m.toNat - (lnAll ns m).length) 0
def lawNumbers (ns : List Int) (m : Int) : List Int := cutL (lnPad ns m) none (some m)
theorem foldl_app (l : List Int) : ∀ a : List Int, l.foldl (fun a v => a ++ [v]) a = a ++ l := by
  induction l with
  | nil => intro a; simp
  | cons x r ih => intro a; rw [List.foldl_cons, ih]; simp
theorem lnEach_le (ns : List Int) {m : Int} (h0 : 0 ≤ m) (h1 : m ≤ 1000) : 0 ≤ lnEach ns m ∧ lnEach ns m ≤ 1001 := by
  unfold lnEach
  split
  · rename_i h
    have := Int.ediv_le_self (a := m) ((cutL ns none (some 63)).length : Int) h0
    have := Int.ediv_nonneg h0 (b := ((cutL ns none (some 63)).length : Int)) (by omega)
    omega
  · rw [Int.ediv_one]; omega
theorem lnFold_len (e : Int) : ∀ (l : List Int) (a : List Int), (l.foldl (fun a c => a ++ lawRow c e) a).length = a.length + l.length * e.toNat
  | [], a => by simp
  | c :: l, a => by
    rw [List.foldl_cons, lnFold_len e l, List.length_append, lawRow_len, List.length_cons, Nat.succ_mul]
    omega
theorem lnFold_in (e : Int) : ∀ (l : List Int) (a : List Int), (∀ x ∈ a, 0 ≤ x ∧ x < 1009) → ∀ x ∈ l.foldl (fun a c => a ++ lawRow c e) a, 0 ≤ x ∧ x < 1009
  | [], a, h => h
  | c :: l, a, h => by
    rw [List.foldl_cons]
    refine lnFold_in e l _ fun x hx => ?_
    rcases List.mem_append.mp hx with q | q
    · exact h x q
    · exact lawRow_in c e x q
theorem cut63 (ns : List Int) : (cutL ns none (some 63)).length ≤ 63 := by
  rw [show (63 : Int) = ((63 : Nat) : Int) from rfl, cutL_upto, List.length_take]; omega
theorem lnAll_len (ns : List Int) {m : Int} (h0 : 0 ≤ m) (h1 : m ≤ 1000) : (lnAll ns m).length ≤ 63063 := by
  unfold lnAll
  rw [lnFold_len, List.length_nil, Nat.zero_add]
  have h2 := cut63 ns
  have h3 := lnEach_le ns h0 h1
  have h4 : (lnEach ns m).toNat ≤ 1001 := by omega
  exact Nat.le_trans (Nat.mul_le_mul h2 h4) (by decide)
theorem lawNumbers_len (ns : List Int) {m : Int} (h0 : 0 ≤ m) : (lawNumbers ns m).length = m.toNat := by
  unfold lawNumbers lnPad
  rw [show m = ((m.toNat : Nat) : Int) by omega, cutL_upto, List.length_take, List.length_append, List.length_replicate]
  omega
theorem lawNumbers_in (ns : List Int) {m : Int} (h0 : 0 ≤ m) : ∀ x ∈ lawNumbers ns m, 0 ≤ x ∧ x < 1009 := by
  intro x hx
  unfold lawNumbers lnPad at hx
  rw [show (some m) = some ((m.toNat : Nat) : Int) by rw [show ((m.toNat : Nat) : Int) = m by omega], cutL_upto] at hx
  rcases List.mem_append.mp (List.mem_of_mem_take hx) with q | q
  · exact lnFold_in _ _ _ (fun x hx => by cases hx) x q
  · rw [(List.mem_replicate.mp q).2]; omega
theorem nth_in {ns : List Int} (h : ∀ x ∈ ns, 0 ≤ x ∧ x < 1009) (i : Int) : 0 ≤ nth ns i ∧ nth ns i < 1009 := by
  unfold nth
  rw [List.getD_eq_getElem?_getD]
  cases e : ns[i.toNat]? with
  | none => exact ⟨by decide, by decide⟩
  | some x => exact h x (List.mem_of_getElem? e)
abbrev N__law_numbers : List Str := ["_law_script", "_law_many", "_law_cells", "_law_each", "_law_numbers_here", "_law_cell", "_law_number"]
theorem sc__law_numbers : FnScope N__law_numbers ["_law_script", "_law_many"] (defScope s__law_numbers) := ⟨rfl, rfl, rfl, by decide +kernel, rfl, by decide +kernel, by decide +kernel⟩
def S__law_numbers : DSp := fun ds o => ∃ (ns : List Int) (m : Int), ds = [.lst (ns.map .int), .int m] ∧ 0 ≤ m ∧ m ≤ 1000 ∧ o = .frs (.lst ((lawNumbers ns m).map .int))
theorem ok__law_numbers (bi : Bis mg) (G__law_row : Defn P w K mg base 1 "_law_row" [] S__law_row) {f : Addr} {fd : FuncData} (F : Fun K "_law_numbers" "_law_numbers" s__law_numbers f fd) : FnOk P w K mg base (L2.CX P w) 2 f fd ["_law_script", "_law_many"] (spD K S__law_numbers) := by
  refine fn_D F sc__law_numbers (by decide) (fun ds o h => ?_) (fun ds o h B cdv A outer s H E hr => ?_)
  · obtain ⟨ns, m, rfl, _⟩ := h; rfl
  · obtain ⟨ns, m, rfl, h0, h1, rfl⟩ := h
    have he := lnEach_le ns h0 h1
    have hz := lnAll_len ns h0 h1
    show WS _ _ _ [.dat (.lst (ns.map .int)), .dat (.int m), .un, .un, .un, .un, .un] _
    refine ws_cons (w1_set 2 sc__law_numbers.nd (re_frz (re_slM (f := D.int) (xs := ns) (rp_lst (re_var 0 rfl)) ro_none (ro_some re_int))) ?_)
    show WS _ _ _ [_, _, _, _, _, _, _] _
    refine ws_cons (w1_set 3 sc__law_numbers.nd (d := .int (lnEach ns m)) (re_is (re_add re_int (re_fdiv (by rw [List.length_map]; exact ⟨by split <;> omega, by have := cut63 ns; split <;> omega⟩) (re_var 1 rfl) (re_max2 bi.max rfl re_int (re_len bi.len (rp_lst (re_var 2 rfl)))))) (by rw [List.length_map]; rfl)) ?_)
    show WS _ _ _ [_, _, _, _, _, _, _] _
    refine ws_cons (w1_setO 4 sc__law_numbers.nd (re_lst rl_nil) ?_)
    show WS _ _ _ [_, _, _, _, _, _, _] _
    refine ws_cons (w1_fold (cutL ns none (some 63)) D.int (fun a : List Int => [.dat (.lst (ns.map .int)), .dat (.int m), .dat (.lst ((cutL ns none (some 63)).map D.int)), .dat (.int (lnEach ns m)), .own (.lst (a.map D.int)), .un, .un]) (fun a c => a ++ lawRow c (lnEach ns m)) []
      (passes_of rfl) rfl (ri_list (re_var 2 rfl)) (pg_name (i := 5) sc__law_numbers.nd rfl (Or.inl rfl)) (by walk_at "wk") (fun pre x suf hx => ⟨_, rg_name 5, ?_⟩) (fun Γ' hw => ?_))
    · have hl := lnFold_len (lnEach ns m) pre []
      have hlen := congrArg List.length hx
      rw [List.length_append, List.length_cons] at hlen
      have h63 := cut63 ns
      have hb : (pre.foldl (fun a c => a ++ lawRow c (lnEach ns m)) []).length ≤ 63063 := by
        rw [hl, List.length_nil, Nat.zero_add]
        exact Nat.le_trans (Nat.mul_le_mul (show pre.length ≤ 63 by omega) (show (lnEach ns m).toNat ≤ 1001 by omega)) (by decide)
      generalize pre.foldl (fun a c => a ++ lawRow c (lnEach ns m)) [] = t at hb ⊢
      show WS _ _ _ [_, _, _, _, _, _, _] _
      refine ws_cons (w1_fold (lawRow x (lnEach ns m)) D.int (fun a : List Int => [.dat (.lst (ns.map .int)), .dat (.int m), .dat (.lst ((cutL ns none (some 63)).map D.int)), .dat (.int (lnEach ns m)), .own (.lst (a.map D.int)), .un, .un]) (fun a v => a ++ [v]) t
        (passes_of rfl) rfl (ri_list (re_frz (re_call G__law_row (hr.mono (by decide)) (rl_cons (re_var 5 rfl) (rl_cons (re_var 3 rfl) rl_nil)) ⟨_, _, rfl, he.1, by omega, rfl⟩))) (pg_name (i := 6) sc__law_numbers.nd rfl (Or.inl rfl)) (by walk_at "wk") (fun pre x suf hx => ⟨_, rg_name 6, ?_⟩) (fun Γ' hw => ?_))
      · have hl := congrArg List.length hx
        rw [List.length_append, List.length_cons, lawRow_len] at hl
        rw [foldl_app]
        show WS _ _ _ [_, _, _, _, _, _, _] _
        refine ws_cons (w1_appendM (f := D.int) (xs := t ++ pre) 4 rfl (fun _ h => pe_bm PySem.F.plainAttrs_list PySem.F.slot_list_append PySem.F.type_list_append mt_append (pv 4) (pa_cons h pa_nil)) (re_var 6 rfl) (by rw [List.length_append, sizeLine_eq]; omega) ?_)
        show WS _ _ _ [_, _, _, _, _, _, _] _
        refine ws_nil ⟨_, .refl _, ?_⟩
        walk_at "wk"
      · rw [foldl_app] at hw
        refine ws_wk hw (ws_nil ⟨_, .refl _, ?_⟩)
        walk_at "wk"
    refine ws_wk hw ?_
    show WS _ _ _ [_, _, _, _, _, _, _] _
    refine ws_cons (w1_while (passes_of rfl) (fun n Γi => ∃ k, n = m.toNat - ((lnAll ns m).length + k) ∧ (k = 0 ∨ (lnAll ns m).length + k ≤ m.toNat) ∧ Wk Γi [.un, .dat (.int m), .un, .un, .own (.lst ((lnAll ns m ++ List.replicate k 0).map D.int)), .un, .un]) _ ⟨0, rfl, .inl rfl, ?_⟩ (fun n Γi hI => ?_))
    · rw [List.replicate_zero, List.append_nil]
      walk_at "wk"
    · obtain ⟨k, hn, hk, hwk⟩ := hI
      have hlen : (lnAll ns m ++ List.replicate k 0).length = (lnAll ns m).length + k := by rw [List.length_append, List.length_replicate]
      refine ⟨_, _, hwk, rt_co (c_lt (re_len bi.len (rp_own 4 rfl)) (re_var 1 rfl)), fun hb => ?_, fun hb => ?_⟩
      · have hb' := of_decide_eq_true hb
        rw [List.length_map, hlen] at hb'
        show WS _ _ _ [_, _, _, _, _, _, _] _
        refine ws_cons (w1_appendM (f := D.int) (xs := lnAll ns m ++ List.replicate k 0) 4 rfl (fun _ h => pe_bm PySem.F.plainAttrs_list PySem.F.slot_list_append PySem.F.type_list_append mt_append (pv 4) (pa_cons h pa_nil)) re_int (by rw [hlen, sizeLine_eq]; omega) ?_)
        show WS _ _ _ [_, _, _, _, _, _, _] _
        refine ws_nil ⟨_, .refl _, m.toNat - ((lnAll ns m).length + (k + 1)), by omega, k + 1, rfl, by omega, ?_⟩
        rw [List.replicate_succ', ← List.append_assoc]
        walk_at "wk"
      · have hb' := of_decide_eq_false hb
        rw [List.length_map, hlen] at hb'
        show WS _ _ _ [_, _, _, _, _, _, _] _
        refine ws_cons (w1_retO (re_slM (f := D.int) (xs := lnAll ns m ++ List.replicate k 0) (rp_own 4 rfl) ro_none (ro_some (re_var 1 rfl))) ?_)
        show RO.frs _ = RO.frs _
        have ek : k = m.toNat - (lnAll ns m).length := by omega
        rw [ek]; rfl
/-! ### is_number, are_numbers -/
def digD (x : Str) : List Bool := x.cps.toList.map fun n => decide (n ∈ ("0123456789" : Str).cps.toList)
def isNum (x : Str) : Bool := !(!(decide ((1 : Int) ≤ (x.length : Int)) && decide ((x.length : Int) ≤ 70)) || !((digD x).all id)) && (decide (x = "0") || !decide ((⟨#[x.cps.toList.headD 0]⟩ : Str) = "0"))
abbrev N_is_number : List Str := ["word", "char"]
theorem sc_is_number : FnScope N_is_number ["word"] (defScope s_is_number) := ⟨rfl, rfl, rfl, by decide +kernel, rfl, by decide +kernel, by decide +kernel⟩
def S_is_number : DSp := fun ds o => ∃ x : Str, ds = [.str x] ∧ x.length ≤ 1000000 ∧ o = .val (.bl (isNum x))
theorem ok_is_number (bi : Bis mg) (g_DIGITS : GV K mg "DIGITS" (.str "0123456789")) (g_MOST_DIGITS : GV K mg "MOST_DIGITS" (.int 70)) {f : Addr} {fd : FuncData} (F : Fun K "is_number" "is_number" s_is_number f fd) : FnOk P w K mg base (L2.CX P w) 1 f fd ["word"] (spD K S_is_number) := by
  refine fn_D F sc_is_number (by decide) (fun ds o h => ?_) (fun ds o h B cdv A outer s H E hr => ?_)
  · obtain ⟨x, rfl, _⟩ := h; rfl
  · obtain ⟨x, rfl, hx, rfl⟩ := h
    have hz : x.length ≤ sizeLine := by rw [sizeLine_eq]; omega
    have hc : x.cps.toList.length = x.length := by simp [Str.length]
    show WS _ _ _ [.dat (.str x), .un] _
    refine ws_cons (w1_if (k1 := !(decide ((1 : Int) ≤ (x.length : Int)) && decide ((x.length : Int) ≤ 70)) || !((digD x).all id)) (rt_w (rw_or (rt_not (rt_co3 (c3_lele re_int (re_lenS bi.len (re_var 0 rfl) hz) (re_glob g_MOST_DIGITS)))) (fun hb => (rw_or1 (rt_not (rt_val (re_all bi.all rfl (rp_is (rp_lst (re_frz (re_lc (own := [("char", 1)]) (Γw := [_, _]) x.cps.toList (fun n => .str ⟨#[n]⟩) (fun n => .bl (decide (n ∈ ("0123456789" : Str).cps.toList))) rfl sc_is_number.nd (ri_str (re_var 0 rfl)) (blkOk_by (N := N_is_number) (sc := defScope s_is_number) (by decide +kernel)) (fun _ _ _ _ _ => (pg_name (i := 1) sc_is_number.nd rfl (Or.inl rfl))) (in_name (by decide)) mono_name rfl (by rw [hc]; exact hz) (fun n hn => ⟨_, fun _ => (rg_name 1), fun _ _ => (re_co (c_inC rfl (re_var 1 rfl) (re_glob g_DIGITS)))⟩)))) (by unfold digD; rw [List.map_map]; rfl))))))))) (fun hb => ?_) (fun hb => ?_))
    · refine ws_cons (w1_ret re_bl ?_)
      show RO.val _ = RO.val _
      unfold isNum
      rw [hb]; rfl
    · refine ws_nil ?_
      show WS _ _ _ [_, _] _
      have h1 : 1 ≤ x.length := by
        have := (Bool.or_eq_false_iff.mp hb).1
        have q : (1 : Int) ≤ (x.length : Int) ∧ (x.length : Int) ≤ 70 := by simpa using this
        omega
      refine ws_cons (w1_ret (re_or (re_co (c_eqS (re_var 0 rfl) re_str rfl)) (fun hb => (re_one (re_co (c_neS (re_ixS (n := x.cps.toList.headD 0) (re_var 0 rfl) re_int hz ?_) re_str rfl))))) ?_)
      · have e : ∃ c r, x.cps.toList = c :: r := by
          cases q : x.cps.toList with
          | nil => rw [q] at hc; simp at hc; omega
          | cons c r => exact ⟨c, r, rfl⟩
        obtain ⟨c, r, e⟩ := e
        rw [e]
        show atI (c :: r) 0 = some c
        unfold atI
        rw [ixN_in (by omega) (by rw [List.length_cons]; omega)]
        rfl
      · show RO.val _ = RO.val _
        unfold isNum
        rw [hb]; rfl
def areNums (ws : List Str) (n : Int) : Bool := decide ((ws.length : Int) = n) && (ws.map isNum).all id
abbrev N_are_numbers : List Str := ["words", "many", "word"]
theorem sc_are_numbers : FnScope N_are_numbers ["words", "many"] (defScope s_are_numbers) := ⟨rfl, rfl, rfl, by decide +kernel, rfl, by decide +kernel, by decide +kernel⟩
def S_are_numbers : DSp := fun ds o => ∃ (ws : List Str) (n : Int), ds = [.lst (ws.map .str), .int n] ∧ ws.length ≤ 1000000 ∧ (∀ x ∈ ws, x.length ≤ 1000000) ∧ o = .val (.bl (areNums ws n))
theorem ok_are_numbers (bi : Bis mg) (G_is_number : Defn P w K mg base 1 "is_number" [] S_is_number) {f : Addr} {fd : FuncData} (F : Fun K "are_numbers" "are_numbers" s_are_numbers f fd) : FnOk P w K mg base (L2.CX P w) 2 f fd ["words", "many"] (spD K S_are_numbers) := by
  refine fn_D F sc_are_numbers (by decide) (fun ds o h => ?_) (fun ds o h B cdv A outer s H E hr => ?_)
  · obtain ⟨ws, n, rfl, _⟩ := h; rfl
  · obtain ⟨ws, n, rfl, h0, h1, rfl⟩ := h
    show WS _ _ _ [.dat (.lst (ws.map .str)), .dat (.int n), .un] _
    refine ws_cons (w1_ret (re_and (re_co (c_eqS (re_len bi.len (rp_lst (re_var 0 rfl))) (re_var 1 rfl) rfl)) (fun hb => (re_one (re_all (bs := ws.map isNum) bi.all rfl (rp_is (rp_lst (re_frz (re_lc (own := [("word", 2)]) (Γw := [_, _, _]) ws .str (fun x => .bl (isNum x)) rfl sc_are_numbers.nd (ri_list (re_var 0 rfl)) (blkOk_by (N := N_are_numbers) (sc := defScope s_are_numbers) (by decide +kernel)) (fun _ _ _ _ _ => (pg_name (i := 2) sc_are_numbers.nd rfl (Or.inl rfl))) (in_name (by decide)) mono_name rfl (by rw [sizeLine_eq]; omega) (fun x hx => ⟨_, fun _ => (rg_name 2), fun _ _ => (re_call G_is_number (hr.mono (by decide)) (rl_cons (re_var 2 rfl) rl_nil) ⟨x, rfl, h1 x hx, rfl⟩)⟩)))) (by rw [List.map_map]; rfl)))))) ?_)
    show RO.val _ = RO.val _
    unfold areNums
    rw [List.length_map]
theorem isNum_numT {i : Int} (h0 : 0 ≤ i) (h1 : i < 10 ^ 70) : isNum (numT i) = true := by
  have hl := numT_len h0 h1 (by decide)
  have hn := numT_ne h0
  have hl0 : 1 ≤ (numT i).length := by
    rw [← len_tl]
    cases q : TL.tl (numT i) with
    | nil => exact absurd q hn
    | cons c r => simp
  have hd : (digD (numT i)).all id = true := by
    unfold digD
    rw [List.all_map, List.all_eq_true]
    intro c hc
    have := numT_mem h0 c hc
    have hm : ∀ c : Nat, c < 58 → 48 ≤ c → c ∈ ("0123456789" : Str).cps.toList := by decide +kernel
    exact decide_eq_true (hm c (by omega) this.1)
  have hh : (decide (numT i = "0") || !decide ((⟨#[(numT i).cps.toList.headD 0]⟩ : Str) = "0")) = true := by
    by_cases hz : i = 0
    · subst hz
      exact Bool.or_eq_true_iff.mpr (.inl (by decide +kernel))
    · obtain ⟨r, c, e, hc⟩ := numL_head (n := i.toNat) (by omega)
      refine Bool.or_eq_true_iff.mpr (.inr ?_)
      have e2 : (numT i).cps.toList = c :: r := (tl_numT h0).trans e
      rw [e2]
      rw [List.headD_cons, Bool.not_eq_true']
      refine decide_eq_false fun q => ?_
      have : c = 48 := by
        have := congrArg (fun x : Str => x.cps.toList) q
        have e48 : ("0" : Str).cps.toList = [48] := by decide +kernel
        simp only [e48] at this
        exact (List.cons.inj this).1
      exact hc this
  unfold isNum
  rw [hd, hh, decide_eq_true (show (1 : Int) ≤ ((numT i).length : Int) by omega), decide_eq_true (show ((numT i).length : Int) ≤ 70 by omega)]
  rfl
/-! ### never_text, parse_never -/
inductive Pt where
  | s (x : Str) | n (i : Int)
def Pt.d : Pt → D
  | .s x => .str x
  | .n i => .int i
def Pt.txt : Pt → Str
  | .s x => x
  | .n i => numT i
def Pt.ok : Pt → Prop
  | .s x => x.length ≤ 70 ∧ 32 ∉ TL.tl x ∧ 10 ∉ TL.tl x ∧ PyData.strOk x = true
  | .n i => 0 ≤ i ∧ i < 10 ^ 70
theorem Pt.len {p : Pt} (h : p.ok) : p.txt.length ≤ 70 := by
  cases p with
  | s x => exact h.1
  | n i => exact numT_len h.1 h.2 (by decide)
theorem Pt.f32 {p : Pt} (h : p.ok) : 32 ∉ TL.tl p.txt := by
  cases p with
  | s x => exact h.2.1
  | n i => exact numT_free h.1 (by decide)
theorem Pt.f10 {p : Pt} (h : p.ok) : 10 ∉ TL.tl p.txt := by
  cases p with
  | s x => exact h.2.2.1
  | n i => exact numT_free h.1 (by decide)
theorem Pt.sk {p : Pt} (h : p.ok) : PyData.strOk p.txt = true := by
  cases p with
  | s x => exact h.2.2.2
  | n i => exact numT_ok h.1
theorem Pt.sh {p : Pt} (h : p.ok) : Sh 0 p.d := by
  cases p with
  | s x => exact h.2.2.2
  | n i => exact True.intro
def rowTxt (r : List Pt) : Str := Txt.join " " (r.map Pt.txt)
def rowD (r : List Pt) : D := .tup (r.map Pt.d)
def neverTxt (rows : List (List Pt)) : Str := Txt.join "\n" ("never" :: rows.map rowTxt)
def RowsOk (rows : List (List Pt)) : Prop := rows.length ≤ 10 ∧ ∀ r ∈ rows, r.length ≤ 10 ∧ ∀ p ∈ r, p.ok
theorem rowTxt_len {r : List Pt} (h : r.length ≤ 10 ∧ ∀ p ∈ r, p.ok) : (rowTxt r).length ≤ 720 := join_len_le (n := 10) (b := 70) (by decide) (fun x hx => by obtain ⟨p, hp, rfl⟩ := List.mem_map.mp hx; exact Pt.len (h.2 p hp)) (by rw [List.length_map]; exact h.1)
theorem lines_len {rows : List (List Pt)} (h : RowsOk rows) : ∀ x ∈ ("never" : Str) :: rows.map rowTxt, x.length ≤ 720 := fun x hx => by
  rcases List.mem_cons.mp hx with rfl | hx
  · decide
  · obtain ⟨r, hr, rfl⟩ := List.mem_map.mp hx
    exact rowTxt_len (h.2 r hr)
theorem neverTxt_len {rows : List (List Pt)} (h : RowsOk rows) : (neverTxt rows).length ≤ 7942 := join_len_le (n := 11) (b := 720) (by decide) (lines_len h) (by rw [List.length_cons, List.length_map]; have := h.1; omega)
theorem never_sz {rows : List (List Pt)} (h : RowsOk rows) : ((("never" : Str) :: rows.map rowTxt).map (·.length)).sum + (("never" : Str) :: rows.map rowTxt).length * ("\n" : Str).length ≤ 16777216 := join_sz (n := 11) (b := 720) (by decide) (lines_len h) (by rw [List.length_cons, List.length_map]; have := h.1; omega) (by decide)
theorem row_sz {r : List Pt} (h : r.length ≤ 10 ∧ ∀ p ∈ r, p.ok) : ((r.map Pt.txt).map (·.length)).sum + (r.map Pt.txt).length * (" " : Str).length ≤ 16777216 := join_sz (n := 10) (b := 70) (by decide) (fun x hx => by obtain ⟨p, hp, rfl⟩ := List.mem_map.mp hx; exact Pt.len (h.2 p hp)) (by rw [List.length_map]; exact h.1) (by decide)
abbrev N_never_text : List Str := ["rows", "part", "row"]
theorem sc_never_text : FnScope N_never_text ["rows"] (defScope s_never_text) := ⟨rfl, rfl, rfl, by decide +kernel, rfl, by decide +kernel, by decide +kernel⟩
def S_never_text : DSp := fun ds o => ∃ rows : List (List Pt), ds = [.lst (rows.map rowD)] ∧ RowsOk rows ∧ o = .val (.str (neverTxt rows))
theorem re_strP {B : Bs} {X : Cx} {Γ : List SV} {e : Expr} {p pos : Pos} (ms : X.mg "str" = none) {q : Pt} (hq : q.ok) (h : RE B X e Γ (.val q.d)) (hg : Gl X "str" := by rfl) (he : starEach [e] X.env = (false, eval e X.env) :: starEach [] X.env := by rfl) : RE B X (.Call (.Name "str" p) [e] [] pos) Γ (.val (.str q.txt)) := by
  cases q with
  | s x => exact re_strS ms h hg he
  | n i => exact re_strI ms (numT_log hq.1 (Int.lt_of_lt_of_le hq.2 (by decide +kernel))) h hg he
theorem ok_never_text (bi : Bis mg) {f : Addr} {fd : FuncData} (F : Fun K "never_text" "never_text" s_never_text f fd) : FnOk P w K mg base (L2.CX P w) 1 f fd ["rows"] (spD K S_never_text) := by
  refine fn_D F sc_never_text (by decide) (fun ds o h => ?_) (fun ds o h B cdv A outer s H E hr => ?_)
  · obtain ⟨rows, rfl, _⟩ := h; rfl
  · obtain ⟨rows, rfl, hk, rfl⟩ := h
    show WS _ _ _ [.dat (.lst (rows.map rowD)), .un, .un] _
    refine ws_cons (w1_ret (re_join (ys := ("never" : Str) :: rows.map rowTxt) re_str (rp_is (rp_lst (re_frz (re_addL (ds := [.str "never"]) (es := rows.map fun r => .str (rowTxt r)) (by have := hk.1; rw [List.length_map, sizeLine_eq]; show 1 + _ ≤ _; omega) (re_frz (re_lst (rl_cons re_str rl_nil))) (re_frz (re_lc (own := [("row", 2)]) (Γw := [_, _, _]) rows rowD (fun r => .str (rowTxt r)) rfl sc_never_text.nd (ri_list (re_var 0 rfl)) (blkOk_by (N := N_never_text) (sc := defScope s_never_text) (by decide +kernel)) (fun _ _ _ _ _ => (pg_name (i := 2) sc_never_text.nd rfl (Or.inl rfl))) (in_name (by decide)) mono_name rfl (by have := hk.1; rw [sizeLine_eq]; omega) (fun x hx => ⟨_, fun _ => (rg_name 2), fun _ _ => (re_join (ys := x.map Pt.txt) re_str (rp_is (rp_lst (re_frz (re_lc (own := [("part", 1)]) (Γw := [_, _, _]) x Pt.d (fun p => .str p.txt) rfl sc_never_text.nd (ri_tup (re_var 2 rfl)) (blkOk_by (N := N_never_text) (sc := { kind := .function, names := [(".0", .local), ("row", .local)], isGenerator := false, isCoroutine := false }) (by decide +kernel)) (fun _ _ _ _ _ => (pg_name (i := 1) sc_never_text.nd rfl (Or.inl rfl))) (in_name (by decide)) mono_name rfl (by have := (hk.2 x hx).1; rw [sizeLine_eq]; omega) (fun p hp => ⟨_, fun _ => (rg_name 1), fun _ _ => (re_strP bi.str ((hk.2 x hx).2 p hp) (re_var 1 rfl))⟩)))) (by rw [List.map_map]; rfl)) (row_sz (hk.2 x hx)))⟩)))))) (by rw [List.map_cons, List.map_map]; rfl)) (never_sz hk)) ?_)
    rfl
def NRow (r : List Pt) : Prop := (∃ z : Str, r = [.s z] ∧ (z = "x" ∨ z = "y")) ∨ ∃ ns : List Int, r = .s "pair" :: ns.map .n ∧ ns.length = 5 ∧ ∀ n ∈ ns, 0 ≤ n ∧ n < 10 ^ 70
theorem NRow.ok {r : List Pt} (h : NRow r) : (r.length ≤ 10 ∧ ∀ p ∈ r, p.ok) ∧ r ≠ [] := by
  have lit : ∀ z : Str, z ∈ (["x", "y", "pair"] : List Str) → (Pt.s z).ok := by
    intro z hz
    simp only [List.mem_cons, List.not_mem_nil, or_false] at hz
    rcases hz with rfl | rfl | rfl
    · exact ⟨by decide, by decide +kernel, by decide +kernel, by decide +kernel⟩
    · exact ⟨by decide, by decide +kernel, by decide +kernel, by decide +kernel⟩
    · exact ⟨by decide, by decide +kernel, by decide +kernel, by decide +kernel⟩
  rcases h with ⟨z, rfl, hz⟩ | ⟨ns, rfl, hl, hn⟩
  · refine ⟨⟨by simp, fun p hp => ?_⟩, by simp⟩
    rw [List.mem_singleton] at hp
    subst hp
    exact lit z (by rcases hz with rfl | rfl <;> simp)
  · refine ⟨⟨by simp [hl], fun p hp => ?_⟩, by simp⟩
    rcases List.mem_cons.mp hp with rfl | hp
    · exact lit _ (by simp)
    · obtain ⟨i, hi, rfl⟩ := List.mem_map.mp hp
      exact hn i hi
theorem rowTxt_split {r : List Pt} (h : NRow r) : Txt.split (rowTxt r) " " = r.map Pt.txt :=
  TL.split_join (s := 32) (S := []) (by decide +kernel) (by decide +kernel) (fun e => h.ok.2 (List.map_eq_nil_iff.mp e)) fun x hx => by
    obtain ⟨p, hp, rfl⟩ := List.mem_map.mp hx
    exact Pt.f32 (h.ok.1.2 p hp)
theorem neverTxt_split {rows : List (List Pt)} (h : ∀ r ∈ rows, NRow r) : Txt.split (neverTxt rows) "\n" = ("never" : Str) :: rows.map rowTxt :=
  TL.split_join (s := 10) (S := []) (by decide +kernel) (by decide +kernel) (by simp) fun x hx => by
    rcases List.mem_cons.mp hx with rfl | hx
    · decide +kernel
    · obtain ⟨r, hr, rfl⟩ := List.mem_map.mp hx
      refine join_free (by decide +kernel) fun z hz => ?_
      obtain ⟨p, hp, rfl⟩ := List.mem_map.mp hz
      exact Pt.f10 ((h r hr).ok.1.2 p hp)
def wordsD (r : List Pt) : D := .lst ((r.map Pt.txt).map .str)
theorem wordsD_sh {r : List Pt} (h : ∀ p ∈ r, p.ok) : Sh 1 (wordsD r) := by
  intro d hd
  rw [List.map_map] at hd
  obtain ⟨p, hp, rfl⟩ := List.mem_map.mp hd
  exact Pt.sk (h p hp)
theorem wordsD_nb (r : List Pt) : Nb 1 (wordsD r) := by
  intro d hd
  rw [List.map_map] at hd
  obtain ⟨p, hp, rfl⟩ := List.mem_map.mp hd
  exact True.intro
abbrev N_parse_never : List Str := ["text", "lines", "line", "rows", "number", "words", "word"]
theorem sc_parse_never : FnScope N_parse_never ["text"] (defScope s_parse_never) := ⟨rfl, rfl, rfl, by decide +kernel, rfl, by decide +kernel, by decide +kernel⟩
def S_parse_never : DSp := fun ds o => ∃ rows : List (List Pt), ds = [.str (neverTxt rows)] ∧ rows.length ≤ 10 ∧ (∀ r ∈ rows, NRow r) ∧ o = .frs (.lst (rows.map rowD))
def nevD : D := .lst [.str "never"]
theorem nev_sh : Sh 1 nevD := by
  intro d hd
  rw [List.mem_singleton] at hd
  subst hd
  show PyData.strOk _ = true
  decide +kernel
theorem ok_parse_never (bi : Bis mg) (g_PAIR_NUMBERS : GV K mg "PAIR_NUMBERS" (.int 5)) (G_are_numbers : Defn P w K mg base 2 "are_numbers" [] S_are_numbers) {f : Addr} {fd : FuncData} (F : Fun K "parse_never" "parse_never" s_parse_never f fd) : FnOk P w K mg base (L2.CX P w) 3 f fd ["text"] (spD K S_parse_never) := by
  refine fn_D F sc_parse_never (by decide) (fun ds o h => ?_) (fun ds o h B cdv A outer s H E hr => ?_)
  · obtain ⟨rows, rfl, _⟩ := h; rfl
  · obtain ⟨rows, rfl, hn, hk, rfl⟩ := h
    have hrk : RowsOk rows := ⟨hn, fun r hr => (hk r hr).ok.1⟩
    have htl := neverTxt_len hrk
    have hlin := lines_len hrk
    show WS _ _ _ [.dat (.str (neverTxt rows)), .un, .un, .un, .un, .un, .un] _
    refine ws_cons (w1_lc 1 (own := [("line", 2)]) (Γw := [_, _, _, _, _, _, _]) (("never" : Str) :: rows.map rowTxt) .str (fun l => .lst ((Txt.split l " ").map .str)) rfl sc_parse_never.nd (ri_is (ri_list (re_frz (re_split (re_var 0 rfl) re_str rfl (by rw [sizeLine_eq]; omega)))) (by rw [neverTxt_split hk])) (blkOk_by (N := N_parse_never) (sc := defScope s_parse_never) (by decide +kernel)) (fun _ _ _ _ _ => (pg_name (i := 2) sc_parse_never.nd rfl (Or.inl rfl))) (in_name (by decide)) mono_name rfl (by rw [List.length_cons, List.length_map, sizeLine_eq]; omega) (fun x hx => ⟨_, fun _ => (rg_name 2), fun _ _ => (re_frz (re_split (re_var 2 rfl) re_str rfl (by have := hlin x hx; rw [sizeLine_eq]; omega)))⟩) ?_ (sw_true rfl rfl rfl (by decide +kernel)))
    have e1 : ((("never" : Str) :: rows.map rowTxt).map fun l => D.lst ((Txt.split l " ").map .str)) = nevD :: rows.map wordsD := by
      rw [List.map_cons, List.map_map]
      refine List.cons_eq_cons.mpr ⟨?_, List.map_congr_left fun r hr => ?_⟩
      · have : Txt.split ("never" : Str) (" " : Str) = [("never" : Str)] := TL.split_join (parts := [("never" : Str)]) (s := 32) (S := []) (by decide +kernel) (by decide +kernel) (by simp) (by decide +kernel)
        rw [this]; rfl
      · show D.lst ((Txt.split (rowTxt r) " ").map .str) = _
        rw [rowTxt_split (hk r hr)]; rfl
    rw [e1]
    show WS _ _ _ [_, _, _, _, _, _, _] _
    refine ws_frz 1 rfl ?_
    show WS _ _ _ [_, _, _, _, _, _, _] _
    refine ws_cons (w1_if (rt_co (c_neD (n := 1) (m := 1) (d1 := nevD) (d2 := nevD) hr.units (re_ix (rp_lst (re_var 1 rfl)) re_int atI_0) (re_frz (re_lst (rl_cons re_str rl_nil))) nev_sh nev_sh)) (fun hb => ?_) (fun hb => ?_))
    · rw [eqD_refl nev_sh] at hb; cases hb
    refine ws_nil ?_
    show WS _ _ _ [_, _, _, _, _, _, _] _
    refine ws_cons (w1_setO 3 sc_parse_never.nd (re_lst rl_nil) ?_)
    show WS _ _ _ [_, _, _, _, _, _, _] _
    refine ws_cons (w1_fold rows.zipIdx (fun p => D.tup [.int (2 + (p.2 : Nat)), wordsD p.1]) (fun acc : List (List Pt) => [.un, .un, .un, .own (.lst (acc.map rowD)), .un, .un, .un]) (fun a p => a ++ [p.1]) []
      (passes_of rfl) rfl (ri_is (ri_enumK (t := true) bi.enumerate (re_frz (re_slL (rp_lst (re_var 1 rfl)) (ro_some re_int) ro_none)) re_int) (by rw [cut1, enumDK_map])) (pg_tup rfl (pgs_cons (pg_name (i := 4) sc_parse_never.nd rfl (Or.inl rfl)) (pgs_cons (pg_name (i := 5) sc_parse_never.nd rfl (Or.inl rfl)) pgs_nil))) (by walk_at "wk") (fun pre x suf hx => ⟨_, (rg_tup rfl (rgs_cons (rg_name 4) (rgs_cons (rg_name 5) rgs_nil))), ?_⟩) (fun Γ' hw => ?_))
    · have hx1 : x.1 ∈ rows := by
        have : x ∈ rows.zipIdx := by rw [hx]; simp
        exact List.fst_mem_of_mem_zipIdx this
      have hpl : pre.length < 10 := by
        have := congrArg List.length hx
        rw [List.length_zipIdx, List.length_append, List.length_cons] at this
        omega
      have hacc : (pre.foldl (fun (a : List (List Pt)) p => a ++ [p.1]) []).length = pre.length := by rw [foldl_snoc (fun p : List Pt × Nat => p.1)]; simp
      generalize pre.foldl (fun (a : List (List Pt)) p => a ++ [p.1]) [] = acc at hacc ⊢
      obtain ⟨row, num⟩ := x
      have hrow := hk row hx1
      have hpok := hrow.ok.1.2
      show WS _ _ _ [.un, .un, .un, .own (.lst (acc.map rowD)), .dat (.int (2 + (num : Nat))), .dat (wordsD row), .un] _
      have hin : ∀ d ∈ [D.lst [.str "x"], D.lst [.str "y"]], Sh 1 d ∧ Nb 1 d := by
        intro d hd
        rcases (show d = _ ∨ d = _ by simpa using hd) with rfl | rfl
        · exact ⟨fun e he => by rw [List.mem_singleton] at he; subst he; show PyData.strOk _ = true; decide +kernel, fun e he => by rw [List.mem_singleton] at he; subst he; exact True.intro⟩
        · exact ⟨fun e he => by rw [List.mem_singleton] at he; subst he; show PyData.strOk _ = true; decide +kernel, fun e he => by rw [List.mem_singleton] at he; subst he; exact True.intro⟩
      refine ws_cons (w1_if (rt_co (c_inP (n := 1) (m := 1) (units65 hr) rfl (re_var 5 rfl) (rp_tup (re_tup (rl_cons (re_frz (re_lst (rl_cons re_str rl_nil))) (rl_cons (re_frz (re_lst (rl_cons re_str rl_nil))) rl_nil)))) (wordsD_sh hpok) (fun d hd => (hin d hd).1))) (fun hb => ?_) (fun hb => ?_))
      · rcases hrow with ⟨z, rfl, hz⟩ | ⟨ns, rfl, hl, hn⟩
        · refine ws_cons (w1_appendM (f := rowD) (xs := acc) (v := [.s z]) 3 rfl (fun _ h => pe_bm PySem.F.plainAttrs_list PySem.F.slot_list_append PySem.F.type_list_append mt_append (pv 3) (pa_cons h pa_nil)) (re_tup (rl_cons (re_ix (d := .str z) (rp_lst (re_var 5 rfl)) re_int atI_0) rl_nil)) (by rw [sizeLine_eq]; omega) ?_)
          show WS _ _ _ [_, _, _, _, _, _, _] _
          exact ws_nil (ws_nil ⟨_, .refl _, by walk_at "wk"⟩)
        · have := inD_false (wordsD_nb (.s "pair" :: ns.map .n)) (fun d hd => (hin d hd).2) (by
            intro hm
            have hlen : ∀ d ∈ [D.lst [.str "x"], D.lst [.str "y"]], ∃ a, d = .lst [a] := by
              intro d hd
              rcases (show d = _ ∨ d = _ by simpa using hd) with rfl | rfl
              · exact ⟨_, rfl⟩
              · exact ⟨_, rfl⟩
            obtain ⟨a, e⟩ := hlen _ hm
            have := congrArg List.length (D.lst.inj e)
            simp [hl] at this)
          rw [this] at hb
          cases hb
      · rcases hrow with ⟨z, rfl, hz⟩ | ⟨ns, rfl, hl, hn⟩
        · have := inD_true (ds := [D.lst [.str "x"], D.lst [.str "y"]]) (wordsD_sh hpok) (by
            rcases hz with rfl | rfl
            · exact List.mem_cons_self
            · exact List.mem_cons_of_mem _ List.mem_cons_self)
          rw [this] at hb
          cases hb
        · have ew : ((Pt.s "pair" :: ns.map .n).map Pt.txt) = ("pair" : Str) :: ns.map numT := by rw [List.map_cons, List.map_map]; rfl
          have ean : areNums (ns.map numT) 5 = true := by
            unfold areNums
            rw [List.length_map, hl]
            refine Bool.and_eq_true_iff.mpr ⟨rfl, List.all_eq_true.mpr fun b hb => ?_⟩
            rw [List.map_map] at hb
            obtain ⟨i, hi, rfl⟩ := List.mem_map.mp hb
            exact isNum_numT (hn i hi).1 (hn i hi).2
          have hwl : ∀ x ∈ ns.map numT, x.length ≤ 70 := fun x hx => by
            obtain ⟨i, hi, rfl⟩ := List.mem_map.mp hx
            exact numT_len (hn i hi).1 (hn i hi).2 (by decide)
          have ews : wordsD (Pt.s "pair" :: ns.map .n) = .lst (.str "pair" :: (ns.map numT).map .str) := by unfold wordsD; rw [ew]; rfl
          rw [ews]
          refine ws_cons (w1_if (k1 := true && true) (rt_w (rw_and (rt_co (c_eqS (d1 := .str "pair") (re_ix (rp_lst (re_var 5 rfl)) re_int atI_0) re_str (by decide +kernel))) (fun hb => (rw_and1 (rt_val (re_call G_are_numbers (hr.mono (by decide)) (rl_cons (re_is (re_frz (re_slL (rp_lst (re_var 5 rfl)) (ro_some re_int) ro_none)) (by rw [cut1])) (rl_cons (re_glob g_PAIR_NUMBERS) rl_nil)) ⟨_, _, rfl, by rw [List.length_map]; omega, fun x hx => by have := hwl x hx; omega, by rw [ean]⟩)))))) (fun hb => ?_) (fun hb => by cases hb))
          refine ws_cons (w1_appendM (f := rowD) (xs := acc) (v := .s "pair" :: ns.map .n) 3 rfl (fun _ h => pe_bm PySem.F.plainAttrs_list PySem.F.slot_list_append PySem.F.type_list_append mt_append (pv 3) (pa_cons h pa_nil)) (re_is (re_tup (rl_cons re_str (rl_star (rp_lst (re_frz (re_lc (own := [("word", 6)]) (Γw := [_, _, _, _, _, _, _]) ns (fun i => .str (numT i)) .int rfl sc_parse_never.nd (ri_is (ri_list (re_frz (re_slL (rp_lst (re_var 5 rfl)) (ro_some re_int) ro_none))) (by rw [cut1, List.map_map]; rfl)) (blkOk_by (N := N_parse_never) (sc := defScope s_parse_never) (by decide +kernel)) (fun _ _ _ _ _ => (pg_name (i := 6) sc_parse_never.nd rfl (Or.inl rfl))) (in_name (by decide)) mono_name rfl (by rw [sizeLine_eq]; omega) (fun i hi => ⟨_, fun _ => (rg_name 6), fun _ _ => (re_intS bi.int (re_var 6 rfl) (numT_int (hn i hi).1 (Int.lt_of_lt_of_le (hn i hi).2 (by decide +kernel))) (by have := numT_len (hn i hi).1 (hn i hi).2 (by decide); omega))⟩)))) rl_nil)) (by rw [List.append_nil, List.length_cons, List.length_map, sizeLine_eq]; omega)) (by
            unfold rowD
            rw [List.append_nil, List.map_cons, List.map_map]; rfl)) (by rw [sizeLine_eq]; omega) ?_)
          show WS _ _ _ [_, _, _, _, _, _, _] _
          exact ws_nil (ws_nil (ws_nil ⟨_, .refl _, by walk_at "wk"⟩))
    · rw [fold_zip] at hw
      refine ws_wk hw ?_
      show WS _ _ _ [_, _, _, _, _, _, _] _
      exact ws_cons (w1_retN 3 rfl rfl)
/-! ### _law_figure, law -/
def figN (ns : List Int) (p : Int) : Int := nth [0, 1, 3, 20] (nth ns p % 4)
def figure (ns : List Int) (p : Int) : Int := (List.range (figN ns p).toNat).foldl (fun v (k : Nat) => v * 1009 + nth ns ((p + 1 + (0 + (k : Int))) % 90)) 0
theorem figN_in (ns : List Int) (p : Int) : 0 ≤ figN ns p ∧ figN ns p ≤ 20 := by
  have h : 0 ≤ nth ns p % 4 ∧ nth ns p % 4 < 4 := by omega
  unfold figN
  generalize nth ns p % 4 = i at h
  have : i = 0 ∨ i = 1 ∨ i = 2 ∨ i = 3 := by omega
  rcases this with rfl | rfl | rfl | rfl <;> decide
theorem fig_fold {ns : List Int} (h : ∀ x ∈ ns, 0 ≤ x ∧ x < 1009) (p : Int) : ∀ (l : List Nat) (v : Int) (j : Nat), 0 ≤ v → v < 1009 ^ j → 0 ≤ l.foldl (fun v (k : Nat) => v * 1009 + nth ns ((p + 1 + (0 + (k : Int))) % 90)) v ∧ l.foldl (fun v (k : Nat) => v * 1009 + nth ns ((p + 1 + (0 + (k : Int))) % 90)) v < 1009 ^ (j + l.length)
  | [], v, j, h0, h1 => ⟨h0, h1⟩
  | k :: l, v, j, h0, h1 => by
    have hn := nth_in h ((p + 1 + (0 + (k : Int))) % 90)
    have := fig_fold h p l (v * 1009 + nth ns ((p + 1 + (0 + (k : Int))) % 90)) (j + 1) (by omega) (by rw [Int.pow_succ]; omega)
    rw [List.foldl_cons, List.length_cons, show j + (l.length + 1) = j + 1 + l.length by omega]
    exact this
theorem figure_in {ns : List Int} (h : ∀ x ∈ ns, 0 ≤ x ∧ x < 1009) (p : Int) : 0 ≤ figure ns p ∧ figure ns p < 10 ^ 70 := by
  obtain ⟨h1, h2⟩ := fig_fold h p (List.range (figN ns p).toNat) 0 0 (by decide) (by decide)
  refine ⟨h1, Int.lt_of_lt_of_le h2 ?_⟩
  rw [Nat.zero_add, List.length_range]
  have := (figN_in ns p).2
  have h3 : 1009 ^ (figN ns p).toNat ≤ 1009 ^ 20 := Nat.pow_le_pow_right (by decide) (by omega)
  have e3 : ((1009 ^ (figN ns p).toNat : Nat) : Int) = (1009 : Int) ^ (figN ns p).toNat := Int.natCast_pow 1009 _
  have h4 : ((1009 ^ 20 : Nat) : Int) ≤ (10 : Int) ^ 70 := by decide +kernel
  omega
abbrev N__law_figure : List Str := ["_law_numbers_here", "_law_at", "_law_value", "_law_k"]
theorem sc__law_figure : FnScope N__law_figure ["_law_numbers_here", "_law_at"] (defScope s__law_figure) := ⟨rfl, rfl, rfl, by decide +kernel, rfl, by decide +kernel, by decide +kernel⟩
def S__law_figure : DSp := fun ds o => ∃ (ns : List Int) (p : Int), ds = [.lst (ns.map .int), .int p] ∧ ns.length = 90 ∧ 0 ≤ p ∧ p < 90 ∧ o = .val (.int (figure ns p))
theorem ok__law_figure (bi : Bis mg) {f : Addr} {fd : FuncData} (F : Fun K "_law_figure" "_law_figure" s__law_figure f fd) : FnOk P w K mg base (L2.CX P w) 1 f fd ["_law_numbers_here", "_law_at"] (spD K S__law_figure) := by
  refine fn_D F sc__law_figure (by decide) (fun ds o h => ?_) (fun ds o h B cdv A outer s H E hr => ?_)
  · obtain ⟨ns, p, rfl, _⟩ := h; rfl
  · obtain ⟨ns, p, rfl, hl, h0, h1, rfl⟩ := h
    have hf := figN_in ns p
    show WS _ _ _ [.dat (.lst (ns.map .int)), .dat (.int p), .un, .un] _
    refine ws_cons (w1_set 2 sc__law_figure.nd re_int ?_)
    show WS _ _ _ [_, _, _, _] _
    refine ws_cons (w1_fold (List.range (figN ns p).toNat) (fun k => D.int (0 + (k : Int))) (fun v : Int => [.dat (.lst (ns.map .int)), .dat (.int p), .dat (.int v), .un]) (fun v (k : Nat) => v * 1009 + nth ns ((p + 1 + (0 + (k : Int))) % 90)) 0 (passes_of rfl) rfl
      (ri_range1 (n := figN ns p) bi.range (re_ix (rp_lst (re_frz (re_lst (rl_cons re_int (rl_cons re_int (rl_cons re_int (rl_cons re_int rl_nil))))))) (re_mod (by omega) (re_intI bi.int (re_ix (rp_lst (re_var 0 rfl)) (re_var 1 rfl) (ix_ints h0 (by omega)))) re_int) (ix_ints (ns := [0, 1, 3, 20]) (by omega) (by show _ < (4 : Int); omega))) (by omega) (by omega)) (pg_name (i := 3) sc__law_figure.nd rfl (Or.inl rfl)) (by walk_at "wk") (fun pre x suf hx => ⟨_, (rg_name 3), ?_⟩) (fun Γ' hw => ?_))
    · show WS _ _ _ [_, _, _, _] _
      refine ws_cons (w1_set 2 sc__law_figure.nd (re_add (re_mul (.inr ⟨by omega, by omega⟩) (re_var 2 rfl) re_int) (re_intI bi.int (re_ix (rp_lst (re_var 0 rfl)) (re_is (re_mod (by rw [List.length_map, hl]; decide) (re_intI bi.int (re_add (re_add (re_var 1 rfl) re_int) (re_var 3 rfl))) (re_len bi.len (rp_lst (re_var 0 rfl)))) (by rw [List.length_map, hl])) (ix_ints (by omega) (by omega))))) ?_)
      show WS _ _ _ [_, _, _, _] _
      exact ws_nil ⟨_, .refl _, by walk_at "wk"⟩
    · refine ws_wk hw ?_
      show WS _ _ _ [_, _, _, _] _
      exact ws_cons (w1_ret (re_var 2 rfl) rfl)
def kindOf (ns : List Int) (k : Nat) : Int := nth ns (1 + (0 + (k : Int))) % 5
def xyT (s : Int) : Str := if s = 0 then "x" else "y"
def rowOf (ns : List Int) (k : Nat) : List Pt := if kindOf ns k < 2 then [.s (xyT (kindOf ns k))] else .s "pair" :: (List.range 5).map fun (n : Nat) => .n (figure ns (10 + 11 * (0 + (k : Int)) + (0 + (n : Int))))
theorem rowOf_ok {ns : List Int} (h : ∀ x ∈ ns, 0 ≤ x ∧ x < 1009) (k : Nat) : NRow (rowOf ns k) := by
  unfold rowOf
  split
  · refine .inl ⟨_, rfl, ?_⟩
    unfold xyT
    split
    · exact .inl rfl
    · exact .inr rfl
  · refine .inr ⟨(List.range 5).map fun (n : Nat) => figure ns (10 + 11 * (0 + (k : Int)) + (0 + (n : Int))), by rw [List.map_map]; rfl, by simp, fun n hn => ?_⟩
    obtain ⟨i, _, rfl⟩ := List.mem_map.mp hn
    exact figure_in h _
theorem xy_at {i : Int} (h0 : 0 ≤ i) (h1 : i < 2) : atI [D.str "x", D.str "y"] i = some (.str (xyT i)) := by
  have : i = 0 ∨ i = 1 := by omega
  rcases this with rfl | rfl
  · exact atI_0
  · exact atI_nat (n := 1) rfl
theorem rowD_sh {r : List Pt} (h : ∀ p ∈ r, p.ok) : Sh 1 (rowD r) := by
  intro d hd
  obtain ⟨p, hp, rfl⟩ := List.mem_map.mp hd
  exact Pt.sh (h p hp)
theorem rowsD_sh {rows : List (List Pt)} (h : RowsOk rows) : Sh 2 (.lst (rows.map rowD)) := by
  intro d hd
  obtain ⟨r, hr, rfl⟩ := List.mem_map.mp hd
  exact rowD_sh (h.2 r hr).2
abbrev N_law : List Str := ["_law_script", "_law_numbers_here", "_law_rows", "_law_k", "_law_sort", "_law_n", "_law_lines", "_law_row_here", "_law_part", "_law_text", "_law_handed", "_law_actual", "_law_read"]
theorem sc_law : FnScope N_law ["_law_script"] (defScope s_law) := ⟨rfl, rfl, rfl, by decide +kernel, rfl, by decide +kernel, by decide +kernel⟩
theorem ok_law (bi : Bis mg) (G__law_numbers : Defn P w K mg base 2 "_law_numbers" [] S__law_numbers) (G__law_figure : Defn P w K mg base 1 "_law_figure" [] S__law_figure) (G_never_text : Defn P w K mg base 1 "never_text" [] S_never_text) (G_parse_never : Defn P w K mg base 3 "parse_never" [] S_parse_never) (hmstr : mg "str" = none) (hmlist : mg "list" = none)
    {f : Addr} {fd : FuncData} (F : Fun K "law" "law" s_law f fd) : FnOk P w K mg base (L2.CX P w) 4 f fd ["_law_script"] (spD K SLaw) := by
  refine fn_D F sc_law (by decide) (fun ds o h => ?_) (fun ds o h B cdv A outer s H E hr => ?_)
  · obtain ⟨ns, rfl, _⟩ := h; rfl
  · obtain ⟨sc, rfl, hsc, rfl⟩ := h
    have hl : (lawNumbers sc 90).length = 90 := lawNumbers_len sc (by decide)
    have hi := lawNumbers_in sc (m := 90) (by decide)
    show WS _ _ _ [.dat (.lst (sc.map .int)), .un, .un, .un, .un, .un, .un, .un, .un, .un, .un, .un, .un] _
    refine ws_cons (w1_set 1 sc_law.nd (re_frz (re_call G__law_numbers (hr.mono (by decide)) (rl_cons (re_var 0 rfl) (rl_cons re_int rl_nil)) ⟨sc, 90, rfl, by decide, by decide, rfl⟩)) ?_)
    generalize lawNumbers sc 90 = ns at hl hi
    show WS _ _ _ [_, _, _, _, _, _, _, _, _, _, _, _, _] _
    refine ws_cons (w1_setO 2 sc_law.nd (re_lst rl_nil) ?_)
    show WS _ _ _ [_, _, _, _, _, _, _, _, _, _, _, _, _] _
    have hm : 0 ≤ nth ns 0 % 7 ∧ nth ns 0 % 7 < 7 := by omega
    refine ws_cons (w1_fold (List.range (nth ns 0 % 7).toNat) (fun k => D.int (0 + (k : Int))) (fun acc : List (List Pt) => [.un, .dat (.lst (ns.map .int)), .own (.lst (acc.map rowD)), .un, .un, .un, .un, .un, .un, .un, .un, .un, .un]) (fun acc k => acc ++ [rowOf ns k]) []
      (passes_of rfl) rfl (ri_range1 bi.range (re_mod (by omega) (re_intI bi.int (re_ix (rp_lst (re_var 1 rfl)) re_int (ix_ints (by omega) (by omega)))) re_int) (by omega) (by omega)) (pg_name (i := 3) sc_law.nd rfl (Or.inr rfl)) (by walk_at "wk") (fun pre x suf hx => ⟨_, (rg_name 3), ?_⟩) (fun Γ' hw => ?_))
    · have hxs : x < 7 ∧ pre.length < 7 := by
        have h1 := congrArg List.length hx
        rw [List.length_range, List.length_append, List.length_cons] at h1
        have h2 : x ∈ List.range (nth ns 0 % 7).toNat := by rw [hx]; simp
        rw [List.mem_range] at h2
        omega
      have hacc : (pre.foldl (fun acc k => acc ++ [rowOf ns k]) []).length = pre.length := by rw [foldl_snoc (rowOf ns)]; simp
      generalize pre.foldl (fun acc k => acc ++ [rowOf ns k]) [] = acc at hacc ⊢
      show WS _ _ _ [_, _, _, _, _, _, _, _, _, _, _, _, _] _
      refine ws_cons (w1_set 4 sc_law.nd (d := .int (kindOf ns x)) (re_mod (by omega) (re_intI bi.int (re_ix (rp_lst (re_var 1 rfl)) (re_add re_int (re_var 3 rfl)) (ix_ints (by omega) (by omega)))) re_int) ?_)
      show WS _ _ _ [_, _, _, _, _, _, _, _, _, _, _, _, _] _
      refine ws_cons (w1_if (rt_co (c_lt (re_var 4 rfl) re_int)) (fun hb => ?_) (fun hb => ?_))
      · have hb' : kindOf ns x < 2 := of_decide_eq_true hb
        have er : rowOf ns x = [.s (xyT (kindOf ns x))] := by unfold rowOf; rw [if_pos hb']
        refine ws_cons (w1_appendM (f := rowD) (xs := acc) (v := rowOf ns x) 2 rfl (fun _ h => pe_bm PySem.F.plainAttrs_list PySem.F.slot_list_append PySem.F.type_list_append mt_append (pv 2) (pa_cons h pa_nil)) (re_is (re_tup (rl_cons (re_ix (rp_lst (re_frz (re_lst (rl_cons re_str (rl_cons re_str rl_nil))))) (re_var 4 rfl) (xy_at (by unfold kindOf; omega) hb')) rl_nil)) (by rw [er]; rfl)) (by rw [sizeLine_eq]; omega) ?_)
        show WS _ _ _ [_, _, _, _, _, _, _, _, _, _, _, _, _] _
        exact ws_nil (ws_nil ⟨_, .refl _, by walk_at "wk"⟩)
      · have hb' : ¬ kindOf ns x < 2 := of_decide_eq_false hb
        have er : rowOf ns x = .s "pair" :: (List.range 5).map fun (n : Nat) => .n (figure ns (10 + 11 * (0 + (x : Int)) + (0 + (n : Int)))) := by unfold rowOf; rw [if_neg hb']
        refine ws_cons (w1_appendM (f := rowD) (xs := acc) (v := rowOf ns x) 2 rfl (fun _ h => pe_bm PySem.F.plainAttrs_list PySem.F.slot_list_append PySem.F.type_list_append mt_append (pv 2) (pa_cons h pa_nil)) (re_is (re_addT (ds := [.str "pair"]) (es := (List.range 5).map fun (n : Nat) => .int (figure ns (10 + 11 * (0 + (x : Int)) + (0 + (n : Int))))) (by rw [List.length_map, List.length_range, sizeLine_eq]; decide) (re_tup (rl_cons re_str rl_nil)) (re_tupleL bi.tuple (rp_lst (re_frz (re_lc (own := [("_law_n", 5)]) (Γw := [_, _, _, _, _, _, _, _, _, _, _, _, _]) (List.range 5) (fun (n : Nat) => .int (0 + (n : Int))) (fun (n : Nat) => .int (figure ns (10 + 11 * (0 + (x : Int)) + (0 + (n : Int))))) rfl sc_law.nd (ri_range1 bi.range re_int (by omega) (by omega)) (blkOk_by (N := N_law) (sc := defScope s_law) (by decide +kernel)) (fun _ _ _ _ _ => (pg_name (i := 5) sc_law.nd rfl (Or.inl rfl))) (in_name (by decide)) mono_name rfl (by rw [List.length_range, sizeLine_eq]; decide) (fun n hn => ⟨_, fun _ => (rg_name 5), fun _ _ => (re_call G__law_figure (hr.mono (by decide)) (rl_cons (re_var 1 rfl) (rl_cons (re_add (re_add re_int (re_mul (.inl ⟨by omega, by omega⟩) re_int (re_var 3 rfl))) (re_var 5 rfl)) rl_nil)) ⟨ns, _, rfl, hl, by omega, by have := List.mem_range.mp hn; omega, rfl⟩)⟩)))))) (by rw [er]; unfold rowD; rw [List.map_cons, List.map_map]; rfl)) (by rw [sizeLine_eq]; omega) ?_)
        show WS _ _ _ [_, _, _, _, _, _, _, _, _, _, _, _, _] _
        exact ws_nil (ws_nil ⟨_, .refl _, by walk_at "wk"⟩)
    rw [foldl_snoc (rowOf ns), List.nil_append] at hw
    have hk : ∀ r ∈ (List.range (nth ns 0 % 7).toNat).map (rowOf ns), NRow r := fun r hr => by
      obtain ⟨k, _, rfl⟩ := List.mem_map.mp hr
      exact rowOf_ok hi k
    have hlen : ((List.range (nth ns 0 % 7).toNat).map (rowOf ns)).length ≤ 10 := by rw [List.length_map, List.length_range]; omega
    generalize (List.range (nth ns 0 % 7).toNat).map (rowOf ns) = rows at hk hlen hw
    have hrk : RowsOk rows := ⟨hlen, fun r hr => (hk r hr).ok.1⟩
    refine ws_wk hw ?_
    show WS _ _ _ [_, _, _, _, _, _, _, _, _, _, _, _, _] _
    refine ws_cons (w1_setO 6 sc_law.nd (re_lst (rl_cons re_str rl_nil)) ?_)
    show WS _ _ _ [_, _, _, _, _, _, _, _, _, _, _, _, _] _
    refine ws_frz 2 rfl ?_
    show WS _ _ _ [_, _, _, _, _, _, _, _, _, _, _, _, _] _
    refine ws_cons (w1_fold rows rowD (fun acc : List Str => [.un, .un, .dat (.lst (rows.map rowD)), .un, .un, .un, .own (.lst (acc.map .str)), .un, .un, .un, .un, .un, .un]) (fun acc r => acc ++ [rowTxt r]) [("never" : Str)]
      (passes_of rfl) rfl (ri_list (re_var 2 rfl)) (pg_name (i := 7) sc_law.nd rfl (Or.inl rfl)) (by walk_at "wk") (fun pre x suf hx => ⟨_, (rg_name 7), ?_⟩) (fun Γ' hw => ?_))
    · have hx1 : x ∈ rows := by rw [hx]; simp
      have hpl : pre.length < 10 := by
        have := congrArg List.length hx
        rw [List.length_append, List.length_cons] at this
        omega
      have hacc : (pre.foldl (fun acc r => acc ++ [rowTxt r]) [("never" : Str)]).length = 1 + pre.length := by rw [foldl_snoc rowTxt]; simp; omega
      generalize pre.foldl (fun acc r => acc ++ [rowTxt r]) [("never" : Str)] = acc at hacc ⊢
      show WS _ _ _ [_, _, _, _, _, _, _, _, _, _, _, _, _] _
      refine ws_cons (w1_appendM (f := .str) (xs := acc) (v := rowTxt x) 6 rfl (fun _ h => pe_bm PySem.F.plainAttrs_list PySem.F.slot_list_append PySem.F.type_list_append mt_append (pv 6) (pa_cons h pa_nil)) (re_join (ys := x.map Pt.txt) re_str (rp_is (rp_lst (re_frz (re_lc (own := [("_law_part", 8)]) (Γw := [_, _, _, _, _, _, _, _, _, _, _, _, _]) x Pt.d (fun p => .str p.txt) rfl sc_law.nd (ri_tup (re_var 7 rfl)) (blkOk_by (N := N_law) (sc := defScope s_law) (by decide +kernel)) (fun _ _ _ _ _ => (pg_name (i := 8) sc_law.nd rfl (Or.inl rfl))) (in_name (by decide)) mono_name rfl (by have := (hrk.2 x hx1).1; rw [sizeLine_eq]; omega) (fun p hp => ⟨_, fun _ => (rg_name 8), fun _ _ => (re_strP bi.str ((hrk.2 x hx1).2 p hp) (re_var 8 rfl))⟩)))) (by rw [List.map_map]; rfl)) (row_sz (hrk.2 x hx1))) (by rw [sizeLine_eq]; omega) ?_)
      show WS _ _ _ [_, _, _, _, _, _, _, _, _, _, _, _, _] _
      exact ws_nil ⟨_, .refl _, by walk_at "wk"⟩
    rw [foldl_snoc rowTxt] at hw
    refine ws_wk hw ?_
    show WS _ _ _ [_, _, _, _, _, _, _, _, _, _, _, _, _] _
    refine ws_cons (w1_set 9 sc_law.nd (d := .str (neverTxt rows)) (re_join (ys := ("never" : Str) :: rows.map rowTxt) re_str (rp_own 6 rfl) (never_sz hrk)) ?_)
    show WS _ _ _ [_, _, _, _, _, _, _, _, _, _, _, _, _] _
    refine ws_cons (w1_set 10 sc_law.nd (re_frz (re_list bi.list (rp_lst (re_var 2 rfl)))) ?_)
    show WS _ _ _ [_, _, _, _, _, _, _, _, _, _, _, _, _] _
    refine ws_cons (w1_set 11 sc_law.nd (re_call G_never_text (hr.mono (by decide)) (rl_cons (re_var 10 rfl) rl_nil) ⟨rows, rfl, hrk, rfl⟩) ?_)
    show WS _ _ _ [_, _, _, _, _, _, _, _, _, _, _, _, _] _
    have hsh := rowsD_sh hrk
    refine ws_cons (w1_if (k1 := false || (false || false)) (rt_w (rw_or (rt_not (rt_val (re_isi "str" "str" (d := .str (neverTxt rows)) (r := true) bi.isinstance hmstr (re_var 11 rfl)))) (fun hb => (rw_or (rt_is (rt_co (c_neS (re_var 11 rfl) (re_var 9 rfl) rfl)) (by simp)) (fun hb => (rw_or1 (rt_is (rt_co (c_neD (n := 2) (m := 2) hr.units (re_var 10 rfl) (re_var 2 rfl) hsh hsh)) (by rw [eqD_refl hsh]; rfl)))))))) (fun hb => by cases hb) (fun hb => ?_))
    refine ws_nil ?_
    show WS _ _ _ [_, _, _, _, _, _, _, _, _, _, _, _, _] _
    refine ws_cons (w1_set 12 sc_law.nd (re_frz (re_call G_parse_never (hr.mono (by decide)) (rl_cons (re_var 9 rfl) rl_nil) ⟨rows, rfl, hlen, hk, rfl⟩)) ?_)
    show WS _ _ _ [_, _, _, _, _, _, _, _, _, _, _, _, _] _
    refine ws_cons (w1_if (k1 := false || false) (rt_w (rw_or (rt_not (rt_val (re_isi "list" "list" (d := .lst (rows.map rowD)) (r := true) bi.isinstance hmlist (re_var 12 rfl)))) (fun hb => (rw_or1 (rt_is (rt_co (c_neD (n := 2) (m := 2) hr.units (re_var 12 rfl) (re_var 2 rfl) hsh hsh)) (by rw [eqD_refl hsh]; rfl)))))) (fun hb => by cases hb) (fun hb => ?_))
    refine ws_nil ?_
    show WS _ _ _ [_, _, _, _, _, _, _, _, _, _, _, _, _] _
    have hnil : Sh 1 (.lst []) := fun d hd => by cases hd
    have e0 : neverTxt [] = "never" := by decide +kernel
    refine ws_cons (w1_ret (re_is (o' := .val (.bl true)) (re_and (re_co (c_eqS (re_call G_never_text (hr.mono (by decide)) (rl_cons (re_var 12 rfl) rl_nil) ⟨rows, rfl, hrk, rfl⟩) (re_var 9 rfl) rfl)) (fun hb => (re_and (re_co (c_eqD (n := 1) (m := 1) (d1 := .lst []) hr.units (re_frz (re_call G_parse_never (hr.mono (by decide)) (rl_cons re_str rl_nil) ⟨[], by rw [e0]; rfl, by decide, (fun r hr => by cases hr), rfl⟩)) (re_frz (re_lst rl_nil)) hnil hnil)) (fun hb => (re_one (re_co (c_eqS (re_call G_never_text (hr.mono (by decide)) (rl_cons (re_frz (re_lst rl_nil)) rl_nil) ⟨[], rfl, ⟨by decide, (fun r hr => by cases hr)⟩, by rw [e0]⟩) re_str rfl))))))) (by
        rw [eqD_refl hnil]; simp)) ?_)
    rfl
end
/-! ### what the top has written -/
theorem all_mk {l : PySem.W.OpenLaw} {w : World} {K : PySem.W.Frag} {h : Heap} {mg : Str → Option Value} {fa f__law_row f__law_numbers f_is_number f_are_numbers f_never_text f_parse_never f__law_figure f_law : Addr} {t_DIGITS t_MOST_DIGITS t_PAIR_NUMBERS : Tok} (X : K.In h) (G : h.Ns mainGlobals mg) (hfa : mg "law" = some (.ref fa))
    {od__law_row an__law_row od__law_numbers an__law_numbers od_is_number an_is_number od_are_numbers an_are_numbers od_never_text an_never_text od_parse_never an_parse_never od__law_figure an__law_figure od_law an_law : Option Addr} {sl__law_row sl__law_numbers sl_is_number sl_are_numbers sl_never_text sl_parse_never sl__law_figure sl_law : Array (Option Value)} {oc__law_row kV__law_row dc__law_row pm__law_row cd__law_row ct__law_row oc__law_numbers kV__law_numbers dc__law_numbers pm__law_numbers cd__law_numbers ct__law_numbers oc_is_number kV_is_number dc_is_number pm_is_number cd_is_number ct_is_number oc_are_numbers kV_are_numbers dc_are_numbers pm_are_numbers cd_are_numbers ct_are_numbers oc_never_text kV_never_text dc_never_text pm_never_text cd_never_text ct_never_text oc_parse_never kV_parse_never dc_parse_never pm_parse_never cd_parse_never ct_parse_never oc__law_figure kV__law_figure dc__law_figure pm__law_figure cd__law_figure ct__law_figure oc_law kV_law dc_law pm_law cd_law ct_law : Value}
    (a__law_row : PySem.W.nsIn K mainGlobals "_law_row" = some (some (.ref f__law_row)))
    (l__law_row : K.lookup f__law_row = some ⟨oc__law_row, od__law_row, .func (PySem.W.fnOf "_law_row" "_law_row" (defArgs s__law_row) (defBody s__law_row) (defScope s__law_row) .none kV__law_row dc__law_row pm__law_row an__law_row cd__law_row ct__law_row), sl__law_row⟩)
    (c__law_row : PySem.W.codeIn K cd__law_row "_law_row" = true)
    (k__law_row : PySem.W.keepIn K (.ref f__law_row) = true)
    (a__law_numbers : PySem.W.nsIn K mainGlobals "_law_numbers" = some (some (.ref f__law_numbers)))
    (l__law_numbers : K.lookup f__law_numbers = some ⟨oc__law_numbers, od__law_numbers, .func (PySem.W.fnOf "_law_numbers" "_law_numbers" (defArgs s__law_numbers) (defBody s__law_numbers) (defScope s__law_numbers) .none kV__law_numbers dc__law_numbers pm__law_numbers an__law_numbers cd__law_numbers ct__law_numbers), sl__law_numbers⟩)
    (c__law_numbers : PySem.W.codeIn K cd__law_numbers "_law_numbers" = true)
    (k__law_numbers : PySem.W.keepIn K (.ref f__law_numbers) = true)
    (a_is_number : PySem.W.nsIn K mainGlobals "is_number" = some (some (.ref f_is_number)))
    (l_is_number : K.lookup f_is_number = some ⟨oc_is_number, od_is_number, .func (PySem.W.fnOf "is_number" "is_number" (defArgs s_is_number) (defBody s_is_number) (defScope s_is_number) .none kV_is_number dc_is_number pm_is_number an_is_number cd_is_number ct_is_number), sl_is_number⟩)
    (c_is_number : PySem.W.codeIn K cd_is_number "is_number" = true)
    (k_is_number : PySem.W.keepIn K (.ref f_is_number) = true)
    (a_are_numbers : PySem.W.nsIn K mainGlobals "are_numbers" = some (some (.ref f_are_numbers)))
    (l_are_numbers : K.lookup f_are_numbers = some ⟨oc_are_numbers, od_are_numbers, .func (PySem.W.fnOf "are_numbers" "are_numbers" (defArgs s_are_numbers) (defBody s_are_numbers) (defScope s_are_numbers) .none kV_are_numbers dc_are_numbers pm_are_numbers an_are_numbers cd_are_numbers ct_are_numbers), sl_are_numbers⟩)
    (c_are_numbers : PySem.W.codeIn K cd_are_numbers "are_numbers" = true)
    (k_are_numbers : PySem.W.keepIn K (.ref f_are_numbers) = true)
    (a_never_text : PySem.W.nsIn K mainGlobals "never_text" = some (some (.ref f_never_text)))
    (l_never_text : K.lookup f_never_text = some ⟨oc_never_text, od_never_text, .func (PySem.W.fnOf "never_text" "never_text" (defArgs s_never_text) (defBody s_never_text) (defScope s_never_text) .none kV_never_text dc_never_text pm_never_text an_never_text cd_never_text ct_never_text), sl_never_text⟩)
    (c_never_text : PySem.W.codeIn K cd_never_text "never_text" = true)
    (k_never_text : PySem.W.keepIn K (.ref f_never_text) = true)
    (a_parse_never : PySem.W.nsIn K mainGlobals "parse_never" = some (some (.ref f_parse_never)))
    (l_parse_never : K.lookup f_parse_never = some ⟨oc_parse_never, od_parse_never, .func (PySem.W.fnOf "parse_never" "parse_never" (defArgs s_parse_never) (defBody s_parse_never) (defScope s_parse_never) .none kV_parse_never dc_parse_never pm_parse_never an_parse_never cd_parse_never ct_parse_never), sl_parse_never⟩)
    (c_parse_never : PySem.W.codeIn K cd_parse_never "parse_never" = true)
    (k_parse_never : PySem.W.keepIn K (.ref f_parse_never) = true)
    (a__law_figure : PySem.W.nsIn K mainGlobals "_law_figure" = some (some (.ref f__law_figure)))
    (l__law_figure : K.lookup f__law_figure = some ⟨oc__law_figure, od__law_figure, .func (PySem.W.fnOf "_law_figure" "_law_figure" (defArgs s__law_figure) (defBody s__law_figure) (defScope s__law_figure) .none kV__law_figure dc__law_figure pm__law_figure an__law_figure cd__law_figure ct__law_figure), sl__law_figure⟩)
    (c__law_figure : PySem.W.codeIn K cd__law_figure "_law_figure" = true)
    (k__law_figure : PySem.W.keepIn K (.ref f__law_figure) = true)
    (a_law : PySem.W.nsIn K mainGlobals "law" = some (some (.ref f_law)))
    (l_law : K.lookup f_law = some ⟨oc_law, od_law, .func (PySem.W.fnOf "law" "law" (defArgs s_law) (defBody s_law) (defScope s_law) .none kV_law dc_law pm_law an_law cd_law ct_law), sl_law⟩)
    (c_law : PySem.W.codeIn K cd_law "law" = true)
    (k_law : PySem.W.keepIn K (.ref f_law) = true)
    (z_len : PySem.W.nsIn K mainGlobals "len" = some none)
    (z_abs : PySem.W.nsIn K mainGlobals "abs" = some none)
    (z_int : PySem.W.nsIn K mainGlobals "int" = some none)
    (z_max : PySem.W.nsIn K mainGlobals "max" = some none)
    (z_min : PySem.W.nsIn K mainGlobals "min" = some none)
    (z_list : PySem.W.nsIn K mainGlobals "list" = some none)
    (z_tuple : PySem.W.nsIn K mainGlobals "tuple" = some none)
    (z_all : PySem.W.nsIn K mainGlobals "all" = some none)
    (z_any : PySem.W.nsIn K mainGlobals "any" = some none)
    (z_str : PySem.W.nsIn K mainGlobals "str" = some none)
    (z_range : PySem.W.nsIn K mainGlobals "range" = some none)
    (z_enumerate : PySem.W.nsIn K mainGlobals "enumerate" = some none)
    (z_zip : PySem.W.nsIn K mainGlobals "zip" = some none)
    (z_sorted : PySem.W.nsIn K mainGlobals "sorted" = some none)
    (z_sum : PySem.W.nsIn K mainGlobals "sum" = some none)
    (z_isinstance : PySem.W.nsIn K mainGlobals "isinstance" = some none)
    (z_repr : PySem.W.nsIn K mainGlobals "repr" = some none)
    (v_DIGITS : PySem.W.nsIn K mainGlobals "DIGITS" = some (some (.str "0123456789" t_DIGITS)))
    (v_MOST_DIGITS : PySem.W.nsIn K mainGlobals "MOST_DIGITS" = some (some (.int 70 t_MOST_DIGITS)))
    (v_PAIR_NUMBERS : PySem.W.nsIn K mainGlobals "PAIR_NUMBERS" = some (some (.int 5 t_PAIR_NUMBERS)))
    : ∃ fd : FuncData, (∀ (s : Shared) (v : Value), BindsTo s fd ⟨[v], []⟩ [("_law_script", v)]) ∧ ∀ base : Heap, K.In base → base.Ns mainGlobals mg → FnOk l.prog w K mg base (L2.CX l.prog w) 4 fa fd ["_law_script"] (spD K SLaw) := by
  have e := hfa.symm.trans (PySem.W.mg_of X G a_law)
  cases e
  have F__law_row := fun_mk (st := s__law_row) l__law_row c__law_row k__law_row
  have b__law_row := F__law_row.binds (ps := ["_law_cell", "_law_many"]) fun _ _ _ _ _ _ us hl => match us, hl with | [_, _], _ => rfl
  have F__law_numbers := fun_mk (st := s__law_numbers) l__law_numbers c__law_numbers k__law_numbers
  have b__law_numbers := F__law_numbers.binds (ps := ["_law_script", "_law_many"]) fun _ _ _ _ _ _ us hl => match us, hl with | [_, _], _ => rfl
  have F_is_number := fun_mk (st := s_is_number) l_is_number c_is_number k_is_number
  have b_is_number := F_is_number.binds (ps := ["word"]) fun _ _ _ _ _ _ us hl => match us, hl with | [_], _ => rfl
  have F_are_numbers := fun_mk (st := s_are_numbers) l_are_numbers c_are_numbers k_are_numbers
  have b_are_numbers := F_are_numbers.binds (ps := ["words", "many"]) fun _ _ _ _ _ _ us hl => match us, hl with | [_, _], _ => rfl
  have F_never_text := fun_mk (st := s_never_text) l_never_text c_never_text k_never_text
  have b_never_text := F_never_text.binds (ps := ["rows"]) fun _ _ _ _ _ _ us hl => match us, hl with | [_], _ => rfl
  have F_parse_never := fun_mk (st := s_parse_never) l_parse_never c_parse_never k_parse_never
  have b_parse_never := F_parse_never.binds (ps := ["text"]) fun _ _ _ _ _ _ us hl => match us, hl with | [_], _ => rfl
  have F__law_figure := fun_mk (st := s__law_figure) l__law_figure c__law_figure k__law_figure
  have b__law_figure := F__law_figure.binds (ps := ["_law_numbers_here", "_law_at"]) fun _ _ _ _ _ _ us hl => match us, hl with | [_, _], _ => rfl
  have F_law := fun_mk (st := s_law) l_law c_law k_law
  refine ⟨PySem.W.fnOf "law" "law" (defArgs s_law) (defBody s_law) (defScope s_law) .none kV_law dc_law pm_law an_law cd_law ct_law, fun s v => .of_eq rfl, fun base _ _ => ?_⟩
  have bi : Bis mg := ⟨PySem.W.mg_none_of X G z_len, PySem.W.mg_none_of X G z_abs, PySem.W.mg_none_of X G z_int, PySem.W.mg_none_of X G z_max, PySem.W.mg_none_of X G z_min, PySem.W.mg_none_of X G z_list, PySem.W.mg_none_of X G z_tuple, PySem.W.mg_none_of X G z_all, PySem.W.mg_none_of X G z_any, PySem.W.mg_none_of X G z_str, PySem.W.mg_none_of X G z_range, PySem.W.mg_none_of X G z_enumerate, PySem.W.mg_none_of X G z_zip, PySem.W.mg_none_of X G z_sorted, PySem.W.mg_none_of X G z_sum, PySem.W.mg_none_of X G z_isinstance, PySem.W.mg_none_of X G z_repr⟩
  have d__law_row : Defn l.prog w K mg base 1 "_law_row" [] S__law_row := defn_mk F__law_row (ok__law_row bi F__law_row) (PySem.W.mg_of X G a__law_row) b__law_row
  have d__law_numbers : Defn l.prog w K mg base 2 "_law_numbers" [] S__law_numbers := defn_mk F__law_numbers (ok__law_numbers bi d__law_row F__law_numbers) (PySem.W.mg_of X G a__law_numbers) b__law_numbers
  have d_is_number : Defn l.prog w K mg base 1 "is_number" [] S_is_number := defn_mk F_is_number (ok_is_number bi (gv_str (PySem.W.mg_of X G v_DIGITS)) (gv_int (PySem.W.mg_of X G v_MOST_DIGITS)) F_is_number) (PySem.W.mg_of X G a_is_number) b_is_number
  have d_are_numbers : Defn l.prog w K mg base 2 "are_numbers" [] S_are_numbers := defn_mk F_are_numbers (ok_are_numbers bi d_is_number F_are_numbers) (PySem.W.mg_of X G a_are_numbers) b_are_numbers
  have d_never_text : Defn l.prog w K mg base 1 "never_text" [] S_never_text := defn_mk F_never_text (ok_never_text bi F_never_text) (PySem.W.mg_of X G a_never_text) b_never_text
  have d_parse_never : Defn l.prog w K mg base 3 "parse_never" [] S_parse_never := defn_mk F_parse_never (ok_parse_never bi (gv_int (PySem.W.mg_of X G v_PAIR_NUMBERS)) d_are_numbers F_parse_never) (PySem.W.mg_of X G a_parse_never) b_parse_never
  have d__law_figure : Defn l.prog w K mg base 1 "_law_figure" [] S__law_figure := defn_mk F__law_figure (ok__law_figure bi F__law_figure) (PySem.W.mg_of X G a__law_figure) b__law_figure
  exact ok_law bi d__law_numbers d__law_figure d_never_text d_parse_never (PySem.W.mg_none_of X G z_str) (PySem.W.mg_none_of X G z_list) F_law
end DL
open PySem PySem.W PyProof.Rows
set_option maxHeartbeats 0 in
theorem PySem.Challenge.cw_cushioned_k59_never_texts_holds : PySem.Challenge.rw_cushioned_k59_never_texts.Holds := by
  w_on; o_law; k_head; (case hw => w_witness2)
  k_fill
  refine L2.walk_of (l := PySem.Challenge.rw_cushioned_k59_never_texts) (n := 63) (k := 4) (x := "_law_script") (CX := fun w => L2.CX PySem.Challenge.rw_cushioned_k59_never_texts.prog w) (sp := fun w => DL.spD _ DL.SLaw) rfl (by decide) rfl ⟨rfl, by decide, by decide⟩ (fun w h Y => PySem.W.kIn_of Y) ?F (fun _ _ a ns hl _ hS => DL.law_sp hl hS) (fun _ _ _ _ _ h => DL.law_cx h)
  case F =>
    intro w mg fa h KX G hmg
    refine' DL.all_mk KX G hmg ?a__law_row ?l__law_row ?c__law_row ?k__law_row ?a__law_numbers ?l__law_numbers ?c__law_numbers ?k__law_numbers ?a_is_number ?l_is_number ?c_is_number ?k_is_number ?a_are_numbers ?l_are_numbers ?c_are_numbers ?k_are_numbers ?a_never_text ?l_never_text ?c_never_text ?k_never_text ?a_parse_never ?l_parse_never ?c_parse_never ?k_parse_never ?a__law_figure ?l__law_figure ?c__law_figure ?k__law_figure ?a_law ?l_law ?c_law ?k_law ?z_len ?z_abs ?z_int ?z_max ?z_min ?z_list ?z_tuple ?z_all ?z_any ?z_str ?z_range ?z_enumerate ?z_zip ?z_sorted ?z_sum ?z_isinstance ?z_repr ?v_DIGITS ?v_MOST_DIGITS ?v_PAIR_NUMBERS
    (case a__law_row => k_is); (case l__law_row => k_is); (case c__law_row => k_is); (case k__law_row => k_is); (case a__law_numbers => k_is); (case l__law_numbers => k_is); (case c__law_numbers => k_is); (case k__law_numbers => k_is); (case a_is_number => k_is); (case l_is_number => k_is); (case c_is_number => k_is); (case k_is_number => k_is); (case a_are_numbers => k_is); (case l_are_numbers => k_is); (case c_are_numbers => k_is); (case k_are_numbers => k_is); (case a_never_text => k_is); (case l_never_text => k_is); (case c_never_text => k_is); (case k_never_text => k_is); (case a_parse_never => k_is); (case l_parse_never => k_is); (case c_parse_never => k_is); (case k_parse_never => k_is); (case a__law_figure => k_is); (case l__law_figure => k_is); (case c__law_figure => k_is); (case k__law_figure => k_is); (case a_law => k_is); (case l_law => k_is); (case c_law => k_is); (case k_law => k_is); (case z_len => k_is); (case z_abs => k_is); (case z_int => k_is); (case z_max => k_is); (case z_min => k_is); (case z_list => k_is); (case z_tuple => k_is); (case z_all => k_is); (case z_any => k_is); (case z_str => k_is); (case z_range => k_is); (case z_enumerate => k_is); (case z_zip => k_is); (case z_sorted => k_is); (case z_sum => k_is); (case z_isinstance => k_is); (case z_repr => k_is); (case v_DIGITS => k_is); (case v_MOST_DIGITS => k_is); (case v_PAIR_NUMBERS => k_is)
