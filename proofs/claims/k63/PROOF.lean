import PyProof.Rows.All
import Wide.All
import OpenK.AllK
import Wide.FinOn
import HandS.ForMost
import HandS.ForExc
import HandS.TupAny
import HandS.Gcd
import HandS.Wide
import HandS.IsInst
import HandS.TryMany
import HandS.Zip
import HandS.Defaults
import HandS.Deep
import HandS.RaiseMore
import PyProof.Rows.InDataRows
import KE.GoesEnum
import HandS.Star
import HandS.Codes
import PyProof.EnumMake
import HandS.TupSets
import HandS.Keys
import HandS.ExcIs
import PyProof.TupleOfSeq
import PySem.Challenge.RW_cushioned_k63_reduced_tables
set_option Elab.async false
set_option linter.all false
set_option maxRecDepth 100000
set_option maxHeartbeats 4000000
/-! DL1: what Python values are as data (D), how the abstract heap bears them (Rp), the state told by data (Mt), the judgements RE, RL, RT, WS. -/
namespace DL
open PySem PySem.Spec PyProof.Rows L2

/-! ### data -/
inductive D where
  | non | bl (b : Bool) | int (i : Int) | str (x : Str) | tup (xs : List D) | lst (xs : List D) | ins (C : Addr) (fs : List (Str × D))

mutual
inductive Rp (K : PySem.W.Frag) (F : Hp) : V → D → Prop
  | non : Rp K F .non .non
  | bl (b : Bool) : Rp K F (.bl b) (.bl b)
  | int (i : Int) : Rp K F (.int i) (.int i)
  | str (x : Str) : Rp K F (.str x) (.str x)
  | tup {a : Addr} {xs : List V} {ds : List D} : SqT K F a xs → RpL K F xs ds → Rp K F (.ref a) (.tup ds)
  | lst {a : Addr} {xs : List V} {ds : List D} : SqL K F a xs → RpL K F xs ds → Rp K F (.ref a) (.lst ds)
  | ins {a C dx : Addr} {fs : List (Str × V)} {ds : List (Str × D)} : F a = some (.ins C dx fs) → RpF K F fs ds → Rp K F (.ref a) (.ins C ds)
inductive RpL (K : PySem.W.Frag) (F : Hp) : List V → List D → Prop
  | nil : RpL K F [] []
  | cons {v : V} {d : D} {vs : List V} {ds : List D} : Rp K F v d → RpL K F vs ds → RpL K F (v :: vs) (d :: ds)
inductive RpF (K : PySem.W.Frag) (F : Hp) : List (Str × V) → List (Str × D) → Prop
  | nil : RpF K F [] []
  | cons {f : Str} {v : V} {d : D} {vs : List (Str × V)} {ds : List (Str × D)} : Rp K F v d → RpF K F vs ds → RpF K F ((f, v) :: vs) ((f, d) :: ds)
end

theorem same_rd {H H' : Hp} {a : Addr} {u : HO} (e : Same H H') (h : Rd H a u) : Rd H' a u :=
  h.elim (fun q => .inl (e _ _ q)) fun ⟨o, q⟩ => .inr ⟨o, e _ _ q⟩
theorem same_sqL {K : PySem.W.Frag} {H H' : Hp} {a : Addr} {xs : List V} (e : Same H H') (h : SqL K H a xs) : SqL K H' a xs := h.imp (same_rd e) id
theorem same_sqT {K : PySem.W.Frag} {H H' : Hp} {a : Addr} {xs : List V} (e : Same H H') (h : SqT K H a xs) : SqT K H' a xs := h.imp (same_rd e) id
mutual
theorem Rp.mono {K : PySem.W.Frag} {F F' : Hp} (e : Same F F') : ∀ {v : V} {d : D}, Rp K F v d → Rp K F' v d
  | _, _, .non => .non
  | _, _, .bl b => .bl b
  | _, _, .int b => .int b
  | _, _, .str b => .str b
  | _, _, .tup h r => .tup (same_sqT e h) (RpL.mono e r)
  | _, _, .lst h r => .lst (same_sqL e h) (RpL.mono e r)
  | _, _, .ins h r => .ins (e _ _ h) (RpF.mono e r)
theorem RpL.mono {K : PySem.W.Frag} {F F' : Hp} (e : Same F F') : ∀ {v : List V} {d : List D}, RpL K F v d → RpL K F' v d
  | _, _, .nil => .nil
  | _, _, .cons h r => .cons (Rp.mono e h) (RpL.mono e r)
theorem RpF.mono {K : PySem.W.Frag} {F F' : Hp} (e : Same F F') : ∀ {v : List (Str × V)} {d : List (Str × D)}, RpF K F v d → RpF K F' v d
  | _, _, .nil => .nil
  | _, _, .cons h r => .cons (Rp.mono e h) (RpF.mono e r)
end
section
variable {K : PySem.W.Frag} {F : Hp}
theorem RpL.len : ∀ {vs : List V} {ds : List D}, RpL K F vs ds → vs.length = ds.length
  | _, _, .nil => rfl
  | _, _, .cons _ r => congrArg Nat.succ r.len
theorem RpL.get : ∀ {vs : List V} {ds : List D} {i : Nat} {d : D}, RpL K F vs ds → ds[i]? = some d → ∃ v, vs[i]? = some v ∧ Rp K F v d
  | _, _, _, _, .nil, e => by simp at e
  | _, _, 0, _, .cons h _, e => by simp at e; subst e; exact ⟨_, rfl, h⟩
  | _, _, i + 1, _, .cons _ r, e => by
    obtain ⟨v, h1, h2⟩ := RpL.get (i := i) r (by simpa using e)
    exact ⟨v, by simpa using h1, h2⟩
theorem RpL.app : ∀ {vs ws : List V} {ds es : List D}, RpL K F vs ds → RpL K F ws es → RpL K F (vs ++ ws) (ds ++ es)
  | _, _, _, _, .nil, s => s
  | _, _, _, _, .cons h r, s => .cons h (RpL.app r s)
theorem RpL.take : ∀ {vs : List V} {ds : List D} (n : Nat), RpL K F vs ds → RpL K F (vs.take n) (ds.take n)
  | _, _, 0, _ => .nil
  | _, _, _ + 1, .nil => .nil
  | _, _, n + 1, .cons h r => .cons h (RpL.take n r)
theorem RpL.drop : ∀ {vs : List V} {ds : List D} (n : Nat), RpL K F vs ds → RpL K F (vs.drop n) (ds.drop n)
  | _, _, 0, r => r
  | _, _, _ + 1, .nil => .nil
  | _, _, n + 1, .cons _ r => RpL.drop n r
theorem RpL.set : ∀ {vs : List V} {ds : List D} {v : V} {d : D} (n : Nat), Rp K F v d → RpL K F vs ds → RpL K F (vs.set n v) (ds.set n d)
  | _, _, _, _, _, _, .nil => .nil
  | _, _, _, _, 0, h, .cons _ r => .cons h r
  | _, _, _, _, n + 1, h, .cons q r => .cons q (RpL.set n h r)
theorem RpF.get : ∀ {vs : List (Str × V)} {ds : List (Str × D)} {f : Str} {d : D}, RpF K F vs ds → ds.lookup f = some d → ∃ v, vs.lookup f = some v ∧ Rp K F v d
  | _, _, _, _, .nil, e => by simp at e
  | _, _, f, d, .cons (f := g) h r, e => by
    rw [List.lookup_cons] at e ⊢
    by_cases q : (f == g) = true
    · rw [q] at e ⊢; simp at e; subst e; exact ⟨_, rfl, h⟩
    · have q' : (f == g) = false := by simpa using q
      rw [q'] at e ⊢; exact RpF.get r e
theorem RpF.none : ∀ {vs : List (Str × V)} {ds : List (Str × D)} {f : Str}, RpF K F vs ds → ds.lookup f = .none → vs.lookup f = .none
  | _, _, _, .nil, _ => rfl
  | _, _, f, .cons (f := g) h r, e => by
    rw [List.lookup_cons] at e ⊢
    by_cases q : (f == g) = true
    · rw [q] at e; simp at e
    · have q' : (f == g) = false := by simpa using q
      rw [q'] at e ⊢; exact RpF.none r e
theorem RpF.len : ∀ {vs : List (Str × V)} {ds : List (Str × D)}, RpF K F vs ds → vs.length = ds.length
  | _, _, .nil => rfl
  | _, _, .cons _ r => congrArg Nat.succ r.len
theorem rpL_ints : ∀ (ns : List Int), RpL K F (ns.map V.int) (ns.map D.int)
  | [] => .nil
  | n :: r => .cons (.int n) (rpL_ints r)
theorem RpL.ints : ∀ {vs : List V} {ns : List Int}, RpL K F vs (ns.map D.int) → vs = ns.map V.int
  | _, [], .nil => rfl
  | _, _ :: _, .cons (.int _) r => by rw [RpL.ints r]; rfl
theorem RpL.strs : ∀ {vs : List V} {ns : List Str}, RpL K F vs (ns.map D.str) → vs = ns.map V.str
  | _, [], .nil => rfl
  | _, _ :: _, .cons (.str _) r => by rw [RpL.strs r]; rfl
theorem RpL.bls : ∀ {vs : List V} {ns : List Bool}, RpL K F vs (ns.map D.bl) → vs = ns.map V.bl
  | _, [], .nil => rfl
  | _, _ :: _, .cons (.bl _) r => by rw [RpL.bls r]; rfl
end

/-! ### owned objects, slots -/
/-- an object that one slot alone knows -/
inductive OD where
  | lst (ds : List D) | dK (kvs : List (Key × D)) | dT (kvs : List (List Key × D)) | ins (C : Addr) (fs : List (Str × D)) | slf (y C : Addr) (fs : List (Str × D))
inductive RpK {κ : Type} (K : PySem.W.Frag) (F : Hp) : List (κ × V) → List (κ × D) → Prop
  | nil : RpK K F [] []
  | cons {k : κ} {v : V} {d : D} {vs : List (κ × V)} {ds : List (κ × D)} : Rp K F v d → RpK K F vs ds → RpK K F ((k, v) :: vs) ((k, d) :: ds)
theorem RpK.mono {κ : Type} {K : PySem.W.Frag} {F F' : Hp} (e : Same F F') : ∀ {v : List (κ × V)} {d : List (κ × D)}, RpK K F v d → RpK K F' v d
  | _, _, .nil => .nil
  | _, _, .cons h r => .cons (h.mono e) (RpK.mono e r)
inductive SV where
  | un | dat (d : D) | own (o : OD) | exn (a : Addr)
def OwnAt (K : PySem.W.Frag) (F H : Hp) (p : Addr) : OD → Prop
  | .lst ds => F p = none ∧ ∃ vs, H p = some (.lst vs) ∧ RpL K F vs ds
  | .dK ds => F p = none ∧ ∃ vs, H p = some (.dK vs) ∧ RpK K F vs ds
  | .dT ds => F p = none ∧ ∃ vs, H p = some (.dT vs) ∧ RpK K F vs ds
  | .ins C ds => F p = none ∧ ∃ dx vs, H p = some (.ins C dx vs) ∧ RpF K F vs ds
  | .slf y C ds => F p = none ∧ ∃ dx vs, H p = some (.ins C dx vs) ∧ RpF K F vs ds ∧ p = y
theorem OwnAt.out {K : PySem.W.Frag} {F H : Hp} {p : Addr} {o : OD} (h : OwnAt K F H p o) : F p = none := by cases o <;> exact h.1
theorem OwnAt.there {K : PySem.W.Frag} {F H : Hp} {p : Addr} {o : OD} (h : OwnAt K F H p o) : ∃ u, H p = some u := by
  cases o with
  | ins C ds => obtain ⟨_, _, _, e, _⟩ := h; exact ⟨_, e⟩
  | slf y C ds => obtain ⟨_, _, _, e, _⟩ := h; exact ⟨_, e⟩
  | _ => obtain ⟨_, _, e, _⟩ := h; exact ⟨_, e⟩
theorem OwnAt.keep {K : PySem.W.Frag} {F F' H H' : Hp} {p : Addr} {o : OD} (h : OwnAt K F H p o) (e : Same F F') (n : F' p = none) (k : H' p = H p) : OwnAt K F' H' p o := by
  cases o with
  | lst ds => obtain ⟨_, vs, e1, r⟩ := h; exact ⟨n, vs, k.trans e1, r.mono e⟩
  | dK ds => obtain ⟨_, vs, e1, r⟩ := h; exact ⟨n, vs, k.trans e1, r.mono e⟩
  | dT ds => obtain ⟨_, vs, e1, r⟩ := h; exact ⟨n, vs, k.trans e1, r.mono e⟩
  | ins C ds => obtain ⟨_, dx, vs, e1, r⟩ := h; exact ⟨n, dx, vs, k.trans e1, r.mono e⟩
  | slf y C ds => obtain ⟨_, dx, vs, e1, r, z⟩ := h; exact ⟨n, dx, vs, k.trans e1, r.mono e, z⟩
def SlotOk (K : PySem.W.Frag) (H0 F H : Hp) (x : Option (Option V)) : SV → Prop
  | .un => True
  | .dat d => ∃ v, x = some (some v) ∧ Rp K F v d
  | .own o => ∃ p, x = some (some (.ref p)) ∧ H0 p = none ∧ OwnAt K F H p o
  | .exn a => x = some (some (.ref a))

/-- the entry: what was frozen then (F0), all that was tracked then (H0) -/
structure Bs where
  F0 : Hp
  H0 : Hp
structure Mb (B : Bs) (F H : Hp) : Prop where
  sub : Same F H
  f0 : Same B.F0 F
  h0 : Same B.H0 H
  new : ∀ a o, F a = some o → B.F0 a = some o ∨ B.H0 a = none
/-- σ, H are told by Γ; F: the part of H that nobody changes any more -/
structure Mt (K : PySem.W.Frag) (B : Bs) (F H : Hp) (σ : L2.St) (Γ : List SV) : Prop where
  mb : Mb B F H
  len : σ.length = Γ.length
  slot : ∀ (i : Nat) (sv : SV), Γ[i]? = some sv → SlotOk K B.H0 F H σ[i]? sv
  sep : ∀ (i j : Nat) (oi oj : OD) (p : Addr), i ≠ j → Γ[i]? = some (.own oi) → Γ[j]? = some (.own oj) → σ[i]? = some (some (.ref p)) → σ[j]? ≠ some (some (.ref p))

/-- what a call (or any step that mutates nothing that stood) does to heap and frozen part -/
structure Grow (F H F' H' : Hp) : Prop where
  ff : Same F F'
  hh : Same H H'
  sub : Same F' H'
  new : ∀ a o, F' a = some o → F a = some o ∨ H a = none
theorem Grow.refl {F H : Hp} (h : Same F H) : Grow F H F H := ⟨.refl _, .refl _, h, fun _ _ e => .inl e⟩
theorem Grow.trans {F H F1 H1 F2 H2 : Hp} (a : Grow F H F1 H1) (b : Grow F1 H1 F2 H2) : Grow F H F2 H2 :=
  ⟨a.ff.trans b.ff, a.hh.trans b.hh, b.sub, fun x o e => (b.new x o e).elim (a.new x o) fun n => .inr (a.hh.free n)⟩
/-- a new object, frozen at once -/
theorem Grow.put {F H : Hp} {p : Addr} {o : HO} (s : Same F H) (n : H p = none) : Grow F H (upd F p o) (upd H p o) := by
  have nf : F p = none := s.free n
  refine ⟨fun b u e => ?_, fun b u e => ?_, fun b u e => ?_, fun b u e => ?_⟩
  · rw [upd_ne (ne_of_none e nf)]; exact e
  · rw [upd_ne (ne_of_none e n)]; exact e
  · by_cases q : b = p
    · subst q; rw [upd_same] at e ⊢; exact e
    · rw [upd_ne q] at e ⊢; exact s b u e
  · by_cases q : b = p
    · subst q; exact .inr n
    · rw [upd_ne q] at e; exact .inl e
/-- a new object, not frozen -/
theorem Grow.new1 {F H : Hp} {p : Addr} {o : HO} (s : Same F H) (n : H p = none) : Grow F H F (upd H p o) := by
  refine ⟨.refl _, fun b u e => ?_, fun b u e => ?_, fun _ _ e => .inl e⟩
  · rw [upd_ne (ne_of_none e n)]; exact e
  · rw [upd_ne (ne_of_none (s b u e) n)]; exact s b u e
section
variable {K : PySem.W.Frag} {B : Bs} {F H F' H' : Hp} {σ : L2.St} {Γ : List SV}
theorem Mb.grow (m : Mb B F H) (g : Grow F H F' H') : Mb B F' H' :=
  ⟨g.sub, m.f0.trans g.ff, m.h0.trans g.hh, fun a o e => (g.new a o e).elim (m.new a o) fun n => .inr (m.h0.free n)⟩
theorem Mt.grow (m : Mt K B F H σ Γ) (g : Grow F H F' H') : Mt K B F' H' σ Γ := by
  refine ⟨m.mb.grow g, m.len, fun i sv e => ?_, m.sep⟩
  have q := m.slot i sv e
  cases sv with
  | un => trivial
  | exn a => exact q
  | dat d => obtain ⟨v, e1, r⟩ := q; exact ⟨v, e1, r.mono g.ff⟩
  | own o =>
    obtain ⟨p, e1, n0, w⟩ := q
    obtain ⟨u, hu⟩ := w.there
    refine ⟨p, e1, n0, w.keep g.ff ?_ ((g.hh p u hu).trans hu.symm)⟩
    cases q : F' p with
    | none => rfl
    | some o' =>
      rcases g.new p o' q with z | z
      · rw [w.out] at z; cases z
      · rw [hu] at z; cases z
theorem Mt.at (m : Mt K B F H σ Γ) {i : Nat} {d : D} (e : Γ[i]? = some (.dat d)) : ∃ v, σ[i]? = some (some v) ∧ Rp K F v d := m.slot i _ e
theorem Mt.own (m : Mt K B F H σ Γ) {i : Nat} {o : OD} (e : Γ[i]? = some (.own o)) : ∃ p, σ[i]? = some (some (.ref p)) ∧ B.H0 p = none ∧ OwnAt K F H p o := m.slot i _ e
/-- forgetting -/
theorem Mt.weak {Γ' : List SV} (m : Mt K B F H σ Γ) (hl : Γ'.length = Γ.length) (h : ∀ (i : Nat) (sv : SV), Γ'[i]? = some sv → sv = .un ∨ Γ[i]? = some sv) : Mt K B F H σ Γ' := by
  refine ⟨m.mb, m.len.trans hl.symm, fun i sv e => ?_, fun i j oi oj p ne ei ej => ?_⟩
  · rcases h i sv e with rfl | q
    · trivial
    · exact m.slot i sv q
  · rcases h i _ ei with z | q
    · cases z
    · rcases h j _ ej with z | q'
      · cases z
      · exact m.sep i j oi oj p ne q q'
/-- a slot gets data -/
theorem Mt.put (m : Mt K B F H σ Γ) (i : Nat) {v : V} {d : D} (r : Rp K F v d) : Mt K B F H (σ.set i (some v)) (Γ.set i (.dat d)) := by
  refine ⟨m.mb, by rw [List.length_set, List.length_set]; exact m.len, fun j sv e => ?_, fun j k oj ok p ne ej ek => ?_⟩
  · by_cases q : i = j
    · subst q
      by_cases hi : i < Γ.length
      · rw [List.getElem?_set_self hi] at e; cases e
        exact ⟨v, List.getElem?_set_self (by rw [m.len]; exact hi), r⟩
      · rw [List.getElem?_eq_none (by rw [List.length_set]; omega)] at e; cases e
    · rw [List.getElem?_set_ne q] at e ⊢; exact m.slot j sv e
  · have nj : i ≠ j := fun q => by
      subst q
      by_cases hi : i < Γ.length
      · rw [List.getElem?_set_self hi] at ej; cases ej
      · rw [List.getElem?_eq_none (by rw [List.length_set]; omega)] at ej; cases ej
    have nk : i ≠ k := fun q => by
      subst q
      by_cases hi : i < Γ.length
      · rw [List.getElem?_set_self hi] at ek; cases ek
      · rw [List.getElem?_eq_none (by rw [List.length_set]; omega)] at ek; cases ek
    rw [List.getElem?_set_ne nj] at ej ⊢
    rw [List.getElem?_set_ne nk] at ek ⊢
    exact m.sep j k oj ok p ne ej ek
/-- p is no owned slot's -/
def Apart (σ : L2.St) (Γ : List SV) (p : Addr) : Prop := ∀ (i : Nat) (o : OD), Γ[i]? = some (.own o) → σ[i]? ≠ some (some (.ref p))
theorem Mt.apart (m : Mt K B F H σ Γ) {p : Addr} (n : H p = none) : Apart σ Γ p := fun i o e z => by
  obtain ⟨q, e1, _, w⟩ := m.own e
  rw [z] at e1; cases e1
  obtain ⟨u, hu⟩ := w.there
  rw [n] at hu; cases hu
/-- a slot gets a new owned object -/
theorem Mt.putOwn (m : Mt K B F H σ Γ) (i : Nat) {p : Addr} {o : OD} (n0 : B.H0 p = none) (ap : Apart σ Γ p) (w : OwnAt K F H p o) : Mt K B F H (σ.set i (some (.ref p))) (Γ.set i (.own o)) := by
  refine ⟨m.mb, by rw [List.length_set, List.length_set]; exact m.len, fun j sv e => ?_, fun j k oj ok p' ne ej ek => ?_⟩
  · by_cases q : i = j
    · subst q
      by_cases hi : i < Γ.length
      · rw [List.getElem?_set_self hi] at e; cases e
        exact ⟨p, List.getElem?_set_self (by rw [m.len]; exact hi), n0, w⟩
      · rw [List.getElem?_eq_none (by rw [List.length_set]; omega)] at e; cases e
    · rw [List.getElem?_set_ne q] at e ⊢; exact m.slot j sv e
  · by_cases hi : i < Γ.length
    · by_cases qj : i = j
      · subst qj
        rw [List.getElem?_set_self (by rw [m.len]; exact hi)]
        rw [List.getElem?_set_ne ne] at ek ⊢
        intro z z2
        cases z
        exact ap k ok ek z2
      · rw [List.getElem?_set_ne qj] at ej ⊢
        by_cases qk : i = k
        · subst qk
          rw [List.getElem?_set_self (by rw [m.len]; exact hi)]
          intro z z2
          cases z2
          exact ap j oj ej z
        · rw [List.getElem?_set_ne qk] at ek ⊢
          exact m.sep j k oj ok p' ne ej ek
    · rw [List.set_eq_of_length_le (by omega)] at ej ek
      rw [List.set_eq_of_length_le (by rw [m.len]; omega)]
      exact m.sep j k oj ok p' ne ej ek
/-- an owned object changes -/
theorem Mt.mut (m : Mt K B F H σ Γ) {i : Nat} {o o' : OD} {p : Addr} {ho : HO} (e : Γ[i]? = some (.own o)) (es : σ[i]? = some (some (.ref p))) (w : OwnAt K F (upd H p ho) p o') :
    Mt K B F (upd H p ho) σ (Γ.set i (.own o')) := by
  have hi : i < Γ.length := (List.getElem?_eq_some_iff.mp e).1
  obtain ⟨p', e1, n0, w0⟩ := m.own e
  rw [es] at e1; cases e1
  have hF : Same F (upd H p ho) := fun b u q => by
    rw [upd_ne (fun z => by subst z; rw [w0.out] at q; cases q)]; exact m.mb.sub b u q
  have hH : Same B.H0 (upd H p ho) := fun b u q => by
    rw [upd_ne (fun z => by subst z; rw [n0] at q; cases q)]; exact m.mb.h0 b u q
  refine ⟨⟨hF, m.mb.f0, hH, m.mb.new⟩, by rw [List.length_set]; exact m.len, fun j sv q => ?_, fun j k oj ok p' ne ej ek => ?_⟩
  · by_cases z : i = j
    · subst z
      rw [List.getElem?_set_self hi] at q; cases q
      exact ⟨p, es, n0, w⟩
    · rw [List.getElem?_set_ne z] at q
      have s := m.slot j sv q
      cases sv with
      | un => trivial
      | exn a => exact s
      | dat d => exact s
      | own o2 =>
        obtain ⟨p2, e2, n2, w2⟩ := s
        refine ⟨p2, e2, n2, w2.keep (.refl _) w2.out (upd_ne fun y => ?_)⟩
        subst y
        exact m.sep i j o o2 p2 z e q es e2
  · have fix : ∀ {l : Nat} {ol : OD}, (Γ.set i (.own o'))[l]? = some (.own ol) → ∃ o3, Γ[l]? = some (.own o3) := fun {l ol} q => by
      by_cases z : i = l
      · subst z; exact ⟨o, e⟩
      · rw [List.getElem?_set_ne z] at q; exact ⟨ol, q⟩
    obtain ⟨o3, q3⟩ := fix ej
    obtain ⟨o4, q4⟩ := fix ek
    exact m.sep j k o3 o4 p' ne q3 q4
end

/-! ### exceptions, outcomes -/
structure Exn where
  cls : Addr
  own : Option (List (Str × D))
def RpX (K : PySem.W.Frag) (F H : Hp) (x : Exn) (c : Value) (d : Option Addr) : Prop :=
  c = .ref x.cls ∧ match x.own with
    | none => d = none
    | some fs => ∃ dx vs, d = some dx ∧ H dx = some (.xd vs) ∧ RpF K F vs fs
/-- an expression's outcome: data; a new object that nobody else knows; an exception -/
inductive RO where
  | val (d : D) | frs (o : OD) | exc (x : Exn)
inductive SO where
  | nx (Γ : List SV) | ret (r : RO) | brk (Γ : List SV) | cont (Γ : List SV) | exc (x : Exn) (Γ : List SV)
def RetOk (K : PySem.W.Frag) (B : Bs) (F H : Hp) (v : V) : RO → Prop
  | .val d => Rp K F v d
  | .frs o => ∃ p, v = .ref p ∧ B.H0 p = none ∧ OwnAt K F H p o
  | .exc _ => False

/-! ### the semantics' own readings -/
def tAny (X : Cx) (e : Expr) : TE := fun σ H Q => ∀ (pins : List (Addr × Obj)) (s : Shared), Inv X pins σ H s → wpAny (model X.prog X.w) X.A (eval e X.env) (EP X pins σ Q) X.xe s
def tAnyT (X : Cx) (e : Expr) : TT := fun σ H Q => ∀ (pins : List (Addr × Obj)) (s : Shared), Inv X pins σ H s → wpAny (model X.prog X.w) X.A (isTrue e X.env (eval e X.env)) (TP X pins σ Q) X.xe s
def tAnyA (X : Cx) (es : List Expr) : TA := fun σ H Q => ∀ (pos : Pos) (pins : List (Addr × Obj)) (s : Shared), Inv X pins σ H s → wpAny (model X.prog X.w) X.A (spliced (backTo pos (starEach es X.env))) (AP X pins σ Q) X.xe s
def tAnyS (X : Cx) (st : Stmt) : TS := fun D σ H => ∀ (pins : List (Addr × Obj)) (s : Shared), Inv X pins σ H s → wpAny (model X.prog X.w) X.A (exec st X.env) (SP X pins D) X.xe s
def tAnyB (X : Cx) (st : List Stmt) : TS := fun D σ H => ∀ (pins : List (Addr × Obj)) (s : Shared), Inv X pins σ H s → wpAny (model X.prog X.w) X.A (execs st X.env) (SP X pins D) X.xe s
section
variable {X : Cx} {e : Expr} {es : List Expr} {st : Stmt} {sts : List Stmt}
theorem anyE : PE X e (tAny X e) := ⟨fun pins s _ _ _ I h => h pins s I⟩
theorem anyT : PT X e (tAnyT X e) := ⟨fun pins s _ _ _ I h => h pins s I⟩
theorem anyA : PA X es (tAnyA X es) := ⟨fun pos pins s _ _ _ I h => h pos pins s I⟩
theorem anyS : PS X st (tAnyS X st) := ⟨fun pins s _ _ _ I h => h pins s I⟩
theorem anyB : PSs X sts (tAnyB X sts) := ⟨fun pins s _ _ _ I h => h pins s I⟩
theorem toE {t : TE} (h : PE X e t) {σ : L2.St} {H : Hp} {Q : VK} (q : t σ H Q) : tAny X e σ H Q := fun pins s I => h.run pins s σ H Q I q
theorem toT {t : TT} (h : PT X e t) {σ : L2.St} {H : Hp} {Q : Bool → Hp → Prop} (q : t σ H Q) : tAnyT X e σ H Q := fun pins s I => h.run pins s σ H Q I q
theorem toA {t : TA} (h : PA X es t) {σ : L2.St} {H : Hp} {Q : List V → Hp → Prop} (q : t σ H Q) : tAnyA X es σ H Q := fun pos pins s I => h.run pos pins s σ H Q I q
theorem toS {t : TS} (h : PS X st t) {σ : L2.St} {H : Hp} {D : Ends} (q : t D σ H) : tAnyS X st D σ H := fun pins s I => h.run pins s σ H D I q
theorem toB {t : TS} (h : PSs X sts t) {σ : L2.St} {H : Hp} {D : Ends} (q : t D σ H) : tAnyB X sts D σ H := fun pins s I => h.run pins s σ H D I q
end

/-! ### the judgements -/
/-- what follows an expression -/
def EK (K : PySem.W.Frag) (B : Bs) (W : WX) (F : Hp) (σ : L2.St) (Γ : List SV) (Q : VK) : RO → Prop
  | .val d => ∀ v H' F', Mt K B F' H' σ Γ → Same F F' → Rp K F' v d → Q v H'
  | .frs o => ∀ p H' F', Mt K B F' H' σ Γ → Same F F' → B.H0 p = none → Apart σ Γ p → OwnAt K F' H' p o → Q (.ref p) H'
  | .exc x => ∀ c d H' F', Mt K B F' H' σ Γ → Same F F' → RpX K F' H' x c d → W c d σ H'
def RE (B : Bs) (X : Cx) (e : Expr) (Γ : List SV) (o : RO) : Prop := ∀ (W : WX), Takes X W → ∀ (σ : L2.St) (H F : Hp), Mt X.K B F H σ Γ → ∀ Q : VK, EK X.K B W F σ Γ Q o → tAny X e σ H Q
/-- an argument list -/
def AK (K : PySem.W.Frag) (B : Bs) (W : WX) (F : Hp) (σ : L2.St) (Γ : List SV) (Q : List V → Hp → Prop) : Except Exn (List D) → Prop
  | .ok ds => ∀ vs H' F', Mt K B F' H' σ Γ → Same F F' → RpL K F' vs ds → Q vs H'
  | .error x => ∀ c d H' F', Mt K B F' H' σ Γ → Same F F' → RpX K F' H' x c d → W c d σ H'
def RL (B : Bs) (X : Cx) (es : List Expr) (Γ : List SV) (o : Except Exn (List D)) : Prop := ∀ (W : WX), Takes X W → ∀ (σ : L2.St) (H F : Hp), Mt X.K B F H σ Γ → ∀ Q : List V → Hp → Prop, AK X.K B W F σ Γ Q o → tAnyA X es σ H Q
/-- a test -/
def RT (B : Bs) (X : Cx) (e : Expr) (Γ : List SV) (b : Bool) : Prop := ∀ (W : WX), Takes X W → ∀ (σ : L2.St) (H F : Hp), Mt X.K B F H σ Γ → ∀ Q : Bool → Hp → Prop, (∀ H' F', Mt X.K B F' H' σ Γ → Same F F' → Q b H') → tAnyT X e σ H Q
/-- what follows a statement -/
structure SK (K : PySem.W.Frag) (B : Bs) (W : WX) (F : Hp) (post : SO → Prop) (D : Ends) : Prop where
  nx : ∀ σ H F' Γ, post (.nx Γ) → Mt K B F' H σ Γ → Same F F' → D.nx σ H
  rt : ∀ v H F' r, post (.ret r) → Mb B F' H → Same F F' → RetOk K B F' H v r → D.rt v H
  bk : ∀ σ H F' Γ, post (.brk Γ) → Mt K B F' H σ Γ → Same F F' → D.bk σ H
  ct : ∀ σ H F' Γ, post (.cont Γ) → Mt K B F' H σ Γ → Same F F' → D.ct σ H
  ex : ∀ c d σ H F' Γ x, post (.exc x Γ) → Mt K B F' H σ Γ → Same F F' → RpX K F' H x c d → W c d σ H
theorem SK.mono {K : PySem.W.Frag} {B : Bs} {W : WX} {F F1 : Hp} {post : SO → Prop} {D : Ends} (k : SK K B W F post D) (h : Same F F1) : SK K B W F1 post D :=
  ⟨fun σ H F' Γ p m s => k.nx σ H F' Γ p m (h.trans s), fun v H F' r p m s => k.rt v H F' r p m (h.trans s), fun σ H F' Γ p m s => k.bk σ H F' Γ p m (h.trans s),
   fun σ H F' Γ p m s => k.ct σ H F' Γ p m (h.trans s), fun c d σ H F' Γ x p m s => k.ex c d σ H F' Γ x p m (h.trans s)⟩
def W1 (B : Bs) (X : Cx) (st : Stmt) (Γ : List SV) (post : SO → Prop) : Prop := ∀ (W : WX), Takes X W → ∀ (σ : L2.St) (H F : Hp), Mt X.K B F H σ Γ → ∀ D : Ends, SK X.K B W F post D → tAnyS X st D σ H
def WS (B : Bs) (X : Cx) (st : List Stmt) (Γ : List SV) (post : SO → Prop) : Prop := ∀ (W : WX), Takes X W → ∀ (σ : L2.St) (H F : Hp), Mt X.K B F H σ Γ → ∀ D : Ends, SK X.K B W F post D → tAnyB X st D σ H
end DL

/-! DL2: the rules of expressions over data. -/
namespace DL
open PySem PySem.Spec PyProof.Rows L2
section
variable {K : PySem.W.Frag} {B : Bs} {W : WX} {F F1 H H1 : Hp} {σ : L2.St} {Γ : List SV} {Q : VK} {o : RO}
theorem EK.mono (k : EK K B W F σ Γ Q o) (s : Same F F1) : EK K B W F1 σ Γ Q o := by
  cases o with
  | val d => exact fun v H' F' m s' r => k v H' F' m (s.trans s') r
  | frs u => exact fun p H' F' m s' n ap w => k p H' F' m (s.trans s') n ap w
  | exc x => exact fun c d H' F' m s' r => k c d H' F' m (s.trans s') r
theorem EK.go {d : D} {v : V} (k : EK K B W F σ Γ Q (.val d)) (m : Mt K B F H σ Γ) (r : Rp K F v d) : Q v H := k v H F m (.refl F) r
theorem EK.lst {ds : List D} {vs : List V} (k : EK K B W F σ Γ Q (.frs (.lst ds))) (m : Mt K B F H σ Γ) (r : RpL K F vs ds) {p : Addr} (n : H p = none) : Q (.ref p) (upd H p (.lst vs)) :=
  k p _ F (m.grow (.new1 m.mb.sub n)) (.refl F) (m.mb.h0.free n) (m.apart n) ⟨m.mb.sub.free n, vs, upd_same, r⟩
theorem EK.tup {ds : List D} {vs : List V} (k : EK K B W F σ Γ Q (.val (.tup ds))) (m : Mt K B F H σ Γ) (r : RpL K F vs ds) {p : Addr} (n : H p = none) : Q (.ref p) (upd H p (.tup vs)) :=
  k (.ref p) _ _ (m.grow (.put m.mb.sub n)) (Grow.put m.mb.sub n).ff (.tup (SqT.of upd_same) (r.mono (Grow.put m.mb.sub n).ff))
/-- an owned list, tuple .. is frozen -/
theorem Mt.freeze (m : Mt K B F H σ Γ) {p : Addr} {u : HO} (e : H p = some u) (nf : F p = none) (n0 : B.H0 p = none) (ap : Apart σ Γ p) : Mt K B (upd F p u) H σ Γ ∧ Same F (upd F p u) := by
  have sf : Same F (upd F p u) := fun b x q => by rw [upd_ne (ne_of_none q nf)]; exact q
  refine ⟨⟨⟨fun b x q => ?_, m.mb.f0.trans sf, m.mb.h0, fun a x q => ?_⟩, m.len, fun i sv q => ?_, m.sep⟩, sf⟩
  · by_cases z : b = p
    · subst z; rw [upd_same] at q; cases q; exact e
    · rw [upd_ne z] at q; exact m.mb.sub b x q
  · by_cases z : a = p
    · subst z; exact .inr n0
    · rw [upd_ne z] at q; exact m.mb.new a x q
  · have s := m.slot i sv q
    cases sv with
    | un => trivial
    | exn a => exact s
    | dat d => obtain ⟨v, e1, r⟩ := s; exact ⟨v, e1, r.mono sf⟩
    | own o =>
      obtain ⟨p', e1, n1, w⟩ := s
      have ne : p' ≠ p := fun z => by subst z; exact ap i o q e1
      exact ⟨p', e1, n1, w.keep sf (by rw [upd_ne ne]; exact w.out) rfl⟩
end

section
variable {B : Bs} {X : Cx} {Γ : List SV} {a b c e : Expr} {es : List Expr} {pos : Pos}
/-- a new list, handed on: from now on nobody changes it -/
theorem re_frz {ds : List D} (h : RE B X e Γ (.frs (.lst ds))) : RE B X e Γ (.val (.lst ds)) := fun W tk σ H F m Q k =>
  h W tk σ H F m Q fun p H' F' m' s n0 ap w => by
    obtain ⟨nf, vs, e1, r⟩ := w
    obtain ⟨m2, s2⟩ := m'.freeze e1 nf n0 ap
    exact k _ _ _ m2 (s.trans s2) (.lst (SqL.of upd_same) (r.mono s2))
theorem re_frzI {C : Addr} {ds : List (Str × D)} (h : RE B X e Γ (.frs (.ins C ds))) : RE B X e Γ (.val (.ins C ds)) := fun W tk σ H F m Q k =>
  h W tk σ H F m Q fun p H' F' m' s n0 ap w => by
    obtain ⟨nf, dx, vs, e1, r⟩ := w
    obtain ⟨m2, s2⟩ := m'.freeze e1 nf n0 ap
    exact k _ _ _ m2 (s.trans s2) (.ins upd_same (r.mono s2))

/-! ### names, constants -/
theorem re_var (i : Nat) {x : Str} {d : D} (hΓ : Γ[i]? = some (.dat d)) (hN : X.N[i]? = some x := by rfl) (hv : Vis X.env.scope x := by first | exact Or.inl rfl | exact Or.inr (Or.inl rfl) | exact Or.inr (Or.inr rfl))
    (h1 : (x == ("__debug__" : Str)) = false := by decide) (h2 : (x == ("__classdict__" : Str)) = false := by decide) : RE B X (.Name x pos) Γ (.val d) := fun W _ σ H F m Q k => by
  obtain ⟨v, e1, r⟩ := m.at hΓ
  exact toE (pe_var hN hv h1 h2) ⟨v, e1, k.go m r⟩
theorem re_int {i : Int} {j} : RE B X (.Constant (.int i) j pos) Γ (.val (.int i)) := fun W _ σ H F m Q k => toE pe_int (k.go m (.int i))
theorem re_str {i : Str} {j} : RE B X (.Constant (.str i) j pos) Γ (.val (.str i)) := fun W _ σ H F m Q k => toE pe_str (k.go m (.str i))
theorem re_bl {i : Bool} {j} : RE B X (.Constant (.bool i) j pos) Γ (.val (.bl i)) := fun W _ σ H F m Q k => toE pe_bl (k.go m (.bl i))
theorem re_non {j} : RE B X (.Constant .none j pos) Γ (.val .non) := fun W _ σ H F m Q k => toE pe_non (k.go m .non)
/-- what a module's name is worth -/
def GV (K : PySem.W.Frag) (mg : Str → Option Value) (x : Str) (d : D) : Prop := ∃ v u, mg x = some u ∧ RelV v u ∧ ∀ F, Rp K F v d
theorem re_glob {x : Str} {d : D} (g : GV X.K X.mg x d) (hg : Gl X x := by rfl) (h1 : (x == ("__debug__" : Str)) = false := by decide) : RE B X (.Name x pos) Γ (.val d) := fun W _ σ H F m Q k => by
  obtain ⟨v, u, e1, r, q⟩ := g
  exact toE (pe_glob hg e1 r h1) (k.go m (q F))

/-! ### operators -/
def OJ (B : Bs) (X : Cx) (Γ : List SV) (r : R2) (d1 d2 : D) (o : RO) : Prop := ∀ (W : WX) (σ : L2.St) (H F : Hp) (x y : V), Mt X.K B F H σ Γ → Rp X.K F x d1 → Rp X.K F y d2 → ∀ Q : VK, EK X.K B W F σ Γ Q o → r x y H Q
theorem re_bin {op : Operator} {r : R2} {d1 d2 : D} {o : RO} (ho : OpR X (binaryOp op) r) (ha : RE B X a Γ (.val d1)) (hb : RE B X b Γ (.val d2)) (hj : OJ B X Γ r d1 d2 o) : RE B X (.BinOp a op b pos) Γ o := fun W tk σ H F m Q k =>
  toE (pe_op ho anyE anyE) (ha W tk σ H F m _ fun x H1 F1 m1 s1 r1 => hb W tk σ H1 F1 m1 _ fun y H2 F2 m2 s2 r2 => hj W σ H2 F2 x y m2 (r1.mono s2) r2 Q (k.mono (s1.trans s2)))
theorem oj_I0 {g : Int → Int → Int} {i j : Int} : OJ B X Γ (rI0 fun i j => .int (g i j)) (.int i) (.int j) (.val (.int (g i j))) := fun W σ H F x y m r1 r2 Q k => by
  cases r1; cases r2; exact ⟨i, j, rfl, rfl, k.go m (.int _)⟩
theorem oj_B0 {g : Int → Int → Bool} {i j : Int} : OJ B X Γ (rI0 fun i j => .bl (g i j)) (.int i) (.int j) (.val (.bl (g i j))) := fun W σ H F x y m r1 r2 Q k => by
  cases r1; cases r2; exact ⟨i, j, rfl, rfl, k.go m (.bl _)⟩
theorem oj_I {C : Int → Int → Prop} {g : Int → Int → Int} {i j : Int} (hc : C i j) : OJ B X Γ (rI C fun i j => .int (g i j)) (.int i) (.int j) (.val (.int (g i j))) := fun W σ H F x y m r1 r2 Q k => by
  cases r1; cases r2; exact ⟨i, j, rfl, rfl, hc, k.go m (.int _)⟩
theorem re_add {i j : Int} (ha : RE B X a Γ (.val (.int i))) (hb : RE B X b Γ (.val (.int j))) : RE B X (.BinOp a .Add b pos) Γ (.val (.int (i + j))) := re_bin op_add ha hb (oj_I0 (g := fun i j => i + j))
theorem re_sub {i j : Int} (ha : RE B X a Γ (.val (.int i))) (hb : RE B X b Γ (.val (.int j))) : RE B X (.BinOp a .Sub b pos) Γ (.val (.int (i - j))) := re_bin op_sub ha hb (oj_I0 (g := fun i j => i - j))
theorem re_mul {i j : Int} (hc : CMul i j) (ha : RE B X a Γ (.val (.int i))) (hb : RE B X b Γ (.val (.int j))) : RE B X (.BinOp a .Mult b pos) Γ (.val (.int (i * j))) := re_bin op_mul ha hb (oj_I (g := fun i j => i * j) hc)
theorem re_mod {i j : Int} (hc : 0 < j) (ha : RE B X a Γ (.val (.int i))) (hb : RE B X b Γ (.val (.int j))) : RE B X (.BinOp a .Mod b pos) Γ (.val (.int (i % j))) := re_bin op_mod ha hb (oj_I (g := fun i j => i % j) hc)
theorem re_fdiv {i j : Int} (hc : CDiv i j) (ha : RE B X a Γ (.val (.int i))) (hb : RE B X b Γ (.val (.int j))) : RE B X (.BinOp a .FloorDiv b pos) Γ (.val (.int (i / j))) := re_bin op_fdiv ha hb (oj_I (g := fun i j => i / j) hc)
theorem re_pow {i j : Int} (hc : CPow i j) (ha : RE B X a Γ (.val (.int i))) (hb : RE B X b Γ (.val (.int j))) : RE B X (.BinOp a .Pow b pos) Γ (.val (.int (i ^ j.toNat))) := re_bin op_pow ha hb (oj_I (g := fun i j => i ^ j.toNat) hc)
theorem re_addS {x y : Str} (hz : x.length + y.length ≤ sizeLine) (ha : RE B X a Γ (.val (.str x))) (hb : RE B X b Γ (.val (.str y))) : RE B X (.BinOp a .Add b pos) Γ (.val (.str (x ++ y))) :=
  re_bin op_add_str ha hb fun W σ H F u v m r1 r2 Q k => by cases r1; cases r2; exact ⟨x, y, rfl, rfl, hz, k.go m (.str _)⟩
theorem re_neg {i : Int} (ha : RE B X a Γ (.val (.int i))) : RE B X (.UnaryOp .USub a pos) Γ (.val (.int (-i))) := fun W tk σ H F m Q k =>
  toE (pe_un un_neg anyE) (ha W tk σ H F m _ fun x H1 F1 m1 s1 r1 => by cases r1; exact ⟨i, rfl, (k.mono s1).go m1 (.int _)⟩)

/-! ### comparisons -/
/-- a comparison of two, as a value or as a test -/
def CO (B : Bs) (X : Cx) (op : CmpOp) (a b : Expr) (Γ : List SV) (k : Bool) : Prop :=
  ∃ (r : R2), OpR X (compareOp op) r ∧ behindInMarks op b = false ∧ ∀ (W : WX), Takes X W → ∀ (σ : L2.St) (H F : Hp), Mt X.K B F H σ Γ → ∀ Q : VK, (∀ H' F', Mt X.K B F' H' σ Γ → Same F F' → Q (.bl k) H') → tOp r (tAny X a) (tAny X b) σ H Q
theorem re_co {op : CmpOp} {k : Bool} (h : CO B X op a b Γ k) : RE B X (.Compare a [op] [b] pos) Γ (.val (.bl k)) := fun W tk σ H F m Q kk => by
  obtain ⟨r, ho, hm, h⟩ := h
  exact toE (pe_cmpR ho anyE anyE hm) (h W tk σ H F m Q fun H' F' m' s => kk _ _ _ m' s (.bl _))
theorem rt_co {op : CmpOp} {k : Bool} (h : CO B X op a b Γ k) : RT B X (.Compare a [op] [b] pos) Γ k := fun W tk σ H F m Q kk => by
  obtain ⟨r, ho, hm, h⟩ := h
  exact toT (pt_cmpR ho anyE anyE hm) (h W tk σ H F m _ fun H' F' m' s => ⟨k, rfl, kk _ _ m' s⟩)
theorem co_of {op : CmpOp} {r : R2} {d1 d2 : D} {k : Bool} (ho : OpR X (compareOp op) r) (hm : behindInMarks op b = false) (ha : RE B X a Γ (.val d1)) (hb : RE B X b Γ (.val d2)) (hj : OJ B X Γ r d1 d2 (.val (.bl k))) : CO B X op a b Γ k :=
  ⟨r, ho, hm, fun W tk σ H F m Q kk => ha W tk σ H F m _ fun x H1 F1 m1 s1 r1 => hb W tk σ H1 F1 m1 _ fun y H2 F2 m2 s2 r2 => hj W σ H2 F2 x y m2 (r1.mono s2) r2 Q fun v H3 F3 m3 s3 r3 => by cases r3; exact kk H3 F3 m3 ((s1.trans s2).trans s3)⟩
theorem c_lt {i j : Int} (ha : RE B X a Γ (.val (.int i))) (hb : RE B X b Γ (.val (.int j))) : CO B X .Lt a b Γ (decide (i < j)) := co_of op_lt (nomark _) ha hb (oj_B0 (g := fun i j => decide (i < j)))
theorem c_le {i j : Int} (ha : RE B X a Γ (.val (.int i))) (hb : RE B X b Γ (.val (.int j))) : CO B X .LtE a b Γ (decide (i ≤ j)) := co_of op_le (nomark _) ha hb (oj_B0 (g := fun i j => decide (i ≤ j)))
theorem c_gt {i j : Int} (ha : RE B X a Γ (.val (.int i))) (hb : RE B X b Γ (.val (.int j))) : CO B X .Gt a b Γ (decide (j < i)) := co_of op_gt (nomark _) ha hb (oj_B0 (g := fun i j => decide (j < i)))
theorem c_ge {i j : Int} (ha : RE B X a Γ (.val (.int i))) (hb : RE B X b Γ (.val (.int j))) : CO B X .GtE a b Γ (decide (j ≤ i)) := co_of op_ge (nomark _) ha hb (oj_B0 (g := fun i j => decide (j ≤ i)))
/-- == of scalars: what it answers -/
def eqS : D → D → Option Bool
  | .non, .non => some true | .non, .int _ => some false | .int _, .non => some false | .non, .bl _ => some false | .bl _, .non => some false | .non, .str _ => some false | .str _, .non => some false
  | .int i, .int j => some (decide (i = j)) | .bl i, .bl j => some (decide (i = j)) | .str i, .str j => some (decide (i = j))
  | .int _, .str _ => some false | .str _, .int _ => some false | .bl _, .str _ => some false | .str _, .bl _ => some false
  | _, _ => none
theorem eqS_rel {K : PySem.W.Frag} {F : Hp} {x y : V} {d1 d2 : D} {k : Bool} (r1 : Rp K F x d1) (r2 : Rp K F y d2) (h : eqS d1 d2 = some k) : scal x y = true ∧ decide (x = y) = k := by
  cases r1 <;> cases r2 <;> simp [eqS] at h <;> subst h <;> exact ⟨rfl, by simp⟩
theorem c_eqS {d1 d2 : D} {k : Bool} (ha : RE B X a Γ (.val d1)) (hb : RE B X b Γ (.val d2)) (h : eqS d1 d2 = some k) : CO B X .Eq a b Γ k :=
  co_of op_eq (nomark _) ha hb fun W σ H F x y m r1 r2 Q kk => by obtain ⟨e1, e2⟩ := eqS_rel r1 r2 h; exact ⟨e1, by rw [e2]; exact kk.go m (.bl _)⟩
theorem c_neS {d1 d2 : D} {k : Bool} (ha : RE B X a Γ (.val d1)) (hb : RE B X b Γ (.val d2)) (h : eqS d1 d2 = some k) : CO B X .NotEq a b Γ (!k) :=
  co_of op_ne (nomark _) ha hb fun W σ H F x y m r1 r2 Q kk => by obtain ⟨e1, e2⟩ := eqS_rel r1 r2 h; exact ⟨e1, by rw [e2]; exact kk.go m (.bl _)⟩
def isNon : D → Bool
  | .non => true
  | _ => false
theorem isNon_rel {K : PySem.W.Frag} {F : Hp} {x : V} {d : D} (r : Rp K F x d) : decide (x = .non) = isNon d := by cases r <;> simp [isNon]
theorem c_isN {d : D} {j} {p2 : Pos} (ha : RE B X a Γ (.val d)) : CO B X .Is a (.Constant .none j p2) Γ (isNon d) :=
  co_of op_isN (nomark _) ha re_non fun W σ H F x y m r1 r2 Q kk => by cases r2; exact ⟨rfl, by rw [isNon_rel r1]; exact kk.go m (.bl _)⟩
theorem c_notN {d : D} {j} {p2 : Pos} (ha : RE B X a Γ (.val d)) : CO B X .IsNot a (.Constant .none j p2) Γ (!isNon d) :=
  co_of op_notN (nomark _) ha re_non fun W σ H F x y m r1 r2 Q kk => by cases r2; exact ⟨rfl, by rw [isNon_rel r1]; exact kk.go m (.bl _)⟩
/-- one sign in a text -/
theorem c_inC {n : Nat} {z : Str} (hm : behindInMarks .In b = false) (ha : RE B X a Γ (.val (.str ⟨#[n]⟩))) (hb : RE B X b Γ (.val (.str z))) : CO B X .In a b Γ (decide (n ∈ z.cps.toList)) :=
  co_of op_in_sign hm ha hb fun W σ H F x y m r1 r2 Q kk => by cases r1; cases r2; exact ⟨n, z, rfl, rfl, kk.go m (.bl _)⟩
theorem c_niC {n : Nat} {z : Str} (hm : behindInMarks .NotIn b = false) (ha : RE B X a Γ (.val (.str ⟨#[n]⟩))) (hb : RE B X b Γ (.val (.str z))) : CO B X .NotIn a b Γ (!decide (n ∈ z.cps.toList)) :=
  co_of op_notIn_sign hm ha hb fun W σ H F x y m r1 r2 Q kk => by cases r1; cases r2; exact ⟨n, z, rfl, rfl, kk.go m (.bl _)⟩
/-- a < b < c of ints and its like -/
def CO3 (B : Bs) (X : Cx) (op op' : CmpOp) (a b c : Expr) (Γ : List SV) (k : Bool) : Prop :=
  ∃ (r r' : R2), OpR X (compareOp op) r ∧ OpR X (compareOp op') r' ∧ lastMarks [op, op'] [b, c] = false ∧ ∀ (W : WX), Takes X W → ∀ (σ : L2.St) (H F : Hp), Mt X.K B F H σ Γ → ∀ Q : VK, (∀ H' F', Mt X.K B F' H' σ Γ → Same F F' → Q (.bl k) H') →
    tChain r r' (tAny X a) (tAny X b) (tAny X c) σ H Q
theorem re_co3 {op op' : CmpOp} {k : Bool} (h : CO3 B X op op' a b c Γ k) : RE B X (.Compare a [op, op'] [b, c] pos) Γ (.val (.bl k)) := fun W tk σ H F m Q kk => by
  obtain ⟨r, r', ho, ho', hm, h⟩ := h
  exact toE (pe_chain ho ho' anyE anyE anyE hm) (h W tk σ H F m Q fun H' F' m' s => kk _ _ _ m' s (.bl _))
theorem rt_co3 {op op' : CmpOp} {k : Bool} (h : CO3 B X op op' a b c Γ k) : RT B X (.Compare a [op, op'] [b, c] pos) Γ k := fun W tk σ H F m Q kk => by
  obtain ⟨r, r', ho, ho', hm, h⟩ := h
  exact toT (pt_chain ho ho' anyE anyE anyE hm) (h W tk σ H F m _ fun H' F' m' s => ⟨k, rfl, kk _ _ m' s⟩)
theorem c3_of {op op' : CmpOp} {g g' : Int → Int → Bool} {i j l : Int} (ho : OpR X (compareOp op) (rI0 fun i j => .bl (g i j))) (ho' : OpR X (compareOp op') (rI0 fun i j => .bl (g' i j))) (hm : lastMarks [op, op'] [b, c] = false)
    (ha : RE B X a Γ (.val (.int i))) (hb : RE B X b Γ (.val (.int j))) (hc : RE B X c Γ (.val (.int l))) : CO3 B X op op' a b c Γ (g i j && g' j l) := ⟨_, _, ho, ho', hm, fun W tk σ H F m Q k =>
  ha W tk σ H F m _ fun x H1 F1 m1 s1 r1 => hb W tk σ H1 F1 m1 _ fun y H2 F2 m2 s2 r2 => by
    cases r1; cases r2
    refine ⟨i, j, rfl, rfl, _, rfl, ?_⟩
    cases hg : g i j with
    | false => rw [hg] at k; exact ite_ff (k _ _ m2 (s1.trans s2))
    | true =>
      rw [hg] at k
      refine ite_tt (hc W tk σ H2 F2 m2 _ fun z H3 F3 m3 s3 r3 => ?_)
      cases r3
      exact ⟨j, l, rfl, rfl, k _ _ m3 ((s1.trans s2).trans s3)⟩⟩
theorem c3_lele {i j l : Int} (ha : RE B X a Γ (.val (.int i))) (hb : RE B X b Γ (.val (.int j))) (hc : RE B X c Γ (.val (.int l))) (hm : lastMarks [.LtE, .LtE] [b, c] = false := by with_unfolding_all rfl) :
    CO3 B X .LtE .LtE a b c Γ (decide (i ≤ j) && decide (j ≤ l)) := c3_of (g := fun i j => decide (i ≤ j)) (g' := fun i j => decide (i ≤ j)) op_le op_le hm ha hb hc
theorem c3_lelt {i j l : Int} (ha : RE B X a Γ (.val (.int i))) (hb : RE B X b Γ (.val (.int j))) (hc : RE B X c Γ (.val (.int l))) (hm : lastMarks [.LtE, .Lt] [b, c] = false := by with_unfolding_all rfl) :
    CO3 B X .LtE .Lt a b c Γ (decide (i ≤ j) && decide (j < l)) := c3_of (g := fun i j => decide (i ≤ j)) (g' := fun i j => decide (i < j)) op_le op_lt hm ha hb hc

/-! ### and, or, not, if, as values -/
theorem re_one {op} {o : RO} (h : RE B X a Γ o) : RE B X (.BoolOp op [a] pos) Γ o := fun W tk σ H F m Q k => toE (pe_one anyE) (h W tk σ H F m Q k)
theorem re_and {k1 k2 : Bool} {rest : List Expr} (ha : RE B X a Γ (.val (.bl k1))) (hb : k1 = true → RE B X (.BoolOp .And (b :: rest) pos) Γ (.val (.bl k2))) : RE B X (.BoolOp .And (a :: b :: rest) pos) Γ (.val (.bl (k1 && k2))) := fun W tk σ H F m Q k =>
  toE (pe_and anyE anyE) (ha W tk σ H F m _ fun x H1 F1 m1 s1 r1 => by
    cases r1
    refine ⟨k1, rfl, ?_⟩
    have k2 := k.mono s1
    cases k1 with
    | false => exact ite_ff (k2.go m1 (.bl _))
    | true => exact ite_tt (hb rfl W tk σ H1 F1 m1 Q k2))
theorem re_or {k1 k2 : Bool} {rest : List Expr} (ha : RE B X a Γ (.val (.bl k1))) (hb : k1 = false → RE B X (.BoolOp .Or (b :: rest) pos) Γ (.val (.bl k2))) : RE B X (.BoolOp .Or (a :: b :: rest) pos) Γ (.val (.bl (k1 || k2))) := fun W tk σ H F m Q k =>
  toE (pe_or anyE anyE) (ha W tk σ H F m _ fun x H1 F1 m1 s1 r1 => by
    cases r1
    refine ⟨k1, rfl, ?_⟩
    have k2 := k.mono s1
    cases k1 with
    | true => exact ite_tt (k2.go m1 (.bl _))
    | false => exact ite_ff (hb rfl W tk σ H1 F1 m1 Q k2))
theorem re_not {k1 : Bool} (ha : RE B X a Γ (.val (.bl k1))) : RE B X (.UnaryOp .Not a pos) Γ (.val (.bl (!k1))) := fun W tk σ H F m Q k =>
  toE (pe_not anyE) (ha W tk σ H F m _ fun x H1 F1 m1 s1 r1 => by cases r1; exact ⟨k1, rfl, (k.mono s1).go m1 (.bl _)⟩)
theorem re_if {k1 : Bool} {o : RO} (hc : RT B X c Γ k1) (ha : k1 = true → RE B X a Γ o) (hb : k1 = false → RE B X b Γ o) : RE B X (.IfExp c a b pos) Γ o := fun W tk σ H F m Q k =>
  toE (pe_ifExp anyT anyE anyE) (hc W tk σ H F m _ fun H1 F1 m1 s1 => by
    cases k1 with
    | true => exact ite_tt (ha rfl W tk σ H1 F1 m1 Q (k.mono s1))
    | false => exact ite_ff (hb rfl W tk σ H1 F1 m1 Q (k.mono s1)))
theorem re_is {o o' : RO} (h : RE B X e Γ o) (q : o = o') : RE B X e Γ o' := q ▸ h

/-! ### tests -/
theorem rt_val {k : Bool} (h : RE B X e Γ (.val (.bl k))) (he : ∀ whole, isTrue e X.env whole = (do let v ← whole; standAt e.pos; holding [v] (truthy v)) := by intro _; rfl) : RT B X e Γ k := fun W tk σ H F m Q kk =>
  toT (pt_val anyE he) (h W tk σ H F m _ fun v H' F' m' s r => by cases r; exact ⟨k, rfl, kk _ _ m' s⟩)
/-- a value's truth -/
def truD : D → Option Bool
  | .non => some false | .bl b => some b | .int i => some (i != 0) | .tup ds => some (!ds.isEmpty) | .lst ds => some (!ds.isEmpty)
  | _ => none
theorem RpL.emp {K : PySem.W.Frag} {F : Hp} {vs : List V} {ds : List D} (r : RpL K F vs ds) : (!vs.isEmpty) = !ds.isEmpty := by cases r <;> rfl
theorem truD_rel {K : PySem.W.Frag} {F H : Hp} {x : V} {d : D} {k : Bool} (s : Same F H) (r : Rp K F x d) (h : truD d = some k) : TruV K x H k := by
  cases r with
  | non => simp [truD] at h; exact h
  | bl b => simp [truD] at h; exact h.symm
  | int i => simp only [truD, Option.some.injEq] at h; exact h.symm
  | str i => simp [truD] at h
  | tup q r => simp only [truD, Option.some.injEq] at h; exact .inr (.inl ⟨_, same_sqT s q, by rw [r.emp]; exact h.symm⟩)
  | lst q r => simp only [truD, Option.some.injEq] at h; exact .inl ⟨_, same_sqL s q, by rw [r.emp]; exact h.symm⟩
  | ins q r => simp [truD] at h
theorem rt_tru {d : D} {k : Bool} (h : RE B X e Γ (.val d)) (hd : truD d = some k) (he : ∀ whole, isTrue e X.env whole = (do let v ← whole; standAt e.pos; holding [v] (truthy v)) := by intro _; rfl) : RT B X e Γ k := fun W tk σ H F m Q kk =>
  toT (pt_truth anyE he) (h W tk σ H F m _ fun v H' F' m' s r => ⟨k, truD_rel m'.mb.sub r hd, kk _ _ m' s⟩)
theorem rt_not {k : Bool} (h : RT B X a Γ k) : RT B X (.UnaryOp .Not a pos) Γ (!k) := fun W tk σ H F m Q kk => toT (pt_not anyT) (h W tk σ H F m _ fun H' F' m' s => kk _ _ m' s)
def tAnyW (X : Cx) (e : Expr) : TT := fun σ H Q => ∀ (whole : Sem Value) (pins : List (Addr × Obj)) (s : Shared), Inv X pins σ H s → wpAny (model X.prog X.w) X.A (isTrue e X.env whole) (TP X pins σ Q) X.xe s
theorem anyW : PW X e (tAnyW X e) := ⟨fun whole pins s _ _ _ I h => h whole pins s I⟩
theorem toW {t : TT} (h : PW X e t) {σ : L2.St} {H : Hp} {Q : Bool → Hp → Prop} (q : t σ H Q) : tAnyW X e σ H Q := fun whole pins s I => h.run whole pins s σ H Q I q
def RW (B : Bs) (X : Cx) (e : Expr) (Γ : List SV) (b : Bool) : Prop := ∀ (W : WX), Takes X W → ∀ (σ : L2.St) (H F : Hp), Mt X.K B F H σ Γ → ∀ Q : Bool → Hp → Prop, (∀ H' F', Mt X.K B F' H' σ Γ → Same F F' → Q b H') → tAnyW X e σ H Q
theorem rt_w {k : Bool} (h : RW B X e Γ k) : RT B X e Γ k := fun W tk σ H F m Q kk => toT anyW.pt (h W tk σ H F m Q kk)
theorem rw_and1 {k : Bool} (h : RT B X a Γ k) : RW B X (.BoolOp .And [a] pos) Γ k := fun W tk σ H F m Q kk => toW (pw_and1 anyT) (h W tk σ H F m Q kk)
theorem rw_or1 {k : Bool} (h : RT B X a Γ k) : RW B X (.BoolOp .Or [a] pos) Γ k := fun W tk σ H F m Q kk => toW (pw_or1 anyT) (h W tk σ H F m Q kk)
theorem rw_and {k1 k2 : Bool} {rest : List Expr} (ha : RT B X a Γ k1) (hb : k1 = true → RW B X (.BoolOp .And (b :: rest) pos) Γ k2) : RW B X (.BoolOp .And (a :: b :: rest) pos) Γ (k1 && k2) := fun W tk σ H F m Q kk =>
  toW (pw_and anyT anyW) (ha W tk σ H F m _ fun H' F' m' s => by
    cases k1 with
    | true => exact ite_tt (hb rfl W tk σ H' F' m' Q fun H2 F2 m2 s2 => kk _ _ m2 (s.trans s2))
    | false => exact ite_ff (kk _ _ m' s))
theorem rw_or {k1 k2 : Bool} {rest : List Expr} (ha : RT B X a Γ k1) (hb : k1 = false → RW B X (.BoolOp .Or (b :: rest) pos) Γ k2) : RW B X (.BoolOp .Or (a :: b :: rest) pos) Γ (k1 || k2) := fun W tk σ H F m Q kk =>
  toW (pw_or anyT anyW) (ha W tk σ H F m _ fun H' F' m' s => by
    cases k1 with
    | false => exact ite_ff (hb rfl W tk σ H' F' m' Q fun H2 F2 m2 s2 => kk _ _ m2 (s.trans s2))
    | true => exact ite_tt (kk _ _ m' s))
theorem rt_is {k k' : Bool} (h : RT B X e Γ k) (q : k = k') : RT B X e Γ k' := q ▸ h

/-! ### lists and tuples that are looked at -/
def SqB (K : PySem.W.Frag) (H : Hp) (p : Addr) (vs : List V) : Bool → Prop
  | true => SqL K H p vs
  | false => SqT K H p vs
theorem SqB.or {K : PySem.W.Frag} {H : Hp} {p : Addr} {vs : List V} : ∀ {t : Bool}, SqB K H p vs t → SqL K H p vs ∨ SqT K H p vs
  | true, h => .inl h
  | false, h => .inr h
/-- e is a list (true) or a tuple of ds; it stays one while nothing owned changes -/
def RP (B : Bs) (X : Cx) (e : Expr) (Γ : List SV) (t : Bool) (ds : List D) : Prop := ∀ (W : WX), Takes X W → ∀ (σ : L2.St) (H F : Hp), Mt X.K B F H σ Γ → ∀ Q : VK,
  (∀ p H' F', Mt X.K B F' H' σ Γ → Same F F' → (∀ H2 F2, Mt X.K B F2 H2 σ Γ → Same F' F2 → ∃ vs, SqB X.K H2 p vs t ∧ RpL X.K F2 vs ds) → Q (.ref p) H') → tAny X e σ H Q
theorem rp_lst {ds : List D} (h : RE B X e Γ (.val (.lst ds))) : RP B X e Γ true ds := fun W tk σ H F m Q k =>
  h W tk σ H F m Q fun v H' F' m' s r => by
    cases r with
    | lst q r => exact k _ _ _ m' s fun H2 F2 m2 s2 => ⟨_, same_sqL (s2.trans m2.mb.sub) q, r.mono s2⟩
theorem rp_tup {ds : List D} (h : RE B X e Γ (.val (.tup ds))) : RP B X e Γ false ds := fun W tk σ H F m Q k =>
  h W tk σ H F m Q fun v H' F' m' s r => by
    cases r with
    | tup q r => exact k _ _ _ m' s fun H2 F2 m2 s2 => ⟨_, same_sqT (s2.trans m2.mb.sub) q, r.mono s2⟩
theorem rp_own (i : Nat) {x : Str} {ds : List D} (hΓ : Γ[i]? = some (.own (.lst ds))) (hN : X.N[i]? = some x := by rfl) (hv : Vis X.env.scope x := by first | exact Or.inl rfl | exact Or.inr (Or.inl rfl) | exact Or.inr (Or.inr rfl))
    (h1 : (x == ("__debug__" : Str)) = false := by decide) (h2 : (x == ("__classdict__" : Str)) = false := by decide) : RP B X (.Name x pos) Γ true ds := fun W _ σ H F m Q k => by
  obtain ⟨p, e1, n0, w⟩ := m.own hΓ
  refine toE (pe_var hN hv h1 h2) ⟨.ref p, e1, k p H F m (.refl F) fun H2 F2 m2 s2 => ?_⟩
  obtain ⟨p', e2, _, _, vs, e3, r3⟩ := m2.own hΓ
  rw [e1] at e2; cases e2
  exact ⟨vs, SqL.of e3, r3⟩

/-! ### arguments -/
theorem rl_nil : RL B X [] Γ (.ok []) := fun W tk σ H F m Q k => toA pa_nil (k _ _ _ m (.refl F) .nil)
theorem rl_cons {d : D} {ds : List D} (ha : RE B X e Γ (.val d)) (hr : RL B X es Γ (.ok ds)) (hs : starEach (e :: es) X.env = (false, eval e X.env) :: starEach es X.env := by rfl) : RL B X (e :: es) Γ (.ok (d :: ds)) := fun W tk σ H F m Q k =>
  toA (pa_cons anyE anyA hs) (ha W tk σ H F m _ fun x H1 F1 m1 s1 r1 => hr W tk σ H1 F1 m1 _ fun xs H2 F2 m2 s2 r2 => k _ _ _ m2 (s1.trans s2) (.cons (r1.mono s2) r2))
theorem rl_consX {x : Exn} (ha : RE B X e Γ (.exc x)) (hs : starEach (e :: es) X.env = (false, eval e X.env) :: starEach es X.env := by rfl) : RL B X (e :: es) Γ (.error x) := fun W tk σ H F m Q k =>
  toA (pa_cons anyE anyA hs) (ha W tk σ H F m _ fun c d H1 F1 m1 s1 r1 => k c d _ _ m1 s1 r1)
theorem rl_consY {d : D} {x : Exn} (ha : RE B X e Γ (.val d)) (hr : RL B X es Γ (.error x)) (hs : starEach (e :: es) X.env = (false, eval e X.env) :: starEach es X.env := by rfl) : RL B X (e :: es) Γ (.error x) := fun W tk σ H F m Q k =>
  toA (pa_cons anyE anyA hs) (ha W tk σ H F m _ fun v H1 F1 m1 s1 r1 => hr W tk σ H1 F1 m1 _ fun c d H2 F2 m2 s2 r2 => k c d _ _ m2 (s1.trans s2) r2)

/-! ### displays -/
theorem re_tup {ds : List D} {j} (h : RL B X es Γ (.ok ds)) (hz : ds.length ≤ sizeLine := by show _ ≤ 16777216; simp) : RE B X (.Tuple es j pos) Γ (.val (.tup ds)) := fun W tk σ H F m Q k =>
  toE (pe_tup anyA) (h W tk σ H F m _ fun vs H' F' m' s r => ⟨by rw [r.len]; exact hz, fun p n => (k.mono s).tup m' r n⟩)
theorem re_lst {ds : List D} (h : RL B X es Γ (.ok ds)) (hz : ds.length ≤ sizeLine := by show _ ≤ 16777216; simp) : RE B X (.List es pos) Γ (.frs (.lst ds)) := fun W tk σ H F m Q k =>
  toE (pe_lst anyA) (h W tk σ H F m _ fun vs H' F' m' s r => ⟨by rw [r.len]; exact hz, fun p n => (k.mono s).lst m' r n⟩)

/-! ### built-in functions and types, called -/
def CJ (B : Bs) (X : Cx) (Γ : List SV) (r : List V → Hp → VK → Prop) (ds : List D) (o : RO) : Prop := ∀ (W : WX) (σ : L2.St) (H F : Hp) (vs : List V), Mt X.K B F H σ Γ → RpL X.K F vs ds → ∀ Q : VK, EK X.K B W F σ Γ Q o → r vs H Q
theorem re_callB {id : String} {r : List V → Hp → VK → Prop} {ds : List D} {o : RO} {x : Str} {p : Pos} (hc : CallR X (.builtin id) r) (hm : X.mg x = none) (hv : bootBuiltins x = some (.builtin id)) (ha : RL B X (e :: es) Γ (.ok ds)) (hj : CJ B X Γ r ds o)
    (hg : Gl X x := by rfl) (hn : x ≠ "__name__" := by decide) (hbug : (x == ("__debug__" : Str)) = false := by decide) (he : starEach (e :: es) X.env = (false, eval e X.env) :: starEach es X.env := by rfl) (hpl : (backTo pos (starEach es X.env)).any (·.1) = false := by rfl) :
    RE B X (.Call (.Name x p) (e :: es) [] pos) Γ o := fun W tk σ H F m Q k =>
  toE (pe_callB hc hg hm hv anyA hn hbug he hpl) (ha W tk σ H F m _ fun vs H' F' m' s r => hj W σ H' F' vs m' r Q (k.mono s))
theorem re_callTy {T : String} {r : List V → Hp → VK → Prop} {ds : List D} {o : RO} {x : Str} {p : Pos} (hc : CallR X (.type T) r) (hm : X.mg x = none) (hv : bootBuiltins x = some (.type T)) (ha : RL B X (e :: es) Γ (.ok ds)) (hj : CJ B X Γ r ds o)
    (hg : Gl X x := by rfl) (hn : x ≠ "__name__" := by decide) (hbug : (x == ("__debug__" : Str)) = false := by decide) (he : starEach (e :: es) X.env = (false, eval e X.env) :: starEach es X.env := by rfl) (hpl : (backTo pos (starEach es X.env)).any (·.1) = false := by rfl) :
    RE B X (.Call (.Name x p) (e :: es) [] pos) Γ o := fun W tk σ H F m Q k =>
  toE (pe_callTy hc hg hm hv anyA hn hbug he hpl) (ha W tk σ H F m _ fun vs H' F' m' s r => hj W σ H' F' vs m' r Q (k.mono s))
/-- .. with one list or tuple that is only looked at -/
def PJ (B : Bs) (X : Cx) (Γ : List SV) (r : List V → Hp → VK → Prop) (t : Bool) (ds : List D) (o : RO) : Prop := ∀ (W : WX) (σ : L2.St) (H F : Hp) (p : Addr) (vs : List V), Mt X.K B F H σ Γ → SqB X.K H p vs t → RpL X.K F vs ds → ∀ Q : VK, EK X.K B W F σ Γ Q o → r [.ref p] H Q
theorem re_peekB {id : String} {r : List V → Hp → VK → Prop} {t : Bool} {ds : List D} {o : RO} {x : Str} {p : Pos} (hc : CallR X (.builtin id) r) (hm : X.mg x = none) (hv : bootBuiltins x = some (.builtin id)) (ha : RP B X e Γ t ds) (hj : PJ B X Γ r t ds o)
    (hg : Gl X x := by rfl) (hn : x ≠ "__name__" := by decide) (hbug : (x == ("__debug__" : Str)) = false := by decide) (he : starEach [e] X.env = (false, eval e X.env) :: starEach [] X.env := by rfl) (hpl : (backTo pos (starEach [] X.env)).any (·.1) = false := by rfl) :
    RE B X (.Call (.Name x p) [e] [] pos) Γ o := fun W tk σ H F m Q k =>
  toE (pe_callB hc hg hm hv (pa_cons anyE pa_nil he) hn hbug he hpl) (ha W tk σ H F m _ fun q H' F' m' s st => by obtain ⟨vs, h1, h2⟩ := st H' F' m' (.refl F'); exact hj W σ H' F' q vs m' h1 h2 Q (k.mono s))
theorem re_peekTy {T : String} {r : List V → Hp → VK → Prop} {t : Bool} {ds : List D} {o : RO} {x : Str} {p : Pos} (hc : CallR X (.type T) r) (hm : X.mg x = none) (hv : bootBuiltins x = some (.type T)) (ha : RP B X e Γ t ds) (hj : PJ B X Γ r t ds o)
    (hg : Gl X x := by rfl) (hn : x ≠ "__name__" := by decide) (hbug : (x == ("__debug__" : Str)) = false := by decide) (he : starEach [e] X.env = (false, eval e X.env) :: starEach [] X.env := by rfl) (hpl : (backTo pos (starEach [] X.env)).any (·.1) = false := by rfl) :
    RE B X (.Call (.Name x p) [e] [] pos) Γ o := fun W tk σ H F m Q k =>
  toE (pe_callTy hc hg hm hv (pa_cons anyE pa_nil he) hn hbug he hpl) (ha W tk σ H F m _ fun q H' F' m' s st => by obtain ⟨vs, h1, h2⟩ := st H' F' m' (.refl F'); exact hj W σ H' F' q vs m' h1 h2 Q (k.mono s))
section
variable {p pos : Pos}
theorem re_len (mx : X.mg "len" = none) {t : Bool} {ds : List D} (h : RP B X e Γ t ds) (hg : Gl X "len" := by rfl) (he : starEach [e] X.env = (false, eval e X.env) :: starEach [] X.env := by rfl) : RE B X (.Call (.Name "len" p) [e] [] pos) Γ (.val (.int ds.length)) :=
  re_peekB call_len_seq mx PySem.boot_len h (fun W σ H F q vs m h1 h2 Q k => ⟨q, vs, rfl, h1.or, by rw [h2.len]; exact k.go m (.int _)⟩) hg (he := he)
theorem re_lenS (mx : X.mg "len" = none) {z : Str} (h : RE B X e Γ (.val (.str z))) (hz : z.length ≤ sizeLine) (hg : Gl X "len" := by rfl) (he : starEach [e] X.env = (false, eval e X.env) :: starEach [] X.env := by rfl) : RE B X (.Call (.Name "len" p) [e] [] pos) Γ (.val (.int z.length)) :=
  re_callB call_len_str mx PySem.boot_len (rl_cons h rl_nil he) (fun W σ H F vs m r Q k => by
    cases r with
    | cons r1 r2 => cases r1; cases r2; exact ⟨z, rfl, hz, k.go m (.int _)⟩) hg (he := he)
theorem re_abs (ma : X.mg "abs" = none) {i : Int} (h : RE B X e Γ (.val (.int i))) (hg : Gl X "abs" := by rfl) (he : starEach [e] X.env = (false, eval e X.env) :: starEach [] X.env := by rfl) : RE B X (.Call (.Name "abs" p) [e] [] pos) Γ (.val (.int (if i < 0 then -i else i))) :=
  re_callB call_abs ma (by decide +kernel) (rl_cons h rl_nil he) (fun W σ H F vs m r Q k => by
    cases r with
    | cons r1 r2 => cases r1; cases r2; exact ⟨i, rfl, k.go m (.int _)⟩) hg (he := he)
theorem re_intI (mi : X.mg "int" = none) {i : Int} (h : RE B X e Γ (.val (.int i))) (hg : Gl X "int" := by rfl) (he : starEach [e] X.env = (false, eval e X.env) :: starEach [] X.env := by rfl) : RE B X (.Call (.Name "int" p) [e] [] pos) Γ (.val (.int i)) :=
  re_callTy call_int1 mi (by decide +kernel) (rl_cons h rl_nil he) (fun W σ H F vs m r Q k => by
    cases r with
    | cons r1 r2 => cases r1; cases r2; exact .inl ⟨i, rfl, k.go m (.int _)⟩) hg (he := he)
theorem re_intB (mi : X.mg "int" = none) {i : Bool} (h : RE B X e Γ (.val (.bl i))) (hg : Gl X "int" := by rfl) (he : starEach [e] X.env = (false, eval e X.env) :: starEach [] X.env := by rfl) : RE B X (.Call (.Name "int" p) [e] [] pos) Γ (.val (.int (if i then 1 else 0))) :=
  re_callTy call_int1 mi (by decide +kernel) (rl_cons h rl_nil he) (fun W σ H F vs m r Q k => by
    cases r with
    | cons r1 r2 => cases r1; cases r2; exact .inr ⟨i, rfl, k.go m (.int _)⟩) hg (he := he)
theorem re_max2 (mM : X.mg "max" = none) {b : Expr} {i j : Int} (hc : X.calm = true) (h : RE B X e Γ (.val (.int i))) (h' : RE B X b Γ (.val (.int j))) (hg : Gl X "max" := by rfl) (he : starEach [e, b] X.env = (false, eval e X.env) :: starEach [b] X.env := by rfl) (he2 : starEach [b] X.env = (false, eval b X.env) :: starEach [] X.env := by rfl) :
    RE B X (.Call (.Name "max" p) [e, b] [] pos) Γ (.val (.int (if j > i then j else i))) :=
  re_callB (call_max2 hc) mM (by decide +kernel) (rl_cons h (rl_cons h' rl_nil he2) he) (fun W σ H F vs m r Q k => by
    cases r with
    | cons r1 r2 =>
      cases r2 with
      | cons r2 r3 => cases r1; cases r2; cases r3; exact ⟨i, j, rfl, k.go m (.int _)⟩) hg (he := he) (hpl := by rw [he2]; rfl)
theorem re_min2 (mm : X.mg "min" = none) {b : Expr} {i j : Int} (hc : X.calm = true) (h : RE B X e Γ (.val (.int i))) (h' : RE B X b Γ (.val (.int j))) (hg : Gl X "min" := by rfl) (he : starEach [e, b] X.env = (false, eval e X.env) :: starEach [b] X.env := by rfl) (he2 : starEach [b] X.env = (false, eval b X.env) :: starEach [] X.env := by rfl) :
    RE B X (.Call (.Name "min" p) [e, b] [] pos) Γ (.val (.int (if j < i then j else i))) :=
  re_callB (call_min2 hc) mm (by decide +kernel) (rl_cons h (rl_cons h' rl_nil he2) he) (fun W σ H F vs m r Q k => by
    cases r with
    | cons r1 r2 =>
      cases r2 with
      | cons r2 r3 => cases r1; cases r2; cases r3; exact ⟨i, j, rfl, k.go m (.int _)⟩) hg (he := he) (hpl := by rw [he2]; rfl)
theorem re_list (ml : X.mg "list" = none) {t : Bool} {ds : List D} (h : RP B X e Γ t ds) (hg : Gl X "list" := by rfl) (he : starEach [e] X.env = (false, eval e X.env) :: starEach [] X.env := by rfl) : RE B X (.Call (.Name "list" p) [e] [] pos) Γ (.frs (.lst ds)) :=
  re_peekTy call_list_of ml (by decide +kernel) h (fun W σ H F q vs m h1 h2 Q k => ⟨q, vs, rfl, h1.or, fun l n => k.lst m h2 n⟩) hg (he := he)
theorem re_tupleL (mt : X.mg "tuple" = none) {ds : List D} (h : RP B X e Γ true ds) (hg : Gl X "tuple" := by rfl) (he : starEach [e] X.env = (false, eval e X.env) :: starEach [] X.env := by rfl) : RE B X (.Call (.Name "tuple" p) [e] [] pos) Γ (.val (.tup ds)) :=
  re_peekTy call_tuple_of mt (by decide +kernel) h (fun W σ H F q vs m h1 h2 Q k => ⟨q, vs, rfl, .inl ⟨h1, fun l n => k.tup m h2 n⟩⟩) hg (he := he)
theorem re_tupleT (mt : X.mg "tuple" = none) {ds : List D} (h : RE B X e Γ (.val (.tup ds))) (hg : Gl X "tuple" := by rfl) (he : starEach [e] X.env = (false, eval e X.env) :: starEach [] X.env := by rfl) : RE B X (.Call (.Name "tuple" p) [e] [] pos) Γ (.val (.tup ds)) :=
  re_callTy call_tuple_of mt (by decide +kernel) (rl_cons h rl_nil he) (fun W σ H F vs m r Q k => by
    cases r with
    | cons r1 r2 =>
      cases r2
      cases r1 with
      | tup q r => exact ⟨_, _, rfl, .inr ⟨same_sqT m.mb.sub q, k.go m (.tup q r)⟩⟩) hg (he := he)
theorem re_all (mall : X.mg "all" = none) {bs : List Bool} (hc : X.calm = true) (h : RP B X e Γ true (bs.map D.bl)) (hg : Gl X "all" := by rfl) (he : starEach [e] X.env = (false, eval e X.env) :: starEach [] X.env := by rfl) : RE B X (.Call (.Name "all" p) [e] [] pos) Γ (.val (.bl (bs.all id))) :=
  re_peekB (cr_all hc) mall (by decide +kernel) h (fun W σ H F q vs m h1 h2 Q k => by rw [h2.bls] at h1; exact ⟨q, bs, rfl, h1, k.go m (.bl _)⟩) hg (he := he)
theorem re_any (many : X.mg "any" = none) {bs : List Bool} (hc : X.calm = true) (h : RP B X e Γ true (bs.map D.bl)) (hg : Gl X "any" := by rfl) (he : starEach [e] X.env = (false, eval e X.env) :: starEach [] X.env := by rfl) : RE B X (.Call (.Name "any" p) [e] [] pos) Γ (.val (.bl (bs.any id))) :=
  re_peekB (cr_any hc) many (by decide +kernel) h (fun W σ H F q vs m h1 h2 Q k => by rw [h2.bls] at h1; exact ⟨q, bs, rfl, h1, k.go m (.bl _)⟩) hg (he := he)
theorem re_strI (ms : X.mg "str" = none) {i : Int} (hz : i.natAbs.log2 < 1920) (h : RE B X e Γ (.val (.int i))) (hg : Gl X "str" := by rfl) (he : starEach [e] X.env = (false, eval e X.env) :: starEach [] X.env := by rfl) : RE B X (.Call (.Name "str" p) [e] [] pos) Γ (.val (.str (toString i))) :=
  re_callTy call_str_int ms (by decide +kernel) (rl_cons h rl_nil he) (fun W σ H F vs m r Q k => by
    cases r with
    | cons r1 r2 => cases r1; cases r2; exact ⟨i, rfl, hz, k.go m (.str _)⟩) hg (he := he)
end
end
end DL

/-! DL3: calls of defs, attributes, subscripts; statements; loops; comprehensions; the rule of a def. -/
namespace DL
open PySem PySem.Spec PyProof.Rows L2
section
variable {B : Bs} {X : Cx} {Γ : List SV} {a b c e : Expr} {es : List Expr} {pos : Pos}

/-! ### subscripts, slices -/
theorem re_ix {t : Bool} {ds : List D} {i : Int} {d : D} (ha : RP B X a Γ t ds) (hb : RE B X b Γ (.val (.int i))) (h : atI ds i = some d) (hs : PlainIx b := by intro _ _; rfl) : RE B X (.Subscript a b pos) Γ (.val d) := fun W tk σ H F m Q k =>
  toE (pe_ix ix_seq anyE anyE hs) (ha W tk σ H F m _ fun p H1 F1 m1 s1 st => hb W tk σ H1 F1 m1 _ fun y H2 F2 m2 s2 r2 => by
    cases r2
    obtain ⟨vs, h1, h2⟩ := st H2 F2 m2 s2
    obtain ⟨j, hj, hd⟩ : ∃ j, ixN ds.length i = some j ∧ ds[j]? = some d := by
      unfold atI at h
      cases q : ixN ds.length i with
      | none => rw [q] at h; cases h
      | some j => rw [q] at h; exact ⟨j, rfl, h⟩
    obtain ⟨v, hv, rv⟩ := h2.get hd
    have hat : atI vs i = some v := by unfold atI; rw [h2.len, hj]; exact hv
    have kk := (k.mono (s1.trans s2)).go m2 rv
    cases t with
    | true => exact .inl ⟨p, vs, i, v, rfl, rfl, h1, hat, kk⟩
    | false => exact .inr (.inl ⟨p, vs, i, v, rfl, rfl, h1, hat, kk⟩))
theorem re_ixS {z : Str} {i : Int} {n : Nat} (ha : RE B X a Γ (.val (.str z))) (hb : RE B X b Γ (.val (.int i))) (hz : z.length ≤ sizeLine) (h : atI z.cps.toList i = some n) (hs : PlainIx b := by intro _ _; rfl) : RE B X (.Subscript a b pos) Γ (.val (.str ⟨#[n]⟩)) := fun W tk σ H F m Q k =>
  toE (pe_ix ix_str anyE anyE hs) (ha W tk σ H F m _ fun p H1 F1 m1 s1 r1 => hb W tk σ H1 F1 m1 _ fun y H2 F2 m2 s2 r2 => by
    cases r1; cases r2
    exact ⟨z, i, n, rfl, rfl, hz, h, (k.mono (s1.trans s2)).go m2 (.str _)⟩)
/-- the part of a slice: left out, or an int -/
def RO1 (B : Bs) (X : Cx) (e : Option Expr) (Γ : List SV) (o : Option Int) : Prop := ∃ t : TO, PO X e t ∧ ∀ (W : WX), Takes X W → ∀ (σ : L2.St) (H F : Hp), Mt X.K B F H σ Γ → ∀ Q : Option Int → Hp → Prop, (∀ H' F', Mt X.K B F' H' σ Γ → Same F F' → Q o H') → t σ H Q
theorem ro_none : RO1 B X none Γ none := ⟨_, po_none, fun W tk σ H F m Q k => k _ _ m (.refl F)⟩
theorem ro_some {i : Int} (h : RE B X e Γ (.val (.int i))) : RO1 B X (some e) Γ (some i) := ⟨_, po_some anyE, fun W tk σ H F m Q k => h W tk σ H F m _ fun v H' F' m' s r => by cases r; exact ⟨i, rfl, k _ _ m' s⟩⟩
def cutD (ds : List D) (lo hi : Option Int) : List D := (ds.drop (HT.sIx ds.length 0 lo)).take (HT.sIx ds.length ds.length hi - HT.sIx ds.length 0 lo)
theorem RpL.cut {K : PySem.W.Frag} {F : Hp} {vs : List V} {ds : List D} (r : RpL K F vs ds) (lo hi : Option Int) : RpL K F (cutV vs lo hi) (cutD ds lo hi) := by
  unfold cutV cutD
  rw [r.len]
  exact (r.drop _).take _
theorem re_slL {ds : List D} {lo hi : Option Expr} {l u : Option Int} {p2 : Pos} (ha : RP B X a Γ true ds) (hl : RO1 B X lo Γ l) (hu : RO1 B X hi Γ u) : RE B X (.Subscript a (.Slice lo hi none p2) pos) Γ (.frs (.lst (cutD ds l u))) := fun W tk σ H F m Q k => by
  obtain ⟨t1, p1, h1⟩ := hl
  obtain ⟨t2, p2, h2⟩ := hu
  refine toE (pe_slice sl_list anyE p1 p2) (ha W tk σ H F m _ fun p H1 F1 m1 s1 st => h1 W tk σ H1 F1 m1 _ fun H2 F2 m2 s2 => h2 W tk σ H2 F2 m2 _ fun H3 F3 m3 s3 => ?_)
  obtain ⟨vs, q1, q2⟩ := st H3 F3 m3 (s2.trans s3)
  exact ⟨p, vs, rfl, q1, fun q n => (k.mono ((s1.trans s2).trans s3)).lst m3 (q2.cut l u) n⟩
theorem cut_whole {ds : List D} {l u : Option Int} (h : HT.sIx ds.length 0 l = 0 ∧ HT.sIx ds.length ds.length u = ds.length) : cutD ds l u = ds := by
  unfold cutD
  rw [h.1, h.2]
  simp
theorem re_slT {ds : List D} {lo hi : Option Expr} {l u : Option Int} {p2 : Pos} (ha : RE B X a Γ (.val (.tup ds))) (hl : RO1 B X lo Γ l) (hu : RO1 B X hi Γ u) : RE B X (.Subscript a (.Slice lo hi none p2) pos) Γ (.val (.tup (cutD ds l u))) := fun W tk σ H F m Q k => by
  obtain ⟨t1, p1, h1⟩ := hl
  obtain ⟨t2, p2, h2⟩ := hu
  refine toE (pe_slice sl_tupA anyE p1 p2) (ha W tk σ H F m _ fun v H1 F1 m1 s1 r1 => h1 W tk σ H1 F1 m1 _ fun H2 F2 m2 s2 => h2 W tk σ H2 F2 m2 _ fun H3 F3 m3 s3 => ?_)
  have s13 := s2.trans s3
  have kk := k.mono (s1.trans s13)
  cases r1 with
  | tup q r =>
    refine ⟨_, _, rfl, same_sqT (s13.trans m3.mb.sub) q, fun hw => ?_, fun _ p n => kk.tup m3 ((r.cut l u).mono s13) n⟩
    rw [r.len] at hw
    rw [cut_whole hw] at kk
    exact kk.go m3 (.tup (same_sqT s13 q) (r.mono s13))
/-- t + u of tuples -/
theorem re_addT {ds es : List D} (hz : ds.length + es.length ≤ sizeLine) (ha : RE B X a Γ (.val (.tup ds))) (hb : RE B X b Γ (.val (.tup es))) : RE B X (.BinOp a .Add b pos) Γ (.val (.tup (ds ++ es))) := fun W tk σ H F m Q k =>
  toE (pe_op op_catA anyE anyE) (ha W tk σ H F m _ fun x H1 F1 m1 s1 r1 => hb W tk σ H1 F1 m1 _ fun y H2 F2 m2 s2 r2 => by
    have kk := k.mono (s1.trans s2)
    cases r1 with
    | tup q1 r1 =>
      cases r2 with
      | tup q2 r2 =>
        refine ⟨_, _, _, _, rfl, rfl, same_sqT (s2.trans m2.mb.sub) q1, same_sqT m2.mb.sub q2, by rw [r1.len, r2.len]; exact hz, fun e => ?_, fun _ e => ?_, fun _ _ p n => kk.tup m2 ((r1.mono s2).app r2) n⟩
        · subst e; cases r1; exact kk.go m2 (.tup q2 r2)
        · subst e; cases r2; rw [List.append_nil] at kk; exact kk.go m2 (.tup (same_sqT s2 q1) (r1.mono s2)))
/-- xs + ys of lists -/
theorem op_catS : OpR X (binaryOp .Add) (fun x y H Q => ∃ l b xs zs, x = .ref l ∧ y = .ref b ∧ SqL X.K H l xs ∧ SqL X.K H b zs ∧ xs.length + zs.length ≤ sizeLine ∧ ∀ p, H p = none → Q (.ref p) (upd H p (.lst (xs ++ zs)))) := by
  intro pins s σ H x y v u Q I rx ry h
  obtain ⟨l, b, xs, zs, rfl, rfl, hx, hy, hz, q⟩ := h
  cases rx
  cases ry
  obtain ⟨its, r1, ⟨⟨ca, da, ta, la⟩, n1, o1, c1, d1, t1⟩, z1⟩ := I.list hx
  obtain ⟨its2, r2, ⟨⟨cb, db, tb, lb⟩, n2, o2, c2, d2, t2⟩, z2⟩ := I.list hy
  simp only at c1 d1 t1 c2 d2 t2
  subst c1 d1 t1 c2 d2 t2
  have e1 := r1.length
  have e2 := r2.length
  refine concat_meets ⟨_, o1, rfl⟩ ⟨_, o2, rfl⟩ noFill_list_add seq_list_add PySem.F.slot_list_add PySem.F.entry_list_add (PySem.F.args_list_add_2 _ _) (list_addW l b its.toArray its2.toArray n1 n2 _ _ la lb (by simp; omega)) ⟨o1, o2, ?_⟩
  rw [show its.toArray ++ its2.toArray = (its ++ its2).toArray by simp]
  exact ⟨.ref _, _, I.lnew (t' := s.toks) (Vals.append r1 r2) (by rw [List.length_append]; omega), rfl, q _ I.fresh⟩
theorem re_addL {ds es : List D} (hz : ds.length + es.length ≤ sizeLine) (ha : RE B X a Γ (.val (.lst ds))) (hb : RE B X b Γ (.val (.lst es))) : RE B X (.BinOp a .Add b pos) Γ (.frs (.lst (ds ++ es))) :=
  re_bin op_catS ha hb fun W σ H F x y m r1 r2 Q k => by
    cases r1 with
    | lst q1 r1 =>
      cases r2 with
      | lst q2 r2 => exact ⟨_, _, _, _, rfl, rfl, same_sqL m.mb.sub q1, same_sqL m.mb.sub q2, by rw [r1.len, r2.len]; exact hz, fun p n => k.lst m (r1.app r2) n⟩
end

/-! ### statements -/
section
variable {B : Bs} {X : Cx} {Γ : List SV} {a b c e : Expr} {es : List Expr} {pos pos' : Pos} {post : SO → Prop} {st : Stmt} {rest : List Stmt}
theorem ws_nil (h : post (.nx Γ)) : WS B X [] Γ post := fun W tk σ H F m D k => toB pss_nil (k.nx σ H F Γ h m (.refl F))
def thenS (B : Bs) (X : Cx) (rest : List Stmt) (post : SO → Prop) : SO → Prop
  | .nx Γ' => WS B X rest Γ' post
  | .ret r => post (.ret r)
  | .brk Γ => post (.brk Γ)
  | .cont Γ => post (.cont Γ)
  | .exc x Γ => post (.exc x Γ)
theorem ws_cons (h : W1 B X st Γ (thenS B X rest post)) : WS B X (st :: rest) Γ post := fun W tk σ H F m D k =>
  toB (pss_cons anyS anyB) (h W tk σ H F m { D with nx := tAnyB X rest D } ⟨fun σ' H' F' Γ' p m' s => p W tk σ' H' F' m' D (k.mono s), fun v H' F' r p m' s q => k.rt v H' F' r p m' s q, fun σ' H' F' Γ' p m' s => k.bk σ' H' F' Γ' p m' s,
    fun σ' H' F' Γ' p m' s => k.ct σ' H' F' Γ' p m' s, fun c d σ' H' F' Γ' x p m' s r => k.ex c d σ' H' F' Γ' x p m' s r⟩)
theorem ws_one (h : W1 B X st Γ post) : WS B X [st] Γ post := fun W tk σ H F m D k => toB (pss_one anyS) (h W tk σ H F m D k)
theorem ws_frz (i : Nat) {ds : List D} {sts : List Stmt} (hΓ : Γ[i]? = some (.own (.lst ds))) (h : WS B X sts (Γ.set i (.dat (.lst ds))) post) : WS B X sts Γ post := fun W tk σ H F m D k => by
  obtain ⟨p, e1, n0, w⟩ := m.own hΓ
  obtain ⟨nf, vs, e2, r⟩ := w
  have sf : Same F (upd F p (.lst vs)) := fun b x q => by rw [upd_ne (ne_of_none q nf)]; exact q
  have m0 : Mt X.K B (upd F p (.lst vs)) H σ (Γ.set i (.dat (.lst ds))) := by
    have mw : Mt X.K B F H σ (Γ.set i .un) := m.weak (List.length_set ..) fun j sv q => by
      by_cases z : i = j
      · subst z
        rw [List.getElem?_set_self (List.getElem?_eq_some_iff.mp hΓ).1] at q; cases q; exact .inl rfl
      · rw [List.getElem?_set_ne z] at q; exact .inr q
    have ap : Apart σ (Γ.set i .un) p := fun j o q z => by
      by_cases z2 : i = j
      · subst z2
        rw [List.getElem?_set_self (List.getElem?_eq_some_iff.mp hΓ).1] at q; cases q
      · rw [List.getElem?_set_ne z2] at q; exact m.sep i j _ _ p z2 hΓ q e1 z
    obtain ⟨mf, _⟩ := mw.freeze e2 nf n0 ap
    have mp := mf.put i (v := .ref p) (d := .lst ds) (.lst (SqL.of upd_same) (r.mono sf))
    rw [List.set_set] at mp
    have es : σ.set i (some (.ref p)) = σ := by
      apply List.ext_getElem?
      intro j
      by_cases z : i = j
      · subst z
        rw [List.getElem?_set_self (List.getElem?_eq_some_iff.mp e1).1, e1]
      · rw [List.getElem?_set_ne z]
    rw [es] at mp
    exact mp
  exact h W tk σ H _ m0 D (k.mono sf)
theorem w1_pass (h : post (.nx Γ)) : W1 B X (.Pass pos) Γ post := fun W tk σ H F m D k => toS ps_pass (k.nx σ H F Γ h m (.refl F))
theorem w1_break (h : post (.brk Γ)) : W1 B X (.Break pos) Γ post := fun W tk σ H F m D k => toS ps_break (k.bk σ H F Γ h m (.refl F))
theorem w1_cont (h : post (.cont Γ)) : W1 B X (.Continue pos) Γ post := fun W tk σ H F m D k => toS ps_continue (k.ct σ H F Γ h m (.refl F))
theorem w1_set (i : Nat) {x : Str} {d : D} (hd : X.N.Nodup) (he : RE B X e Γ (.val d)) (h : post (.nx (Γ.set i (.dat d)))) (hi : X.N[i]? = some x := by rfl) (hx : Loc X.env.scope x := by first | exact .inl rfl | exact .inr rfl)
    (hs : swapsWith e (some (.Name x pos')) pos.line X.env = pure false := by rfl) (hf : X.fn x = true ∨ X.env.scope.names.lookup x = some .local := by first | exact .inl rfl | exact .inr rfl) : W1 B X (.Assign [.Name x pos'] e pos) Γ post := fun W tk σ H F m D k =>
  toS (ps_set hd hi hx anyE hs hf) (he W tk σ H F m _ fun v H' F' m' s r => k.nx _ H' F' _ h (m'.put i r) s)
theorem w1_setO (i : Nat) {x : Str} {o : OD} (hd : X.N.Nodup) (he : RE B X e Γ (.frs o)) (h : post (.nx (Γ.set i (.own o)))) (hi : X.N[i]? = some x := by rfl) (hx : Loc X.env.scope x := by first | exact .inl rfl | exact .inr rfl)
    (hs : swapsWith e (some (.Name x pos')) pos.line X.env = pure false := by rfl) (hf : X.fn x = true ∨ X.env.scope.names.lookup x = some .local := by first | exact .inl rfl | exact .inr rfl) : W1 B X (.Assign [.Name x pos'] e pos) Γ post := fun W tk σ H F m D k =>
  toS (ps_set hd hi hx anyE hs hf) (he W tk σ H F m _ fun p H' F' m' s n0 ap w => k.nx _ H' F' _ h (m'.putOwn i n0 ap w) s)
theorem w1_setX {x : Str} {i : Nat} {z : Exn} (hd : X.N.Nodup) (he : RE B X e Γ (.exc z)) (h : post (.exc z Γ)) (hi : X.N[i]? = some x) (hx : Loc X.env.scope x := by first | exact .inl rfl | exact .inr rfl)
    (hs : swapsWith e (some (.Name x pos')) pos.line X.env = pure false := by rfl) (hf : X.fn x = true ∨ X.env.scope.names.lookup x = some .local := by first | exact .inl rfl | exact .inr rfl) : W1 B X (.Assign [.Name x pos'] e pos) Γ post := fun W tk σ H F m D k =>
  toS (ps_set hd hi hx anyE hs hf) (he W tk σ H F m _ fun c d H' F' m' s r => k.ex c d σ H' F' Γ z h m' s r)
theorem w1_expr {d : D} (he : RE B X e Γ (.val d)) (h : post (.nx Γ)) (hs : swapsWith e none pos.line X.env = pure false := by rfl) : W1 B X (.Expr e pos) Γ post := fun W tk σ H F m D k =>
  toS (ps_expr anyE hs) (he W tk σ H F m _ fun v H' F' m' s r => k.nx σ H' F' Γ h m' s)
theorem w1_exprX {z : Exn} (he : RE B X e Γ (.exc z)) (h : post (.exc z Γ)) (hs : swapsWith e none pos.line X.env = pure false := by rfl) : W1 B X (.Expr e pos) Γ post := fun W tk σ H F m D k =>
  toS (ps_expr anyE hs) (he W tk σ H F m _ fun c d H' F' m' s r => k.ex c d σ H' F' Γ z h m' s r)
theorem w1_ret {d : D} (he : RE B X e Γ (.val d)) (h : post (.ret (.val d))) : W1 B X (.Return (some e) pos) Γ post := fun W tk σ H F m D k =>
  toS (ps_ret anyE) (he W tk σ H F m _ fun v H' F' m' s r => k.rt v H' F' _ h m'.mb s r)
theorem w1_retO {o : OD} (he : RE B X e Γ (.frs o)) (h : post (.ret (.frs o))) : W1 B X (.Return (some e) pos) Γ post := fun W tk σ H F m D k =>
  toS (ps_ret anyE) (he W tk σ H F m _ fun p H' F' m' s n0 ap w => k.rt _ H' F' _ h m'.mb s ⟨p, rfl, n0, w⟩)
theorem w1_retX {z : Exn} (he : RE B X e Γ (.exc z)) (h : post (.exc z Γ)) : W1 B X (.Return (some e) pos) Γ post := fun W tk σ H F m D k =>
  toS (ps_ret anyE) (he W tk σ H F m _ fun c d H' F' m' s r => k.ex c d σ H' F' Γ z h m' s r)
/-- return x, x an owned object's only name -/
theorem w1_retN (i : Nat) {x : Str} {o : OD} (hΓ : Γ[i]? = some (.own o)) (h : post (.ret (.frs o))) (hN : X.N[i]? = some x := by rfl) (hv : Vis X.env.scope x := by first | exact Or.inl rfl | exact Or.inr (Or.inl rfl) | exact Or.inr (Or.inr rfl))
    (h1 : (x == ("__debug__" : Str)) = false := by decide) (h2 : (x == ("__classdict__" : Str)) = false := by decide) : W1 B X (.Return (some (.Name x pos')) pos) Γ post := fun W tk σ H F m D k => by
  obtain ⟨p, e1, n0, w⟩ := m.own hΓ
  exact toS (ps_ret (pe_var hN hv h1 h2)) ⟨.ref p, e1, k.rt _ H F _ h m.mb (.refl F) ⟨p, rfl, n0, w⟩⟩
theorem w1_retNone (h : post (.ret (.val .non))) : W1 B X (.Return none pos) Γ post := fun W tk σ H F m D k => toS ps_retN (k.rt .non H F _ h m.mb (.refl F) .non)
theorem w1_if {k1 : Bool} {x y : List Stmt} (hc : RT B X c Γ k1) (ha : k1 = true → WS B X x Γ post) (hb : k1 = false → WS B X y Γ post) : W1 B X (.If c x y pos) Γ post := fun W tk σ H F m D k =>
  toS (ps_if anyT anyB anyB) (hc W tk σ H F m _ fun H' F' m' s => by
    cases k1 with
    | true => exact ite_tt (ha rfl W tk σ H' F' m' D (k.mono s))
    | false => exact ite_ff (hb rfl W tk σ H' F' m' D (k.mono s)))
/-- xs.append(e), xs an owned list -/
theorem w1_append (i : Nat) {ds : List D} {d : D} {call : Expr} (hΓ : Γ[i]? = some (.own (.lst ds))) (hp : ∀ t : TE, PE X e t → PE X call (tBM X.K "list" rAppend (tVar i) (tCons t tNil))) (he : RE B X e Γ (.val d)) (hz : ds.length < sizeLine) (h : post (.nx (Γ.set i (.own (.lst (ds ++ [d]))))))
    (hs : swapsWith call none pos.line X.env = pure false := by rfl) : W1 B X (.Expr call pos) Γ post := fun W tk σ H F m D k => by
  obtain ⟨p, e1, n0, w⟩ := m.own hΓ
  refine toS (ps_expr (hp _ anyE) hs) ⟨.ref p, e1, ?_, he W tk σ H F m _ fun v H' F' m' s r => ?_⟩
  · obtain ⟨_, vs, e2, _⟩ := w
    exact .inl ⟨rfl, vs, SqL.of e2⟩
  · obtain ⟨p', e1', _, w'⟩ := m'.own hΓ
    rw [e1] at e1'; cases e1'
    obtain ⟨nf, vs, e2, r2⟩ := w'
    exact ⟨p, vs, v, rfl, rfl, e2, by rw [r2.len]; exact hz, k.nx σ _ F' _ h (m'.mut hΓ e1 ⟨nf, _, upd_same, r2.app (.cons r .nil)⟩) s⟩
/-- xs[j] = e -/
theorem w1_setAt (i : Nat) {x : Str} {ds : List D} {d : D} {j : Int} {n : Nat} {p1 p2 : Pos} (hΓ : Γ[i]? = some (.own (.lst ds))) (he : RE B X e Γ (.val d)) (hj : RE B X b Γ (.val (.int j))) (hn : ixN ds.length j = some n) (h : post (.nx (Γ.set i (.own (.lst (ds.set n d)))))) (hN : X.N[i]? = some x := by rfl)
    (hv : Vis X.env.scope x := by first | exact Or.inl rfl | exact Or.inr (Or.inl rfl) | exact Or.inr (Or.inr rfl)) (h1 : (x == ("__debug__" : Str)) = false := by decide) (h2 : (x == ("__classdict__" : Str)) = false := by decide)
    (ha : ∀ v, assign (.Subscript (.Name x p1) b p2) X.env v = (do
      let ov ← holding [v] (eval (.Name x p1) X.env)
      let iv ← holding [v, ov] (eval b X.env)
      standAt p2
      holding [v, ov, iv] (setItem ov iv v)
      release [v, ov, iv] []) := by intro _; rfl)
    (hs : swapsWithSole [.Subscript (.Name x p1) b p2] e pos.line X.env = pure false := by rfl) (hw : swappedStores [.Subscript (.Name x p1) b p2] e X.env = pure none := by rfl)
    (h3 : (assignEach [.Subscript (.Name x p1) b p2] X.env).map (·.2) = [assign (.Subscript (.Name x p1) b p2) X.env] := by rfl) :
    W1 B X (.Assign [.Subscript (.Name x p1) b p2] e pos) Γ post := fun W tk σ H F m D k => by
  obtain ⟨p, e1, n0, w⟩ := m.own hΓ
  refine toS (ps_asg anyE (pg_sub (pe_var hN hv h1 h2) anyE set_list ha) hs hw h3) (he W tk σ H F m _ fun v H1 F1 m1 s1 r1 => ⟨.ref p, e1, hj W tk σ H1 F1 m1 _ fun y H2 F2 m2 s2 r2 => ?_⟩)
  cases r2
  obtain ⟨p', e1', _, w'⟩ := m2.own hΓ
  rw [e1] at e1'; cases e1'
  obtain ⟨nf, vs, e2, r3⟩ := w'
  exact ⟨p, vs, j, n, rfl, rfl, e2, by rw [r3.len]; exact hn, k.nx σ _ F2 _ h (m2.mut hΓ e1 ⟨nf, _, upd_same, r3.set n (r1.mono s2)⟩) (s1.trans s2)⟩
/-- x += e, x -= e -/
theorem w1_aug (i : Nat) {x : Str} {op : Operator} {f : Int → Int → Int} {u v : Int} (ho : PIp X op (ipI f)) (hd : X.N.Nodup) (hΓ : Γ[i]? = some (.dat (.int u))) (he : RE B X e Γ (.val (.int v))) (h : post (.nx (Γ.set i (.dat (.int (f u v)))))) (hi : X.N[i]? = some x := by rfl)
    (hx : Loc X.env.scope x := by first | exact .inl rfl | exact .inr rfl) (hf : X.fn x = true ∨ X.env.scope.names.lookup x = some .local := by first | exact .inl rfl | exact .inr rfl) : W1 B X (.AugAssign (.Name x pos') op e pos) Γ post := fun W tk σ H F m D k => by
  obtain ⟨w, e1, r1⟩ := m.at hΓ
  cases r1
  refine toS (ps_aug hd hi hx anyE ho hf) ⟨.int u, e1, he W tk σ H F m _ fun y H' F' m' s r => ?_⟩
  cases r
  exact ⟨u, v, rfl, rfl, k.nx _ H' F' _ h (m'.put i (.int _)) s⟩

/-! ### targets -/
def RG (K : PySem.W.Frag) (B : Bs) (g : TG) (Γ : List SV) (d : D) (Γ' : List SV) : Prop := ∀ (σ : L2.St) (H F : Hp) (v : V), Mt K B F H σ Γ → Rp K F v d → ∀ Q : L2.St → Hp → Prop, (∀ σ', Mt K B F H σ' Γ' → Q σ' H) → g v σ H Q
def RGs (K : PySem.W.Frag) (B : Bs) (g : TGs) (Γ : List SV) (ds : List D) (Γ' : List SV) : Prop := ∀ (σ : L2.St) (H F : Hp) (vs : List V), Mt K B F H σ Γ → RpL K F vs ds → ∀ Q : L2.St → Hp → Prop, (∀ σ', Mt K B F H σ' Γ' → Q σ' H) → g vs σ H Q
variable {K : PySem.W.Frag}
theorem rg_name (i : Nat) {d : D} : RG K B (gName i) Γ d (Γ.set i (.dat d)) := fun σ H F v m r Q k => k _ (m.put i r)
theorem rgs_nil : RGs K B gNil Γ [] Γ := fun σ H F vs m r Q k => by cases r; exact ⟨rfl, k _ m⟩
theorem rgs_cons {g : TG} {gs : TGs} {d : D} {ds : List D} {Γ1 Γ2 : List SV} (h : RG K B g Γ d Γ1) (hs : RGs K B gs Γ1 ds Γ2) : RGs K B (gCons g gs) Γ (d :: ds) Γ2 := fun σ H F vs m r Q k => by
  cases r with
  | cons r rs => exact ⟨_, _, rfl, h σ H F _ m r _ fun σ' m' => hs σ' H F _ m' rs Q k⟩
theorem rg_tup {n : Nat} {gs : TGs} {ds : List D} {Γ' : List SV} (hn : ds.length = n) (hs : RGs K B gs Γ ds Γ') : RG K B (gTup K n gs) Γ (.tup ds) Γ' := fun σ H F v m r Q k => by
  cases r with
  | tup q rs => exact ⟨_, _, rfl, same_sqT m.mb.sub q, by rw [rs.len]; exact hn, hs σ H F _ m rs Q k⟩
theorem w1_asg {tg : Expr} {g : TG} {d : D} {Γ' : List SV} (hg : PG X tg g) (he : RE B X e Γ (.val d)) (hr : RG X.K B g Γ d Γ') (h : post (.nx Γ')) (hs : swapsWithSole [tg] e pos.line X.env = pure false := by rfl) (hw : swappedStores [tg] e X.env = pure none := by rfl)
    (h1 : (assignEach [tg] X.env).map (·.2) = [assign tg X.env] := by rfl) : W1 B X (.Assign [tg] e pos) Γ post := fun W tk σ H F m D k =>
  toS (ps_asg anyE hg hs hw h1) (he W tk σ H F m _ fun v H' F' m' s r => hr σ H' F' v m' r _ fun σ' m2 => k.nx σ' H' F' Γ' h m2 s)
theorem w1_asgX {tg : Expr} {g : TG} {z : Exn} (hg : PG X tg g) (he : RE B X e Γ (.exc z)) (h : post (.exc z Γ)) (hs : swapsWithSole [tg] e pos.line X.env = pure false := by rfl) (hw : swappedStores [tg] e X.env = pure none := by rfl)
    (h1 : (assignEach [tg] X.env).map (·.2) = [assign tg X.env] := by rfl) : W1 B X (.Assign [tg] e pos) Γ post := fun W tk σ H F m D k =>
  toS (ps_asg anyE hg hs hw h1) (he W tk σ H F m _ fun c d H' F' m' s r => k.ex c d σ H' F' Γ z h m' s r)
/-- x, y = a, b -/
theorem w1_par (i j : Nat) {x y : Str} {d1 d2 : D} {px py pt : Pos} {kt k2 pt2} (hc : X.calm = true) (hd : X.N.Nodup) (h1 : RE B X a Γ (.val d1)) (h2 : RE B X b Γ (.val d2)) (h : post (.nx ((Γ.set i (.dat d1)).set j (.dat d2)))) (hi : X.N[i]? = some x := by rfl) (hj : X.N[j]? = some y := by rfl) (hij : i ≠ j := by decide)
    (hx : X.env.scope.names.lookup x = some .local := by rfl) (hy : X.env.scope.names.lookup y = some .local := by rfl) (hs1 : starEach [a, b] X.env = (false, eval a X.env) :: starEach [b] X.env := by rfl) (hs2 : starEach [b] X.env = (false, eval b X.env) :: starEach [] X.env := by rfl)
    (hw : swappedStores [.Tuple [.Name x px, .Name y py] kt pt] (.Tuple [a, b] k2 pt2) X.env = pure (some [x, y]) := by rfl)
    (hs : swapsWithSole [.Tuple [.Name x px, .Name y py] kt pt] (.Tuple [a, b] k2 pt2) pos.line X.env = pure false := by rfl) :
    W1 B X (.Assign [.Tuple [.Name x px, .Name y py] kt pt] (.Tuple [a, b] k2 pt2) pos) Γ post := fun W tk σ H F m D k =>
  toS (ps_par hc hd hi hj hij hx hy (pa_cons anyE (pa_cons anyE pa_nil hs2) hs1) hw hs) (h1 W tk σ H F m _ fun v1 H1 F1 m1 s1 r1 => h2 W tk σ H1 F1 m1 _ fun v2 H2 F2 m2 s2 r2 =>
    ⟨v1, v2, rfl, k.nx _ H2 F2 _ h ((m2.put i (r1.mono s2)).put j r2) (s1.trans s2)⟩)
end
end DL

/-! DL4: defs: promises over data, calls, methods, makings; raise; loops, comprehensions. -/
namespace DL
open PySem PySem.Spec PyProof.Rows L2

/-! ### promises -/
/-- what a def's caller gets -/
def DK (K : PySem.W.Frag) (F H : Hp) (Q : VK) (E : XK) : RO → Prop
  | .val d => ∀ v H' F', Grow F H F' H' → Rp K F' v d → Q v H'
  | .frs o => ∀ p H' F', Grow F H F' H' → H p = none → OwnAt K F' H' p o → Q (.ref p) H'
  | .exc x => ∀ c d H' F', Grow F H F' H' → RpX K F' H' x c d → E c d H'
abbrev DSp := List D → RO → Prop
def spD (K : PySem.W.Frag) (S : DSp) : Sp := fun vs H Q E => ∃ (F : Hp) (ds : List D) (o : RO), Same F H ∧ RpL K F vs ds ∧ S ds o ∧ DK K F H Q E o
/-- an __init__: what the instance's fields are behind it -/
abbrev ISp := List D → Except Exn (List (Str × D)) → Prop
def spI (K : PySem.W.Frag) (C : Addr) (S : ISp) : Sp := fun vs Hx Q E => ∃ (F H : Hp) (x dx : Addr) (rest : List V) (ds : List D) (o : Except Exn (List (Str × D))), vs = .ref x :: rest ∧ H x = none ∧ H dx = none ∧ dx ≠ x ∧ Hx = upd (upd H dx (.own x)) x (.ins C dx []) ∧
  Same F H ∧ RpL K F rest ds ∧ S ds o ∧ match o with
    | .ok fs => ∀ H' F', Grow F H F' H' → OwnAt K F' H' x (.ins C fs) → Q .non H'
    | .error z => ∀ c d H' F', Grow F H F' H' → RpX K F' H' z c d → E c d H'

/-- a def of the module at hand: its promise S (the defaults dd fill up) -/
structure Defn (P : Program) (w : World) (K : PySem.W.Frag) (mg : Str → Option Value) (base : Heap) (k : Nat) (x : Str) (dd : List D) (S : DSp) : Prop where
  ex : ∃ (f : Addr) (fd : FuncData) (ps : List Str) (dvs : List V) (dv : List Value), FnOk P w K mg base (L2.CX P w) k f fd ps (spD K S) ∧ mg x = some (.ref f) ∧ PySem.W.keepIn K (.ref f) = true ∧ Binds K fd ps dv ∧ Vals dvs dv ∧ ∀ F, RpL K F dvs dd
structure Mth (P : Program) (w : World) (K : PySem.W.Frag) (mg : Str → Option Value) (base : Heap) (k : Nat) (C : Addr) (x : Str) (dd : List D) (S : DSp) : Prop where
  cls : Cls K C
  ex : ∃ (f : Addr) (fd : FuncData) (ps : List Str) (dvs : List V) (dv : List Value), FnOk P w K mg base (L2.CX P w) k f fd ps (spD K S) ∧ Meth K C x f ∧ Binds K fd ps dv ∧ Vals dvs dv ∧ ∀ F, RpL K F dvs dd
structure Mkr (P : Program) (w : World) (K : PySem.W.Frag) (mg : Str → Option Value) (base : Heap) (k : Nat) (x : Str) (C : Addr) (dd : List D) (S : ISp) : Prop where
  ex : ∃ (f : Addr) (fd : FuncData) (ps : List Str) (dvs : List V) (dv : List Value), FnOk P w K mg base (L2.CX P w) k f fd ps (spI K C S) ∧ Mk K C f ∧ mg x = some (.ref C) ∧ Binds K fd ps dv ∧ Vals dvs dv ∧ ∀ F, RpL K F dvs dd

section
variable {B : Bs} {X : Cx} {Γ : List SV} {a b c e : Expr} {es : List Expr} {pos : Pos} {σ : L2.St} {H F : Hp} {W : WX} {pins : List (Addr × Obj)} {s : Shared} {Q : VK}
theorem EK.dk {o : RO} (m : Mt X.K B F H σ Γ) (k : EK X.K B W F σ Γ Q o) : DK X.K F H Q (fun c d H' => W c d σ H') o := by
  cases o with
  | val d => exact fun v H' F' g r => k v H' F' (m.grow g) g.ff r
  | frs o => exact fun p H' F' g n w => k p H' F' (m.grow g) g.ff (m.mb.h0.free n) (m.apart n) w
  | exc x => exact fun c d H' F' g r => k c d H' F' (m.grow g) g.ff r
theorem run_d {f : Addr} {fd : FuncData} {ps : List Str} {k : Nat} {sp : Sp} {us dv : List Value} {vs dvs : List V} (G : FnOk X.prog X.w X.K X.mg X.base (L2.CX X.prog X.w) k f fd ps sp) (hr : Room k X.A) (hb : Binds X.K fd ps dv) (hd : Vals dvs dv) (tk : Takes X W)
    (I : Inv X pins σ H s) (r : Vals vs us) (h : sp (vs ++ dvs) H Q fun c d H' => W c d σ H') : wpAny (model X.prog X.w) X.A (call (.ref f) us) (EP X pins σ Q) X.xe s := by
  have r2 := Vals.append r hd
  refine wpAny_call (codeAny_mono (G.run X.A X.stack s H ⟨us, []⟩ (us ++ dv) (vs ++ dvs) Q _ hr I.env0 (hb s us I.kIn (by rw [← r2.length]; exact G.len _ _ _ _ h)) r2 h) fun z s' hq => ?_)
  match z, hq with
  | .error u, hq => exact tk u s' (XE.of_call I (fun _ _ _ q => q) hq)
  | .ok (.ret u), hq => exact I.after hq
theorem re_call {x : Str} {p : Pos} {k : Nat} {dd ds : List D} {S : DSp} {o : RO} (G : Defn X.prog X.w X.K X.mg X.base k x dd S) (hr : Room k X.A) (ha : RL B X (e :: es) Γ (.ok ds)) (hs : S (ds ++ dd) o) (hg : Gl X x := by rfl) (hbug : (x == ("__debug__" : Str)) = false := by decide)
    (he : starEach (e :: es) X.env = (false, eval e X.env) :: starEach es X.env := by rfl) (hpl : (backTo pos (starEach es X.env)).any (·.1) = false := by rfl) : RE B X (.Call (.Name x p) (e :: es) [] pos) Γ o := fun W tk σ H F m Q k pins s I => by
  obtain ⟨f, fd, ps, dvs, dv, G, hm, hk, hb, hd, hdd⟩ := G.ex
  refine wpAny_Call_Name_kw (ld_glob I hg hm ?_ hbug)
  refine PySem.W.callWith_K (h₀ := X.base) I.ok.mod.kin hk ?_ he hpl
  refine thn (ha W tk σ H F m (fun vs H1 => ∃ F1, Mt X.K B F1 H1 σ Γ ∧ Same F F1 ∧ RpL X.K F1 vs ds) (fun vs H1 F1 m1 s1 r1 => ⟨F1, m1, s1, r1⟩) pos pins s I) fun us s1 ⟨vs, H1, I1, r, F1, m1, sf, r1⟩ => ⟨I1.kIn, ?_⟩
  exact run_d G hr hb hd tk I1 r ⟨F1, _, o, m1.mb.sub, r1.app (hdd F1), hs, EK.dk m1 (k.mono sf)⟩
theorem re_call0 {x : Str} {p : Pos} {k : Nat} {dd : List D} {S : DSp} {o : RO} (G : Defn X.prog X.w X.K X.mg X.base k x dd S) (hr : Room k X.A) (hs : S dd o) (hg : Gl X x := by rfl) (hbug : (x == ("__debug__" : Str)) = false := by decide) :
    RE B X (.Call (.Name x p) [] [] pos) Γ o := fun W tk σ H F m Q k pins s I => by
  obtain ⟨f, fd, ps, dvs, dv, G, hm, hk, hb, hd, hdd⟩ := G.ex
  refine wpAny_Call_Name_kw (ld_glob I hg hm ?_ hbug)
  exact PySem.W.callWith_K0 I.kIn hk (run_d (vs := []) (us := []) G hr hb hd tk I .nil ⟨F, _, o, m.mb.sub, hdd F, hs, EK.dk m k⟩)
/-- an argument raises -/
theorem re_callX {x : Str} {p : Pos} {k : Nat} {dd : List D} {S : DSp} {z : Exn} (G : Defn X.prog X.w X.K X.mg X.base k x dd S) (ha : RL B X (e :: es) Γ (.error z)) (hg : Gl X x := by rfl) (hbug : (x == ("__debug__" : Str)) = false := by decide)
    (he : starEach (e :: es) X.env = (false, eval e X.env) :: starEach es X.env := by rfl) (hpl : (backTo pos (starEach es X.env)).any (·.1) = false := by rfl) : RE B X (.Call (.Name x p) (e :: es) [] pos) Γ (.exc z) := fun W tk σ H F m Q k pins s I => by
  obtain ⟨f, fd, ps, dvs, dv, G, hm, hk, hb, hd, hdd⟩ := G.ex
  refine wpAny_Call_Name_kw (ld_glob I hg hm ?_ hbug)
  refine PySem.W.callWith_K (h₀ := X.base) I.ok.mod.kin hk ?_ he hpl
  exact thn (ha W tk σ H F m (fun _ _ => False) (fun c d H1 F1 m1 s1 r1 => k c d H1 F1 m1 s1 r1) pos pins s I) fun us s1 ⟨vs, H1, I1, r, q⟩ => q.elim

/-! ### fields, methods -/
theorem re_fld {C : Addr} {fs : List (Str × D)} {f : Str} {d : D} (ha : RE B X a Γ (.val (.ins C fs))) (c : Cls X.K C) (n : NoAttr X.K C f) (h : fs.lookup f = some d) (hb : attributeBase a f X.env (eval a X.env) = eval a X.env := by rfl) : RE B X (.Attribute a f pos) Γ (.val d) := fun W tk σ H F m Q k =>
  toE (pe_fld anyE hb) (ha W tk σ H F m _ fun v H1 F1 m1 s1 r1 => by
    cases r1 with
    | ins q r =>
      obtain ⟨v, e1, rv⟩ := r.get h
      exact ⟨_, C, _, _, v, rfl, m1.mb.sub _ _ q, c, n, e1, (k.mono s1).go m1 rv⟩)
/-- .. of an owned instance -/
theorem re_fldO (i : Nat) {x : Str} {C : Addr} {fs : List (Str × D)} {f : Str} {d : D} {p : Pos} (hΓ : Γ[i]? = some (.own (.ins C fs))) (c : Cls X.K C) (n : NoAttr X.K C f) (h : fs.lookup f = some d) (hN : X.N[i]? = some x := by rfl)
    (hv : Vis X.env.scope x := by first | exact Or.inl rfl | exact Or.inr (Or.inl rfl) | exact Or.inr (Or.inr rfl)) (h1 : (x == ("__debug__" : Str)) = false := by decide) (h2 : (x == ("__classdict__" : Str)) = false := by decide)
    (hb : attributeBase (.Name x p) f X.env (eval (.Name x p) X.env) = eval (.Name x p) X.env := by rfl) : RE B X (.Attribute (.Name x p) f pos) Γ (.val d) := fun W tk σ H F m Q k => by
  obtain ⟨q, e1, n0, w⟩ := m.own hΓ
  obtain ⟨nf, dx, vs, e2, r⟩ := w
  obtain ⟨v, e3, rv⟩ := r.get h
  exact toE (pe_fld (pe_var hN hv h1 h2) hb) ⟨.ref q, e1, q, C, dx, vs, v, rfl, e2, c, n, e3, k.go m rv⟩
theorem re_meth {pl : Sem Bool} {C : Addr} {fs : List (Str × D)} {x : Str} {k : Nat} {dd ds : List D} {S : DSp} {o : RO} {apos : Pos} (G : Mth X.prog X.w X.K X.mg X.base k C x dd S) (hr : Room k X.A) (ho : RE B X a Γ (.val (.ins C fs))) (hl : fs.lookup x = none) (ha : RL B X (e :: es) Γ (.ok ds)) (hs : S (.ins C fs :: (ds ++ dd)) o)
    (hst : starEach (e :: es) X.env = (false, eval e X.env) :: starEach es X.env := by rfl) (hpl : (backTo pos (starEach es X.env)).any (·.1) = false := by rfl)
    (ht : eval (.Call (.Attribute a x apos) (e :: es) [] pos) X.env = (do
      let ov ← eval a X.env
      standAt apos.atName
      let (f, first) ← holding [ov] (getMethod ov x pl)
      callWith pos f first (backTo pos (starEach (e :: es) X.env)) (backToKw pos (keywordEach [] X.env))) := by rfl) : RE B X (.Call (.Attribute a x apos) (e :: es) [] pos) Γ o := fun W tk σ H F m Q kk pins s I => by
  obtain ⟨f, fd, ps, dvs, dv, G', hm, hb, hd, hdd⟩ := G.ex
  refine PySem.W.methodCall_KW (pl := pl) (thn (ho W tk σ H F m (fun v H1 => ∃ F1, Mt X.K B F1 H1 σ Γ ∧ Same F F1 ∧ Rp X.K F1 v (.ins C fs)) (fun v H1 F1 m1 s1 r1 => ⟨F1, m1, s1, r1⟩) pins s I) fun u s1 ⟨v, H1, I1, rx, F1, m1, sf, r1⟩ => ?_) ht
  cases r1 with
  | @ins q _ dx vf _ h1 rf =>
    obtain rfl : u = Value.ref q := rx
    refine getmeth_ok I1 (m1.mb.sub _ _ h1) G.cls hm (rf.none hl) ?_
    refine PySem.W.callWith_K (first := [.ref q]) (h₀ := X.base) I.ok.mod.kin hm.kp ?_ hst hpl
    refine thn (ha W tk σ H1 F1 m1 (fun vs H2 => ∃ F2, Mt X.K B F2 H2 σ Γ ∧ Same F1 F2 ∧ RpL X.K F2 vs ds) (fun vs H2 F2 m2 s2 r2 => ⟨F2, m2, s2, r2⟩) pos pins s1 I1) fun us s2 ⟨vs, H2, I2, r, F2, m2, sf2, r2⟩ => ⟨I2.kIn, ?_⟩
    exact run_d (vs := .ref q :: vs) (us := .ref q :: us) G' hr hb hd tk I2 (.cons rfl r) ⟨F2, _, o, m2.mb.sub, .cons (.ins (sf2 _ _ h1) (rf.mono sf2)) (r2.app (hdd F2)), hs, EK.dk m2 (kk.mono (sf.trans sf2))⟩
theorem re_meth0 {pl : Sem Bool} {C : Addr} {fs : List (Str × D)} {x : Str} {k : Nat} {dd : List D} {S : DSp} {o : RO} {apos : Pos} (G : Mth X.prog X.w X.K X.mg X.base k C x dd S) (hr : Room k X.A) (ho : RE B X a Γ (.val (.ins C fs))) (hl : fs.lookup x = none) (hs : S (.ins C fs :: dd) o)
    (ht : eval (.Call (.Attribute a x apos) [] [] pos) X.env = (do
      let ov ← eval a X.env
      standAt apos.atName
      let (f, first) ← holding [ov] (getMethod ov x pl)
      callWith pos f first (backTo pos (starEach [] X.env)) (backToKw pos (keywordEach [] X.env))) := by rfl) : RE B X (.Call (.Attribute a x apos) [] [] pos) Γ o := fun W tk σ H F m Q kk pins s I => by
  obtain ⟨f, fd, ps, dvs, dv, G', hm, hb, hd, hdd⟩ := G.ex
  refine PySem.W.methodCall_KW (pl := pl) (thn (ho W tk σ H F m (fun v H1 => ∃ F1, Mt X.K B F1 H1 σ Γ ∧ Same F F1 ∧ Rp X.K F1 v (.ins C fs)) (fun v H1 F1 m1 s1 r1 => ⟨F1, m1, s1, r1⟩) pins s I) fun u s1 ⟨v, H1, I1, rx, F1, m1, sf, r1⟩ => ?_) ht
  cases r1 with
  | @ins q _ dx vf _ h1 rf =>
    obtain rfl : u = Value.ref q := rx
    refine getmeth_ok I1 (m1.mb.sub _ _ h1) G.cls hm (rf.none hl) ?_
    exact PySem.W.callWith_K0 (first := [.ref q]) I1.kIn hm.kp (run_d (vs := [.ref q]) (us := [.ref q]) G' hr hb hd tk I1 (.cons rfl .nil) ⟨F1, _, o, m1.mb.sub, .cons (.ins h1 rf) (hdd F1), hs, EK.dk m1 (kk.mono sf)⟩)
/-- the receiver raises -/
theorem re_methX {pl : Sem Bool} {x : Str} {z : Exn} {apos : Pos} (ho : RE B X a Γ (.exc z))
    (ht : eval (.Call (.Attribute a x apos) es [] pos) X.env = (do
      let ov ← eval a X.env
      standAt apos.atName
      let (f, first) ← holding [ov] (getMethod ov x pl)
      callWith pos f first (backTo pos (starEach es X.env)) (backToKw pos (keywordEach [] X.env))) := by rfl) : RE B X (.Call (.Attribute a x apos) es [] pos) Γ (.exc z) := fun W tk σ H F m Q kk pins s I =>
  PySem.W.methodCall_KW (pl := pl) (thn (ho W tk σ H F m (fun _ _ => False) (fun c d H1 F1 m1 s1 r1 => kk c d H1 F1 m1 s1 r1) pins s I) fun u s1 ⟨v, H1, I1, rx, q⟩ => q.elim) ht
/-- a new instance -/
theorem run_mk {f C : Addr} {fd : FuncData} {ps : List Str} {k : Nat} {S : ISp} {us dv : List Value} {vs dvs : List V} {ds : List D} {o : Except Exn (List (Str × D))} (M : Mk X.K C f) (G : FnOk X.prog X.w X.K X.mg X.base (L2.CX X.prog X.w) k f fd ps (spI X.K C S)) (hr : Room (k + 1) X.A) (hb : Binds X.K fd ps dv) (hd : Vals dvs dv) (tk : Takes X W)
    (I : Inv X pins σ H s) (r : Vals vs us) (m : Mt X.K B F H σ Γ) (rd : RpL X.K F (vs ++ dvs) ds) (hs : S ds o) (kk : EK X.K B W F σ Γ Q (match o with | .ok fs => .frs (.ins C fs) | .error z => .exc z)) : wpAny (model X.prog X.w) X.A (call (.ref C) us) (EP X pins σ Q) X.xe s := by
  obtain ⟨n, hn⟩ : ∃ n, n = s.heap.objs.size := ⟨_, rfl⟩
  have I2 := Inv.made (C := C) I
  rw [← hn] at I2
  have f1 : H n = none := I.hok.fresh (Nat.le_of_eq hn.symm)
  have f2 : H (n + 1) = none := I.hok.fresh (by rw [hn]; exact Nat.le_succ _)
  have ne : n ≠ n + 1 := Nat.ne_of_lt (Nat.lt_succ_self _)
  have hq : spI X.K C S (.ref (n + 1) :: (vs ++ dvs)) (upd (upd H n (.own (n + 1))) (n + 1) (.ins C n [])) (fun v H2 => v = .non ∧ Q (.ref (n + 1)) H2) (fun c d H' => W c d σ H') := by
    refine ⟨F, H, n + 1, n, _, ds, o, rfl, f2, f1, ne, rfl, m.mb.sub, rd, hs, ?_⟩
    cases o with
    | ok fs => exact fun H' F' g w => ⟨rfl, kk _ H' F' (m.grow g) g.ff (m.mb.h0.free f2) (m.apart f2) w⟩
    | error z => exact fun c d H' F' g rx => kk c d H' F' (m.grow g) g.ff rx
  have r2 : Vals (V.ref (n + 1) :: (vs ++ dvs)) (Value.ref (n + 1) :: (us ++ dv)) := .cons rfl (Vals.append r hd)
  have hl : (Value.ref (n + 1) :: us ++ dv).length = ps.length := by
    rw [← G.len _ _ _ _ hq, r2.length]; rfl
  refine wpAny_call (make_map (f := f) I.kIn M.makes M.init (beq_iff_eq.mp M.fn) ?_)
  rw [← hn]
  refine codeAny_mono (G.run _ X.stack _ _ ⟨Value.ref (n + 1) :: us, []⟩ (Value.ref (n + 1) :: (us ++ dv)) _ _ _ (hr.make C us []) (I2.env0.make C us []) (hb _ (Value.ref (n + 1) :: us) I2.kIn hl) r2 hq) fun z s' hz => ?_
  match z, hz with
  | .error u, hz =>
    refine tk u s' (XE.of_call (E := fun c d H' => W c d σ H') I2 (fun _ _ _ q => q) hz)
  | .ok (.ret u), hz =>
    obtain ⟨v, H', I3, rv, ev, q3⟩ := I2.after hz
    subst ev
    exact ⟨rv, ⟨V.ref (n + 1), H', I3, rfl, q3⟩⟩
def mkO (C : Addr) : Except Exn (List (Str × D)) → RO
  | .ok fs => .frs (.ins C fs)
  | .error z => .exc z
theorem re_mkO {x : Str} {p : Pos} {k : Nat} {C : Addr} {dd ds : List D} {S : ISp} {o : Except Exn (List (Str × D))} (G : Mkr X.prog X.w X.K X.mg X.base k x C dd S) (hr : Room (k + 1) X.A) (ha : RL B X (e :: es) Γ (.ok ds)) (hs : S (ds ++ dd) o) (hg : Gl X x := by rfl) (hbug : (x == ("__debug__" : Str)) = false := by decide)
    (he : starEach (e :: es) X.env = (false, eval e X.env) :: starEach es X.env := by rfl) (hpl : (backTo pos (starEach es X.env)).any (·.1) = false := by rfl) : RE B X (.Call (.Name x p) (e :: es) [] pos) Γ (mkO C o) := fun W tk σ H F m Q k pins s I => by
  obtain ⟨f, fd, ps, dvs, dv, G, M, hm, hb, hd, hdd⟩ := G.ex
  refine wpAny_Call_Name_kw (ld_glob I hg hm ?_ hbug)
  refine PySem.W.callWith_K (h₀ := X.base) I.ok.mod.kin M.kp ?_ he hpl
  refine thn (ha W tk σ H F m (fun vs H1 => ∃ F1, Mt X.K B F1 H1 σ Γ ∧ Same F F1 ∧ RpL X.K F1 vs ds) (fun vs H1 F1 m1 s1 r1 => ⟨F1, m1, s1, r1⟩) pos pins s I) fun us s1 ⟨vs, H1, I1, r, F1, m1, sf, r1⟩ => ⟨I1.kIn, ?_⟩
  exact run_mk M G hr hb hd tk I1 r m1 (r1.app (hdd F1)) hs (by cases o <;> exact k.mono sf)
theorem re_mk {x : Str} {p : Pos} {k : Nat} {C : Addr} {dd ds : List D} {S : ISp} {fs : List (Str × D)} (G : Mkr X.prog X.w X.K X.mg X.base k x C dd S) (hr : Room (k + 1) X.A) (ha : RL B X (e :: es) Γ (.ok ds)) (hs : S (ds ++ dd) (.ok fs)) (hg : Gl X x := by rfl) (hbug : (x == ("__debug__" : Str)) = false := by decide)
    (he : starEach (e :: es) X.env = (false, eval e X.env) :: starEach es X.env := by rfl) (hpl : (backTo pos (starEach es X.env)).any (·.1) = false := by rfl) : RE B X (.Call (.Name x p) (e :: es) [] pos) Γ (.val (.ins C fs)) := re_frzI (re_mkO G hr ha hs hg hbug he hpl)
theorem re_mkE {x : Str} {p : Pos} {k : Nat} {C : Addr} {dd ds : List D} {S : ISp} {z : Exn} (G : Mkr X.prog X.w X.K X.mg X.base k x C dd S) (hr : Room (k + 1) X.A) (ha : RL B X (e :: es) Γ (.ok ds)) (hs : S (ds ++ dd) (.error z)) (hg : Gl X x := by rfl) (hbug : (x == ("__debug__" : Str)) = false := by decide)
    (he : starEach (e :: es) X.env = (false, eval e X.env) :: starEach es X.env := by rfl) (hpl : (backTo pos (starEach es X.env)).any (·.1) = false := by rfl) : RE B X (.Call (.Name x p) (e :: es) [] pos) Γ (.exc z) := re_mkO G hr ha hs hg hbug he hpl
theorem re_mkX {x : Str} {p : Pos} {k : Nat} {C : Addr} {dd : List D} {S : ISp} {z : Exn} (G : Mkr X.prog X.w X.K X.mg X.base k x C dd S) (ha : RL B X (e :: es) Γ (.error z)) (hg : Gl X x := by rfl) (hbug : (x == ("__debug__" : Str)) = false := by decide)
    (he : starEach (e :: es) X.env = (false, eval e X.env) :: starEach es X.env := by rfl) (hpl : (backTo pos (starEach es X.env)).any (·.1) = false := by rfl) : RE B X (.Call (.Name x p) (e :: es) [] pos) Γ (.exc z) := fun W tk σ H F m Q k pins s I => by
  obtain ⟨f, fd, ps, dvs, dv, G, M, hm, hb, hd, hdd⟩ := G.ex
  refine wpAny_Call_Name_kw (ld_glob I hg hm ?_ hbug)
  refine PySem.W.callWith_K (h₀ := X.base) I.ok.mod.kin M.kp ?_ he hpl
  exact thn (ha W tk σ H F m (fun _ _ => False) (fun c d H1 F1 m1 s1 r1 => k c d H1 F1 m1 s1 r1) pos pins s I) fun us s1 ⟨vs, H1, I1, r, q⟩ => q.elim
end
end DL

/-! DL5: raise; what is walked; for, while; list comprehensions; the rule of a def. -/
namespace DL
open PySem PySem.Spec PyProof.Rows L2
/-- what of the text an error class over ValueError (without an __init__ of its own) must have -/
structure XCls (K : PySem.W.Frag) (mg : Str → Option Value) (x : Str) (C : Addr) : Prop where
  g : mg x = some (.ref C)
  ex : PySem.W.excIn K C [.type "ValueError", .type "Exception", .type "BaseException", .type "object"] "ValueError.__new__" = true
  kp : PySem.W.keepIn K (.ref C) = true
  b : PySem.W.subIn K (.ref C) (.type "BaseException") = some true
  t : PySem.W.typeIn K (.ref C) = some (.type "type")
section
variable {B : Bs} {X : Cx} {Γ : List SV} {a b c e : Expr} {es : List Expr} {pos pos' : Pos} {post : SO → Prop}
theorem w1_raise {x msg : Str} {C : Addr} {j : Nat} {p p2 : Pos} (hc : X.calm = true) (T : XCls X.K X.mg x C) (h : post (.exc ⟨C, none⟩ Γ)) (hg : Gl X x := by rfl) (h1 : (x == ("__debug__" : Str)) = false := by decide) :
    W1 B X (.Raise (some (.Call (.Name x p) [.Constant (.str msg) j p2] [] pos')) none pos) Γ post := fun W tk σ H F m D k =>
  toS (ps_raise hc tk (pmk_own PySem.F.excBase_ValueError T.ex T.g T.kp (raises_own T.b T.t) hg h1)) (k.ex _ _ σ H F Γ ⟨C, none⟩ h m (.refl F) ⟨rfl, rfl⟩)

/-! ### what is walked -/
/-- the iterator J yields the data ds, one after another; F1: what is frozen when it begins -/
def Yields (K : PySem.W.Frag) (F1 : Hp) (J : It) (ds : List D) : Prop := ∀ (i : Nat) (F H : Hp), Same F1 F → Same F H →
  (∀ d, ds[i]? = some d → J.go i H ∧ ∀ x H', J.yld i H x H' → ∃ F', Grow F H F' H' ∧ Rp K F' x d) ∧ (ds.length = i → J.stop i H)
def RI (B : Bs) (X : Cx) (tg iter : Expr) (Γ : List SV) (ds : List D) : Prop := ∃ wi : TI, PI X tg iter wi ∧ ∀ (W : WX), Takes X W → ∀ (σ : L2.St) (H F : Hp), Mt X.K B F H σ Γ → ∀ R : It → Hp → Prop,
  (∀ J H1 F1, Mt X.K B F1 H1 σ Γ → Same F F1 → Yields X.K F1 J ds → R J H1) → wi σ H R
theorem rpL_at {K : PySem.W.Frag} {F : Hp} {vs : List V} {ds : List D} {i : Nat} {d : D} {x : V} (r : RpL K F vs ds) (h : ds[i]? = some d) (hx : vs[i]? = some x) : Rp K F x d := by
  obtain ⟨v, e, q⟩ := r.get h
  rw [hx] at e; cases e; exact q
variable {tg : Expr}
theorem ri_list {ds : List D} (h : RE B X e Γ (.val (.lst ds))) : RI B X tg e Γ ds := ⟨_, pi_list anyE, fun W tk σ H F m R k => h W tk σ H F m _ fun v H1 F1 m1 s1 r1 => by
  cases r1 with
  | @lst p vs _ q r =>
    refine ⟨p, rfl, ⟨vs, same_sqL m1.mb.sub q⟩, k _ H1 F1 m1 s1 fun i F2 H2 s2 sh => ⟨fun d hd => ?_, fun hi => ?_⟩⟩
    · have q2 := same_sqL (s2.trans sh) q
      obtain ⟨v, hv, rv⟩ := r.get hd
      refine ⟨⟨vs, v, q2, hv⟩, fun x H' hy => ?_⟩
      obtain ⟨rfl, hy⟩ := hy
      exact ⟨F2, .refl sh, (rpL_at r hd (hy vs q2)).mono s2⟩
    · exact ⟨vs, same_sqL (s2.trans sh) q, by rw [r.len]; exact Nat.le_of_eq hi⟩⟩
theorem ri_tup {ds : List D} (h : RE B X e Γ (.val (.tup ds))) : RI B X tg e Γ ds := ⟨_, pi_tup anyE, fun W tk σ H F m R k => h W tk σ H F m _ fun v H1 F1 m1 s1 r1 => by
  cases r1 with
  | @tup p vs _ q r =>
    refine ⟨p, rfl, ⟨vs, same_sqT m1.mb.sub q⟩, k _ H1 F1 m1 s1 fun i F2 H2 s2 sh => ⟨fun d hd => ?_, fun hi => ?_⟩⟩
    · have q2 := same_sqT (s2.trans sh) q
      obtain ⟨v, hv, rv⟩ := r.get hd
      refine ⟨⟨vs, v, q2, hv⟩, fun x H' hy => ?_⟩
      obtain ⟨rfl, hy⟩ := hy
      exact ⟨F2, .refl sh, (rpL_at r hd (hy vs q2)).mono s2⟩
    · exact ⟨vs, same_sqT (s2.trans sh) q, by rw [r.len]; exact Nat.le_of_eq hi⟩⟩
def rngD (lo : Int) (n : Nat) : List D := (List.range n).map fun (k : Nat) => D.int (lo + (k : Int))
theorem yields_range {K : PySem.W.Frag} {F1 : Hp} {lo : Int} {n : Nat} : Yields K F1 (Itr lo n) (rngD lo n) := fun i F H s sh => ⟨fun d hd => by
    unfold rngD at hd
    rw [List.getElem?_map] at hd
    obtain ⟨k, hk, rfl⟩ := Option.map_eq_some_iff.mp hd
    obtain ⟨h1, h2⟩ := List.getElem?_eq_some_iff.mp hk
    rw [List.length_range] at h1
    rw [List.getElem_range] at h2
    subst h2
    refine ⟨h1, fun x H' hy => ?_⟩
    obtain ⟨rfl, rfl⟩ := hy
    exact ⟨F, .refl sh, .int _⟩, fun hi => by
    unfold rngD at hi
    rw [List.length_map, List.length_range] at hi
    exact Nat.le_of_eq hi⟩
theorem ri_range1 {n : Int} {p : Pos} (hm : X.mg "range" = none) (h : RE B X e Γ (.val (.int n))) (h1 : -(2 ^ 62) ≤ n) (h2 : n < 2 ^ 62) (hg : Gl X "range" := by rfl) (hs : starEach [e] X.env = [(false, eval e X.env)] := by rfl) (hs2 : starEach [e] X.env = (false, eval e X.env) :: starEach [] X.env := by rfl) :
    RI B X tg (.Call (.Name "range" p) [e] [] pos) Γ (rngD 0 n.toNat) := ⟨_, pi_range1 hg hm (pa_cons anyE pa_nil hs2) hs, fun W tk σ H F m R k => h W tk σ H F m _ fun v H1 F1 m1 s1 r1 => by
  cases r1
  exact ⟨n, rfl, h1, h2, k _ H1 F1 m1 s1 yields_range⟩⟩
theorem ri_range2 {lo hi : Int} {p : Pos} (hm : X.mg "range" = none) (ha : RE B X a Γ (.val (.int lo))) (hb : RE B X b Γ (.val (.int hi))) (hz : -(2 ^ 62) ≤ lo ∧ lo < 2 ^ 62 ∧ -(2 ^ 62) ≤ hi ∧ hi < 2 ^ 62) (hg : Gl X "range" := by rfl)
    (hs : starEach [a, b] X.env = [(false, eval a X.env), (false, eval b X.env)] := by rfl) (hs2 : starEach [b] X.env = [(false, eval b X.env)] := by rfl) (hs3 : starEach [a, b] X.env = (false, eval a X.env) :: starEach [b] X.env := by rfl) (hs4 : starEach [b] X.env = (false, eval b X.env) :: starEach [] X.env := by rfl) :
    RI B X tg (.Call (.Name "range" p) [a, b] [] pos) Γ (rngD lo (hi - lo).toNat) := ⟨_, pi_range2 hg hm (pa_cons anyE (pa_cons anyE pa_nil hs4) hs3) hs hs2, fun W tk σ H F m R k => ha W tk σ H F m _ fun v H1 F1 m1 s1 r1 => hb W tk σ H1 F1 m1 _ fun u H2 F2 m2 s2 r2 => by
  cases r1
  cases r2
  exact ⟨lo, hi, rfl, hz, k _ H2 F2 m2 (s1.trans s2) yields_range⟩⟩
/-- the signs of a text -/
def signs (x : Str) : List D := x.cps.toList.map fun n => D.str ⟨#[n]⟩
theorem ri_str {x : Str} (h : RE B X e Γ (.val (.str x))) : RI B X tg e Γ (signs x) := ⟨_, pi_str anyE, fun W tk σ H F m R k => h W tk σ H F m _ fun v H1 F1 m1 s1 r1 => by
  cases r1
  refine ⟨x, rfl, k _ H1 F1 m1 s1 fun i F2 H2 s2 sh => ⟨fun d hd => ?_, fun hi => ?_⟩⟩
  · unfold signs at hd
    rw [List.getElem?_map] at hd
    obtain ⟨n, hn, rfl⟩ := Option.map_eq_some_iff.mp hd
    have hn' : x.cps[i]? = some n := by rw [← hn, Array.getElem?_toList]
    refine ⟨(Array.getElem?_eq_some_iff.mp hn').1, fun v H' hy => ?_⟩
    obtain ⟨rfl, n', e1, rfl⟩ := hy
    rw [hn'] at e1; cases e1
    exact ⟨F2, .refl sh, .str _⟩
  · unfold signs at hi
    rw [List.length_map, Array.length_toList] at hi
    exact Nat.le_of_eq hi⟩
/-- enumerate(xs) -/
def enumD (ds : List D) : List D := ds.zipIdx.map fun p => D.tup [.int (p.2 : Nat), p.1]
theorem ri_enum {ds : List D} {p tpos : Pos} {elts : List Expr} {kk : Nat} (hm : X.mg "enumerate" = none) (h : RP B X e Γ true ds) (hfz : RE B X e Γ (.val (.lst ds))) (hg : Gl X "enumerate" := by rfl) (hs : starEach [e] X.env = [(false, eval e X.env)] := by rfl) (hs2 : starEach [e] X.env = (false, eval e X.env) :: starEach [] X.env := by rfl) :
    RI B X (.Tuple elts kk tpos) (.Call (.Name "enumerate" p) [e] [] pos) Γ (enumD ds) := ⟨_, pi_enum hg hm (pa_cons anyE pa_nil hs2) hs, fun W tk σ H F m R k => hfz W tk σ H F m _ fun v H1 F1 m1 s1 r1 => by
  cases r1 with
  | @lst q vs _ sq r =>
    refine ⟨q, vs, rfl, same_sqL m1.mb.sub sq, k _ H1 F1 m1 s1 fun i F2 H2 s2 sh => ⟨fun d hd => ?_, fun hi => ?_⟩⟩
    · have q2 := same_sqL (s2.trans sh) sq
      unfold enumD at hd
      rw [List.getElem?_map, List.getElem?_zipIdx] at hd
      simp only [Nat.zero_add, Option.map_map] at hd
      obtain ⟨u, hu, rfl⟩ := Option.map_eq_some_iff.mp hd
      obtain ⟨v, hv, rv⟩ := r.get hu
      refine ⟨⟨vs, v, q2, hv⟩, fun x H' hy => ?_⟩
      obtain ⟨T, y, rfl, nT, rfl, hy⟩ := hy
      have ry := (rpL_at r hu (hy vs q2)).mono s2
      have g := Grow.put (o := .tup [.int (i : Nat), y]) sh nT
      exact ⟨_, g, .tup (SqT.of upd_same) (.cons (.int _) (.cons (ry.mono g.ff) .nil))⟩
    · unfold enumD at hi
      rw [List.length_map, List.length_zipIdx] at hi
      exact ⟨vs, same_sqL (s2.trans sh) sq, by rw [r.len]; exact Nat.le_of_eq hi⟩⟩
/-- zip(xs, ys) of lists -/
def zipD (ds es : List D) : List D := (ds.zip es).map fun p => D.tup [p.1, p.2]
theorem ri_zip {ds fs : List D} {p tpos : Pos} {elts : List Expr} {kk : Nat} (hm : X.mg "zip" = none) (ha : RE B X a Γ (.val (.lst ds))) (hb : RE B X b Γ (.val (.lst fs))) (hg : Gl X "zip" := by rfl)
    (hs : starEach [a, b] X.env = (false, eval a X.env) :: starEach [b] X.env := by rfl) (hpl : (backTo pos (starEach [b] X.env)).any (·.1) = false := by rfl) (hs4 : starEach [b] X.env = (false, eval b X.env) :: starEach [] X.env := by rfl) :
    RI B X (.Tuple elts kk tpos) (.Call (.Name "zip" p) [a, b] [] pos) Γ (zipD ds fs) := ⟨_, pi_zip hg hm (pa_cons anyE (pa_cons anyE pa_nil hs4) hs) hs hpl, fun W tk σ H F m R k => ha W tk σ H F m _ fun v H1 F1 m1 s1 r1 => hb W tk σ H1 F1 m1 _ fun u H2 F2 m2 s2 r2 => by
  cases r1 with
  | @lst q vs _ sq r =>
    cases r2 with
    | @lst q' ws _ sq' r' =>
      refine ⟨q, q', vs, ws, rfl, same_sqL (s2.trans m2.mb.sub) sq, same_sqL m2.mb.sub sq', k _ H2 F2 m2 (s1.trans s2) fun i F3 H3 s3 sh => ⟨fun d hd => ?_, fun hi => ?_⟩⟩
      · have q2 := same_sqL ((s2.trans s3).trans sh) sq
        have q3 := same_sqL (s3.trans sh) sq'
        unfold zipD at hd
        rw [List.getElem?_map] at hd
        obtain ⟨⟨x, y⟩, hxy, rfl⟩ := Option.map_eq_some_iff.mp hd
        rw [List.getElem?_zip_eq_some] at hxy
        obtain ⟨v, hv, rv⟩ := r.get hxy.1
        obtain ⟨w, hw, rw'⟩ := r'.get hxy.2
        refine ⟨⟨vs, ws, v, w, q2, q3, hv, hw⟩, fun z H' hy => ?_⟩
        obtain ⟨T, v', w', rfl, nT, rfl, y1, y2⟩ := hy
        have rx := (rpL_at r hxy.1 (y1 vs q2)).mono (s2.trans s3)
        have ry := (rpL_at r' hxy.2 (y2 ws q3)).mono s3
        have g := Grow.put (o := .tup [v', w']) sh nT
        exact ⟨_, g, .tup (SqT.of upd_same) (.cons (rx.mono g.ff) (.cons (ry.mono g.ff) .nil))⟩
      · unfold zipD at hi
        rw [List.length_map, List.length_zip] at hi
        refine ⟨vs, ws, same_sqL ((s2.trans s3).trans sh) sq, same_sqL (s3.trans sh) sq', ?_⟩
        rw [r.len, r'.len]
        omega⟩

/-! ### for, while -/
/-- Γ' is Γ with some slots forgotten -/
inductive Wk : List SV → List SV → Prop
  | nil : Wk [] []
  | un {sv : SV} {r r' : List SV} : Wk r r' → Wk (sv :: r) (.un :: r')
  | same {sv : SV} {r r' : List SV} : Wk r r' → Wk (sv :: r) (sv :: r')
theorem Wk.eqv {sv sv' : SV} {r r' : List SV} (e : sv = sv') (h : Wk r r') : Wk (sv :: r) (sv' :: r') := by subst e; exact .same h
theorem Wk.refl : ∀ Γ : List SV, Wk Γ Γ
  | [] => .nil
  | _ :: r => .same (Wk.refl r)
theorem Wk.len : ∀ {Γ Γ' : List SV}, Wk Γ Γ' → Γ'.length = Γ.length
  | _, _, .nil => rfl
  | _, _, .un h => congrArg Nat.succ h.len
  | _, _, .same h => congrArg Nat.succ h.len
theorem Wk.get : ∀ {Γ Γ' : List SV} (_ : Wk Γ Γ') (i : Nat) (sv : SV), Γ'[i]? = some sv → sv = .un ∨ Γ[i]? = some sv
  | _, _, .nil, _, _, e => by simp at e
  | _, _, .un _, 0, _, e => by simp at e; exact .inl e.symm
  | _, _, .same _, 0, _, e => .inr e
  | _, _, .un h, i + 1, sv, e => by simpa using h.get i sv (by simpa using e)
  | _, _, .same h, i + 1, sv, e => by simpa using h.get i sv (by simpa using e)
theorem Mt.wk {K : PySem.W.Frag} {F H : Hp} {σ : L2.St} {Γ Γ' : List SV} (m : Mt K B F H σ Γ) (h : Wk Γ Γ') : Mt K B F H σ Γ' := m.weak h.len h.get
/-- what is wanted behind a loop's body -/
def bodyP (I : List SV → Prop) (post : SO → Prop) : SO → Prop
  | .nx Γ => ∃ Γ', Wk Γ Γ' ∧ I Γ'
  | .cont Γ => ∃ Γ', Wk Γ Γ' ∧ I Γ'
  | .brk Γ => post (.nx Γ)
  | .ret r => post (.ret r)
  | .exc x Γ => post (.exc x Γ)
theorem ws_wk {sts : List Stmt} {Γ' : List SV} (h : Wk Γ Γ') (k : WS B X sts Γ' post) : WS B X sts Γ post := fun W tk σ H F m D kk => k W tk σ H F (m.wk h) D kk
theorem w1_for {iter : Expr} {body : List Stmt} {g : TG} {ds : List D} (hp : PassesOwn (model X.prog X.w) X.A X.env X.xe) (hc : X.calm = true) (hi : RI B X tg iter Γ ds) (hg : PG X tg g) (I : Nat → List SV → Prop) (h0 : I 0 Γ)
    (hs : ∀ i d Γi, ds[i]? = some d → I i Γi → ∃ Γ', RG X.K B g Γi d Γ' ∧ WS B X body Γ' (bodyP (I (i + 1)) post)) (hd : ∀ Γi, I ds.length Γi → post (.nx Γi))
    (hf : ∀ x, foldedSetIterable iter X.env x = pure x := by intro _; rfl) : W1 B X (.For tg iter body [] pos) Γ post := fun W tk σ H F m D k => by
  obtain ⟨wi, pi, hi⟩ := hi
  refine toS (ps_for hp hc pi hg anyB hf) (hi W tk σ H F m _ fun J H1 F1 m1 s1 y => ?_)
  refine ⟨fun i n σ' H' => n = ds.length - i ∧ i ≤ ds.length ∧ ∃ F' Γ', Mt X.K B F' H' σ' Γ' ∧ Same F1 F' ∧ I i Γ', ⟨ds.length, by omega, Nat.zero_le _, F1, Γ, m1, .refl F1, h0⟩, ?_⟩
  rintro i n σ' H' ⟨rfl, hle, F', Γ', m', s', hI⟩
  obtain ⟨y1, y2⟩ := y i F' H' s' m'.mb.sub
  by_cases hlt : i < ds.length
  · obtain ⟨g1, g2⟩ := y1 ds[i] (List.getElem?_eq_getElem hlt)
    refine .inr ⟨g1, fun σ2 H2 => ∃ F2 Γ2, Mt X.K B F2 H2 σ2 Γ2 ∧ Same F1 F2 ∧ I (i + 1) Γ2, fun σ2 H2 ⟨F2, Γ2, q1, q2, q3⟩ => ⟨ds.length - (i + 1), by omega, rfl, hlt, F2, Γ2, q1, q2, q3⟩, fun x H3 hy => ?_⟩
    obtain ⟨F3, gr, rx⟩ := g2 x H3 hy
    obtain ⟨Γ2, hr, hw⟩ := hs i _ Γ' (List.getElem?_eq_getElem hlt) hI
    have s3 := s'.trans gr.ff
    refine hr σ' H3 F3 x (m'.grow gr) rx _ fun σ4 m4 => hw W tk σ4 H3 F3 m4 _ ⟨fun σ5 H5 F5 Γ5 ⟨Γ6, wk, p⟩ q s5 => ⟨F5, Γ6, q.wk wk, s3.trans s5, p⟩, fun v H5 F5 r p q s5 => ?_, fun σ5 H5 F5 Γ5 p q s5 => ?_, fun σ5 H5 F5 Γ5 ⟨Γ6, wk, p⟩ q s5 => ⟨F5, Γ6, q.wk wk, s3.trans s5, p⟩, fun c d σ5 H5 F5 Γ5 z p q s5 rz => ?_⟩
    · exact k.rt v H5 F5 r p q ((s1.trans s3).trans s5)
    · exact k.nx σ5 H5 F5 Γ5 p q ((s1.trans s3).trans s5)
    · exact k.ex c d σ5 H5 F5 Γ5 z p q ((s1.trans s3).trans s5) rz
  · have e : i = ds.length := by omega
    subst e
    exact .inl ⟨y2 rfl, k.nx σ' H' F' Γ' (hd Γ' hI) m' (s1.trans s')⟩
/-- .. whose state is a fold: St s tells the slots, step what a turn does -/
theorem w1_fold {α S : Type} {iter : Expr} {body : List Stmt} {g : TG} (xs : List α) (f : α → D) (G : S → List SV) (step : S → α → S) (s0 : S) (hp : PassesOwn (model X.prog X.w) X.A X.env X.xe) (hc : X.calm = true) (hi : RI B X tg iter Γ (xs.map f)) (hg : PG X tg g) (h0 : Wk Γ (G s0))
    (hs : ∀ pre x suf, xs = pre ++ x :: suf → ∃ Γ', RG X.K B g (G (pre.foldl step s0)) (f x) Γ' ∧ WS B X body Γ' (bodyP (fun Γ => Wk Γ (G (step (pre.foldl step s0) x))) post)) (hd : ∀ Γ', Wk Γ' (G (xs.foldl step s0)) → post (.nx Γ'))
    (hf : ∀ x, foldedSetIterable iter X.env x = pure x := by intro _; rfl) : W1 B X (.For tg iter body [] pos) Γ post := by
  refine w1_for hp hc hi hg (fun i Γ => Wk Γ (G ((xs.take i).foldl step s0))) h0 (fun i d Γi hd' hI => ?_) (fun Γi hI => ?_) hf
  · rw [List.getElem?_map] at hd'
    obtain ⟨x, hx, rfl⟩ := Option.map_eq_some_iff.mp hd'
    obtain ⟨hl, hx'⟩ := List.getElem?_eq_some_iff.mp hx
    obtain ⟨Γ', h1, h2⟩ := hs (xs.take i) x (xs.drop (i + 1)) (by rw [← hx', List.getElem_cons_drop, List.take_append_drop])
    refine ⟨Γ', fun σ H F v m r Q k => h1 σ H F v (m.wk hI) r Q k, ?_⟩
    have e : (xs.take (i + 1)).foldl step s0 = step ((xs.take i).foldl step s0) x := by rw [List.take_add_one, hx, List.foldl_append]; rfl
    rw [e]
    exact h2
  · rw [List.length_map, List.take_length] at hI
    exact hd Γi hI
theorem w1_while {body : List Stmt} (hp : PassesOwn (model X.prog X.w) X.A X.env X.xe) (I : Nat → List SV → Prop) (n : Nat) (h0 : I n Γ)
    (hs : ∀ n Γi, I n Γi → ∃ Γ2 k1, Wk Γi Γ2 ∧ RT B X c Γ2 k1 ∧ (k1 = true → WS B X body Γ2 (bodyP (fun Γ' => ∃ n', n' < n ∧ I n' Γ') post)) ∧ (k1 = false → post (.nx Γ2))) : W1 B X (.While c body [] pos) Γ post := fun W tk σ H F m D k => by
  refine toS (ps_while hp anyT anyB) ?_
  refine ⟨fun n σ' H' => ∃ F' Γ', Mt X.K B F' H' σ' Γ' ∧ Same F F' ∧ I n Γ', ⟨n, F, Γ, m, .refl F, h0⟩, ?_⟩
  rintro n σ' H' ⟨F', Γ', m', s', hI⟩
  obtain ⟨Γ', k1, hwk, hc, ht, hf⟩ := hs n Γ' hI
  replace m' := m'.wk hwk
  refine hc W tk σ' H' F' m' _ fun H2 F2 m2 s2 => ?_
  cases k1 with
  | false => exact ite_ff (k.nx σ' H2 F2 Γ' (hf rfl) m2 (s'.trans s2))
  | true =>
    refine ite_tt ⟨fun σ5 H5 => ∃ n', n' < n ∧ ∃ F5 Γ5, Mt X.K B F5 H5 σ5 Γ5 ∧ Same F F5 ∧ I n' Γ5, fun σ5 H5 ⟨n', h1, h2⟩ => ⟨n', h1, h2⟩, ht rfl W tk σ' H2 F2 m2 _ ⟨fun σ5 H5 F5 Γ5 p q s5 => ?_, fun v H5 F5 r p q s5 => ?_, fun σ5 H5 F5 Γ5 p q s5 => ?_, fun σ5 H5 F5 Γ5 p q s5 => ?_, fun c d σ5 H5 F5 Γ5 z p q s5 rz => ?_⟩⟩
    · obtain ⟨Γ6, wk, n', h1, h2⟩ := p
      exact ⟨n', h1, F5, Γ6, q.wk wk, (s'.trans s2).trans s5, h2⟩
    · exact k.rt v H5 F5 r p q ((s'.trans s2).trans s5)
    · exact k.nx σ5 H5 F5 Γ5 p q ((s'.trans s2).trans s5)
    · obtain ⟨Γ6, wk, n', h1, h2⟩ := p
      exact ⟨n', h1, F5, Γ6, q.wk wk, (s'.trans s2).trans s5, h2⟩
    · exact k.ex c d σ5 H5 F5 Γ5 z p q ((s'.trans s2).trans s5) rz
end
end DL

/-! DL6: list comprehensions; the rule of a def, of an __init__; the end. -/
namespace DL
open PySem PySem.Spec PyProof.Rows L2
theorem wipe_get (σ : L2.St) (j : Nat) : ∀ vs : List Nat, (wipe σ vs)[j]? = if j ∈ vs then (σ[j]?).map (fun _ => none) else σ[j]?
  | [] => by simp [wipe]
  | v :: vs => by
    have ih := wipe_get σ j vs
    have hl := wipe_length σ vs
    unfold wipe
    by_cases e : v = j
    · subst e
      rw [if_pos (List.mem_cons_self)]
      by_cases h : v < σ.length
      · rw [List.getElem?_set_self (by rw [hl]; exact h), List.getElem?_eq_getElem h]; rfl
      · rw [List.getElem?_eq_none (by rw [List.length_set, hl]; omega), List.getElem?_eq_none (by omega)]; rfl
    · rw [List.getElem?_set_ne e, ih]
      by_cases h : j ∈ vs
      · rw [if_pos h, if_pos (List.mem_cons_of_mem _ h)]
      · rw [if_neg h, if_neg (fun z => (List.mem_cons.mp z).elim (fun q => e q.symm) h)]
theorem wipe_set {σ : L2.St} {i : Nat} {x : Option V} {vs : List Nat} (h : i ∈ vs) : wipe (σ.set i x) vs = wipe σ vs := by
  apply List.ext_getElem?
  intro j
  rw [wipe_get, wipe_get]
  by_cases e : i = j
  · subst e
    rw [if_pos h, if_pos h]
    by_cases q : i < σ.length
    · rw [List.getElem?_set_self q, List.getElem?_eq_getElem q]; rfl
    · rw [List.getElem?_eq_none (by rw [List.length_set]; omega), List.getElem?_eq_none (by omega)]
  · rw [List.getElem?_set_ne e]
theorem wipe_wipe (σ : L2.St) (vs : List Nat) : wipe (wipe σ vs) vs = wipe σ vs := by
  apply List.ext_getElem?
  intro j
  rw [wipe_get, wipe_get]
  by_cases h : j ∈ vs
  · rw [if_pos h, if_pos h, Option.map_map]; rfl
  · rw [if_neg h]
/-- the target's names are the comprehension's own -/
def Inside (vs : List Nat) (g : TG) : Prop := ∀ (v : V) (σ : L2.St) (H : Hp) (Q : L2.St → Hp → Prop), g v σ H Q → g v σ H fun σ' H' => wipe σ' vs = wipe σ vs ∧ Q σ' H'
def Insides (vs : List Nat) (g : TGs) : Prop := ∀ (v : List V) (σ : L2.St) (H : Hp) (Q : L2.St → Hp → Prop), g v σ H Q → g v σ H fun σ' H' => wipe σ' vs = wipe σ vs ∧ Q σ' H'
theorem in_name {vs : List Nat} {i : Nat} (h : i ∈ vs) : Inside vs (gName i) := fun v σ H Q q => ⟨wipe_set h, q⟩
theorem ins_nil {vs : List Nat} : Insides vs gNil := fun v σ H Q q => ⟨q.1, rfl, q.2⟩
/-- targets whose wish may be weakened -/
def Mono (g : TG) : Prop := ∀ (v : V) (σ : L2.St) (H : Hp) (Q Q' : L2.St → Hp → Prop), (∀ σ H, Q σ H → Q' σ H) → g v σ H Q → g v σ H Q'
def Monos (g : TGs) : Prop := ∀ (v : List V) (σ : L2.St) (H : Hp) (Q Q' : L2.St → Hp → Prop), (∀ σ H, Q σ H → Q' σ H) → g v σ H Q → g v σ H Q'
theorem mono_name {i : Nat} : Mono (gName i) := fun _ _ _ _ _ h q => h _ _ q
theorem monos_nil : Monos gNil := fun _ _ _ _ _ h q => ⟨q.1, h _ _ q.2⟩
theorem monos_cons {g : TG} {gs : TGs} (h : Mono g) (hs : Monos gs) : Monos (gCons g gs) := fun _ _ _ _ _ k ⟨v, r, e, q⟩ => ⟨v, r, e, h _ _ _ _ _ (fun _ _ q => hs _ _ _ _ _ k q) q⟩
theorem mono_tup {K : PySem.W.Frag} {n : Nat} {gs : TGs} (hs : Monos gs) : Mono (gTup K n gs) := fun _ _ _ _ _ k ⟨a, xs, e, s, l, q⟩ => ⟨a, xs, e, s, l, hs _ _ _ _ _ k q⟩
theorem ins_cons {vs : List Nat} {g : TG} {gs : TGs} (m : Mono g) (h : Inside vs g) (hm : Monos gs) (hs : Insides vs gs) : Insides vs (gCons g gs) := fun v σ H Q ⟨x, r, e, q⟩ =>
  ⟨x, r, e, m _ _ _ _ _ (fun σ1 H1 ⟨e1, q1⟩ => hm _ _ _ _ _ (fun σ2 H2 ⟨e2, q2⟩ => ⟨e2.trans e1, q2⟩) (hs _ _ _ _ q1)) (h _ _ _ _ q)⟩
theorem in_tup {vs : List Nat} {K : PySem.W.Frag} {n : Nat} {gs : TGs} (hs : Insides vs gs) : Inside vs (gTup K n gs) := fun v σ H Q ⟨a, xs, e, s, l, q⟩ => ⟨a, xs, e, s, l, hs _ _ _ _ q⟩

/-- the slots that a comprehension's block sees -/
def wipeG (vs : List Nat) : Nat → List SV → List SV
  | _, [] => []
  | n, .dat d :: r => (if vs.elem n then .un else .dat d) :: wipeG vs (n + 1) r
  | n, _ :: r => .un :: wipeG vs (n + 1) r
theorem wipeG_len (vs : List Nat) : ∀ (n : Nat) (Γ : List SV), (wipeG vs n Γ).length = Γ.length
  | _, [] => rfl
  | n, .dat _ :: r => congrArg Nat.succ (wipeG_len vs (n + 1) r)
  | n, .un :: r => congrArg Nat.succ (wipeG_len vs (n + 1) r)
  | n, .own _ :: r => congrArg Nat.succ (wipeG_len vs (n + 1) r)
  | n, .exn _ :: r => congrArg Nat.succ (wipeG_len vs (n + 1) r)
theorem wipeG_get (vs : List Nat) : ∀ (n : Nat) (Γ : List SV) (j : Nat) (sv : SV), (wipeG vs n Γ)[j]? = some sv → sv = .un ∨ ∃ d, sv = .dat d ∧ Γ[j]? = some (.dat d) ∧ n + j ∉ vs
  | _, [], _, _, h => by simp [wipeG] at h
  | n, x :: r, 0, sv, h => by
    cases x with
    | un => simp [wipeG] at h; exact .inl h.symm
    | own o => simp [wipeG] at h; exact .inl h.symm
    | exn o => simp [wipeG] at h; exact .inl h.symm
    | dat d =>
      simp only [wipeG, List.getElem?_cons_zero, Option.some.injEq] at h
      by_cases q : vs.elem n = true
      · rw [if_pos q] at h; exact .inl h.symm
      · rw [if_neg q] at h
        exact .inr ⟨d, h.symm, rfl, fun z => q (List.elem_eq_true_of_mem z)⟩
  | n, x :: r, j + 1, sv, h => by
    have h' : (wipeG vs (n + 1) r)[j]? = some sv := by cases x <;> simpa [wipeG] using h
    rcases wipeG_get vs (n + 1) r j sv h' with e | ⟨d, e1, e2, e3⟩
    · exact .inl e
    · exact .inr ⟨d, e1, by simpa using e2, by rw [show n + (j + 1) = n + 1 + j by omega]; exact e3⟩
theorem Mt.blk {K : PySem.W.Frag} {B : Bs} {F H F' H' : Hp} {σ : L2.St} {Γ : List SV} {vs : List Nat} (m : Mt K B F H σ Γ) (g : Grow F H F' H') : Mt K ⟨F', H'⟩ F' H' (wipe σ vs) (wipeG vs 0 Γ) := by
  have m2 := m.grow g
  refine ⟨⟨g.sub, .refl _, .refl _, fun a o e => .inl e⟩, by rw [wipe_length, wipeG_len]; exact m.len, fun i sv e => ?_, fun i j oi oj p ne ei ej => ?_⟩
  · rcases wipeG_get vs 0 Γ i sv e with rfl | ⟨d, rfl, e2, e3⟩
    · trivial
    · obtain ⟨v, e4, r⟩ := m2.at e2
      refine ⟨v, ?_, r⟩
      rw [Nat.zero_add] at e3
      rw [wipe_get, if_neg e3]
      exact e4
  · rcases wipeG_get vs 0 Γ i _ ei with z | ⟨d, z, _⟩ <;> cases z

/-- the core: what the reading of a comprehension asks -/
theorem lc_D {K : PySem.W.Frag} {B : Bs} {α : Type} {xs : List α} {f v : α → D} {p : α → Bool} {J : It} {g : TG} {tt : TT} {te : TE} {vs : List Nat} {σ : L2.St} {Γ : List SV} {H1 F1 : Hp} {Q : VK} {W : WX} {Dl : Addr} (m1 : Mt K B F1 H1 σ Γ) (y : Yields K F1 J (xs.map f)) (hz : xs.length ≤ sizeLine) (hin : Inside vs g) (mon : Mono g)
    (hs : ∀ x ∈ xs, ∃ Γd, (∀ B', RG K B' g (wipeG vs 0 Γ) (f x) Γd) ∧ (∀ (B' : Bs) (σ2 : L2.St) (H F : Hp), Mt K B' F H σ2 Γd → ∀ R : Bool → Hp → Prop, (∀ H' F', Mt K B' F' H' σ2 Γd → Same F F' → R (p x) H') → tt σ2 H R) ∧
      (p x = true → ∀ (B' : Bs) (σ2 : L2.St) (H F : Hp), Mt K B' F H σ2 Γd → ∀ R : VK, (∀ u H' F', Mt K B' F' H' σ2 Γd → Same F F' → Rp K F' u (v x) → R u H') → te σ2 H R))
    (k : EK K B W F1 σ Γ Q (.frs (.lst ((xs.filter p).map v)))) (nD : H1 Dl = none) :
    ∃ W : Nat → Nat → Hp → Prop, (∃ m, W 0 m (upd H1 Dl (.lst []))) ∧ ∀ i m H, W i m H → (J.stop i H ∧ Q (.ref Dl) H) ∨ (J.go i H ∧ ∃ Nx : Hp → Prop, (∀ H', Nx H' → ∃ m', m' < m ∧ W (i + 1) m' H') ∧ ∀ x H', J.yld i H x H' → g x (wipe σ vs) H' fun σ2 H2 => wipe σ2 vs = wipe σ vs ∧ tt σ2 H2 fun b H3 =>
      if b = true then te σ2 H3 fun y H4 => ∃ acc, H4 Dl = some (.lst acc) ∧ acc.length < sizeLine ∧ Nx (upd H4 Dl (.lst (acc ++ [y]))) else Nx H3) := by
  have fD : F1 Dl = none := m1.mb.sub.free nD
  refine ⟨fun i m H => m = xs.length - i ∧ i ≤ xs.length ∧ ∃ F' acc, Grow F1 H1 F' H ∧ F' Dl = none ∧ H Dl = some (.lst acc) ∧ RpL K F' acc (((xs.take i).filter p).map v), ⟨xs.length, by omega, Nat.zero_le _, F1, [], Grow.new1 m1.mb.sub nD, fD, upd_same, .nil⟩, ?_⟩
  rintro i m H ⟨rfl, hle, F', acc, gr, nf, hD, racc⟩
  obtain ⟨y1, y2⟩ := y i F' H gr.ff gr.sub
  rw [List.length_map] at y2
  by_cases hlt : i < xs.length
  · have hx : (xs.map f)[i]? = some (f xs[i]) := by rw [List.getElem?_map, List.getElem?_eq_getElem hlt]; rfl
    obtain ⟨g1, g2⟩ := y1 _ hx
    have et : xs.take (i + 1) = xs.take i ++ [xs[i]] := by rw [List.take_add_one, List.getElem?_eq_getElem hlt]; rfl
    refine .inr ⟨g1, fun H5 => ∃ F5 acc5, Grow F1 H1 F5 H5 ∧ F5 Dl = none ∧ H5 Dl = some (.lst acc5) ∧ RpL K F5 acc5 (((xs.take (i + 1)).filter p).map v), fun H5 h5 => ⟨xs.length - (i + 1), by omega, rfl, hlt, h5⟩, fun u H2 hy => ?_⟩
    obtain ⟨F2, gr2, ru⟩ := g2 u H2 hy
    obtain ⟨Γd, hr, ht, he⟩ := hs xs[i] (List.getElem_mem hlt)
    have gg := gr.trans gr2
    have nf2 : F2 Dl = none := by
      cases q : F2 Dl with
      | none => rfl
      | some o => rcases gr2.new _ _ q with z | z
                  · rw [nf] at z; cases z
                  · rw [hD] at z; cases z
    have hD2 := gr2.hh _ _ hD
    refine mon _ _ _ _ _ (fun σ2 H3 q => ⟨q.1.trans (wipe_wipe σ vs), q.2⟩) (hin _ _ _ _ (hr ⟨F2, H2⟩ _ H2 F2 u (m1.blk gg) ru _ fun σ2 m2 => ?_))
    have step : ∀ {F4 H4 : Hp}, Mt K ⟨F2, H2⟩ F4 H4 σ2 Γd → Grow F1 H1 F4 H4 ∧ F4 Dl = none ∧ H4 Dl = some (.lst acc) ∧ RpL K F4 acc (((xs.take i).filter p).map v) := fun {F4 H4} m4 => by
      have g4 : Grow F2 H2 F4 H4 := ⟨m4.mb.f0, m4.mb.h0, m4.mb.sub, m4.mb.new⟩
      refine ⟨gg.trans g4, ?_, g4.hh _ _ hD2, racc.mono (gr2.ff.trans g4.ff)⟩
      cases q : F4 Dl with
      | none => rfl
      | some o => rcases g4.new _ _ q with z | z
                  · rw [nf2] at z; cases z
                  · rw [hD2] at z; cases z
    refine ht _ σ2 H2 F2 m2 _ fun H3 F3 m3 s3 => ?_
    cases hp : p xs[i] with
    | false =>
      obtain ⟨q1, q2, q3, q4⟩ := step m3
      refine ite_ff ⟨F3, acc, q1, q2, q3, ?_⟩
      rw [et, List.filter_append, List.filter_cons_of_neg (by rw [hp]; exact Bool.false_ne_true), List.filter_nil, List.append_nil]
      exact q4
    | true =>
      refine ite_tt (he hp _ σ2 H3 F3 m3 _ fun w H4 F4 m4 s4 rw' => ?_)
      obtain ⟨q1, q2, q3, q4⟩ := step m4
      refine ⟨acc, q3, ?_, F4, acc ++ [w], ⟨q1.ff, fun b o e => ?_, fun b o e => ?_, q1.new⟩, q2, upd_same, ?_⟩
      · have := q4.len
        rw [List.length_map] at this
        have h2 := List.length_filter_le p (xs.take i)
        rw [List.length_take] at h2
        omega
      · rw [upd_ne (ne_of_none e nD)]; exact q1.hh b o e
      · rw [upd_ne (ne_of_none e q2)]; exact q1.sub b o e
      · rw [et, List.filter_append, List.filter_cons_of_pos (by rw [hp]), List.filter_nil, List.map_append]
        exact q4.app (.cons rw' .nil)
  · have e : i = xs.length := by omega
    subst e
    rw [List.take_length] at racc
    exact .inl ⟨y2 (by omega), k Dl H F' (m1.grow gr) gr.ff (m1.mb.h0.free nD) (m1.apart nD) ⟨nf, acc, hD, racc⟩⟩

section
variable {B : Bs} {X : Cx} {Γ Γw : List SV} {elt tg iter c : Expr} {scope : Scope} {own : List (Str × Nat)} {pos pos' spos : Pos} {g : TG} {α : Type} {post : SO → Prop}
abbrev Blk (X : Cx) (scope : Scope) (q : Shared × Hp × Addr × List (Str × Addr) × List Addr) : Cx := X.blk q.1 q.2.1 scope (compEnvC scope q.2.2.2.1 q.2.2.1 X.env) q.2.2.2.2
/-- the element, over all blocks -/
def tEl (X : Cx) (scope : Scope) (elt : Expr) : TE := fun σ H Q => ∀ q, tAny (Blk X scope q) elt σ H Q
def tTs (X : Cx) (scope : Scope) (c : Expr) : TT := fun σ H Q => ∀ q, tAnyT (Blk X scope q) c σ H Q
theorem elE : ∀ (s : Shared) (H : Hp) (C : Addr) (cl : List (Str × Addr)) (fp : List Addr), PE (X.blk s H scope (compEnvC scope cl C X.env) fp) elt (tEl X scope elt) := fun s H C cl fp => ⟨fun pins s' _ _ _ I h => h (s, H, C, cl, fp) pins s' I⟩
theorem tsT : ∀ (s : Shared) (H : Hp) (C : Addr) (cl : List (Str × Addr)) (fp : List Addr), PTs (X.blk s H scope (compEnvC scope cl C X.env) fp) [c] (tTs X scope c) := fun s H C cl fp => pts_one ⟨fun pins s' _ _ _ I h => h (s, H, C, cl, fp) pins s' I⟩
theorem tsN : ∀ (s : Shared) (H : Hp) (C : Addr) (cl : List (Str × Addr)) (fp : List Addr), PTs (X.blk s H scope (compEnvC scope cl C X.env) fp) [] tYes := fun _ _ _ _ _ => pts_nil
/-- [elt for tg in iter] -/
theorem re_lc (xs : List α) (f v : α → D) (hc : X.calm = true) (hN : X.N.Nodup) (hi : RI B X tg iter Γ (xs.map f)) (ok : BlkOk X.N X.env.scope scope own) (hg : ∀ (s : Shared) (H : Hp) (C : Addr) (cl : List (Str × Addr)) (fp : List Addr), PG (X.blk s H scope (compEnvC scope cl C X.env) fp) tg g)
    (hin : Inside (own.map (·.2)) g) (mon : Mono g) (hw : wipeG (own.map (·.2)) 0 Γ = Γw) (hz : xs.length ≤ sizeLine)
    (hs : ∀ x ∈ xs, ∃ Γd, (∀ B', RG X.K B' g Γw (f x) Γd) ∧ ∀ B' q, RE B' (Blk X scope q) elt Γd (.val (v x))) (hf : ∀ x, foldedSetIterable iter X.env x = pure x := by intro _; rfl) :
    RE B X (.ListComp elt [⟨tg, iter, [], 0⟩] scope pos) Γ (.frs (.lst (xs.map v))) := fun W tk σ H F m Q k => by
  obtain ⟨wi, pi, hi⟩ := hi
  refine toE (pe_lc hc hN pi ok hg tsN elE hf) (hi W tk σ H F m _ fun J H1 F1 m1 s1 y => fun Dl nD => ?_)
  refine lc_D (p := fun _ => true) (v := v) (W := W) m1 y hz hin mon (fun x hx => ?_) (by rw [List.filter_eq_self.mpr (fun _ _ => rfl)]; exact k.mono s1) nD
  obtain ⟨Γd, h1, h2⟩ := hs x hx
  exact ⟨Γd, by rw [hw]; exact h1, fun B' σ2 H F m R kk => kk H F m (.refl F), fun _ B' σ2 H F m R kk q => h2 B' q _ takes0 σ2 H F m R kk⟩
/-- [elt for tg in iter if c] -/
theorem re_lcIf (xs : List α) (f v : α → D) (p : α → Bool) (hc : X.calm = true) (hN : X.N.Nodup) (hi : RI B X tg iter Γ (xs.map f)) (ok : BlkOk X.N X.env.scope scope own) (hg : ∀ (s : Shared) (H : Hp) (C : Addr) (cl : List (Str × Addr)) (fp : List Addr), PG (X.blk s H scope (compEnvC scope cl C X.env) fp) tg g)
    (hin : Inside (own.map (·.2)) g) (mon : Mono g) (hw : wipeG (own.map (·.2)) 0 Γ = Γw) (hz : xs.length ≤ sizeLine)
    (hs : ∀ x ∈ xs, ∃ Γd, (∀ B', RG X.K B' g Γw (f x) Γd) ∧ (∀ B' q, RT B' (Blk X scope q) c Γd (p x)) ∧ (p x = true → ∀ B' q, RE B' (Blk X scope q) elt Γd (.val (v x)))) (hf : ∀ x, foldedSetIterable iter X.env x = pure x := by intro _; rfl) :
    RE B X (.ListComp elt [⟨tg, iter, [c], 0⟩] scope pos) Γ (.frs (.lst ((xs.filter p).map v))) := fun W tk σ H F m Q k => by
  obtain ⟨wi, pi, hi⟩ := hi
  refine toE (pe_lc hc hN pi ok hg tsT elE hf) (hi W tk σ H F m _ fun J H1 F1 m1 s1 y => fun Dl nD => ?_)
  refine lc_D (p := p) (v := v) (W := W) m1 y hz hin mon (fun x hx => ?_) (k.mono s1) nD
  obtain ⟨Γd, h1, h2, h3⟩ := hs x hx
  exact ⟨Γd, by rw [hw]; exact h1, fun B' σ2 H F m R kk q => h2 B' q _ takes0 σ2 H F m R kk, fun hp B' σ2 H F m R kk q => h3 hp B' q _ takes0 σ2 H F m R kk⟩
/-- y = [elt for tg in iter] -/
theorem w1_lc (i : Nat) {y : Str} {py : Pos} (xs : List α) (f v : α → D) (hc : X.calm = true) (hN : X.N.Nodup) (hi : RI B X tg iter Γ (xs.map f)) (ok : BlkOk X.N X.env.scope scope own) (hg : ∀ (s : Shared) (H : Hp) (C : Addr) (cl : List (Str × Addr)) (fp : List Addr), PG (X.blk s H scope (compEnvC scope cl C X.env) fp) tg g)
    (hin : Inside (own.map (·.2)) g) (mon : Mono g) (hw : wipeG (own.map (·.2)) 0 Γ = Γw) (hz : xs.length ≤ sizeLine)
    (hs : ∀ x ∈ xs, ∃ Γd, (∀ B', RG X.K B' g Γw (f x) Γd) ∧ ∀ B' q, RE B' (Blk X scope q) elt Γd (.val (v x))) (h : post (.nx (Γ.set i (.own (.lst (xs.map v))))))
    (hsw : swapsWith (.ListComp elt [⟨tg, iter, [], 0⟩] scope pos) (some (.Name y py)) spos.line X.env = pure true) (hy : X.N[i]? = some y := by rfl) (hyl : X.env.scope.names.lookup y = some .local := by rfl) (hf : ∀ x, foldedSetIterable iter X.env x = pure x := by intro _; rfl) :
    W1 B X (.Assign [.Name y py] (.ListComp elt [⟨tg, iter, [], 0⟩] scope pos) spos) Γ post := fun W tk σ H F m D k => by
  obtain ⟨wi, pi, hi⟩ := hi
  refine toS (ps_setLc hc hN hy hyl hsw pi ok hg tsN elE hf) (hi W tk σ H F m _ fun J H1 F1 m1 s1 yy => fun Dl nD => ?_)
  refine lc_D (Q := fun x H1 => gName i x σ H1 D.nx) (p := fun _ => true) (v := v) (W := W) m1 yy hz hin mon (fun x hx => ?_) (fun p H' F' m' s n0 ap w => ?_) nD
  · obtain ⟨Γd, h1, h2⟩ := hs x hx
    exact ⟨Γd, by rw [hw]; exact h1, fun B' σ2 H F m R kk => kk H F m (.refl F), fun _ B' σ2 H F m R kk q => h2 B' q _ takes0 σ2 H F m R kk⟩
  · rw [List.filter_eq_self.mpr (fun _ _ => rfl)] at w
    exact k.nx _ H' F' _ h (m'.putOwn i n0 ap w) (s1.trans s)
theorem w1_lcIf (i : Nat) {y : Str} {py : Pos} (xs : List α) (f v : α → D) (p : α → Bool) (hc : X.calm = true) (hN : X.N.Nodup) (hi : RI B X tg iter Γ (xs.map f)) (ok : BlkOk X.N X.env.scope scope own) (hg : ∀ (s : Shared) (H : Hp) (C : Addr) (cl : List (Str × Addr)) (fp : List Addr), PG (X.blk s H scope (compEnvC scope cl C X.env) fp) tg g)
    (hin : Inside (own.map (·.2)) g) (mon : Mono g) (hw : wipeG (own.map (·.2)) 0 Γ = Γw) (hz : xs.length ≤ sizeLine)
    (hs : ∀ x ∈ xs, ∃ Γd, (∀ B', RG X.K B' g Γw (f x) Γd) ∧ (∀ B' q, RT B' (Blk X scope q) c Γd (p x)) ∧ (p x = true → ∀ B' q, RE B' (Blk X scope q) elt Γd (.val (v x)))) (h : post (.nx (Γ.set i (.own (.lst ((xs.filter p).map v))))))
    (hsw : swapsWith (.ListComp elt [⟨tg, iter, [c], 0⟩] scope pos) (some (.Name y py)) spos.line X.env = pure true) (hy : X.N[i]? = some y := by rfl) (hyl : X.env.scope.names.lookup y = some .local := by rfl) (hf : ∀ x, foldedSetIterable iter X.env x = pure x := by intro _; rfl) :
    W1 B X (.Assign [.Name y py] (.ListComp elt [⟨tg, iter, [c], 0⟩] scope pos) spos) Γ post := fun W tk σ H F m D k => by
  obtain ⟨wi, pi, hi⟩ := hi
  refine toS (ps_setLc hc hN hy hyl hsw pi ok hg tsT elE hf) (hi W tk σ H F m _ fun J H1 F1 m1 s1 yy => fun Dl nD => ?_)
  refine lc_D (Q := fun x H1 => gName i x σ H1 D.nx) (p := p) (v := v) (W := W) m1 yy hz hin mon (fun x hx => ?_) (fun p' H' F' m' s n0 ap w => ?_) nD
  · obtain ⟨Γd, h1, h2, h3⟩ := hs x hx
    exact ⟨Γd, by rw [hw]; exact h1, fun B' σ2 H F m R kk q => h2 B' q _ takes0 σ2 H F m R kk, fun hp B' σ2 H F m R kk q => h3 hp B' q _ takes0 σ2 H F m R kk⟩
  · exact k.nx _ H' F' _ h (m'.putOwn i n0 ap w) (s1.trans s)
end

/-! ### the rule of a def -/
def startG (n : Nat) (ds : List D) : List SV := ds.map .dat ++ List.replicate (n - ds.length) .un
theorem mt_start {K : PySem.W.Frag} {F H : Hp} {N : List Str} {vs : List V} {ds : List D} (s : Same F H) (r : RpL K F vs ds) (hn : ds.length ≤ N.length) : Mt K ⟨F, H⟩ F H (L2.start N vs) (startG N.length ds) := by
  refine ⟨⟨s, .refl _, .refl _, fun a o e => .inl e⟩, ?_, fun i sv e => ?_, fun i j oi oj p ne ei ej => ?_⟩
  · unfold L2.start startG
    rw [List.length_append, List.length_append, List.length_map, List.length_map, List.length_replicate, List.length_replicate, r.len]
  · unfold startG at e
    by_cases hi : i < ds.length
    · rw [List.getElem?_append_left (by rw [List.length_map]; exact hi), List.getElem?_map, List.getElem?_eq_getElem hi] at e
      cases e
      obtain ⟨v, hv, rv⟩ := r.get (List.getElem?_eq_getElem hi)
      refine ⟨v, ?_, rv⟩
      unfold L2.start
      rw [List.getElem?_append_left (by rw [List.length_map, r.len]; exact hi), List.getElem?_map, hv]
      rfl
    · rw [List.getElem?_append_right (by rw [List.length_map]; omega), List.getElem?_replicate] at e
      split at e
      · cases e; trivial
      · cases e
  · unfold startG at ei
    by_cases hi : i < ds.length
    · rw [List.getElem?_append_left (by rw [List.length_map]; exact hi), List.getElem?_map, List.getElem?_eq_getElem hi] at ei
      cases ei
    · rw [List.getElem?_append_right (by rw [List.length_map]; omega), List.getElem?_replicate] at ei
      split at ei <;> cases ei
def retP (o : RO) : SO → Prop
  | .nx _ => o = .val .non
  | .ret r => r = o
  | .exc x _ => o = .exc x
  | _ => False
theorem Mb.gr {B : Bs} {F H : Hp} (m : Mb B F H) : Grow B.F0 B.H0 F H := ⟨m.f0, m.h0, m.sub, m.new⟩
/-- a def as it stands behind the top, whatever its defaults -/
structure Fun (K : PySem.W.Frag) (x qual : Str) (st : Stmt) (f : Addr) (fd : FuncData) : Prop where
  ex : ∃ (oc : Value) (od : Option Addr) (dV kV doc pm : Value) (an : Option Addr) (cdv ct : Value) (osl : Array (Option Value)), fd = PySem.W.fnOf x qual (defArgs st) (defBody st) (defScope st) dV kV doc pm an cdv ct ∧ K.lookup f = some ⟨oc, od, .func fd, osl⟩ ∧ PySem.W.codeIn K cdv qual = true
  kp : PySem.W.keepIn K (.ref f) = true
section
variable {P : Program} {w : World} {K : PySem.W.Frag} {mg : Str → Option Value} {base : Heap}
theorem Fun.okX {x qual : Str} {st : Stmt} {f : Addr} {fd : FuncData} {N ps : List Str} {k : Nat} {sp : Sp} (F : Fun K x qual st f fd) (S : FnScope N ps (defScope st)) (len : ∀ vs H Q E, sp vs H Q E → vs.length = ps.length)
    (hb : ∀ (cdv : Value) (A : Around) (outer : List Env) (s : Shared) (H : Hp) (vs : List V) (Q : VK) (E : XK), Room k (A.deeper (envOfC qual (defScope st) s.heap.objs.size f cdv)) → sp vs H Q E →
      ∃ t, PSs (cxOf (L2.CX P w) P w K mg base N qual (defScope st) f cdv A outer s H E) (defBody st) t ∧ t { nx := fun _ H' => Q .non H', rt := Q } (start N vs) H) : FnOk P w K mg base (L2.CX P w) (k + 1) f fd ps sp := by
  obtain ⟨oc, od, dV, kV, doc, pm, an, cdv, ct, osl, rfl, lkd, hcd⟩ := F.ex
  exact fn_of lkd hcd S len fun A outer s H vs Q E hr hsp => hb cdv A outer s H vs Q E hr hsp
theorem fun_mk {x qual : Str} {st : Stmt} {f : Addr} {oc : Value} {od an : Option Addr} {osl : Array (Option Value)} {dV kV doc pm cdv ct : Value} (l : K.lookup f = some ⟨oc, od, .func (PySem.W.fnOf x qual (defArgs st) (defBody st) (defScope st) dV kV doc pm an cdv ct), osl⟩)
    (c : PySem.W.codeIn K cdv qual = true) (k : PySem.W.keepIn K (.ref f) = true) : Fun K x qual st f (PySem.W.fnOf x qual (defArgs st) (defBody st) (defScope st) dV kV doc pm an cdv ct) := ⟨⟨oc, od, dV, kV, doc, pm, an, cdv, ct, osl, rfl, l, c⟩, k⟩
theorem binds_mk {x qual : Str} {st : Stmt} {kV doc pm cdv ct : Value} {an : Option Addr} {ps : List Str} (h : ∀ us : List Value, us.length = ps.length → bindArgs (PySem.W.fnOf x qual (defArgs st) (defBody st) (defScope st) .none kV doc pm an cdv ct) ⟨us, []⟩ = pure (ps.zip us)) : Binds K (PySem.W.fnOf x qual (defArgs st) (defBody st) (defScope st) .none kV doc pm an cdv ct) ps [] := .all h
/-- a def with a tuple of defaults at T: ds of them fill up -/
theorem binds_dfl {x qual : Str} {st : Stmt} {kV doc pm cdv ct : Value} {an : Option Addr} {ps : List Str} {T : Addr} {oT : Obj} {its ds : List Value} {n : Nat} (lT : K.lookup T = some oT) (hT : oT.data = .seq its.toArray n) (h : ∀ us : List Value, us.length + ds.length = ps.length → ∃ k, bindArgs (PySem.W.fnOf x qual (defArgs st) (defBody st) (defScope st) (.ref T) kV doc pm an cdv ct) ⟨us, []⟩ = seqItems? (.ref T) >>= k ∧ k (some its.toArray) = pure (ps.zip (us ++ ds))) :
    Binds K (PySem.W.fnOf x qual (defArgs st) (defBody st) (defScope st) (.ref T) kV doc pm an cdv ct) ps ds := fun s us X hlen => by
  obtain ⟨k, e1, e2⟩ := h us (by rw [List.length_append] at hlen; exact hlen)
  refine BindsTo.of_looks fun M => ?_
  rw [e1]
  exact looks_items X lT hT (.of_pure e2)
theorem fn_D {x qual : Str} {st : Stmt} {f : Addr} {fd : FuncData} {N ps : List Str} {k : Nat} {S : DSp} (F : Fun K x qual st f fd) (Sc : FnScope N ps (defScope st)) (hn : ps.length ≤ N.length) (len : ∀ ds o, S ds o → ds.length = ps.length)
    (body : ∀ ds o, S ds o → ∀ (B : Bs) (cdv : Value) (A : Around) (outer : List Env) (s : Shared) (H : Hp) (E : XK), Room k (A.deeper (envOfC qual (defScope st) s.heap.objs.size f cdv)) →
      WS B (cxOf (L2.CX P w) P w K mg base N qual (defScope st) f cdv A outer s H E) (defBody st) (startG N.length ds) (retP o)) : FnOk P w K mg base (L2.CX P w) (k + 1) f fd ps (spD K S) := by
  refine F.okX Sc (fun vs H Q E h => ?_) (fun cdv A outer s H vs Q E hr h => ⟨_, anyB, ?_⟩)
  · obtain ⟨_, ds, o, _, r, hs, _⟩ := h
    rw [r.len]; exact len ds o hs
  · obtain ⟨F0, ds, o, sf, r, hs, dk⟩ := h
    refine body ds o hs ⟨F0, H⟩ cdv A outer s H E hr (fun c d _ H => E c d H) (takes_of rfl rfl rfl rfl) _ H F0 (mt_start sf r (by rw [len ds o hs]; exact hn)) _ ⟨fun σ' H' F' Γ p m s' => ?_, fun v H' F' r' p m s' ok => ?_, fun σ' H' F' Γ p => p.elim, fun σ' H' F' Γ p => p.elim, fun c d σ' H' F' Γ z p m s' rz => ?_⟩
    · have p' : o = .val .non := p
      subst p'
      exact dk .non H' F' m.mb.gr .non
    · have p' : r' = o := p
      subst p'
      cases r' with
      | val d => exact dk v H' F' m.gr ok
      | frs od => obtain ⟨q, rfl, n0, w⟩ := ok; exact dk q H' F' m.gr n0 w
      | exc z => exact ok.elim
    · have p' : o = .exc z := p
      subst p'
      exact dk c d H' F' m.mb.gr rz
def iniP (o : Except Exn (List (Str × D))) (y C : Addr) : SO → Prop
  | .nx Γ => ∃ fs, Γ[0]? = some (.own (.slf y C fs)) ∧ o = .ok fs
  | .exc x _ => o = .error x
  | _ => False
theorem fn_I {x qual : Str} {st : Stmt} {f : Addr} {fd : FuncData} {N ps : List Str} {k : Nat} {C : Addr} {S : ISp} (F : Fun K x qual st f fd) (Sc : FnScope N ps (defScope st)) (hn : ps.length ≤ N.length) (len : ∀ ds o, S ds o → ds.length + 1 = ps.length)
    (body : ∀ ds o, S ds o → ∀ (B : Bs) (y : Addr) (cdv : Value) (A : Around) (outer : List Env) (s : Shared) (H : Hp) (E : XK), Room k (A.deeper (envOfC qual (defScope st) s.heap.objs.size f cdv)) →
      WS B (cxOf (L2.CX P w) P w K mg base N qual (defScope st) f cdv A outer s H E) (defBody st) (.own (.slf y C []) :: startG (N.length - 1) ds) (iniP o y C)) : FnOk P w K mg base (L2.CX P w) (k + 1) f fd ps (spI K C S) := by
  refine F.okX Sc (fun vs H Q E h => ?_) (fun cdv A outer s H vs Q E hr h => ⟨_, anyB, ?_⟩)
  · obtain ⟨_, _, _, _, rest, ds, o, rfl, _, _, _, _, _, r, hs, _⟩ := h
    rw [List.length_cons, r.len]; exact len ds o hs
  · obtain ⟨F0, H0, y, dx, rest, ds, o, rfl, ny, nd, ne, rfl, sf, r, hs, dk⟩ := h
    have hl := len ds o hs
    have nlen : N.length = (N.length - 1) + 1 := by omega
    have s1 : Same H0 (upd (upd H0 dx (.own y)) y (.ins C dx [])) := fun b u e => by
      rw [upd_ne (ne_of_none e ny), upd_ne (ne_of_none e nd)]; exact e
    have m0 : Mt K ⟨F0, H0⟩ F0 (upd (upd H0 dx (.own y)) y (.ins C dx [])) (L2.start N (.ref y :: rest)) (.own (.slf y C []) :: startG (N.length - 1) ds) := by
      have ms := mt_start (N := N.tail) sf r (by rw [List.length_tail]; omega)
      rw [List.length_tail] at ms
      have es : L2.start N (.ref y :: rest) = some (.ref y) :: L2.start N.tail rest := by
        unfold L2.start
        rw [List.map_cons, List.length_cons, List.cons_append, List.length_tail, show N.length - (rest.length + 1) = N.length - 1 - rest.length by omega]
      rw [es]
      refine ⟨⟨sf.trans s1, .refl _, s1, fun a o e => .inl e⟩, by rw [List.length_cons, List.length_cons]; exact congrArg Nat.succ ms.len, fun i sv e => ?_, fun i j oi oj p hne ei ej => ?_⟩
      · cases i with
        | zero => cases e; exact ⟨y, rfl, ny, sf.free ny, dx, [], upd_same, .nil, rfl⟩
        | succ i =>
          have q := ms.slot i sv e
          cases sv with
          | un => trivial
          | exn a => exact q
          | dat d => exact q
          | own o' =>
            exfalso
            unfold startG at e
            rw [List.getElem?_cons_succ] at e
            by_cases hi : i < ds.length
            · rw [List.getElem?_append_left (by rw [List.length_map]; exact hi), List.getElem?_map, List.getElem?_eq_getElem hi] at e
              cases e
            · rw [List.getElem?_append_right (by rw [List.length_map]; omega), List.getElem?_replicate] at e
              split at e <;> cases e
      · have nz : ∀ (l : Nat) (ol : OD), (SV.own (.slf y C []) :: startG (N.length - 1) ds)[l]? = some (.own ol) → l = 0 := fun l ol q => by
          cases l with
          | zero => rfl
          | succ l =>
            exfalso
            unfold startG at q
            rw [List.getElem?_cons_succ] at q
            by_cases hi : l < ds.length
            · rw [List.getElem?_append_left (by rw [List.length_map]; exact hi), List.getElem?_map, List.getElem?_eq_getElem hi] at q
              cases q
            · rw [List.getElem?_append_right (by rw [List.length_map]; omega), List.getElem?_replicate] at q
              split at q <;> cases q
        exact absurd ((nz i oi ei).trans (nz j oj ej).symm) hne
    refine body ds o hs ⟨F0, H0⟩ y cdv A outer s _ E hr (fun c d _ H => E c d H) (takes_of rfl rfl rfl rfl) _ _ F0 m0 _ ⟨fun σ' H' F' Γ p m s' => ?_, fun v H' F' r' p => p.elim, fun σ' H' F' Γ p => p.elim, fun σ' H' F' Γ p => p.elim, fun c d σ' H' F' Γ z p m s' rz => ?_⟩
    · obtain ⟨fs, e, rfl⟩ := p
      obtain ⟨q, e1, n0, nf, dx', vs', e2, r2, rfl⟩ := m.own e
      exact dk H' F' m.mb.gr ⟨nf, dx', vs', e2, r2⟩
    · have p' : o = .error z := p
      subst p'
      exact dk c d H' F' m.mb.gr rz
end
end DL

/-! DL7: lists told by a map; texts; nested data compared; the module's own names; the end of a law. -/
namespace DL
open PySem PySem.Spec PyProof.Rows L2
/-! ### ints of a list by place -/
def nth (ns : List Int) (i : Int) : Int := ns.getD i.toNat 0
theorem ixN_in {n : Nat} {i : Int} (h0 : 0 ≤ i) (h1 : i < n) : ixN n i = some i.toNat := by
  unfold ixN
  rw [if_pos h0, if_pos h1]
theorem ix_map {α : Type} {f : α → D} {xs : List α} {i : Int} {x : α} (h0 : 0 ≤ i) (h : xs[i.toNat]? = some x) : atI (xs.map f) i = some (f x) := by
  have hl := (List.getElem?_eq_some_iff.mp h).1
  unfold atI
  rw [List.length_map, ixN_in h0 (by omega)]
  show (xs.map f)[i.toNat]? = _
  rw [List.getElem?_map, h]; rfl
theorem ix_ints {ns : List Int} {i : Int} (h0 : 0 ≤ i) (h1 : i < ns.length) : atI (ns.map D.int) i = some (.int (nth ns i)) := by
  refine ix_map h0 ?_
  unfold nth
  have hl : i.toNat < ns.length := by omega
  rw [List.getElem?_eq_getElem hl, List.getD_eq_getElem?_getD, List.getElem?_eq_getElem hl]; rfl
def cutL {α : Type} (ds : List α) (lo hi : Option Int) : List α := (ds.drop (HT.sIx ds.length 0 lo)).take (HT.sIx ds.length ds.length hi - HT.sIx ds.length 0 lo)
theorem cut_map {α : Type} {f : α → D} {xs : List α} {lo hi : Option Int} : cutD (xs.map f) lo hi = (cutL xs lo hi).map f := by
  unfold cutD cutL
  rw [List.length_map, List.map_take, List.map_drop]
theorem cutL_upto {α : Type} (xs : List α) (n : Nat) : cutL xs none (some (n : Int)) = xs.take n := by
  unfold cutL
  rw [HT.sIx_none, HT.sIx_nat, List.drop_zero, Nat.sub_zero]
  by_cases h : n ≤ xs.length
  · rw [Nat.min_eq_left h]
  · rw [Nat.min_eq_right (by omega), List.take_of_length_le (Nat.le_refl _), List.take_of_length_le (by omega)]
theorem cutL_from {α : Type} (xs : List α) (n : Nat) : cutL xs (some (n : Int)) none = xs.drop n := by
  unfold cutL
  rw [HT.sIx_none, HT.sIx_nat, List.take_of_length_le (by rw [List.length_drop]; omega)]
  by_cases h : n ≤ xs.length
  · rw [Nat.min_eq_left h]
  · rw [Nat.min_eq_right (by omega), List.drop_of_length_le (Nat.le_refl _), List.drop_of_length_le (by omega)]
section
variable {B : Bs} {X : Cx} {Γ : List SV} {a b c e : Expr} {es : List Expr} {pos : Pos} {post : SO → Prop}
theorem re_slM {α : Type} {f : α → D} {xs : List α} {lo hi : Option Expr} {l u : Option Int} {p2 : Pos} (ha : RP B X a Γ true (xs.map f)) (hl : RO1 B X lo Γ l) (hu : RO1 B X hi Γ u) : RE B X (.Subscript a (.Slice lo hi none p2) pos) Γ (.frs (.lst ((cutL xs l u).map f))) := by
  rw [← cut_map]; exact re_slL ha hl hu
theorem w1_appendM {α : Type} {f : α → D} {xs : List α} {v : α} (i : Nat) {call : Expr} (hΓ : Γ[i]? = some (.own (.lst (xs.map f)))) (hp : ∀ t : TE, PE X e t → PE X call (tBM X.K "list" rAppend (tVar i) (tCons t tNil))) (he : RE B X e Γ (.val (f v))) (hz : xs.length < sizeLine) (h : post (.nx (Γ.set i (.own (.lst ((xs ++ [v]).map f))))))
    (hs : swapsWith call none pos.line X.env = pure false := by rfl) : W1 B X (.Expr call pos) Γ post :=
  w1_append i hΓ hp he (by rw [List.length_map]; exact hz) (by rw [List.map_append] at h; exact h) hs
theorem ri_id {tg iter : Expr} {ds : List D} (h : RI B X tg iter Γ ds) : RI B X tg iter Γ (ds.map id) := by rw [List.map_id]; exact h
theorem ri_is {tg iter : Expr} {ds ds' : List D} (h : RI B X tg iter Γ ds) (e : ds = ds') : RI B X tg iter Γ ds' := e ▸ h
theorem rp_is {t : Bool} {ds ds' : List D} (h : RP B X e Γ t ds) (q : ds = ds') : RP B X e Γ t ds' := q ▸ h

/-! ### texts -/
theorem re_join {sep : Str} {ys : List Str} {t : Bool} {apos : Pos} (ho : RE B X a Γ (.val (.str sep))) (he : RP B X e Γ t (ys.map D.str)) (hz : (ys.map (·.length)).sum + ys.length * sep.length ≤ 16777216) (hs : starEach [e] X.env = [(false, eval e X.env)] := by rfl)
    (hbase : attributeBase a "join" X.env (eval a X.env) = eval a X.env := by rfl) (hline : (apos.endLine == pos.line) = true := by rfl) : RE B X (.Call (.Attribute a "join" apos) [e] [] pos) Γ (.val (.str (Txt.join sep ys))) := fun W tk σ H F m Q k =>
  toE (pe_join anyE anyE hs hbase hline) (ho W tk σ H F m _ fun v H1 F1 m1 s1 r1 => by
    cases r1
    refine ⟨⟨sep, rfl⟩, he W tk σ H1 F1 m1 _ fun p H2 F2 m2 s2 st => ?_⟩
    obtain ⟨vs, h1, h2⟩ := st H2 F2 m2 (.refl F2)
    rw [h2.strs] at h1
    exact ⟨sep, p, ys, rfl, rfl, h1.or, hz, (k.mono (s1.trans s2)).go m2 (.str _)⟩)
theorem rpL_strs {K : PySem.W.Frag} {F : Hp} : ∀ (ns : List Str), RpL K F (ns.map V.str) (ns.map D.str)
  | [] => .nil
  | n :: r => .cons (.str n) (rpL_strs r)
theorem re_split {x sep : Str} {apos : Pos} (ho : RE B X a Γ (.val (.str x))) (he : RE B X e Γ (.val (.str sep))) (h1 : (sep.length == 0) = false) (hz : x.length + 2 ≤ sizeLine) (hs : starEach [e] X.env = [(false, eval e X.env)] := by rfl)
    (hbase : attributeBase a "split" X.env (eval a X.env) = eval a X.env := by rfl) (hline : (apos.endLine == pos.line) = true := by rfl) : RE B X (.Call (.Attribute a "split" apos) [e] [] pos) Γ (.frs (.lst ((Txt.split x sep).map D.str))) := fun W tk σ H F m Q k =>
  toE (pe_split anyE anyE hs hbase hline) (ho W tk σ H F m _ fun v H1 F1 m1 s1 r1 => by
    cases r1
    refine ⟨⟨x, rfl⟩, he W tk σ H1 F1 m1 _ fun v H2 F2 m2 s2 r2 => ?_⟩
    cases r2
    exact ⟨x, sep, rfl, rfl, h1, hz, fun p n => (k.mono (s1.trans s2)).lst m2 (rpL_strs _) n⟩)
section
variable {p : Pos}
theorem re_strS (ms : X.mg "str" = none) {x : Str} (h : RE B X e Γ (.val (.str x))) (hg : Gl X "str" := by rfl) (he : starEach [e] X.env = (false, eval e X.env) :: starEach [] X.env := by rfl) : RE B X (.Call (.Name "str" p) [e] [] pos) Γ (.val (.str x)) :=
  re_callTy SkE.call_str_str ms (by decide +kernel) (rl_cons h rl_nil he) (fun W σ H F vs m r Q k => by
    cases r with
    | cons r1 r2 => cases r1; cases r2; exact ⟨x, rfl, k.go m (.str _)⟩) hg (he := he)
theorem re_intS (ms : X.mg "int" = none) {x : Str} {n : Int} (h : RE B X e Γ (.val (.str x))) (hn : PySem.intText? x = some n) (hz : x.length ≤ 640) (hg : Gl X "int" := by rfl) (he : starEach [e] X.env = (false, eval e X.env) :: starEach [] X.env := by rfl) : RE B X (.Call (.Name "int" p) [e] [] pos) Γ (.val (.int n)) :=
  re_callTy call_int_str ms (by decide +kernel) (rl_cons h rl_nil he) (fun W σ H F vs m r Q k => by
    cases r with
    | cons r1 r2 => cases r1; cases r2; exact ⟨x, n, rfl, hn, hz, k.go m (.int _)⟩) hg (he := he)
/-- a text's slice -/
theorem re_slS {z : Str} {lo hi : Option Expr} {l u : Option Int} {p2 : Pos} (ha : RE B X a Γ (.val (.str z))) (hl : RO1 B X lo Γ l) (hu : RO1 B X hi Γ u) (hz : z.length ≤ sizeLine) : RE B X (.Subscript a (.Slice lo hi none p2) pos) Γ (.val (.str (cutS z l u))) := fun W tk σ H F m Q k => by
  obtain ⟨t1, p1, h1⟩ := hl
  obtain ⟨t2, p2, h2⟩ := hu
  refine toE (pe_slice sl_str anyE p1 p2) (ha W tk σ H F m _ fun v H1 F1 m1 s1 r1 => h1 W tk σ H1 F1 m1 _ fun H2 F2 m2 s2 => h2 W tk σ H2 F2 m2 _ fun H3 F3 m3 s3 => ?_)
  cases r1
  exact ⟨z, rfl, hz, (k.mono ((s1.trans s2).trans s3)).go m3 (.str _)⟩
end

/-! ### nested data compared -/
mutual
def py : D → PyData
  | .non => .none
  | .bl b => .bool b
  | .int i => .int i
  | .str x => .str x
  | .tup ds => .tuple (pyL ds)
  | .lst ds => .list (pyL ds)
  | .ins _ _ => .none
def pyL : List D → List PyData
  | [] => []
  | d :: r => py d :: pyL r
end
theorem pyL_map : ∀ ds : List D, pyL ds = ds.map py
  | [] => rfl
  | d :: r => by rw [pyL, pyL_map r]; rfl
/-- data of lists, tuples and scalars, to depth n -/
def Sh : Nat → D → Prop
  | _, .non => True
  | _, .bl _ => True
  | _, .int _ => True
  | _, .str x => PyData.strOk x = true
  | 0, .tup _ => False
  | 0, .lst _ => False
  | n + 1, .tup ds => ∀ d ∈ ds, Sh n d
  | n + 1, .lst ds => ∀ d ∈ ds, Sh n d
  | _, .ins _ _ => False
theorem lay_all {P : PyData → Prop} (hP : ∀ p, P p → p.canLay0 = true) : ∀ (ps : List PyData), (∀ p ∈ ps, P p) → PyData.canLayAll0 ps = true
  | [], _ => rfl
  | p :: r, h => by rw [PyData.canLayAll0, hP p (h p List.mem_cons_self), lay_all hP r fun q hq => h q (List.mem_cons_of_mem _ hq)]; rfl
theorem depth_all {n : Nat} : ∀ (ps : List PyData), (∀ p ∈ ps, p.depth ≤ n) → PyData.depthAll ps ≤ n
  | [], _ => Nat.zero_le _
  | p :: r, h => by
    rw [PyData.depthAll]
    exact Nat.max_le.mpr ⟨h p List.mem_cons_self, depth_all r fun q hq => h q (List.mem_cons_of_mem _ hq)⟩
theorem Sh.lay : ∀ {n : Nat} {d : D}, Sh n d → (py d).canLay0 = true ∧ (py d).depth ≤ n
  | _, .non, _ => ⟨rfl, Nat.zero_le _⟩
  | _, .bl _, _ => ⟨rfl, Nat.zero_le _⟩
  | _, .int _, _ => ⟨rfl, Nat.zero_le _⟩
  | n, .str x, h => ⟨by cases n <;> exact h, Nat.zero_le _⟩
  | 0, .tup _, h => h.elim
  | 0, .lst _, h => h.elim
  | 0, .ins _ _, h => h.elim
  | _ + 1, .ins _ _, h => h.elim
  | n + 1, .tup ds, h => by
    have q : ∀ p ∈ pyL ds, p.canLay0 = true ∧ p.depth ≤ n := fun p hp => by
      rw [pyL_map] at hp
      obtain ⟨d, hd, rfl⟩ := List.mem_map.mp hp
      exact Sh.lay (h d hd)
    exact ⟨lay_all (P := fun p => p.canLay0 = true) (fun _ z => z) _ fun p hp => (q p hp).1, Nat.succ_le_succ (depth_all _ fun p hp => (q p hp).2)⟩
  | n + 1, .lst ds, h => by
    have q : ∀ p ∈ pyL ds, p.canLay0 = true ∧ p.depth ≤ n := fun p hp => by
      rw [pyL_map] at hp
      obtain ⟨d, hd, rfl⟩ := List.mem_map.mp hp
      exact Sh.lay (h d hd)
    exact ⟨lay_all (P := fun p => p.canLay0 = true) (fun _ z => z) _ fun p hp => (q p hp).1, Nat.succ_le_succ (depth_all _ fun p hp => (q p hp).2)⟩
theorem Sh.shaped {n : Nat} {d : D} (h : Sh n d) (hn : n ≤ 64) : SeqAt.shaped (py d) = true := by
  unfold SeqAt.shaped
  rw [h.lay.1, decide_eq_true (Nat.le_trans h.lay.2 hn)]; rfl
mutual
theorem Rp.dp {K : PySem.W.Frag} {F H : Hp} (s : Same F H) : ∀ {n : Nat} {v : V} {d : D}, Rp K F v d → Sh n d → Dp K H v (py d)
  | _, _, _, .non, _ => .non
  | _, _, _, .bl b, _ => .bl b
  | _, _, _, .int i, _ => .int i
  | _, _, _, .str x, _ => .str x
  | n + 1, _, _, .tup q r, h => .tup (same_sqT s q) (RpL.dp s r h)
  | n + 1, _, _, .lst q r, h => .lst (same_sqL s q) (RpL.dp s r h)
  | 0, _, _, .tup q r, h => h.elim
  | 0, _, _, .lst q r, h => h.elim
  | 0, _, _, .ins q r, h => h.elim
  | n + 1, _, _, .ins q r, h => h.elim
theorem RpL.dp {K : PySem.W.Frag} {F H : Hp} (s : Same F H) : ∀ {n : Nat} {vs : List V} {ds : List D}, RpL K F vs ds → (∀ d ∈ ds, Sh n d) → DpAll K H vs (pyL ds)
  | _, _, _, .nil, _ => .nil
  | _, _, _, .cons h r, hs => .cons (Rp.dp s h (hs _ List.mem_cons_self)) (RpL.dp s r fun d hd => hs d (List.mem_cons_of_mem _ hd))
end
def eqD (d e : D) : Bool := PyData.eqv (py d) (py e)
theorem eqD_refl {n : Nat} {d : D} (h : Sh n d) : eqD d d = true := SeqAt.eqv_refl _ h.lay.1
/-- no bools: == is equality -/
def Nb : Nat → D → Prop
  | _, .non => True
  | _, .bl _ => False
  | _, .int _ => True
  | _, .str _ => True
  | 0, .tup _ => False
  | 0, .lst _ => False
  | n + 1, .tup ds => ∀ d ∈ ds, Nb n d
  | n + 1, .lst ds => ∀ d ∈ ds, Nb n d
  | _, .ins _ _ => False
mutual
theorem eqv_nb : ∀ {n m : Nat} {d e : D}, Nb n d → Nb m e → PyData.eqv (py d) (py e) = true → d = e
  | _, _, .non, .non, _, _, _ => rfl
  | _, _, .int i, .int j, _, _, h => by
    have : i = j := by simpa [py, PyData.eqv] using h
    rw [this]
  | _, _, .str x, .str y, _, _, h => by
    have : x = y := by simpa [py, PyData.eqv] using h
    rw [this]
  | n + 1, m + 1, .tup ds, .tup es, h1, h2, h => by
    have q : PyData.eqvAll (pyL ds) (pyL es) = true := by simpa [py, PyData.eqv] using h
    rw [eqvL_nb h1 h2 q]
  | n + 1, m + 1, .lst ds, .lst es, h1, h2, h => by
    have q : PyData.eqvAll (pyL ds) (pyL es) = true := by simpa [py, PyData.eqv] using h
    rw [eqvL_nb h1 h2 q]
  | _, _, .non, .int _, _, _, h => by simp [py, PyData.eqv] at h
  | _, _, .non, .str _, _, _, h => by simp [py, PyData.eqv] at h
  | _, _, .non, .tup _, _, _, h => by simp [py, PyData.eqv] at h
  | _, _, .non, .lst _, _, _, h => by simp [py, PyData.eqv] at h
  | _, _, .int _, .non, _, _, h => by simp [py, PyData.eqv] at h
  | _, _, .int _, .str _, _, _, h => by simp [py, PyData.eqv] at h
  | _, _, .int _, .tup _, _, _, h => by simp [py, PyData.eqv] at h
  | _, _, .int _, .lst _, _, _, h => by simp [py, PyData.eqv] at h
  | _, _, .str _, .non, _, _, h => by simp [py, PyData.eqv] at h
  | _, _, .str _, .int _, _, _, h => by simp [py, PyData.eqv] at h
  | _, _, .str _, .tup _, _, _, h => by simp [py, PyData.eqv] at h
  | _, _, .str _, .lst _, _, _, h => by simp [py, PyData.eqv] at h
  | _, _, .tup _, .non, _, _, h => by simp [py, PyData.eqv] at h
  | _, _, .tup _, .int _, _, _, h => by simp [py, PyData.eqv] at h
  | _, _, .tup _, .str _, _, _, h => by simp [py, PyData.eqv] at h
  | _, _, .tup _, .lst _, _, _, h => by simp [py, PyData.eqv] at h
  | _, _, .lst _, .non, _, _, h => by simp [py, PyData.eqv] at h
  | _, _, .lst _, .int _, _, _, h => by simp [py, PyData.eqv] at h
  | _, _, .lst _, .str _, _, _, h => by simp [py, PyData.eqv] at h
  | _, _, .lst _, .tup _, _, _, h => by simp [py, PyData.eqv] at h
  | 0, _, .tup _, _, h1, _, _ => h1.elim
  | 0, _, .lst _, _, h1, _, _ => h1.elim
  | _, 0, _, .tup _, _, h2, _ => h2.elim
  | _, 0, _, .lst _, _, h2, _ => h2.elim
  | n, _, .bl _, _, h1, _, _ => by cases n <;> exact h1.elim
  | n, _, .ins _ _, _, h1, _, _ => by cases n <;> exact h1.elim
  | _, m, _, .bl _, _, h2, _ => by cases m <;> exact h2.elim
  | _, m, _, .ins _ _, _, h2, _ => by cases m <;> exact h2.elim
theorem eqvL_nb : ∀ {n m : Nat} {ds es : List D}, (∀ d ∈ ds, Nb n d) → (∀ d ∈ es, Nb m d) → PyData.eqvAll (pyL ds) (pyL es) = true → ds = es
  | _, _, [], [], _, _, _ => rfl
  | _, _, [], _ :: _, _, _, h => by simp [pyL, PyData.eqvAll] at h
  | _, _, _ :: _, [], _, _, h => by simp [pyL, PyData.eqvAll] at h
  | _, _, d :: ds, e :: es, h1, h2, h => by
    have q : PyData.eqv (py d) (py e) = true ∧ PyData.eqvAll (pyL ds) (pyL es) = true := by simpa [pyL, PyData.eqvAll] using h
    rw [eqv_nb (h1 d List.mem_cons_self) (h2 e List.mem_cons_self) q.1, eqvL_nb (fun x hx => h1 x (List.mem_cons_of_mem _ hx)) (fun x hx => h2 x (List.mem_cons_of_mem _ hx)) q.2]
end
theorem c_eqD {n m : Nat} {d1 d2 : D} (hu : X.A.units + 64 < cLine) (ha : RE B X a Γ (.val d1)) (hb : RE B X b Γ (.val d2)) (h1 : Sh n d1) (h2 : Sh m d2) (hn : n ≤ 64 := by decide) (hm : m ≤ 64 := by decide) : CO B X .Eq a b Γ (eqD d1 d2) :=
  co_of (op_eqD hu) (nomark _) ha hb fun W σ H F x y mt r1 r2 Q k => ⟨_, _, r1.dp mt.mb.sub h1, r2.dp mt.mb.sub h2, h1.shaped hn, h2.shaped hm, k.go mt (.bl _)⟩
theorem c_neD {n m : Nat} {d1 d2 : D} (hu : X.A.units + 64 < cLine) (ha : RE B X a Γ (.val d1)) (hb : RE B X b Γ (.val d2)) (h1 : Sh n d1) (h2 : Sh m d2) (hn : n ≤ 64 := by decide) (hm : m ≤ 64 := by decide) : CO B X .NotEq a b Γ (!eqD d1 d2) :=
  co_of (op_neD hu) (nomark _) ha hb fun W σ H F x y mt r1 r2 Q k => ⟨_, _, r1.dp mt.mb.sub h1, r2.dp mt.mb.sub h2, h1.shaped hn, h2.shaped hm, k.go mt (.bl _)⟩
/-- x in xs, of any data -/
def rInB (K : PySem.W.Frag) (neg : Bool) : R2 := fun x y H Q => ∃ d ds, Dp K H x d ∧ (Dp K H y (.list ds) ∨ Dp K H y (.tuple ds)) ∧ SeqAt.shaped d = true ∧ PyData.canLayAll0 ds = true ∧ Q (.bl (if neg then !(ds.any fun z => PyData.eqv z d) else ds.any fun z => PyData.eqv z d)) H
theorem op_inB (hu : X.A.units + 65 < cLine) : OpR X (compareOp .In) (rInB X.K false) := by
  intro pins s σ H x y v u Q I rx ry h
  obtain ⟨d, ds, hd, he, sd, se, q⟩ := h
  obtain ⟨as, r1⟩ := Dp.reads I d x v hd rx
  have rm : X.A.units + 1 + min (PyData.depthAll ds) d.depth < cLine := room_in_shaped sd hu
  rcases he with he | he
  · obtain ⟨bs, r2⟩ := Dp.reads I (.list ds) y u he ry
    exact SeqAt.in_list_reads r2 r1 se (SeqAt.canLay_of_shaped sd) rm ⟨.bl _, H, I, rfl, q⟩
  · obtain ⟨bs, r2⟩ := Dp.reads I (.tuple ds) y u he ry
    exact SeqAt.in_tuple_reads r2 r1 se (SeqAt.canLay_of_shaped sd) rm ⟨.bl _, H, I, rfl, q⟩
theorem op_niB (hu : X.A.units + 65 < cLine) : OpR X (compareOp .NotIn) (rInB X.K true) := by
  intro pins s σ H x y v u Q I rx ry h
  obtain ⟨d, ds, hd, he, sd, se, q⟩ := h
  obtain ⟨as, r1⟩ := Dp.reads I d x v hd rx
  have rm : X.A.units + 1 + min (PyData.depthAll ds) d.depth < cLine := room_in_shaped sd hu
  rcases he with he | he
  · obtain ⟨bs, r2⟩ := Dp.reads I (.list ds) y u he ry
    exact SeqAt.notIn_list_reads r2 r1 se (SeqAt.canLay_of_shaped sd) rm ⟨.bl _, H, I, rfl, q⟩
  · obtain ⟨bs, r2⟩ := Dp.reads I (.tuple ds) y u he ry
    exact SeqAt.notIn_tuple_reads r2 r1 se (SeqAt.canLay_of_shaped sd) rm ⟨.bl _, H, I, rfl, q⟩
def inD (d : D) (ds : List D) : Bool := ds.any fun z => eqD z d
theorem any_pyL (d : D) : ∀ ds : List D, ((pyL ds).any fun z => PyData.eqv z (py d)) = inD d ds
  | [] => rfl
  | e :: r => by rw [pyL, List.any_cons, any_pyL d r]; rfl
theorem canLay_L {m : Nat} {ds : List D} (h : ∀ d ∈ ds, Sh m d) : PyData.canLayAll0 (pyL ds) = true := by
  refine lay_all (P := fun p => p.canLay0 = true) (fun _ z => z) _ fun p hp => ?_
  rw [pyL_map] at hp
  obtain ⟨d, hd, rfl⟩ := List.mem_map.mp hp
  exact (h d hd).lay.1
theorem SqB.dp {K : PySem.W.Frag} {F H : Hp} {p : Addr} {vs : List V} {ds : List D} {t : Bool} {m : Nat} (s : Same F H) (q : SqB K H p vs t) (r : RpL K F vs ds) (h : ∀ d ∈ ds, Sh m d) : Dp K H (.ref p) (.list (pyL ds)) ∨ Dp K H (.ref p) (.tuple (pyL ds)) := by
  cases t with
  | true => exact .inl (.lst q (r.dp s h))
  | false => exact .inr (.tup q (r.dp s h))
theorem c_inP {n m : Nat} {t : Bool} {d : D} {ds : List D} (hu : X.A.units + 65 < cLine) (hm : behindInMarks .In b = false) (ha : RE B X a Γ (.val d)) (hb : RP B X b Γ t ds) (h1 : Sh n d) (h2 : ∀ d ∈ ds, Sh m d) (hn : n ≤ 64 := by decide) : CO B X .In a b Γ (inD d ds) :=
  ⟨_, op_inB hu, hm, fun W tk σ H F mt Q k => ha W tk σ H F mt _ fun x H1 F1 m1 s1 r1 => hb W tk σ H1 F1 m1 _ fun p H2 F2 m2 s2 st => by
    obtain ⟨vs, q1, q2⟩ := st H2 F2 m2 (.refl F2)
    refine ⟨py d, pyL ds, (r1.mono s2).dp m2.mb.sub h1, q1.dp m2.mb.sub q2 h2, h1.shaped hn, canLay_L h2, ?_⟩
    rw [any_pyL]
    exact k H2 F2 m2 (s1.trans s2)⟩
theorem c_niP {n m : Nat} {t : Bool} {d : D} {ds : List D} (hu : X.A.units + 65 < cLine) (hm : behindInMarks .NotIn b = false) (ha : RE B X a Γ (.val d)) (hb : RP B X b Γ t ds) (h1 : Sh n d) (h2 : ∀ d ∈ ds, Sh m d) (hn : n ≤ 64 := by decide) : CO B X .NotIn a b Γ (!inD d ds) :=
  ⟨_, op_niB hu, hm, fun W tk σ H F mt Q k => ha W tk σ H F mt _ fun x H1 F1 m1 s1 r1 => hb W tk σ H1 F1 m1 _ fun p H2 F2 m2 s2 st => by
    obtain ⟨vs, q1, q2⟩ := st H2 F2 m2 (.refl F2)
    refine ⟨py d, pyL ds, (r1.mono s2).dp m2.mb.sub h1, q1.dp m2.mb.sub q2 h2, h1.shaped hn, canLay_L h2, ?_⟩
    rw [any_pyL]
    exact k H2 F2 m2 (s1.trans s2)⟩
end

/-! ### the module's names -/
structure Bis (mg : Str → Option Value) : Prop where
  len : mg "len" = none
  abs : mg "abs" = none
  int : mg "int" = none
  max : mg "max" = none
  min : mg "min" = none
  list : mg "list" = none
  tuple : mg "tuple" = none
  all : mg "all" = none
  any : mg "any" = none
  str : mg "str" = none
  range : mg "range" = none
  enumerate : mg "enumerate" = none
  zip : mg "zip" = none
  sorted : mg "sorted" = none
  sum : mg "sum" = none
  isinstance : mg "isinstance" = none
  repr : mg "repr" = none
section
variable {P : Program} {w : World} {K : PySem.W.Frag} {mg : Str → Option Value} {base : Heap}
theorem defn_mk {x qual : Str} {st : Stmt} {f : Addr} {fd : FuncData} {ps : List Str} {k : Nat} {S : DSp} (F : Fun K x qual st f fd) (ok : FnOk P w K mg base (L2.CX P w) k f fd ps (spD K S)) (g : mg x = some (.ref f)) (b : Binds K fd ps []) : Defn P w K mg base k x [] S :=
  ⟨f, fd, ps, [], [], ok, g, F.kp, b, .nil, fun _ => .nil⟩
theorem gv_int {x : Str} {i : Int} {t : Tok} (h : mg x = some (.int i t)) : GV K mg x (.int i) := ⟨.int i, _, h, ⟨t, rfl⟩, fun _ => .int i⟩
theorem gv_str {x z : Str} {t : Tok} (h : mg x = some (.str z t)) : GV K mg x (.str z) := ⟨.str z, _, h, ⟨t, rfl⟩, fun _ => .str z⟩
end
/-- what a law is to be: at every script it answers True -/
def SLaw : DSp := fun ds o => ∃ ns : List Int, ds = [.lst (ns.map .int)] ∧ ns.length ≤ 63 ∧ o = .val (.bl true)
theorem law_sp {K : PySem.W.Frag} {H : Hp} {a : Addr} {ns : List Int} (hl : ns.length ≤ 63) (h : SqL K H a (ns.map V.int)) : spD K SLaw [.ref a] H (fun v _ => v = .bl true) fun _ _ _ => False :=
  ⟨H, [.lst (ns.map .int)], .val (.bl true), .refl H, .cons (.lst h (rpL_ints ns)) .nil, ⟨ns, rfl, hl, rfl⟩, fun v H' F' g r => by cases r; rfl⟩
theorem law_cx {P : Program} {w : World} {H : Hp} {s s' : Shared} {e : Value} (h : L2.CX P w [] H s (fun _ _ _ => False) e s') : False := by
  obtain ⟨_, _, _, _, _, _, _, _, _, _, _, _, z⟩ := h
  exact z
end DL

/-! DL8: enumerate over a list or a tuple, from any number on; a star in a display; isinstance. -/
namespace DL
open PySem PySem.Spec PyProof.Rows L2
open Sem (wp)
open AutoSeq1 (wpAny_loadPart')
/-- the iterator below: of a list, of a tuple -/
def Sub (t : Bool) (it a : Addr) (i : Nat) (h : Heap) : Prop := match t with
  | true => h.IsListIter it a i
  | false => h.IsTupleIter it a i
def SeqOf (t : Bool) (a : Addr) (its : Array Value) (h : Heap) : Prop := match t with
  | true => h.IsList a its
  | false => h.IsTuple a its
theorem sub_draws {prog : Program} {w : World} {A : Around} (hh : A.handled = none) (t : Bool) (it a : Addr) (hne : a ≠ it) (its : Array Value) : Draws prog w A it [it, a] its.size (fun i v => its[i]? = some v) (fun i h => Sub t it a i h ∧ SeqOf t a its h) := by
  cases t with
  | true => exact Draws.list hh it a hne its
  | false => exact Draws.tuple hh it a hne its
theorem seq_of {X : Cx} {pins : List (Addr × Obj)} {σ : L2.St} {H : Hp} {s : Shared} {a : Addr} {xs : List V} {t : Bool} (I : Inv X pins σ H s) (h : SqB X.K H a xs t) : ∃ its : List Value, Vals xs its ∧ SeqOf t a its.toArray s.heap ∧ xs.length ≤ sizeLine := by
  cases t with
  | true => obtain ⟨its, r, p, z⟩ := I.list h; exact ⟨its, r, p.isList, z⟩
  | false => obtain ⟨its, r, p, z⟩ := I.tuple h; exact ⟨its, r, p, z⟩
theorem sqB_inj {X : Cx} {pins : List (Addr × Obj)} {σ : L2.St} {H : Hp} {s : Shared} {a : Addr} {xs ys : List V} {t : Bool} (I : Inv X pins σ H s) (h : SqB X.K H a xs t) (h' : SqB X.K H a ys t) : xs = ys := by
  cases t with
  | true => exact I.list_inj h h'
  | false => exact I.tuple_inj h h'
theorem seq_lt {t : Bool} {a : Addr} {its : Array Value} {h : Heap} (q : SeqOf t a its h) : a < h.objs.size := by
  cases t with
  | true => obtain ⟨o, e, _⟩ := q; exact Heap.lt_size e
  | false => obtain ⟨o, e, _⟩ := q; exact Heap.lt_size e
theorem seq_live {t : Bool} {a : Addr} {its : Array Value} {h : Heap} (q : SeqOf t a its h) : ∃ o c, h.get? a = some o ∧ o.cls = .type c ∧ (c = "list" ∨ c = "tuple") := by
  cases t with
  | true => obtain ⟨o, e, c, _⟩ := q; exact ⟨o, _, e, c, .inl rfl⟩
  | false => obtain ⟨o, e, c, _⟩ := q; exact ⟨o, _, e, c, .inr rfl⟩
theorem sub_obj {t : Bool} {it a : Addr} {i : Nat} {h : Heap} (q : Sub t it a i h) : ∃ o c, h.get? it = some o ∧ (∀ v, o.data ≠ .cell v) ∧ o.cls = .type c ∧ c ≠ "list" ∧ c ≠ "tuple" := by
  cases t with
  | true => obtain ⟨o, e, c, d⟩ := q; exact ⟨o, _, e, (fun v z => by rw [d] at z; cases z), c, by decide, by decide⟩
  | false => obtain ⟨o, e, c, d⟩ := q; exact ⟨o, _, e, (fun v z => by rw [d] at z; cases z), c, by decide, by decide⟩
theorem sub_at {t : Bool} {it a : Addr} {i : Nat} {h h' : Heap} (q : Sub t it a i h) (k : ∀ o, h.get? it = some o → h'.get? it = some o) : Sub t it a i h' := by
  cases t with
  | true => exact q.at k
  | false => exact q.at k
def IteK (K : PySem.W.Frag) (t : Bool) (k : Int) (a : Addr) : It :=
  ⟨fun i H => ∃ (xs : List V) (x : V), SqB K H a xs t ∧ xs[i]? = some x, fun i H v H' => ∃ T x, v = .ref T ∧ H T = none ∧ H' = upd H T (.tup [.int (k + (i : Int)), x]) ∧ ∀ xs, SqB K H a xs t → xs[i]? = some x, fun i H => ∃ xs : List V, SqB K H a xs t ∧ xs.length = i⟩
theorem turn_enumK {P : Program} {w : World} {K : PySem.W.Frag} {elts : List Expr} {kk : Nat} {tpos : Pos} (t : Bool) (k : Int) (a e it : Addr) :
    Turn P w K (.Tuple elts kk tpos) (IteK K t k a) [e, it] e (fun i h => (∃ old, IsEnum h e it (k + (i : Int)) old) ∧ Sub t it a i h ∧ e ≠ it) where
  mem := by simp
  obj := fun i h st b hb => by
    obtain ⟨⟨old, he⟩, hs, _⟩ := st
    rcases (show b = e ∨ b = it by simpa using hb) with z | z
    · subst z; exact ⟨_, he, fun v q => nomatch q⟩
    · subst z; obtain ⟨o, _, e1, d, _⟩ := sub_obj hs; exact ⟨o, e1, d⟩
  keep := fun i h h' st q => let ⟨⟨old, he⟩, hi, hne⟩ := st; ⟨⟨old, q e (by simp) _ he⟩, sub_at hi (fun o z => q it (by simp) o z), hne⟩
  item := by
    intro X hP hw hK hc i pins s σ H E I hf st hg
    subst hP hw hK
    obtain ⟨⟨old, he⟩, hit, hne⟩ := st
    obtain ⟨xs, x, hq, hx⟩ := hg
    obtain ⟨its, rv, p, hz⟩ := seq_of I hq
    obtain ⟨u, hu, ru⟩ := rv.get hx
    have hel : e < s.heap.objs.size := Heap.lt_size he
    have hil : it < s.heap.objs.size := by obtain ⟨_, _, q, _⟩ := sub_obj hit; exact Heap.lt_size q
    obtain ⟨oa, ca, ea, cla, hca⟩ := seq_live p
    have hea : a ≠ e := fun z => by
      subst z
      rw [he] at ea; cases ea
      rcases hca with q | q <;> (subst q; exact absurd (Value.type.inj cla) (by decide))
    have hai : a ≠ it := fun z => by
      subst z
      obtain ⟨o2, c2, e2, _, q1, q2, q3⟩ := sub_obj hit
      rw [ea] at e2; cases e2
      rw [cla] at q1; cases q1
      exact hca.elim q2 q3
    have D := sub_draws (prog := X.prog) (w := X.w) (A := X.A.in1) (show X.A.in1.handled = none from I.ok.hd hc) t it a hai its.toArray
    have hlt : i < its.toArray.size := by rw [List.size_toArray]; exact (List.getElem?_eq_some_iff.mp hu).1
    refine wpAny_pyNext_enum_itemC D he ⟨hit, p⟩ hlt hne (by simp; exact ⟨hne, fun z => hea z.symm⟩) fun y h' tk hP ho hs' hT hsz hk => ?_
    have ey : y = u := by
      have : its.toArray[i]? = some u := by simpa using hu
      rw [this] at hP; exact (Option.some.inj hP).symm
    subst ey
    refine ⟨_, rfl, wpAny_letOwnedTupleGo_enum (s := { s with heap := h', toks := tk + 1 }) ho fun h'' he' sb => ?_⟩
    have hT2 : h''.get? s.heap.objs.size = some { cls := .type "tuple", data := .seq #[.int (k + (i : Int)) tk, y] } := (sb.2 _ (Nat.ne_of_gt hel)).trans hT
    have new : ObjOk X.prog X.w (upd H s.heap.objs.size (.tup [.int (k + (i : Int)), x])) h'' s.heap.objs.size (.tup [.int (k + (i : Int)), x]) :=
      ⟨by show 2 ≤ sizeLine; decide, [.int (k + (i : Int)) tk, y], .cons ⟨_, rfl⟩ (.cons ru .nil), ⟨_, hT2, rfl, _, rfl⟩⟩
    have I1 : Inv X pins σ (upd H s.heap.objs.size (.tup [.int (k + (i : Int)), x])) { s with heap := h'', toks := tk + 1 } :=
      I.turnedNew (ch := [e, it]) (fun b ob hb q => (sb.2 b (fun z => hb (by simp [z]))).trans (hk b ob (fun z => hb (by simp [z])) (fun z => hb (by simp [z])) q)) hf (Nat.le_refl _) new
    refine ⟨.ref s.heap.objs.size, _, I1, rfl, ⟨_, x, rfl, I.hok.fresh (Nat.le_refl _), rfl, fun ys hy => by rw [sqB_inj I hy hq]; exact hx⟩, ⟨⟨y, ?_⟩, sub_at hs'.1 (fun o q => (sb.2 it (Ne.symm hne)).trans q), hne⟩, fun b hb => ?_⟩
    · rw [show k + ((i + 1 : Nat) : Int) = k + (i : Int) + 1 by omega]; exact he'
    · have hb' : b < s.heap.objs.size := (show b = e ∨ b = it by simpa using hb).elim (fun z => by rw [z]; exact hel) fun z => by rw [z]; exact hil
      rw [upd_ne (Nat.ne_of_lt hb')]
      exact (hf b hb).1
  done := by
    intro X hP hw hK hc i pins s σ H E I hf st hg
    subst hP hw hK
    obtain ⟨⟨old, he⟩, hit, hne⟩ := st
    obtain ⟨xs, hq, hx⟩ := hg
    obtain ⟨its, rv, p, hz⟩ := seq_of I hq
    obtain ⟨f0, f1, f2, f3, f4, f5⟩ := hf it (by simp)
    have hl := rv.length
    have hai : a ≠ it := fun z => by
      subst z
      obtain ⟨oa, ca, ea, cla, hca⟩ := seq_live p
      obtain ⟨o2, c2, e2, _, q1, q2, q3⟩ := sub_obj hit
      rw [ea] at e2; cases e2
      rw [cla] at q1; cases q1
      exact hca.elim q2 q3
    have D := sub_draws (prog := X.prog) (w := X.w) (A := X.A.in1) (show X.A.in1.handled = none from I.ok.hd hc) t it a hai its.toArray
    have e : i = its.toArray.size := by rw [List.size_toArray]; omega
    refine wpAny_pyNext_enum_endD D he (by rw [← e]; exact ⟨hit, p⟩) fun h' eb => ⟨rfl, I.turned (t' := s.toks) (fun b o hb q => eb b o hb q) f0 f1 f3 f4 f5⟩
  self := fun A i s Q E st h => let ⟨⟨_, he⟩, _⟩ := st; wpAny_pyIter_enum he h
/-- the new iterator's object -/
def begO (t : Bool) (a : Addr) : Obj := match t with
  | true => { cls := .type "list_iterator", data := .fields #[.ref a, .int 0 0] }
  | false => { cls := .type "tuple_iterator", data := .fields #[.ref a, .int 0 0] }
theorem begins_seq (t : Bool) (a : Addr) (its : Array Value) : Begins (.ref a) (begO t a) (SeqOf t a its) := by
  cases t with
  | true => exact begins_list a its
  | false => exact begins_tuple a its
theorem sub_beg {t : Bool} {a it : Addr} {h : Heap} (e : h.get? it = some (begO t a)) : Sub t it a 0 h := by
  cases t with
  | true => exact ⟨_, e, rfl, rfl⟩
  | false => exact ⟨_, e, rfl, rfl⟩
def iEnumK (K : PySem.W.Frag) (t : Bool) (ta : TA) : TI := fun σ H R => ta σ H fun vs H1 => ∃ a xs k, vs = [.ref a, .int k] ∧ -(2 ^ 63) ≤ k ∧ k < 2 ^ 63 ∧ SqB K H1 a xs t ∧ R (IteK K t k a) H1
section
variable {B : Bs} {X : Cx} {Γ : List SV} {a b c e : Expr} {es : List Expr} {pos : Pos}
theorem pi_enumK {ta : TA} {p tpos : Pos} {elts : List Expr} {kk : Nat} {t : Bool} (hg : Gl X "enumerate") (hm : X.mg "enumerate" = none) (ha : PA X [e, c] ta) (he : starEach [e, c] X.env = (false, eval e X.env) :: starEach [c] X.env := by rfl) (hpl : (backTo pos (starEach [c] X.env)).any (·.1) = false := by rfl) :
    PI X (.Tuple elts kk tpos) (.Call (.Name "enumerate" p) [e, c] [] pos) (iEnumK X.K t ta) := by
  refine ⟨fun pins s σ H R I h => ?_⟩
  refine Call_ (ld_blt I hg hm boot_enumerate (PyProof.Rows.callWith_type1 (thn (ha.run pos pins s σ H _ I h) fun us s1 ⟨vs, H1, I1, r1, q1⟩ => ?_) he hpl))
  obtain ⟨a, xs, k, ex, k0, k1, hq, q⟩ := q1
  subst ex
  cases r1 with
  | cons r rr =>
    cases rr with
    | cons r' rr =>
    cases rr
    cases r
    obtain ⟨tk, rfl⟩ := r'
    obtain ⟨its, rv, p', hz⟩ := seq_of I1 hq
    refine enum_begins (begins_seq t a its.toArray) p' k0 k1 fun h' he hit hsz hk => wpAny_pyIter_enum he ?_
    have I2 : Inv X pins σ H1 { s1 with heap := h' } := I1.kept (t' := s1.toks) hk
    refine ⟨s1.heap.objs.size + 1, [s1.heap.objs.size + 1, s1.heap.objs.size], _, _, H1, rfl, I2, turn_enumK t k a (s1.heap.objs.size + 1) s1.heap.objs.size, ⟨⟨.none, by rw [show k + ((0 : Nat) : Int) = k by omega]; exact he⟩, sub_beg hit, Nat.succ_ne_self _⟩, fun b hb => ?_, q⟩
    have e' : b = s1.heap.objs.size + 1 ∨ b = s1.heap.objs.size := by simpa using hb
    have hle : s1.heap.objs.size ≤ b := by
      rcases e' with z | z
      · rw [z]; exact Nat.le_add_right _ _
      · rw [z]; exact Nat.le_refl _
    exact I1.fpOk hle (I1.hok.fresh hle)
/-- enumerate(xs, k) -/
def enumDK (ds : List D) (k : Int) : List D := ds.zipIdx.map fun p => D.tup [.int (k + (p.2 : Nat)), p.1]
theorem sqB_frz {K : PySem.W.Frag} {F : Hp} {v : V} {t : Bool} {ds : List D} (h : Rp K F v (if t then .lst ds else .tup ds)) : ∃ p vs, v = .ref p ∧ SqB K F p vs t ∧ RpL K F vs ds := by
  cases t with
  | true => cases h with
            | lst q r => exact ⟨_, _, rfl, q, r⟩
  | false => cases h with
             | tup q r => exact ⟨_, _, rfl, q, r⟩
theorem same_sqB {K : PySem.W.Frag} {H H' : Hp} {a : Addr} {xs : List V} {t : Bool} (e : Same H H') (h : SqB K H a xs t) : SqB K H' a xs t := by
  cases t with
  | true => exact same_sqL e h
  | false => exact same_sqT e h
theorem yields_enumK {K : PySem.W.Frag} {F1 : Hp} {t : Bool} {k : Int} {q : Addr} {vs : List V} {ds : List D} (sq : SqB K F1 q vs t) (r : RpL K F1 vs ds) : Yields K F1 (IteK K t k q) (enumDK ds k) := fun i F2 H2 s2 sh => ⟨fun d hd => by
    have q2 := same_sqB (s2.trans sh) sq
    unfold enumDK at hd
    rw [List.getElem?_map, List.getElem?_zipIdx] at hd
    simp only [Nat.zero_add, Option.map_map] at hd
    obtain ⟨u, hu, rfl⟩ := Option.map_eq_some_iff.mp hd
    obtain ⟨v, hv, rv⟩ := r.get hu
    refine ⟨⟨vs, v, q2, hv⟩, fun x H' hy => ?_⟩
    obtain ⟨T, y, rfl, nT, rfl, hy⟩ := hy
    have ry := (rpL_at r hu (hy vs q2)).mono s2
    have g := Grow.put (o := .tup [.int (k + (i : Int)), y]) sh nT
    exact ⟨_, g, .tup (SqT.of upd_same) (.cons (.int _) (.cons (ry.mono g.ff) .nil))⟩, fun hi => by
    unfold enumDK at hi
    rw [List.length_map, List.length_zipIdx] at hi
    exact ⟨vs, same_sqB (s2.trans sh) sq, by rw [r.len]; exact hi⟩⟩
theorem ri_enumK {ds : List D} {k : Int} {t : Bool} {p tpos : Pos} {elts : List Expr} {kk : Nat} (hm : X.mg "enumerate" = none) (h : RE B X e Γ (.val (if t then .lst ds else .tup ds))) (hc : RE B X c Γ (.val (.int k))) (k0 : -(2 ^ 63) ≤ k := by decide) (k1 : k < 2 ^ 63 := by decide) (hg : Gl X "enumerate" := by rfl)
    (he : starEach [e, c] X.env = (false, eval e X.env) :: starEach [c] X.env := by rfl) (hpl : (backTo pos (starEach [c] X.env)).any (·.1) = false := by rfl) (he2 : starEach [c] X.env = (false, eval c X.env) :: starEach [] X.env := by rfl) :
    RI B X (.Tuple elts kk tpos) (.Call (.Name "enumerate" p) [e, c] [] pos) Γ (enumDK ds k) := ⟨_, pi_enumK (t := t) hg hm (pa_cons anyE (pa_cons anyE pa_nil he2) he) he hpl, fun W tk σ H F m R kk => h W tk σ H F m _ fun v H1 F1 m1 s1 r1 => hc W tk σ H1 F1 m1 _ fun u H2 F2 m2 s2 r2 => by
  obtain ⟨q, vs, rfl, sq, r⟩ := sqB_frz r1
  cases r2
  exact ⟨q, vs, k, rfl, k0, k1, same_sqB (s2.trans m2.mb.sub) sq, kk _ H2 F2 m2 (s1.trans s2) (yields_enumK (same_sqB s2 sq) (r.mono s2))⟩⟩

/-! ### a star in a display -/
theorem rl_star {t : Bool} {ds es' : List D} {p : Pos} (ha : RP B X e Γ t ds) (hr : RL B X es Γ (.ok es')) (hs : starEach (.Starred e p :: es) X.env = (true, eval e X.env) :: starEach es X.env := by rfl) : RL B X (.Starred e p :: es) Γ (.ok (ds ++ es')) := fun W tk σ H F m Q k =>
  toA (StX.pa_star anyE anyA hs) (ha W tk σ H F m _ fun q H1 F1 m1 s1 st => by
    obtain ⟨vs, h1, h2⟩ := st H1 F1 m1 (.refl F1)
    exact ⟨q, vs, rfl, h1.or.symm, hr W tk σ H1 F1 m1 _ fun ws H2 F2 m2 s2 r2 => k _ _ _ m2 (s1.trans s2) ((h2.mono s2).app r2)⟩)

/-! ### isinstance -/
def tyD : D → String
  | .non => "NoneType"
  | .bl _ => "bool"
  | .int _ => "int"
  | .str _ => "str"
  | .tup _ => "tuple"
  | .lst _ => "list"
  | .ins _ _ => ""
theorem Rp.ty {K : PySem.W.Frag} {F H : Hp} {v : V} {d : D} (s : Same F H) (r : Rp K F v d) (hn : tyD d ≠ "") : TyX K H v (.type (tyD d)) := by
  cases r with
  | non => exact .base .non
  | bl b => exact .base (.bl b)
  | int i => exact .base (.int i)
  | str x => exact .base (.str x)
  | tup q r =>
    rcases q with q | ⟨o, its, n, h1, h2, _⟩
    · rcases q with q | ⟨o, q⟩
      · exact .base (.tup (s _ _ q))
      · exact .fTuple (s _ _ q)
    · exact .kTuple h1 h2
  | lst q r =>
    rcases q with q | ⟨o, its, n, h1, h2, _⟩
    · rcases q with q | ⟨o, q⟩
      · exact .base (.lst (s _ _ q))
      · exact .base (.frz (s _ _ q))
    · exact .kList h1 h2
  | ins h r => exact absurd rfl hn
/-- isinstance(e, T), T a built-in type -/
theorem re_isi (T ty : String) {d : D} {r : Bool} {y : Str} {p p2 : Pos} (hm : X.mg "isinstance" = none) (hmT : X.mg y = none) (h : RE B X e Γ (.val d)) (ht : tyD d = ty := by rfl) (hb : kitB ty T = some r := by decide +kernel) (hn : ty ≠ "" := by decide) (hv : bootBuiltins y = some (.type T) := by decide +kernel) (hg : Gl X "isinstance" := by rfl) (hgT : Gl X y := by rfl)
    (hy : y ≠ "__name__" := by decide) (hyd : (y == ("__debug__" : Str)) = false := by decide)
    (he : starEach [e, .Name y p2] X.env = (false, eval e X.env) :: starEach [.Name y p2] X.env := by rfl) (hpl : (backTo pos (starEach [.Name y p2] X.env)).any (·.1) = false := by rfl) (he2 : starEach [.Name y p2] X.env = (false, eval (.Name y p2) X.env) :: starEach [] X.env := by rfl) :
    RE B X (.Call (.Name "isinstance" p) [e, .Name y p2] [] pos) Γ (.val (.bl r)) := fun W tk σ H F m Q k =>
  toE (pe_callB call_isi hg hm (by decide +kernel) (pa_cons anyE (pa_cons (pe_bltn (v := .ty T) hgT hmT hv rfl hy hyd) pa_nil he2) he) (by decide) (by decide) he hpl)
    (h W tk σ H F m _ fun v H1 F1 m1 s1 r1 => ⟨v, .ty T, .type ty, .type T, r, rfl, .ty T, by subst ht; exact r1.ty m1.mb.sub hn, kit_ty hb, (k.mono s1).go m1 (.bl _)⟩)
end
end DL

/-! DL9: plain laws of texts: joined, split, numbers as texts; equality of data. -/
namespace DL
open PySem PySem.Spec PyProof.Rows L2
theorem sum_le {b : Nat} : ∀ {l : List Str}, (∀ x ∈ l, x.length ≤ b) → (l.map (·.length)).sum ≤ l.length * b
  | [], _ => by simp
  | x :: r, h => by
    have h1 := h x List.mem_cons_self
    have h2 := sum_le fun y hy => h y (List.mem_cons_of_mem _ hy)
    rw [List.map_cons, List.sum_cons, List.length_cons, Nat.succ_mul]
    omega
theorem joinL_len (S : List Nat) : ∀ l : List (List Nat), (TL.joinL S l).length ≤ (l.map (·.length)).sum + l.length * S.length
  | [] => by simp [TL.joinL]
  | [p] => by simp [TL.joinL]
  | p :: q :: r => by
    have := joinL_len S (q :: r)
    simp only [TL.joinL, List.length_append, List.map_cons, List.sum_cons, List.length_cons, Nat.succ_mul] at this ⊢
    omega
theorem len_tl (x : Str) : (TL.tl x).length = x.length := by simp [TL.tl, Str.length]
theorem join_len (y : Str) (l : List Str) : (Txt.join y l).length ≤ (l.map (·.length)).sum + l.length * y.length := by
  have h := joinL_len (TL.tl y) (l.map TL.tl)
  rw [← TL.tl_join, len_tl, len_tl, List.length_map, List.map_map] at h
  rw [TL.join_eq]
  exact h
theorem join_len_le {y : Str} {l : List Str} {n b : Nat} (hy : y.length ≤ 2) (h : ∀ x ∈ l, x.length ≤ b) (hn : l.length ≤ n) : (Txt.join y l).length ≤ n * (b + 2) := by
  have h1 := join_len y l
  have h2 := sum_le h
  have h3 : l.length * y.length ≤ l.length * 2 := Nat.mul_le_mul_left _ hy
  have h4 : l.length * (b + 2) ≤ n * (b + 2) := Nat.mul_le_mul_right _ hn
  rw [Nat.mul_add] at h4
  omega
theorem join_sz {y : Str} {l : List Str} {n b : Nat} (hy : y.length ≤ 2) (h : ∀ x ∈ l, x.length ≤ b) (hn : l.length ≤ n) (hz : n * (b + 2) ≤ 16777216) : (l.map (·.length)).sum + l.length * y.length ≤ 16777216 := by
  have h2 := sum_le h
  have h3 : l.length * y.length ≤ l.length * 2 := Nat.mul_le_mul_left _ hy
  have h4 : l.length * (b + 2) ≤ n * (b + 2) := Nat.mul_le_mul_right _ hn
  rw [Nat.mul_add] at h4
  omega
theorem joinL_free {s : Nat} {S : List Nat} (hs : s ∉ S) : ∀ {l : List (List Nat)}, (∀ p ∈ l, s ∉ p) → s ∉ TL.joinL S l
  | [], _ => by simp [TL.joinL]
  | [p], h => by simpa [TL.joinL] using h p List.mem_cons_self
  | p :: q :: r, h => by
    have h1 := h p List.mem_cons_self
    have h2 := joinL_free hs (l := q :: r) fun x hx => h x (List.mem_cons_of_mem _ hx)
    simp only [TL.joinL, List.mem_append, not_or]
    exact ⟨h1, hs, h2⟩
theorem join_free {s : Nat} {y : Str} {l : List Str} (hs : s ∉ TL.tl y) (h : ∀ p ∈ l, s ∉ TL.tl p) : s ∉ TL.tl (Txt.join y l) := by
  rw [TL.join_eq, TL.tl_join]
  exact joinL_free hs fun p hp => by
    obtain ⟨z, hz, rfl⟩ := List.mem_map.mp hp
    exact h z hz
/-- the text of a number -/
abbrev numT (i : Int) : Str := Str.ofString (toString i)
theorem tl_numT {i : Int} (h : 0 ≤ i) : TL.tl (numT i) = TL.numL i.toNat := by
  have e : i = ((i.toNat : Nat) : Int) := by omega
  conv => lhs; rw [e]
  exact TL.tl_num _
theorem numT_len {i : Int} {k : Nat} (h0 : 0 ≤ i) (h1 : i < 10 ^ k) (hk : 0 < k) : (numT i).length ≤ k := by
  rw [← len_tl, tl_numT h0]
  refine TL.numL_len hk ?_
  have : ((i.toNat : Nat) : Int) < ((10 ^ k : Nat) : Int) := by rw [Int.natCast_pow]; show _ < (10 : Int) ^ k; omega
  exact Int.ofNat_lt.mp this
theorem numT_free {i : Int} {s : Nat} (h0 : 0 ≤ i) (h : s < 48 ∨ 57 < s) : s ∉ TL.tl (numT i) := by rw [tl_numT h0]; exact TL.numL_free h
theorem numT_ne {i : Int} (h0 : 0 ≤ i) : TL.tl (numT i) ≠ [] := by rw [tl_numT h0]; exact TL.numL_ne _
theorem numT_int {i : Int} (h0 : 0 ≤ i) (h1 : i < 10 ^ 600) : intText? (numT i) = some i := by
  have e : i = ((i.toNat : Nat) : Int) := by omega
  conv => lhs; rw [e]
  rw [TL.int_num, ← e]
  have := numT_len h0 h1 (by decide)
  rw [← len_tl, tl_numT h0] at this
  omega
theorem numT_log {i : Int} (h0 : 0 ≤ i) (h1 : i < 10 ^ 500) : i.natAbs.log2 < 1920 := by
  by_cases hz : i.natAbs = 0
  · rw [hz]; decide
  refine (Nat.log2_lt hz).mpr ?_
  have h2 : i.natAbs < 10 ^ 500 := by
    have e : ((i.natAbs : Nat) : Int) = i := by omega
    have e2 : ((10 ^ 500 : Nat) : Int) = (10 : Int) ^ 500 := Int.natCast_pow 10 500
    omega
  exact Nat.lt_of_lt_of_le h2 (by decide +kernel)
theorem numL_head {n : Nat} (h : 0 < n) : ∃ r c, TL.numL n = c :: r ∧ c ≠ 48 := by
  induction n using Nat.strongRecOn with
  | _ n ih =>
    by_cases h10 : n < 10
    · exact ⟨[], 48 + n, TL.numL_lt h10, by omega⟩
    · obtain ⟨r, c, e, hc⟩ := ih (n / 10) (by omega) (by omega)
      exact ⟨r ++ [48 + n % 10], c, by rw [TL.numL_step (by omega), e]; rfl, hc⟩
theorem numT_mem {i : Int} (h0 : 0 ≤ i) : ∀ c ∈ TL.tl (numT i), 48 ≤ c ∧ c ≤ 57 := by
  rw [tl_numT h0]
  exact fun c hc => TL.numL_digits _ c hc

/-! ### equality of data -/
theorem inD_true {n : Nat} {d : D} {ds : List D} (hs : Sh n d) (h : d ∈ ds) : inD d ds = true := List.any_eq_true.mpr ⟨d, h, eqD_refl hs⟩
theorem inD_false {n m : Nat} {d : D} {ds : List D} (hd : Nb n d) (hs : ∀ e ∈ ds, Nb m e) (h : d ∉ ds) : inD d ds = false := by
  cases q : inD d ds with
  | false => rfl
  | true =>
    obtain ⟨e, he, q⟩ := List.any_eq_true.mp q
    have := eqv_nb (hs e he) hd q
    subst this
    exact absurd he h
theorem eqD_ne {n m : Nat} {d e : D} (hd : Nb n d) (he : Nb m e) (h : d ≠ e) : eqD d e = false := by
  cases q : eqD d e with
  | false => rfl
  | true => exact absurd (eqv_nb hd he q) h
theorem foldl_snoc {α β : Type} (g : α → β) (l : List α) : ∀ a : List β, l.foldl (fun a x => a ++ [g x]) a = a ++ l.map g := by
  induction l with
  | nil => intro a; simp
  | cons x r ih => intro a; rw [List.foldl_cons, ih]; simp
theorem units65 {k : Nat} {A : Around} (r : Room k A) : A.units + 65 < cLine := by have := r.un; omega
theorem atI_nat {α : Type} {xs : List α} {n : Nat} {d : α} (h : xs[n]? = some d) : atI xs (n : Int) = some d := by
  unfold atI
  rw [ixN_in (by omega) (by have := (List.getElem?_eq_some_iff.mp h).1; omega)]
  exact h
theorem atI_0 {α : Type} {xs : List α} {d : α} : atI (d :: xs) 0 = some d := atI_nat (n := 0) rfl
theorem cut1 {x : D} {xs : List D} : cutD (x :: xs) (some 1) none = xs := by
  have := cut_map (f := id) (xs := x :: xs) (lo := some 1) (hi := none)
  rw [List.map_id, List.map_id] at this
  rw [this]
  exact cutL_from (x :: xs) 1
theorem strOk_of {x : Str} (h : ∀ c ∈ TL.tl x, c < 0x110000) : PyData.strOk x = true := by
  unfold PyData.strOk
  rw [Array.all_eq_true']
  intro c hc
  exact decide_eq_true (h c (by simpa [TL.tl] using hc))
theorem numT_ok {i : Int} (h0 : 0 ≤ i) : PyData.strOk (numT i) = true := strOk_of fun c hc => by have := numT_mem h0 c hc; omega
theorem enumDK_map {α : Type} {f : α → D} {xs : List α} {k : Int} : enumDK (xs.map f) k = xs.zipIdx.map fun p => D.tup [.int (k + (p.2 : Nat)), f p.1] := by
  unfold enumDK
  rw [List.zipIdx_map, List.map_map]
  rfl
theorem fold_zip {α : Type} (l : List α) : l.zipIdx.foldl (fun (a : List α) p => a ++ [p.1]) [] = l := by
  rw [foldl_snoc (fun p : α × Nat => p.1), List.nil_append, List.zipIdx_map_fst]
end DL

/-! DL10: inside a class: stores in self, reads of self, methods called on a self that is still being made. -/
namespace DL
open PySem PySem.Spec PyProof.Rows L2
def putD (f : Str) (v : D) : List (Str × D) → List (Str × D)
  | [] => [(f, v)]
  | (g, x) :: r => if g = f then (g, v) :: r else (g, x) :: putD f v r
theorem RpF.put {K : PySem.W.Frag} {F : Hp} {f : Str} {v : V} {d : D} (h : Rp K F v d) : ∀ {vs : List (Str × V)} {ds : List (Str × D)}, RpF K F vs ds → RpF K F (putF f v vs) (putD f d ds)
  | _, _, .nil => .cons h .nil
  | _, _, .cons (f := g) (vs := vs) (ds := ds) q r => by
    unfold putF putD
    by_cases e : g = f
    · rw [if_pos e, if_pos e]; exact .cons h r
    · rw [if_neg e, if_neg e]; exact .cons q (RpF.put h r)
/-- a datum that no address is in -/
def Flat : D → Prop
  | .non => True | .bl _ => True | .int _ => True | .str _ => True
  | _ => False
theorem Flat.rp {K : PySem.W.Frag} {F F' : Hp} {v : V} {d : D} (h : Flat d) (r : Rp K F v d) : Rp K F' v d := by
  cases r with
  | non => exact .non
  | bl b => exact .bl b
  | int i => exact .int i
  | str x => exact .str x
  | tup _ _ => exact h.elim
  | lst _ _ => exact h.elim
  | ins _ _ => exact h.elim
/-- an outcome that no address is in -/
def FlatO : RO → Prop
  | .val d => Flat d
  | .frs _ => False
  | .exc x => x.own = none
section
variable {B : Bs} {X : Cx} {Γ : List SV} {a b c e : Expr} {es : List Expr} {pos pos' : Pos} {post : SO → Prop}
/-- self.f = e, self still being made -/
theorem w1_fld (i : Nat) {x f : Str} {y C : Addr} {fs : List (Str × D)} {d : D} {p : Pos} (hΓ : Γ[i]? = some (.own (.slf y C fs))) (he : RE B X e Γ (.val d)) (cc : Cls X.K C) (n : NoAttr X.K C f) (hl : fs.length < 1000) (h : post (.nx (Γ.set i (.own (.slf y C (putD f d fs)))))) (hN : X.N[i]? = some x := by rfl)
    (hv : Vis X.env.scope x := by first | exact Or.inl rfl | exact Or.inr (Or.inl rfl) | exact Or.inr (Or.inr rfl)) (h1 : (x == ("__debug__" : Str)) = false := by decide) (h2 : (x == ("__classdict__" : Str)) = false := by decide)
    (hs : swapsWith e (some (.Attribute (.Name x p) f pos')) pos.line X.env = pure false := by rfl) : W1 B X (.Assign [.Attribute (.Name x p) f pos'] e pos) Γ post := fun W tk σ H F m D k =>
  toS (ps_fld (pe_var hN hv h1 h2) anyE hs) (he W tk σ H F m _ fun v H' F' m' s r => by
    obtain ⟨q, e1, n0, nf, dx, vs, e2, rf, rfl⟩ := m'.own hΓ
    refine ⟨.ref q, e1, q, C, dx, vs, rfl, e2, cc, n, by rw [rf.len]; exact hl, ?_⟩
    exact k.nx σ _ F' _ h (m'.mut hΓ e1 ⟨nf, dx, _, upd_same, rf.put r, rfl⟩) s)
/-- self.f, self still being made -/
theorem re_fldS (i : Nat) {x : Str} {y C : Addr} {fs : List (Str × D)} {f : Str} {d : D} {p : Pos} (hΓ : Γ[i]? = some (.own (.slf y C fs))) (cc : Cls X.K C) (n : NoAttr X.K C f) (h : fs.lookup f = some d) (hN : X.N[i]? = some x := by rfl)
    (hv : Vis X.env.scope x := by first | exact Or.inl rfl | exact Or.inr (Or.inl rfl) | exact Or.inr (Or.inr rfl)) (h1 : (x == ("__debug__" : Str)) = false := by decide) (h2 : (x == ("__classdict__" : Str)) = false := by decide)
    (hb : attributeBase (.Name x p) f X.env (eval (.Name x p) X.env) = eval (.Name x p) X.env := by rfl) : RE B X (.Attribute (.Name x p) f pos) Γ (.val d) := fun W tk σ H F m Q k => by
  obtain ⟨q, e1, n0, nf, dx, vs, e2, r, _⟩ := m.own hΓ
  obtain ⟨v, e3, rv⟩ := r.get h
  exact toE (pe_fld (pe_var hN hv h1 h2) hb) ⟨.ref q, e1, q, C, dx, vs, v, rfl, e2, cc, n, e3, k.go m rv⟩
/-- self.m(..), self still being made: the call sees it frozen; its answer holds no address -/
theorem re_methS (i : Nat) {pl : Sem Bool} {x : Str} {y C : Addr} {fs : List (Str × D)} {mn : Str} {k : Nat} {dd ds : List D} {S : DSp} {o : RO} {apos p : Pos} (hΓ : Γ[i]? = some (.own (.slf y C fs))) (G : Mth X.prog X.w X.K X.mg X.base k C mn dd S) (hr : Room k X.A) (hl : fs.lookup mn = none) (ha : RL B X (e :: es) Γ (.ok ds)) (hs : S (.ins C fs :: (ds ++ dd)) o) (hfl : FlatO o) (hN : X.N[i]? = some x := by rfl)
    (hv : Vis X.env.scope x := by first | exact Or.inl rfl | exact Or.inr (Or.inl rfl) | exact Or.inr (Or.inr rfl)) (h1 : (x == ("__debug__" : Str)) = false := by decide) (h2 : (x == ("__classdict__" : Str)) = false := by decide)
    (hst : starEach (e :: es) X.env = (false, eval e X.env) :: starEach es X.env := by rfl) (hpl : (backTo pos (starEach es X.env)).any (·.1) = false := by rfl)
    (ht : eval (.Call (.Attribute (.Name x p) mn apos) (e :: es) [] pos) X.env = (do
      let ov ← eval (.Name x p) X.env
      standAt apos.atName
      let (f, first) ← holding [ov] (getMethod ov mn pl)
      callWith pos f first (backTo pos (starEach (e :: es) X.env)) (backToKw pos (keywordEach [] X.env))) := by rfl) : RE B X (.Call (.Attribute (.Name x p) mn apos) (e :: es) [] pos) Γ o := fun W tk σ H F m Q kk pins s I => by
  obtain ⟨f, fd, ps, dvs, dv, G', hm, hb, hd, hdd⟩ := G.ex
  obtain ⟨q, e1, n0, nf, dx, vf, e2, rf, _⟩ := m.own hΓ
  refine PySem.W.methodCall_KW (pl := pl) (thn ((pe_var hN hv h1 h2).run pins s σ H (fun v H1 => v = .ref q ∧ H1 = H) I ⟨.ref q, e1, rfl, rfl⟩) fun u s1 ⟨v, H1, I1, rx, ev, eH⟩ => ?_) ht
  subst ev eH
  obtain rfl : u = Value.ref q := rx
  refine getmeth_ok I1 e2 G.cls hm (rf.none hl) ?_
  refine PySem.W.callWith_K (first := [.ref q]) (h₀ := X.base) I.ok.mod.kin hm.kp ?_ hst hpl
  refine thn (ha W tk σ H1 F m (fun vs H2 => ∃ F2, Mt X.K B F2 H2 σ Γ ∧ Same F F2 ∧ RpL X.K F2 vs ds) (fun vs H2 F2 m2 s2 r2 => ⟨F2, m2, s2, r2⟩) pos pins s1 I1) fun us s2 ⟨vs, H2, I2, r, F2, m2, sf2, r2⟩ => ⟨I2.kIn, ?_⟩
  obtain ⟨q', e1', _, nf2, dx2, vf2, e22, rf2, _⟩ := m2.own hΓ
  rw [e1] at e1'; cases e1'
  have sf3 : Same F2 (upd F2 q (.ins C dx2 vf2)) := fun b z w => by rw [upd_ne (ne_of_none w nf2)]; exact w
  have sub3 : Same (upd F2 q (.ins C dx2 vf2)) H2 := fun b z w => by
    by_cases hq : b = q
    · subst hq; rw [upd_same] at w; cases w; exact e22
    · rw [upd_ne hq] at w; exact m2.mb.sub _ _ w
  have back : ∀ {F' H' : Hp}, Grow (upd F2 q (.ins C dx2 vf2)) H2 F' H' → Grow F2 H2 F2 H' := fun {F' H'} g => ⟨.refl _, g.hh, m2.mb.sub.trans g.hh, fun a u w => .inl w⟩
  refine run_d (vs := .ref q :: vs) (us := .ref q :: us) G' hr hb hd tk I2 (.cons rfl r) ⟨upd F2 q (.ins C dx2 vf2), _, o, sub3, .cons (.ins upd_same (rf2.mono sf3)) ((r2.mono sf3).app (hdd _)), hs, ?_⟩
  have kk2 := kk.mono sf2
  cases o with
  | val d => exact fun v H' F' g rv => kk2 v H' F2 (m2.grow (back g)) (.refl F2) (hfl.rp rv)
  | frs o => exact hfl.elim
  | exc z =>
    refine fun c d H' F' g rx => kk2 c d H' F2 (m2.grow (back g)) (.refl F2) ?_
    obtain ⟨z1, z2⟩ := z
    obtain rfl : z2 = none := hfl
    exact rx
end

/-! ### enumerate of a tuple, from 0 -/
theorem meets_enum_tup (l : Addr) (items : Array Value) (n : Nat) (dct : Option Addr) (sl : Array (Option Value)) :
    Meets (Builtin.«enumerate.__new__» ⟨[.type "enumerate", .ref l], []⟩) (fun _ R st => st.heap.get? l = some { cls := .type "tuple", dict := dct, data := .seq items n, slots := sl } ∧
      R (.ok (.ret (.ref (st.heap.push (begO false l)).objs.size))) { st with heap := (st.heap.push (begO false l)).push { cls := .type "enumerate", data := .fields #[.none, .bool false, .ref st.heap.objs.size, rawInt 0, .none, .none] } }) :=
  .of_wp fun prog w A R st h => by
    obtain ⟨hp, gl, dd, tok, oss⟩ := st; obtain ⟨hld, h⟩ := h
    have hsub := sub_enumerate
    have hTt : Heap.IsTuple (Shared.heap ⟨hp, gl, dd, tok, oss⟩) l items := ⟨_, hld, rfl, n, rfl⟩
    wp_walk using wpAny_loadPart' hld
    refine wpAny_stack_any fun stk => wpAny_pure ?_
    split
    · rename_i cc _ _ _ _ _
      cases (cc == Value.type "enumerate")
      · wp_walk using wpAny_loadPart' hld, wpAny_pyIter_tuple hTt
        exact ⟨_, rfl, h⟩
      · wp_walk using wpAny_loadPart' hld, wpAny_pyIter_tuple hTt
        exact ⟨_, rfl, h⟩
    · wp_walk using wpAny_loadPart' hld, wpAny_pyIter_tuple hTt
      exact ⟨_, rfl, h⟩
theorem call_enum_tup {prog : Program} {w : World} {A : Around} {E : Value → Shared → Prop} {s : Shared} {l : Addr} {items : Array Value} {Q : Value → Shared → Prop} (hL : s.heap.IsTuple l items)
    (h : ∀ h', IsEnum h' (s.heap.objs.size + 1) s.heap.objs.size 0 .none → h'.get? s.heap.objs.size = some (begO false l) → h'.objs.size = s.heap.objs.size + 2 →
      (∀ bb oo, s.heap.get? bb = some oo → h'.get? bb = some oo) → Q (.ref (s.heap.objs.size + 1)) { s with heap := h' }) : wpAny (model prog w) A (call (.type "enumerate") [.ref l]) Q E s := by
  obtain ⟨⟨cc, dct, dt, sl⟩, hld, hcc, n, hdd⟩ := hL
  replace hcc : cc = .type "tuple" := hcc
  replace hdd : dt = .seq items n := hdd
  subst hcc hdd
  refine callType_new F.called_enumerate (by decide) (F.typeCall_enumerate_1 _) (F.newCall_enumerate_1 _) (fun obj => F.args_object_init_2 obj _) F.entry_enumerate_new (meets_enum_tup l items n dct sl) ⟨hld, ?_⟩
  have hz : (s.heap.push (begO false l)).objs.size = s.heap.objs.size + 1 := Heap.size_push ..
  show _ ∧ _
  rw [hz]
  have hen : IsEnum ((s.heap.push (begO false l)).push { cls := .type "enumerate", data := .fields #[.none, .bool false, .ref s.heap.objs.size, rawInt 0, .none, .none] }) (s.heap.objs.size + 1) s.heap.objs.size 0 .none := by
    have q := Heap.get?_push_size (s.heap.push (begO false l)) (o := { cls := .type "enumerate", data := .fields #[.none, .bool false, .ref s.heap.objs.size, rawInt 0, .none, .none] }) rfl
    rw [hz] at q; exact q
  refine ⟨⟨_, hen, rfl⟩, h _ hen (Heap.get?_push_of_some _ (Heap.get?_push_size _ rfl)) (by rw [Heap.size_push, hz]) fun bb oo xx => Heap.get?_push_of_some _ (Heap.get?_push_of_some _ xx)⟩
def iEnumT (K : PySem.W.Frag) (ta : TA) : TI := fun σ H R => ta σ H fun vs H1 => ∃ a xs, vs = [.ref a] ∧ SqT K H1 a xs ∧ R (IteK K false 0 a) H1
section
variable {B : Bs} {X : Cx} {Γ : List SV} {e : Expr} {pos : Pos}
theorem pi_enumT {ta : TA} {p tpos : Pos} {elts : List Expr} {kk : Nat} (hg : Gl X "enumerate") (hm : X.mg "enumerate" = none) (ha : PA X [e] ta) (hst : starEach [e] X.env = [(false, eval e X.env)] := by rfl) :
    PI X (.Tuple elts kk tpos) (.Call (.Name "enumerate" p) [e] [] pos) (iEnumT X.K ta) := by
  refine ⟨fun pins s σ H R I h => ?_⟩
  refine Call_ (ld_blt I hg hm boot_enumerate (PyProof.Rows.callWith_type1 (thn (ha.run pos pins s σ H _ I h) fun us s1 ⟨vs, H1, I1, r1, q1⟩ => ?_) hst rfl))
  obtain ⟨a, xs, ex, hq, q⟩ := q1
  subst ex
  cases r1 with
  | cons r rr =>
    cases rr
    cases r
    obtain ⟨its, rv, p', hz⟩ := I1.tuple hq
    refine call_enum_tup p' fun h' he hit hsz hk => wpAny_pyIter_enum he ?_
    have I2 : Inv X pins σ H1 { s1 with heap := h' } := I1.kept (t' := s1.toks) hk
    refine ⟨s1.heap.objs.size + 1, [s1.heap.objs.size + 1, s1.heap.objs.size], _, _, H1, rfl, I2, turn_enumK false 0 a (s1.heap.objs.size + 1) s1.heap.objs.size, ⟨⟨.none, he⟩, sub_beg (t := false) hit, Nat.succ_ne_self _⟩, fun bb hb => ?_, q⟩
    have e' : bb = s1.heap.objs.size + 1 ∨ bb = s1.heap.objs.size := by simpa using hb
    have hle : s1.heap.objs.size ≤ bb := by rcases e' with z | z <;> (rw [z]; omega)
    exact I1.fpOk hle (I1.hok.fresh hle)
theorem ri_enumT {ds : List D} {p tpos : Pos} {elts : List Expr} {kk : Nat} (hm : X.mg "enumerate" = none) (h : RE B X e Γ (.val (.tup ds))) (hg : Gl X "enumerate" := by rfl) (hst : starEach [e] X.env = [(false, eval e X.env)] := by rfl) (he2 : starEach [e] X.env = (false, eval e X.env) :: starEach [] X.env := by rfl) :
    RI B X (.Tuple elts kk tpos) (.Call (.Name "enumerate" p) [e] [] pos) Γ (enumDK ds 0) := ⟨_, pi_enumT hg hm (pa_cons anyE pa_nil he2) hst, fun W tk σ H F m R kk => h W tk σ H F m _ fun v H1 F1 m1 s1 r1 => by
  cases r1 with
  | @tup q vs _ sq r =>
    exact ⟨q, vs, rfl, same_sqT m1.mb.sub sq, kk _ H1 F1 m1 s1 (yields_enumK (t := false) sq r)⟩⟩
end

/-! ### a list or a tuple -/
def sqD (t : Bool) (ds : List D) : D := match t with
  | true => .lst ds
  | false => .tup ds
section
variable {B : Bs} {X : Cx} {Γ : List SV} {e tg : Expr} {pos : Pos}
theorem rp_sq {t : Bool} {ds : List D} (h : RE B X e Γ (.val (sqD t ds))) : RP B X e Γ t ds := by
  cases t with
  | true => exact rp_lst h
  | false => exact rp_tup h
/-- what is walked may be a list or a tuple -/
theorem ri_sq {t : Bool} {ds : List D} (h : RE B X e Γ (.val (sqD t ds))) : RI B X tg e Γ ds := by
  cases t with
  | true => exact ri_list h
  | false => exact ri_tup h
theorem rg_wk {K : PySem.W.Frag} {g : TG} {Γ Γ2 Γ' : List SV} {d : D} (hw : Wk Γ Γ2) (h : RG K B g Γ2 d Γ') : RG K B g Γ d Γ' := fun σ H F v m r Q k => h σ H F v (m.wk hw) r Q k
theorem re_tupleP (mt : X.mg "tuple" = none) {t : Bool} {ds : List D} {p : Pos} (h : RE B X e Γ (.val (sqD t ds))) (hg : Gl X "tuple" := by rfl) (he : starEach [e] X.env = (false, eval e X.env) :: starEach [] X.env := by rfl) : RE B X (.Call (.Name "tuple" p) [e] [] pos) Γ (.val (.tup ds)) := by
  cases t with
  | true => exact re_tupleL mt (rp_lst h) hg he
  | false => exact re_tupleT mt h hg he
end
theorem enumDK_get {α : Type} {f : α → D} {xs : List α} {k : Int} {i : Nat} {d : D} (h : (enumDK (xs.map f) k)[i]? = some d) : ∃ x, xs[i]? = some x ∧ d = .tup [.int (k + (i : Int)), f x] := by
  rw [enumDK_map, List.getElem?_map, List.getElem?_zipIdx] at h
  simp only [Nat.zero_add, Option.map_map] at h
  obtain ⟨u, hu, rfl⟩ := Option.map_eq_some_iff.mp h
  exact ⟨u, hu, rfl⟩
theorem enumDK_len {ds : List D} {k : Int} : (enumDK ds k).length = ds.length := by unfold enumDK; rw [List.length_map, List.length_zipIdx]
theorem inD_map {α : Type} [DecidableEq α] {f : α → D} (inj : ∀ x y, f x = f y → x = y) {n : Nat} (hs : ∀ x, Sh n (f x)) (hn : ∀ x, Nb n (f x)) (x : α) (xs : List α) : inD (f x) (xs.map f) = decide (x ∈ xs) := by
  by_cases h : x ∈ xs
  · rw [decide_eq_true h]
    exact inD_true (hs x) (List.mem_map_of_mem h)
  · rw [decide_eq_false h]
    refine inD_false (hn x) (m := n) (fun e he => ?_) fun hm => ?_
    · obtain ⟨z, _, rfl⟩ := List.mem_map.mp he
      exact hn z
    · obtain ⟨z, hz, e⟩ := List.mem_map.mp hm
      rw [inj _ _ e] at hz
      exact h hz
theorem eqD_iff {α : Type} [DecidableEq α] {f : α → D} (inj : ∀ x y, f x = f y → x = y) {n : Nat} (hs : ∀ x, Sh n (f x)) (hn : ∀ x, Nb n (f x)) (x y : α) : eqD (f x) (f y) = decide (x = y) := by
  by_cases h : x = y
  · subst h; rw [decide_eq_true rfl]; exact eqD_refl (hs x)
  · rw [decide_eq_false h]
    exact eqD_ne (hn x) (hn y) fun e => h (inj _ _ e)
theorem eqD_int (i j : Int) : eqD (.int i) (.int j) = decide (i = j) := eqD_iff (f := D.int) (n := 0) (fun x y e => D.int.inj e) (fun _ => True.intro) (fun _ => True.intro) i j
theorem nodup_take {α : Type} {l : List α} (h : ∀ (i : Nat) (x : α), l[i]? = some x → x ∉ l.take i) : l.Nodup := by
  refine List.pairwise_iff_getElem.mpr fun i j hi hj hij e => ?_
  refine h j l[j] (List.getElem?_eq_getElem hj) ?_
  rw [← e]
  exact List.mem_take_iff_getElem.mpr ⟨i, by omega, rfl⟩
theorem take_nodup {α : Type} {l : List α} (h : l.Nodup) (i : Nat) (x : α) (hx : l[i]? = some x) : x ∉ l.take i := fun hm => by
  obtain ⟨hi, rfl⟩ := List.getElem?_eq_some_iff.mp hx
  obtain ⟨j, hj, e⟩ := List.mem_take_iff_getElem.mp hm
  exact List.pairwise_iff_getElem.mp h j i (by omega) hi (by omega) e
/-- a call that raises or does nothing -/
theorem w1_req {B : Bs} {X : Cx} {Γ : List SV} {e : Expr} {pos : Pos} {post : SO → Prop} {b : Bool} {z : Exn} (he : RE B X e Γ (if b then .val .non else .exc z)) (h1 : b = true → post (.nx Γ)) (h2 : b = false → post (.exc z Γ)) (hs : swapsWith e none pos.line X.env = pure false := by rfl) : W1 B X (.Expr e pos) Γ post := by
  cases b with
  | true => exact w1_expr he (h1 rfl) hs
  | false => exact w1_exprX he (h2 rfl) hs
end DL

/-! DL11: sorted pairs, gcd, wide products and quotients, isinstance of more, try. -/
namespace DL
open PySem PySem.Spec PyProof.Rows L2
/-! ### pairs in order -/
def leP (p q : Int × Int) : Prop := p.1 < q.1 ∨ (p.1 = q.1 ∧ p.2 ≤ q.2)
instance : DecidableRel leP := fun p q => by unfold leP; infer_instance
def sortP (l : List (Int × Int)) : List (Int × Int) := l.mergeSort fun p q => decide (leP p q)
theorem leP_trans {a b c : Int × Int} (h : leP a b) (k : leP b c) : leP a c := by unfold leP at *; omega
theorem leP_total (a b : Int × Int) : leP a b ∨ leP b a := by unfold leP; omega
theorem leP_anti {a b : Int × Int} (h : leP a b) (k : leP b a) : a = b := by
  unfold leP at *
  exact Prod.ext (by omega) (by omega)
theorem sortP_perm (l : List (Int × Int)) : (sortP l).Perm l := List.mergeSort_perm l _
theorem sortP_sorted (l : List (Int × Int)) : (sortP l).Pairwise leP := by
  have h := List.pairwise_mergeSort (le := fun p q => decide (leP p q)) (fun a b c h1 h2 => decide_eq_true (leP_trans (of_decide_eq_true h1) (of_decide_eq_true h2))) (fun a b => by
    rcases leP_total a b with h | h
    · rw [decide_eq_true h]; rfl
    · rw [decide_eq_true h, Bool.or_true]) l
  exact h.imp fun h => of_decide_eq_true h
theorem sortP_uniq {l m : List (Int × Int)} (hp : m.Perm l) (hs : m.Pairwise leP) : m = sortP l :=
  List.Perm.eq_of_pairwise (le := leP) (fun a b _ _ h k => leP_anti h k) hs (sortP_sorted l) (hp.trans (sortP_perm l).symm)
theorem sortP_len (l : List (Int × Int)) : (sortP l).length = l.length := (sortP_perm l).length_eq
theorem sortP_mem {l : List (Int × Int)} {p : Int × Int} : p ∈ sortP l ↔ p ∈ l := (sortP_perm l).mem_iff
theorem sortP_congr {l m : List (Int × Int)} (h : l.Perm m) : sortP l = sortP m := sortP_uniq ((sortP_perm l).trans h) (sortP_sorted l)
def prD (p : Int × Int) : D := .tup [.int p.1, .int p.2]
theorem bound_of : ∀ l : List (Int × Int), ∃ B : Int, ∀ q ∈ l, q.1 < B ∧ q.2 < B
  | [] => ⟨0, fun q hq => by cases hq⟩
  | p :: r => by
    obtain ⟨B, h⟩ := bound_of r
    refine ⟨max B (max (p.1 + 1) (p.2 + 1)), fun q hq => ?_⟩
    rcases List.mem_cons.mp hq with rfl | hq
    · omega
    · have := h q hq; omega
theorem rpL_perm {α : Type} {K : PySem.W.Frag} {F : Hp} {f : α → D} {vs ys : List V} (hp : ys.Perm vs) : ∀ {ps : List α}, RpL K F vs (ps.map f) → ∃ qs : List α, qs.Perm ps ∧ RpL K F ys (qs.map f) := by
  induction hp with
  | nil => exact fun {ps} r => ⟨ps, .refl _, r⟩
  | cons x h ih =>
    intro ps r
    cases ps with
    | nil => cases r
    | cons p ps =>
      cases r with
      | cons a r =>
        obtain ⟨qs, h1, h2⟩ := ih r
        exact ⟨p :: qs, .cons p h1, .cons a h2⟩
  | swap x y l =>
    intro ps r
    cases ps with
    | nil => cases r
    | cons p ps =>
      cases ps with
      | nil => cases r with
               | cons a r => cases r
      | cons q ps =>
        cases r with
        | cons a r =>
          cases r with
          | cons b r => exact ⟨q :: p :: ps, .swap .., .cons b (.cons a r)⟩
  | trans h1 h2 ih1 ih2 =>
    intro ps r
    obtain ⟨qs, k1, k2⟩ := ih2 r
    obtain ⟨rs, j1, j2⟩ := ih1 k2
    exact ⟨rs, j1.trans k1, j2⟩
theorem rp_tupI {K : PySem.W.Frag} {F H : Hp} {v : V} {q : Int × Int} (s : Same F H) (r : Rp K F v (prD q)) : TupI K H v [q.1, q.2] := by
  cases r with
  | tup h rr =>
    rename_i a xs
    have : xs = [q.1, q.2].map V.int := by
      have rr' : RpL K F xs ([q.1, q.2].map D.int) := rr
      exact rr'.ints
    rw [this] at h
    exact ⟨a, rfl, same_sqT s h⟩
theorem sorted_of {K : PySem.W.Frag} {F H : Hp} {B : Int} (s : Same F H) : ∀ {ys : List V} {qs : List (Int × Int)}, RpL K F ys (qs.map prD) → (∀ q ∈ qs, TS.Bd B [q.1, q.2]) → ys.Pairwise (fun x y => ∀ n m, TupI K H x n → TupI K H y m → TS.code B n ≤ TS.code B m) → qs.Pairwise leP
  | _, [], _, _, _ => .nil
  | _, q :: qs, .cons a r, hb, hp => by
    cases hp with
    | cons h1 h2 =>
      refine .cons (fun q2 hq2 => ?_) (sorted_of s r (fun x hx => hb x (List.mem_cons_of_mem _ hx)) h2)
      obtain ⟨i, hi⟩ := List.mem_iff_getElem?.mp hq2
      obtain ⟨v, hv, rv⟩ := r.get (i := i) (d := prD q2) (by rw [List.getElem?_map, hi]; rfl)
      exact code_lex (hb q List.mem_cons_self) (hb q2 (List.mem_cons_of_mem _ hq2)) (h1 v (List.mem_of_getElem? hv) _ _ (rp_tupI s a) (rp_tupI s rv))
section
variable {B : Bs} {X : Cx} {Γ : List SV} {a b c e : Expr} {es : List Expr} {pos : Pos} {post : SO → Prop} {p : Pos}
theorem re_sortedP (hm : X.mg "sorted" = none) {ps : List (Int × Int)} (h : RP B X e Γ true (ps.map prD)) (h64 : ps.length < 64) (h0 : ∀ q ∈ ps, 0 ≤ q.1 ∧ 0 ≤ q.2) (hg : Gl X "sorted" := by rfl) (he : starEach [e] X.env = (false, eval e X.env) :: starEach [] X.env := by rfl) : RE B X (.Call (.Name "sorted" p) [e] [] pos) Γ (.frs (.lst ((sortP ps).map prD))) := by
  obtain ⟨Bd, hB⟩ := bound_of ps
  have bd : ∀ q ∈ ps, TS.Bd Bd [q.1, q.2] := fun q hq m hm => by
    rcases (show m = q.1 ∨ m = q.2 by simpa using hm) with rfl | rfl
    · exact ⟨(h0 q hq).1, (hB q hq).1⟩
    · exact ⟨(h0 q hq).2, (hB q hq).2⟩
  refine re_peekB (cr_sortT (d := 2) (B := Bd) (by decide)) hm (by decide +kernel) h (fun W σ H F q vs m h1 h2 Q k => ⟨q, vs, rfl, h1, by rw [h2.len, List.length_map]; exact h64, fun x hx => ?_, fun ys l hp hs hl => ?_⟩) hg (he := he)
  · obtain ⟨i, hi⟩ := List.mem_iff_getElem?.mp hx
    have hil : i < ps.length := by
      have := (List.getElem?_eq_some_iff.mp hi).1
      rw [h2.len, List.length_map] at this; exact this
    obtain ⟨v, hv, rv⟩ := h2.get (i := i) (d := prD ps[i]) (by rw [List.getElem?_map, List.getElem?_eq_getElem hil]; rfl)
    rw [hi] at hv; cases hv
    exact ⟨_, rp_tupI m.mb.sub rv, rfl, bd _ (List.getElem_mem hil)⟩
  · obtain ⟨qs, k1, k2⟩ := rpL_perm hp h2
    have : qs = sortP ps := sortP_uniq k1 (sorted_of m.mb.sub k2 (fun q hq => bd q (k1.mem_iff.mp hq)) hs)
    subst this
    exact k.lst m k2 hl
/-! ### gcd, wide products and quotients -/
theorem re_gcd (hm : X.mg "gcd" = some (.builtin "math.gcd")) {i j : Int} (ha : RE B X a Γ (.val (.int i))) (hb : RE B X b Γ (.val (.int j))) (hg : Gl X "gcd" := by rfl) (he : starEach [a, b] X.env = (false, eval a X.env) :: starEach [b] X.env := by rfl) (hpl : (backTo pos (starEach [b] X.env)).any (·.1) = false := by rfl) (he2 : starEach [b] X.env = (false, eval b X.env) :: starEach [] X.env := by rfl) :
    RE B X (.Call (.Name "gcd" p) [a, b] [] pos) Γ (.val (.int ((Nat.gcd i.natAbs j.natAbs : Nat) : Int))) := fun W tk σ H F m Q k =>
  toE (pe_callBfun cr_gcd hg hm (pa_cons anyE (pa_cons anyE pa_nil he2) he) (by decide) he hpl) (ha W tk σ H F m _ fun v H1 F1 m1 s1 r1 => hb W tk σ H1 F1 m1 _ fun u H2 F2 m2 s2 r2 => by
    cases r1; cases r2
    exact ⟨i, j, rfl, (k.mono (s1.trans s2)).go m2 (.int _)⟩)
theorem re_mulW {i j : Int} (hc : CMulW i j) (ha : RE B X a Γ (.val (.int i))) (hb : RE B X b Γ (.val (.int j))) : RE B X (.BinOp a .Mult b pos) Γ (.val (.int (i * j))) := re_bin op_mulW ha hb (oj_I (g := fun i j => i * j) hc)
theorem re_fdivW {i j : Int} (hc : CDivW i j) (ha : RE B X a Γ (.val (.int i))) (hb : RE B X b Γ (.val (.int j))) : RE B X (.BinOp a .FloorDiv b pos) Γ (.val (.int (i / j))) := re_bin op_fdivW ha hb (oj_I (g := fun i j => i / j) hc)
/-! ### isinstance -/
/-- isinstance(e, (T, U)) of built-in types -/
theorem re_isiTL (T U ty : String) {d : D} {r r2 : Bool} {y z : Str} {p p2 p3 p4 : Pos} {j} (hm : X.mg "isinstance" = none) (hmT : X.mg y = none) (hmU : X.mg z = none) (h : RE B X e Γ (.val d)) (ht : tyD d = ty := by rfl) (hb : kitB ty T = some r := by decide +kernel) (hb2 : kitB ty U = some r2 := by decide +kernel) (hn : ty ≠ "" := by decide)
    (hv : bootBuiltins y = some (.type T) := by decide +kernel) (hv2 : bootBuiltins z = some (.type U) := by decide +kernel) (hg : Gl X "isinstance" := by rfl) (hgT : Gl X y := by rfl) (hgU : Gl X z := by rfl) (hy : y ≠ "__name__" := by decide) (hyd : (y == ("__debug__" : Str)) = false := by decide) (hz : z ≠ "__name__" := by decide) (hzd : (z == ("__debug__" : Str)) = false := by decide)
    (he : starEach [e, .Tuple [.Name y p2, .Name z p3] j p4] X.env = (false, eval e X.env) :: starEach [.Tuple [.Name y p2, .Name z p3] j p4] X.env := by rfl) (hpl : (backTo pos (starEach [.Tuple [.Name y p2, .Name z p3] j p4] X.env)).any (·.1) = false := by rfl)
    (he2 : starEach [.Tuple [.Name y p2, .Name z p3] j p4] X.env = (false, eval (.Tuple [.Name y p2, .Name z p3] j p4) X.env) :: starEach [] X.env := by rfl) (he3 : starEach [.Name y p2, .Name z p3] X.env = (false, eval (.Name y p2) X.env) :: starEach [.Name z p3] X.env := by rfl) (he4 : starEach [.Name z p3] X.env = (false, eval (.Name z p3) X.env) :: starEach [] X.env := by rfl) :
    RE B X (.Call (.Name "isinstance" p) [e, .Tuple [.Name y p2, .Name z p3] j p4] [] pos) Γ (.val (.bl (r || r2))) := fun W tk σ H F m Q k =>
  toE (pe_callB call_isiT hg hm (by decide +kernel) (pa_cons anyE (pa_cons (pe_tup (pa_cons (pe_bltn (v := .ty T) hgT hmT hv rfl hy hyd) (pa_cons (pe_bltn (v := .ty U) hgU hmU hv2 rfl hz hzd) pa_nil he4) he3)) pa_nil he2) he) (by decide) (by decide) he hpl)
    (h W tk σ H F m _ fun v H1 F1 m1 s1 r1 => ⟨by show 2 ≤ sizeLine; decide, fun q nq => by
      have g := Grow.new1 (o := .tup [.ty T, .ty U]) m1.mb.sub nq
      have m2 := m1.grow g
      refine ⟨v, q, [.ty T, .ty U], .type ty, [.type T, .type U], r || r2, rfl, upd_same, .cons (.ty T) (.cons (.ty U) .nil), by subst ht; exact r1.ty m2.mb.sub hn, ?_, (k.mono s1).go m2 (.bl _)⟩
      refine kitAny_cons (kit_ty hb) (fun e => ?_) fun e => by rw [e, Bool.true_or]
      rw [e, Bool.false_or]
      exact kitAny_cons (kit_ty hb2) (fun e => by rw [e]; exact kitAny_nil) fun e => e⟩)
structure InsK (K : PySem.W.Frag) (C : Addr) : Prop where
  cls : Cls K C
  ha : PySem.W.findIn K (.ref C) "__class__" = some (some (.builtin "object.__class__"))
  hn : PySem.W.specialIn K (.builtin "object.__class__") "__get__" = some (some (.builtin "getset_descriptor.__get__"))
  ht : PySem.W.takesIn K (.builtin "object.__class__") = some true
  hm : PySem.W.mroIn K C (.type "object") = some true
/-- isinstance(e, C), e an instance of the class C itself -/
theorem re_isiC {C : Addr} {fs : List (Str × D)} {y : Str} {p p2 : Pos} (I : InsK X.K C) (hm : X.mg "isinstance" = none) (hmC : X.mg y = some (.ref C)) (h : RE B X e Γ (.val (.ins C fs))) (hg : Gl X "isinstance" := by rfl) (hgT : Gl X y := by rfl) (hyd : (y == ("__debug__" : Str)) = false := by decide)
    (he : starEach [e, .Name y p2] X.env = (false, eval e X.env) :: starEach [.Name y p2] X.env := by rfl) (hpl : (backTo pos (starEach [.Name y p2] X.env)).any (·.1) = false := by rfl) (he2 : starEach [.Name y p2] X.env = (false, eval (.Name y p2) X.env) :: starEach [] X.env := by rfl) :
    RE B X (.Call (.Name "isinstance" p) [e, .Name y p2] [] pos) Γ (.val (.bl true)) := fun W tk σ H F m Q k =>
  toE (pe_callB call_isi hg hm (by decide +kernel) (pa_cons anyE (pa_cons (pe_glob (v := .ref C) hgT hmC rfl hyd) pa_nil he2) he) (by decide) (by decide) he hpl)
    (h W tk σ H F m _ fun v H1 F1 m1 s1 r1 => by
      cases r1 with
      | ins q r => exact ⟨_, .ref C, .ref C, .ref C, true, rfl, .own C, .base (.ins (m1.mb.sub _ _ q) I.cls I.ha I.hn I.ht I.hm), by unfold PySem.W.kitOne; rw [if_pos (by simp)], (k.mono s1).go m1 (.bl _)⟩)

/-! ### try, one clause with a name -/
theorem Mt.unset {K : PySem.W.Frag} {B : Bs} {F H : Hp} {σ : L2.St} {Γ : List SV} (m : Mt K B F H σ Γ) (i : Nat) : Mt K B F H (σ.set i none) (Γ.set i .un) := by
  refine ⟨m.mb, by rw [List.length_set, List.length_set]; exact m.len, fun j sv e => ?_, fun j k oj ok q ne ej ek e1 => ?_⟩
  · by_cases h : i = j
    · subst h
      by_cases hl : i < Γ.length
      · rw [List.getElem?_set_self hl] at e; cases e; trivial
      · rw [List.getElem?_eq_none (by rw [List.length_set]; omega)] at e; cases e
    · rw [List.getElem?_set_ne h] at e ⊢
      exact m.slot j sv e
  · have nh : ∀ {l : Nat} {ol : OD}, (Γ.set i .un)[l]? = some (.own ol) → i ≠ l ∧ Γ[l]? = some (.own ol) := fun {l ol} z => by
      by_cases h : i = l
      · subst h
        by_cases hl : i < Γ.length
        · rw [List.getElem?_set_self hl] at z; cases z
        · rw [List.getElem?_eq_none (by rw [List.length_set]; omega)] at z; cases z
      · rw [List.getElem?_set_ne h] at z; exact ⟨h, z⟩
    obtain ⟨h1, h2⟩ := nh ej
    obtain ⟨h3, h4⟩ := nh ek
    rw [List.getElem?_set_ne h1] at e1
    rw [List.getElem?_set_ne h3]
    exact m.sep j k oj ok q ne h2 h4 e1
theorem Mt.putExn {K : PySem.W.Frag} {B : Bs} {F H : Hp} {σ : L2.St} {Γ : List SV} (m : Mt K B F H σ Γ) (i : Nat) (a : Addr) : Mt K B F H (σ.set i (some (.ref a))) (Γ.set i (.exn a)) := by
  refine ⟨m.mb, by rw [List.length_set, List.length_set]; exact m.len, fun j sv e => ?_, fun j k oj ok q ne ej ek e1 => ?_⟩
  · by_cases h : i = j
    · subst h
      by_cases hl : i < Γ.length
      · rw [List.getElem?_set_self hl] at e; cases e
        exact List.getElem?_set_self (by rw [m.len]; exact hl)
      · rw [List.getElem?_eq_none (by rw [List.length_set]; omega)] at e; cases e
    · rw [List.getElem?_set_ne h] at e ⊢
      exact m.slot j sv e
  · have nh : ∀ {l : Nat} {ol : OD}, (Γ.set i (.exn a))[l]? = some (.own ol) → i ≠ l ∧ Γ[l]? = some (.own ol) := fun {l ol} z => by
      by_cases h : i = l
      · subst h
        by_cases hl : i < Γ.length
        · rw [List.getElem?_set_self hl] at z; cases z
        · rw [List.getElem?_eq_none (by rw [List.length_set]; omega)] at z; cases z
      · rw [List.getElem?_set_ne h] at z; exact ⟨h, z⟩
    obtain ⟨h1, h2⟩ := nh ej
    obtain ⟨h3, h4⟩ := nh ek
    rw [List.getElem?_set_ne h1] at e1
    rw [List.getElem?_set_ne h3]
    exact m.sep j k oj ok q ne h2 h4 e1
/-- what a suite of 'except .. as n' (n in slot i) leads to -/
def sufP (i : Nat) (post : SO → Prop) : SO → Prop
  | .nx Γ => post (.nx (Γ.set i .un))
  | .ret r => post (.ret r)
  | .brk Γ => post (.brk (Γ.set i .un))
  | .cont Γ => post (.cont (Γ.set i .un))
  | .exc _ _ => False
/-- what the body of such a try leads to: C the class that the clause names -/
def tryP (X : Cx) (c : Value) (i : Nat) (suite : List Stmt) (post : SO → Prop) : SO → Prop
  | .exc z Γ => z.own = none ∧ ∃ b, PySem.W.exmOne X.K (.ref z.cls) c = some b ∧ (b = true → ∀ (B : Bs) (a : Addr) (oe : Obj) (pn : List (Addr × Obj)), Zc (.ref z.cls) none oe → (∃ vs, oe.data = .fields vs) → WS B (X.suite a ((a, oe) :: pn)) suite (Γ.set i (.exn a)) (sufP i post)) ∧ (b = false → post (.exc z Γ))
  | o => post o
theorem w1_tryAs (i : Nat) {x n : Str} {cv : Value} {body suite : List Stmt} {b0 : Stmt} {np pos' : Pos} (hc : Names X x cv) (hN : X.N.Nodup) (hb : ∀ (pn : List (Addr × Obj)) (xe : Value → Shared → Prop), PassesOwn (model X.prog X.w) X.A X.env xe → WS B (X.tr pn xe) body Γ (tryP X cv i (b0 :: suite) post))
    (hs : X.stack = X.env :: X.outer := by rfl) (hf : X.env.frame = some X.env.locals := by rfl) (hi : X.N[i]? = some n := by rfl) (hln : X.env.kindOf n = some .local := by rfl) :
    W1 B X (.Try body [.ExceptHandler (some (.Name x np)) (some n) (b0 :: suite) pos'] [] [] pos) Γ post := fun W tk σ H F m D k => by
  refine toS (ps_try_as (i := i) (tb := fun W' D' σ' H' => ∀ (pn : List (Addr × Obj)) (xe : Value → Shared → Prop), Takes (X.tr pn xe) W' → PassesOwn (model X.prog X.w) X.A X.env xe → tAnyB (X.tr pn xe) body D' σ' H') (ts := fun a cls d D' σ' H' => ∀ (oe : Obj) (pn : List (Addr × Obj)), Zc cls d oe → (∃ vs, oe.data = .fields vs) → tAnyB (X.suite a ((a, oe) :: pn)) (b0 :: suite) D' σ' H')
    hs hf hN hi hln hc tk (fun W' pn xe tk' po => ⟨fun pins s _ _ _ I h => h pn xe tk' po pins s I⟩) (fun a oe cls d pn hz hd => ⟨fun pins s _ _ _ I h => h oe pn hz hd pins s I⟩)) ?_
  intro pn xe tk' po
  refine hb pn xe po _ tk' σ H F m D ⟨fun σ' H' F' Γ' q m' s' => k.nx σ' H' F' Γ' q m' s', fun v H' F' r q m' s' ok => k.rt v H' F' r q m' s' ok, fun σ' H' F' Γ' q m' s' => k.bk σ' H' F' Γ' q m' s', fun σ' H' F' Γ' q m' s' => k.ct σ' H' F' Γ' q m' s', fun cl d σ' H' F' Γ' z q m' s' rz => ?_⟩
  obtain ⟨q0, bb, q1, q2, q3⟩ := q
  obtain ⟨zc, zo⟩ := z
  obtain rfl : zo = none := q0
  obtain ⟨rfl, rfl⟩ := rz
  refine ⟨bb, q1, fun e a ha oe pn hz hd => ?_, fun e => k.ex _ _ σ' H' F' Γ' ⟨zc, none⟩ (q3 e) m' s' ⟨rfl, rfl⟩⟩
  refine q2 e B a oe pn hz hd (fun _ _ _ _ => False) takes_none5 _ H' F' (m'.putExn i a) _ ⟨fun σ2 H2 F2 Γ2 q m2 s2 => ?_, fun v H2 F2 r q m2 s2 ok => ?_, fun σ2 H2 F2 Γ2 q m2 s2 => ?_, fun σ2 H2 F2 Γ2 q m2 s2 => ?_, fun _ _ _ _ _ _ _ q _ _ _ => q.elim⟩
  · exact k.nx _ H2 F2 _ q (m2.unset i) (s'.trans s2)
  · exact k.rt v H2 F2 r q m2 (s'.trans s2) ok
  · exact k.bk _ H2 F2 _ q (m2.unset i) (s'.trans s2)
  · exact k.ct _ H2 F2 _ q (m2.unset i) (s'.trans s2)
/-- isinstance(n, C), n the exception that the suite holds -/
theorem re_isE (i : Nat) {a : Addr} {oe : Obj} {pn : List (Addr × Obj)} {D : Addr} {bb : Bool} {n y : Str} {cv : Value} {vv : V} {p1 p2 : Pos} (C : ExcC X.K D) (hz : Zc (.ref D) none oe) (hd : ∃ vs, oe.data = .fields vs) (hΓ : Γ[i]? = some (.exn a)) (hm : X.mg "isinstance" = none) (hy : PE (X.suite a ((a, oe) :: pn)) (.Name y p2) (tC vv)) (hv : ∀ u, RelV vv u → u = cv) (hk : PySem.W.kitOne X.K (.ref D) cv = some bb)
    (hN : X.N[i]? = some n := by rfl) (hvis : Vis X.env.scope n := by first | exact Or.inl rfl | exact Or.inr (Or.inl rfl) | exact Or.inr (Or.inr rfl)) (h1 : (n == ("__debug__" : Str)) = false := by decide) (h2 : (n == ("__classdict__" : Str)) = false := by decide) (hg : Gl X "isinstance" := by rfl)
    (he : starEach [.Name n p1, .Name y p2] X.env = (false, eval (.Name n p1) X.env) :: starEach [.Name y p2] X.env := by rfl) (hpl : (backTo pos (starEach [.Name y p2] X.env)).any (·.1) = false := by rfl) (he2 : starEach [.Name y p2] X.env = (false, eval (.Name y p2) X.env) :: starEach [] X.env := by rfl) :
    RE B (X.suite a ((a, oe) :: pn)) (.Call (.Name "isinstance" p) [.Name n p1, .Name y p2] [] pos) Γ (.val (.bl bb)) := fun W tk σ H F m Q k =>
  toE (pe_callB (call_isE C hz hd) hg hm (by decide +kernel) (pa_cons (pe_var (X := X.suite a ((a, oe) :: pn)) hN hvis h1 h2) (pa_cons hy pa_nil he2) he) (by decide) (by decide) he hpl)
    ⟨.ref a, m.slot i _ hΓ, vv, cv, bb, rfl, hv, hk, k.go m (.bl _)⟩
end
end DL

/-! DL12: sorted of a tuple of pairs. -/
namespace DL
open PySem PySem.Spec PyProof.Rows L2
theorem sorted_tup_raw {prog : Program} {w : World} {A : Around} {E : Value → Shared → Prop} {s : Shared} {l : Addr} {vs : List Value} {d : Nat} {B : Int} {Q : Value → Shared → Prop} (hl : s.heap.IsTuple l vs.toArray) (h64 : vs.length < 64) (hd : 1 ≤ d) (x : TS.TupsOk s.heap d B vs)
    (h : ∀ (h' : Heap) (out : Array Value), (∀ bb oo, s.heap.get? bb = some oo → h'.get? bb = some oo) → out.toList.Perm vs → out.toList.Pairwise (fun u v => TS.code B (TS.intsOf s.heap u) ≤ TS.code B (TS.intsOf s.heap v)) → Q (.ref h'.objs.size) { s with heap := sortedHeap (h'.push (seqObj "list" vs.toArray 0)) h'.objs.size vs out }) :
    wpAny (model prog w) A (call (.builtin "sorted") [.ref l]) Q E s := by
  obtain ⟨ob, hob, hcb, nb, hdb⟩ := hl
  refine Calls.call_function_entry kind_sorted plain_sorted entry_sorted (args_sorted1 _) ?_
  unfold Builtin.«sorted»
  refine wpAny_bind (m := checkCount "sorted" 1 1 _) (wpAny_pure ?_)
  refine wpAny_bind (wpAny_collect_seq l (.inr rfl) hob hcb hdb (fun h' hk => ?_) (by rw [sizeLine_eq, List.size_toArray]; omega))
  rw [show vs.toArray.toList = vs from rfl]
  refine wpAny_bind (wpAny_newList ?_ (by rw [sizeLine_eq]; omega))
  have hoL : (h'.push (seqObj "list" vs.toArray 0)).get? h'.objs.size = some (seqObj "list" vs.toArray 0) := Heap.get?_push_size _ rfl
  have keep : ∀ bb oo, s.heap.get? bb = some oo → oo.cls = .type "tuple" → (h'.push (seqObj "list" vs.toArray 0)).get? bb = some oo := fun bb oo q _ => Heap.get?_push_of_some _ (hk bb oo q)
  refine wpAny_bind (wpAny_holding (wpAny_call_entry slot_list_sort ⟨_, hoL, rfl⟩ entry_list_sort (TS.sort_tups hoL h64 hd (x.keeps keep) (fun v => TS.code B (TS.intsOf s.heap v)) (fun v hv ns t => ?_) fun out a1 a2 => ⟨_, rfl, ?_⟩) (args_list_sort _)))
  · obtain ⟨ns0, t0, _⟩ := x v hv
    have e : ns = ns0 := t.ints.symm.trans (t0.keeps keep).ints
    rw [e]
    show TS.code B (TS.intsOf s.heap v) = TS.code B ns0
    rw [t0.ints]
  · exact wpAny_pure ⟨_, rfl, h h' out hk a1 a2⟩
def rSortV (K : PySem.W.Frag) (d : Nat) (B : Int) : List V → Hp → VK → Prop := fun vs H Q => ∃ (a : Addr) (xs : List V), vs = [V.ref a] ∧ SqT K H a xs ∧ xs.length < 64 ∧ (∀ x ∈ xs, ∃ ns, TupI K H x ns ∧ ns.length = d ∧ TS.Bd B ns) ∧
  ∀ (ys : List V) (p : Addr), ys.Perm xs → ys.Pairwise (fun x y => ∀ n m, TupI K H x n → TupI K H y m → TS.code B n ≤ TS.code B m) → H p = none → Q (.ref p) (upd H p (.lst ys))
theorem cr_sortV {X : Cx} {d : Nat} {B : Int} (hd : 1 ≤ d) : CallR X (.builtin "sorted") (rSortV X.K d B) := by
  intro pins s σ H vs us Q I r h
  obtain ⟨a, xs, rfl, hs, h64, hx, q⟩ := h
  obtain ⟨its, rv, hl, hz⟩ := I.tuple hs
  rw [Vals.ref1 r]
  obtain ⟨e1, e2⟩ := bkV_refs rv fun x m => by
    obtain ⟨ns, ⟨t, e, _⟩, _⟩ := hx x m
    exact ⟨t, e⟩
  refine sorted_tup_raw (d := d) (B := B) hl (by rw [← rv.length]; exact h64) hd (fun v hv => ?_) fun h' out hk h1 h2 => ?_
  · obtain ⟨t, rfl⟩ := e2 v hv
    have hm : V.ref t ∈ xs := by rw [e1]; exact List.mem_map.mpr ⟨_, hv, rfl⟩
    obtain ⟨ns, ⟨t', e, ht⟩, hn, hb⟩ := hx _ hm
    cases e
    exact ⟨ns, tupI_raw I ht, hn, hb⟩
  · have I1 : Inv X pins σ H { s with heap := h' } := I.kept (t' := s.toks) hk
    have hob : (h'.push (seqObj "list" its.toArray 0)).get? h'.objs.size = some (seqObj "list" its.toArray 0) := Heap.get?_push_size _ rfl
    obtain ⟨ep, he'⟩ := PyProof.Rows.sortedHeap_at (vs := its) (out := out) hob
    have h3 : ∀ u ∈ out.toList, ∃ a, u = Value.ref a := fun u hu => e2 u (h1.mem_iff.mp hu)
    have hp : (out.toList.map bkV).Perm xs := by rw [e1]; exact h1.map bkV
    have hlen : (out.toList.map bkV).length ≤ sizeLine := by rw [hp.length_eq]; exact hz
    refine ⟨.ref _, upd H h'.objs.size (.lst (out.toList.map bkV)), I1.laid (t' := s.toks) (fun bb oo hb => ?_) (Nat.le_refl _) ⟨hlen, out.toList, ep, bkV_vals h3, he'⟩, rfl, q _ _ hp ?_ (I1.hok.fresh (Nat.le_refl _))⟩
    · have hlt : bb < h'.objs.size := Heap.lt_size hb
      rw [PyProof.Rows.sortedHeap_old (Nat.ne_of_lt hlt) (by rw [PyProof.Rows.size_push']; exact Nat.lt_succ_of_lt hlt)]
      exact Heap.get?_push_of_some _ hb
    rw [List.pairwise_map]
    refine List.Pairwise.imp (fun {u v} huv n m hn hm => ?_) h2
    obtain ⟨t, et, ht⟩ := hn
    obtain ⟨t', et', ht'⟩ := hm
    have eu := bkV_ref et
    have ev := bkV_ref et'
    have i1 : TS.intsOf s.heap u = n := by rw [eu]; exact (tupI_raw I ht).ints
    have i2 : TS.intsOf s.heap v = m := by rw [ev]; exact (tupI_raw I ht').ints
    rw [← i1, ← i2]
    exact huv
theorem re_sortedT {B : Bs} {X : Cx} {Γ : List SV} {e : Expr} {p pos : Pos} (hm : X.mg "sorted" = none) {ps : List (Int × Int)} (h : RP B X e Γ false (ps.map prD)) (h64 : ps.length < 64) (h0 : ∀ q ∈ ps, 0 ≤ q.1 ∧ 0 ≤ q.2) (hg : Gl X "sorted" := by rfl) (he : starEach [e] X.env = (false, eval e X.env) :: starEach [] X.env := by rfl) : RE B X (.Call (.Name "sorted" p) [e] [] pos) Γ (.frs (.lst ((sortP ps).map prD))) := by
  obtain ⟨Bd, hB⟩ := bound_of ps
  have bd : ∀ q ∈ ps, TS.Bd Bd [q.1, q.2] := fun q hq m hm => by
    rcases (show m = q.1 ∨ m = q.2 by simpa using hm) with rfl | rfl
    · exact ⟨(h0 q hq).1, (hB q hq).1⟩
    · exact ⟨(h0 q hq).2, (hB q hq).2⟩
  refine re_peekB (cr_sortV (d := 2) (B := Bd) (by decide)) hm (by decide +kernel) h (fun W σ H F q vs m h1 h2 Q k => ⟨q, vs, rfl, h1, by rw [h2.len, List.length_map]; exact h64, fun x hx => ?_, fun ys l hp hs hl => ?_⟩) hg (he := he)
  · obtain ⟨i, hi⟩ := List.mem_iff_getElem?.mp hx
    have hil : i < ps.length := by
      have := (List.getElem?_eq_some_iff.mp hi).1
      rw [h2.len, List.length_map] at this; exact this
    obtain ⟨v, hv, rv⟩ := h2.get (i := i) (d := prD ps[i]) (by rw [List.getElem?_map, List.getElem?_eq_getElem hil]; rfl)
    rw [hi] at hv; cases hv
    exact ⟨_, rp_tupI m.mb.sub rv, rfl, bd _ (List.getElem_mem hil)⟩
  · obtain ⟨qs, k1, k2⟩ := rpL_perm hp h2
    have : qs = sortP ps := sortP_uniq k1 (sorted_of m.mb.sub k2 (fun q hq => bd q (k1.mem_iff.mp hq)) hs)
    subst this
    exact k.lst m k2 hl
end DL
namespace DL
open PySem PySem.Spec PyProof.Rows L2
local macro_rules | `(tactic| walk_at "wk") => `(tactic| (repeat (first | exact Wk.nil | refine Wk.un ?_ | refine Wk.same ?_ | refine Wk.eqv (by simp only [List.map_append, List.map_cons, List.map_nil]) ?_)))
def topS (i : Nat) : Stmt := PySem.Challenge.pw_cushioned_k63_reduced_tables.main.body.getD i (.Pass ⟨0, 0, 0, 0⟩)
abbrev s__law_row : Stmt := topS 28
abbrev s__law_numbers : Stmt := topS 29
abbrev s_is_name : Stmt := topS 16
abbrev s_require : Stmt := topS 10
abbrev s_Table_is_point : Stmt := inClass (topS 11) 1
abbrev s_Table___init__ : Stmt := inClass (topS 11) 0
abbrev s_is_ball : Stmt := topS 17
abbrev s_check_ball : Stmt := topS 18
abbrev s__law_table : Stmt := topS 30
abbrev s__law_ball : Stmt := topS 31
abbrev s_check_balls : Stmt := topS 19
abbrev s_check_factor : Stmt := topS 21
abbrev s_enlarged : Stmt := topS 22
abbrev s_enlarged_ball : Stmt := topS 23
abbrev s_factor_of : Stmt := topS 24
abbrev s_greatest_factor : Stmt := topS 25
abbrev s_reduced : Stmt := topS 26
abbrev s__law_factor : Stmt := topS 35
abbrev s__law_common : Stmt := topS 36
abbrev s__law_other : Stmt := topS 37
abbrev s_law : Stmt := topS 38
section
variable {P : Program} {w : World} {K : PySem.W.Frag} {mg : Str → Option Value} {base : Heap}
/-! ### the law's numbers: _law_row, _law_numbers -/
def absI (c : Int) : Int := if c < 0 then -c else c
def lrStep (c : Int) (s : Int × Int × List Int) (k : Nat) : Int × Int × List Int :=
  if 10 ^ (18 : Int).toNat ≤ absI c then ((s.1 * 16807 + 271 * ((0 + (k : Int)) + 3)) % 2147483629, s.2.1 / 1009, s.2.2 ++ [s.2.1 % 1009])
  else ((s.1 * 16807 + 271 * ((0 + (k : Int)) + 3)) % 2147483629, s.2.1, s.2.2 ++ [(s.1 * 16807 + 271 * ((0 + (k : Int)) + 3)) % 2147483629 / 7 % 1009])
def lawRow (c n : Int) : List Int := ((List.range n.toNat).foldl (lrStep c) ((absI c * 48271 + 69621) % 2147483647, absI c, [])).2.2
theorem lr_len (c : Int) : ∀ (l : List Nat) (s : Int × Int × List Int), (l.foldl (lrStep c) s).2.2.length = s.2.2.length + l.length
  | [], s => rfl
  | k :: l, s => by
    rw [List.foldl_cons, lr_len c l, List.length_cons]
    unfold lrStep
    split <;> simp <;> omega
theorem lr_in (c : Int) : ∀ (l : List Nat) (s : Int × Int × List Int), (∀ x ∈ s.2.2, 0 ≤ x ∧ x < 1009) → ∀ x ∈ (l.foldl (lrStep c) s).2.2, 0 ≤ x ∧ x < 1009
  | [], s, h => h
  | k :: l, s, h => by
    rw [List.foldl_cons]
    refine lr_in c l _ fun x hx => ?_
    unfold lrStep at hx
    split at hx
    all_goals
      rcases List.mem_append.mp hx with q | q
      · exact h x q
      · rw [List.mem_singleton] at q; subst q; omega
theorem lawRow_len (c n : Int) : (lawRow c n).length = n.toNat := by
  unfold lawRow
  rw [lr_len, List.length_range]; simp
theorem lawRow_in (c n : Int) : ∀ x ∈ lawRow c n, 0 ≤ x ∧ x < 1009 := lr_in c _ _ fun x hx => by cases hx
abbrev N__law_row : List Str := ["_law_cell", "_law_many", "_law_row_here", "_law_rest", "_law_mixed", "_law_k"]
theorem sc__law_row : FnScope N__law_row ["_law_cell", "_law_many"] (defScope s__law_row) := ⟨rfl, rfl, rfl, by decide +kernel, rfl, by decide +kernel, by decide +kernel⟩
def S__law_row : DSp := fun ds o => ∃ c n : Int, ds = [.int c, .int n] ∧ 0 ≤ n ∧ n ≤ 100000 ∧ o = .frs (.lst ((lawRow c n).map .int))
theorem ok__law_row (bi : Bis mg) {f : Addr} {fd : FuncData} (F : Fun K "_law_row" "_law_row" s__law_row f fd) : FnOk P w K mg base (L2.CX P w) 1 f fd ["_law_cell", "_law_many"] (spD K S__law_row) := by
  refine fn_D F sc__law_row (by decide) (fun ds o h => ?_) (fun ds o h B cdv A outer s H E hr => ?_)
  · obtain ⟨c, n, rfl, _⟩ := h; rfl
  · obtain ⟨c, n, rfl, h0, hn, rfl⟩ := h
    show WS _ _ _ [.dat (.int c), .dat (.int n), .un, .un, .un, .un] _
    refine ws_cons (w1_setO 2 sc__law_row.nd (re_lst rl_nil) ?_)
    show WS _ _ _ [_, _, _, _, _, _] _
    refine ws_cons (w1_set 3 sc__law_row.nd (re_abs bi.abs (re_var 0 rfl)) ?_)
    show WS _ _ _ [_, _, _, _, _, _] _
    refine ws_cons (w1_set 4 sc__law_row.nd (re_mod (by omega) (re_intI bi.int (re_add (re_mul (.inr ⟨by omega, by omega⟩) (re_var 3 rfl) re_int) re_int)) re_int) ?_)
    show WS _ _ _ [_, _, _, _, _, _] _
    refine ws_cons (w1_fold (List.range n.toNat) (fun k => D.int (0 + (k : Int))) (fun s : Int × Int × List Int => [.dat (.int c), .dat (.int n), .own (.lst (s.2.2.map D.int)), .dat (.int s.2.1), .dat (.int s.1), .un]) (lrStep c) ((absI c * 48271 + 69621) % 2147483647, absI c, [])
      (passes_of rfl) rfl (ri_range1 bi.range (re_var 1 rfl) (by omega) (by omega)) (pg_name (i := 5) sc__law_row.nd rfl (Or.inl rfl)) (by walk_at "wk") (fun pre x suf hx => ⟨_, rg_name 5, ?_⟩) (fun Γ' hw => ?_))
    · have hl := lr_len c pre ((absI c * 48271 + 69621) % 2147483647, absI c, [])
      have hlen := congrArg List.length hx
      rw [List.length_range, List.length_append, List.length_cons] at hlen
      generalize pre.foldl (lrStep c) ((absI c * 48271 + 69621) % 2147483647, absI c, []) = s at hl ⊢
      rw [List.length_nil, Nat.zero_add] at hl
      show WS _ _ _ [_, _, _, _, _, _] _
      refine ws_cons (w1_set 4 sc__law_row.nd (re_mod (by omega) (re_intI bi.int (re_add (re_mul (.inr ⟨by omega, by omega⟩) (re_var 4 rfl) re_int) (re_mul (.inl ⟨by omega, by omega⟩) re_int (re_add (re_var 5 rfl) re_int)))) re_int) ?_)
      show WS _ _ _ [_, _, _, _, _, _] _
      refine ws_cons (w1_if (rt_co (c_ge (re_abs bi.abs (re_var 0 rfl)) (re_pow ⟨by decide, by decide, by decide⟩ re_int re_int))) (fun hb => ?_) (fun hb => ?_))
      · have hc : 10 ^ (18 : Int).toNat ≤ absI c := of_decide_eq_true hb
        refine ws_cons (w1_appendM (f := D.int) (xs := s.2.2) 2 rfl (fun _ h => pe_bm PySem.F.plainAttrs_list PySem.F.slot_list_append PySem.F.type_list_append mt_append (pv 2) (pa_cons h pa_nil)) (re_mod (by omega) (re_intI bi.int (re_var 3 rfl)) re_int) (by rw [sizeLine_eq]; omega) ?_)
        show WS _ _ _ [_, _, _, _, _, _] _
        refine ws_cons (w1_set 3 sc__law_row.nd (re_fdiv ⟨by omega, by omega⟩ (re_var 3 rfl) re_int) ?_)
        show WS _ _ _ [_, _, _, _, _, _] _
        refine ws_nil (ws_nil ⟨_, .refl _, ?_⟩)
        unfold lrStep
        rw [if_pos hc]
        walk_at "wk"
      · have hc : ¬ 10 ^ (18 : Int).toNat ≤ absI c := of_decide_eq_false hb
        refine ws_cons (w1_appendM (f := D.int) (xs := s.2.2) 2 rfl (fun _ h => pe_bm PySem.F.plainAttrs_list PySem.F.slot_list_append PySem.F.type_list_append mt_append (pv 2) (pa_cons h pa_nil)) (re_mod (by omega) (re_intI bi.int (re_fdiv ⟨by omega, by omega⟩ (re_var 4 rfl) re_int)) re_int) (by rw [sizeLine_eq]; omega) ?_)
        show WS _ _ _ [_, _, _, _, _, _] _
        refine ws_nil (ws_nil ⟨_, .refl _, ?_⟩)
        unfold lrStep
        rw [if_neg hc]
        walk_at "wk"
    refine ws_wk hw ?_
    show WS _ _ _ [_, _, _, _, _, _] _
    exact ws_cons (w1_retN 2 rfl rfl)
def lnEach (ns : List Int) (m : Int) : Int := 1 + m / (if ((cutL ns none (some 63)).length : Int) > 1 then ((cutL ns none (some 63)).length : Int) else 1)
def lnAll (ns : List Int) (m : Int) : List Int := (cutL ns none (some 63)).foldl (fun a c => a ++ lawRow c (lnEach ns m)) []
def lnPad (ns : List Int) (m : Int) : List Int := lnAll ns m ++ List.replicate (m.toNat - (lnAll ns m).length) 0
def lawNumbers (ns : List Int) (m : Int) : List Int := cutL (lnPad ns m) none (some m)
theorem foldl_app (l : List Int) : ∀ a : List Int, l.foldl (fun a v => a ++ [v]) a = a ++ l := by
  induction l with
  | nil => intro a; simp
  | cons x r ih => intro a; rw [List.foldl_cons, ih]; simp
theorem lnEach_le (ns : List Int) {m : Int} (h0 : 0 ≤ m) (h1 : m ≤ 1000) : 0 ≤ lnEach ns m ∧ lnEach ns m ≤ 1001 := by
  unfold lnEach
  split
  · rename_i h
    have := Int.ediv_le_self (a := m) ((cutL ns none (some 63)).length : Int) h0
    have := Int.ediv_nonneg h0 (b := ((cutL ns none (some 63)).length : Int)) (by omega)
    omega
  · rw [Int.ediv_one]; omega
theorem lnFold_len (e : Int) : ∀ (l : List Int) (a : List Int), (l.foldl (fun a c => a ++ lawRow c e) a).length = a.length + l.length * e.toNat
  | [], a => by simp
  | c :: l, a => by
    rw [List.foldl_cons, lnFold_len e l, List.length_append, lawRow_len, List.length_cons, Nat.succ_mul]
    omega
theorem lnFold_in (e : Int) : ∀ (l : List Int) (a : List Int), (∀ x ∈ a, 0 ≤ x ∧ x < 1009) → ∀ x ∈ l.foldl (fun a c => a ++ lawRow c e) a, 0 ≤ x ∧ x < 1009
  | [], a, h => h
  | c :: l, a, h => by
    rw [List.foldl_cons]
    refine lnFold_in e l _ fun x hx => ?_
    rcases List.mem_append.mp hx with q | q
    · exact h x q
    · exact lawRow_in c e x q
theorem cut63 (ns : List Int) : (cutL ns none (some 63)).length ≤ 63 := by
  rw [show (63 : Int) = ((63 : Nat) : Int) from rfl, cutL_upto, List.length_take]; omega
theorem lnAll_len (ns : List Int) {m : Int} (h0 : 0 ≤ m) (h1 : m ≤ 1000) : (lnAll ns m).length ≤ 63063 := by
  unfold lnAll
  rw [lnFold_len, List.length_nil, Nat.zero_add]
  have h2 := cut63 ns
  have h3 := lnEach_le ns h0 h1
  have h4 : (lnEach ns m).toNat ≤ 1001 := by omega
  exact Nat.le_trans (Nat.mul_le_mul h2 h4) (by decide)
theorem lawNumbers_len (ns : List Int) {m : Int} (h0 : 0 ≤ m) : (lawNumbers ns m).length = m.toNat := by
  unfold lawNumbers lnPad
  rw [show m = ((m.toNat : Nat) : Int) by omega, cutL_upto, List.length_take, List.length_append, List.length_replicate]
  omega
theorem lawNumbers_in (ns : List Int) {m : Int} (h0 : 0 ≤ m) : ∀ x ∈ lawNumbers ns m, 0 ≤ x ∧ x < 1009 := by
  intro x hx
  unfold lawNumbers lnPad at hx
  rw [show (some m) = some ((m.toNat : Nat) : Int) by rw [show ((m.toNat : Nat) : Int) = m by omega], cutL_upto] at hx
  rcases List.mem_append.mp (List.mem_of_mem_take hx) with q | q
  · exact lnFold_in _ _ _ (fun x hx => by cases hx) x q
  · rw [(List.mem_replicate.mp q).2]; omega
theorem nth_in {ns : List Int} (h : ∀ x ∈ ns, 0 ≤ x ∧ x < 1009) (i : Int) : 0 ≤ nth ns i ∧ nth ns i < 1009 := by
  unfold nth
  rw [List.getD_eq_getElem?_getD]
  cases e : ns[i.toNat]? with
  | none => exact ⟨by decide, by decide⟩
  | some x => exact h x (List.mem_of_getElem? e)
abbrev N__law_numbers : List Str := ["_law_script", "_law_many", "_law_cells", "_law_each", "_law_numbers_here", "_law_cell", "_law_number"]
theorem sc__law_numbers : FnScope N__law_numbers ["_law_script", "_law_many"] (defScope s__law_numbers) := ⟨rfl, rfl, rfl, by decide +kernel, rfl, by decide +kernel, by decide +kernel⟩
def S__law_numbers : DSp := fun ds o => ∃ (ns : List Int) (m : Int), ds = [.lst (ns.map .int), .int m] ∧ 0 ≤ m ∧ m ≤ 1000 ∧ o = .frs (.lst ((lawNumbers ns m).map .int))
theorem ok__law_numbers (bi : Bis mg) (G__law_row : Defn P w K mg base 1 "_law_row" [] S__law_row) {f : Addr} {fd : FuncData} (F : Fun K "_law_numbers" "_law_numbers" s__law_numbers f fd) : FnOk P w K mg base (L2.CX P w) 2 f fd ["_law_script", "_law_many"] (spD K S__law_numbers) := by
  refine fn_D F sc__law_numbers (by decide) (fun ds o h => ?_) (fun ds o h B cdv A outer s H E hr => ?_)
  · obtain ⟨ns, m, rfl, _⟩ := h; rfl
  · obtain ⟨ns, m, rfl, h0, h1, rfl⟩ := h
    have he := lnEach_le ns h0 h1
    have hz := lnAll_len ns h0 h1
    show WS _ _ _ [.dat (.lst (ns.map .int)), .dat (.int m), .un, .un, .un, .un, .un] _
    refine ws_cons (w1_set 2 sc__law_numbers.nd (re_frz (re_slM (f := D.int) (xs := ns) (rp_lst (re_var 0 rfl)) ro_none (ro_some re_int))) ?_)
    show WS _ _ _ [_, _, _, _, _, _, _] _
    refine ws_cons (w1_set 3 sc__law_numbers.nd (d := .int (lnEach ns m)) (re_is (re_add re_int (re_fdiv (by rw [List.length_map]; exact ⟨by split <;> omega, by have := cut63 ns; split <;> omega⟩) (re_var 1 rfl) (re_max2 bi.max rfl re_int (re_len bi.len (rp_lst (re_var 2 rfl)))))) (by rw [List.length_map]; rfl)) ?_)
    show WS _ _ _ [_, _, _, _, _, _, _] _
    refine ws_cons (w1_setO 4 sc__law_numbers.nd (re_lst rl_nil) ?_)
    show WS _ _ _ [_, _, _, _, _, _, _] _
    refine ws_cons (w1_fold (cutL ns none (some 63)) D.int (fun a : List Int => [.dat (.lst (ns.map .int)), .dat (.int m), .dat (.lst ((cutL ns none (some 63)).map D.int)), .dat (.int (lnEach ns m)), .own (.lst (a.map D.int)), .un, .un]) (fun a c => a ++ lawRow c (lnEach ns m)) []
      (passes_of rfl) rfl (ri_list (re_var 2 rfl)) (pg_name (i := 5) sc__law_numbers.nd rfl (Or.inl rfl)) (by walk_at "wk") (fun pre x suf hx => ⟨_, rg_name 5, ?_⟩) (fun Γ' hw => ?_))
    · have hl := lnFold_len (lnEach ns m) pre []
      have hlen := congrArg List.length hx
      rw [List.length_append, List.length_cons] at hlen
      have h63 := cut63 ns
      have hb : (pre.foldl (fun a c => a ++ lawRow c (lnEach ns m)) []).length ≤ 63063 := by
        rw [hl, List.length_nil, Nat.zero_add]
        exact Nat.le_trans (Nat.mul_le_mul (show pre.length ≤ 63 by omega) (show (lnEach ns m).toNat ≤ 1001 by omega)) (by decide)
      generalize pre.foldl (fun a c => a ++ lawRow c (lnEach ns m)) [] = t at hb ⊢
      show WS _ _ _ [_, _, _, _, _, _, _] _
      refine ws_cons (w1_fold (lawRow x (lnEach ns m)) D.int (fun a : List Int => [.dat (.lst (ns.map .int)), .dat (.int m), .dat (.lst ((cutL ns none (some 63)).map D.int)), .dat (.int (lnEach ns m)), .own (.lst (a.map D.int)), .un, .un]) (fun a v => a ++ [v]) t
        (passes_of rfl) rfl (ri_list (re_frz (re_call G__law_row (hr.mono (by decide)) (rl_cons (re_var 5 rfl) (rl_cons (re_var 3 rfl) rl_nil)) ⟨_, _, rfl, he.1, by omega, rfl⟩))) (pg_name (i := 6) sc__law_numbers.nd rfl (Or.inl rfl)) (by walk_at "wk") (fun pre x suf hx => ⟨_, rg_name 6, ?_⟩) (fun Γ' hw => ?_))
      · have hl := congrArg List.length hx
        rw [List.length_append, List.length_cons, lawRow_len] at hl
        rw [foldl_app]
        show WS _ _ _ [_, _, _, _, _, _, _] _
        refine ws_cons (w1_appendM (f := D.int) (xs := t ++ pre) 4 rfl (fun _ h => pe_bm PySem.F.plainAttrs_list PySem.F.slot_list_append PySem.F.type_list_append mt_append (pv 4) (pa_cons h pa_nil)) (re_var 6 rfl) (by rw [List.length_append, sizeLine_eq]; omega) ?_)
        show WS _ _ _ [_, _, _, _, _, _, _] _
        refine ws_nil ⟨_, .refl _, ?_⟩
        walk_at "wk"
      · rw [foldl_app] at hw
        refine ws_wk hw (ws_nil ⟨_, .refl _, ?_⟩)
        walk_at "wk"
    refine ws_wk hw ?_
    show WS _ _ _ [_, _, _, _, _, _, _] _
    refine ws_cons (w1_while (passes_of rfl) (fun n Γi => ∃ k, n = m.toNat - ((lnAll ns m).length + k) ∧ (k = 0 ∨ (lnAll ns m).length + k ≤ m.toNat) ∧ Wk Γi [.un, .dat (.int m), .un, .un, .own (.lst ((lnAll ns m ++ List.replicate k 0).map D.int)), .un, .un]) _ ⟨0, rfl, .inl rfl, ?_⟩ (fun n Γi hI => ?_))
    · rw [List.replicate_zero, List.append_nil]
      walk_at "wk"
    · obtain ⟨k, hn, hk, hwk⟩ := hI
      have hlen : (lnAll ns m ++ List.replicate k 0).length = (lnAll ns m).length + k := by rw [List.length_append, List.length_replicate]
      refine ⟨_, _, hwk, rt_co (c_lt (re_len bi.len (rp_own 4 rfl)) (re_var 1 rfl)), fun hb => ?_, fun hb => ?_⟩
      · have hb' := of_decide_eq_true hb
        rw [List.length_map, hlen] at hb'
        show WS _ _ _ [_, _, _, _, _, _, _] _
        refine ws_cons (w1_appendM (f := D.int) (xs := lnAll ns m ++ List.replicate k 0) 4 rfl (fun _ h => pe_bm PySem.F.plainAttrs_list PySem.F.slot_list_append PySem.F.type_list_append mt_append (pv 4) (pa_cons h pa_nil)) re_int (by rw [hlen, sizeLine_eq]; omega) ?_)
        show WS _ _ _ [_, _, _, _, _, _, _] _
        refine ws_nil ⟨_, .refl _, m.toNat - ((lnAll ns m).length + (k + 1)), by omega, k + 1, rfl, by omega, ?_⟩
        rw [List.replicate_succ', ← List.append_assoc]
        walk_at "wk"
      · have hb' := of_decide_eq_false hb
        rw [List.length_map, hlen] at hb'
        show WS _ _ _ [_, _, _, _, _, _, _] _
        refine ws_cons (w1_retO (re_slM (f := D.int) (xs := lnAll ns m ++ List.replicate k 0) (rp_own 4 rfl) ro_none (ro_some (re_var 1 rfl))) ?_)
        show RO.frs _ = RO.frs _
        have ek : k = m.toNat - (lnAll ns m).length := by omega
        rw [ek]; rfl
/-! ### is_name, Table, is_ball, check_ball, check_balls -/
def isNm (x : Str) : Bool := !(!(decide ((1 : Int) ≤ (x.length : Int)) && decide ((x.length : Int) ≤ 12)) || decide (x.cps.toList.headD 0 ∈ ("0123456789" : Str).cps.toList)) && (x.cps.toList.map fun n => decide (n ∈ ("abcdefghijklmnopqrstuvwxyz0123456789" : Str).cps.toList)).all id
abbrev N_is_name : List Str := ["text", "char"]
theorem sc_is_name : FnScope N_is_name ["text"] (defScope s_is_name) := ⟨rfl, rfl, rfl, by decide +kernel, rfl, by decide +kernel, by decide +kernel⟩
def S_is_name : DSp := fun ds o => ∃ x : Str, ds = [.str x] ∧ x.length ≤ 1000000 ∧ o = .val (.bl (isNm x))
theorem ok_is_name (bi : Bis mg) (g_NAME_CHARS : GV K mg "NAME_CHARS" (.str "abcdefghijklmnopqrstuvwxyz0123456789")) (g_MOST_NAME_CHARS : GV K mg "MOST_NAME_CHARS" (.int 12)) {f : Addr} {fd : FuncData} (F : Fun K "is_name" "is_name" s_is_name f fd) : FnOk P w K mg base (L2.CX P w) 1 f fd ["text"] (spD K S_is_name) := by
  refine fn_D F sc_is_name (by decide) (fun ds o h => ?_) (fun ds o h B cdv A outer s H E hr => ?_)
  · obtain ⟨x, rfl, _⟩ := h; rfl
  · obtain ⟨x, rfl, hx, rfl⟩ := h
    have hz : x.length ≤ sizeLine := by rw [sizeLine_eq]; omega
    have hc : x.cps.toList.length = x.length := by simp [Str.length]
    show WS _ _ _ [.dat (.str x), .un] _
    refine ws_cons (w1_if (k1 := !(decide ((1 : Int) ≤ (x.length : Int)) && decide ((x.length : Int) ≤ 12)) || decide (x.cps.toList.headD 0 ∈ ("0123456789" : Str).cps.toList)) (rt_w (rw_or (rt_not (rt_co3 (c3_lele re_int (re_lenS bi.len (re_var 0 rfl) hz) (re_glob g_MOST_NAME_CHARS)))) (fun hb => (rw_or1 (rt_co (c_inC rfl (re_ixS (n := x.cps.toList.headD 0) (re_var 0 rfl) re_int hz ?_) re_str)))))) (fun hb => ?_) (fun hb => ?_))
    · have q : (1 : Int) ≤ (x.length : Int) ∧ (x.length : Int) ≤ 12 := by simpa using hb
      cases e : x.cps.toList with
      | nil => rw [e] at hc; simp at hc; omega
      | cons c r => exact atI_0
    · refine ws_cons (w1_ret re_bl ?_)
      show RO.val _ = RO.val _
      unfold isNm
      rw [hb]; rfl
    · refine ws_nil ?_
      show WS _ _ _ [_, _] _
      refine ws_cons (w1_ret (re_all (bs := x.cps.toList.map fun n => decide (n ∈ ("abcdefghijklmnopqrstuvwxyz0123456789" : Str).cps.toList)) bi.all rfl (rp_is (rp_lst (re_frz (re_lc (own := [("char", 1)]) (Γw := [_, _]) x.cps.toList (fun n => .str ⟨#[n]⟩) (fun n => .bl (decide (n ∈ ("abcdefghijklmnopqrstuvwxyz0123456789" : Str).cps.toList))) rfl sc_is_name.nd (ri_str (re_var 0 rfl)) (blkOk_by (N := N_is_name) (sc := defScope s_is_name) (by decide +kernel)) (fun _ _ _ _ _ => (pg_name (i := 1) sc_is_name.nd rfl (Or.inl rfl))) (in_name (by decide)) mono_name rfl (by rw [hc]; exact hz) (fun n hn => ⟨_, fun _ => (rg_name 1), fun _ _ => (re_co (c_inC rfl (re_var 1 rfl) (re_glob g_NAME_CHARS)))⟩)))) (by rw [List.map_map]; rfl))) ?_)
      show RO.val _ = RO.val _
      unfold isNm
      rw [hb]; rfl
abbrev N_require : List Str := ["holds"]
theorem sc_require : FnScope N_require ["holds"] (defScope s_require) := ⟨rfl, rfl, rfl, by decide +kernel, rfl, by decide +kernel, by decide +kernel⟩
def S_require (CI : Addr) : DSp := fun ds o => ∃ b : Bool, ds = [.bl b] ∧ o = if b then .val .non else .exc ⟨CI, none⟩
theorem ok_require {C_InvalidTable : Addr} (X_InvalidTable : XCls K mg "InvalidTable" C_InvalidTable) {f : Addr} {fd : FuncData} (F : Fun K "require" "require" s_require f fd) : FnOk P w K mg base (L2.CX P w) 1 f fd ["holds"] (spD K (S_require C_InvalidTable)) := by
  refine fn_D F sc_require (by decide) (fun ds o h => ?_) (fun ds o h B cdv A outer s H E hr => ?_)
  · obtain ⟨b, rfl, _⟩ := h; rfl
  · obtain ⟨b, rfl, rfl⟩ := h
    show WS _ _ _ [.dat (.bl b)] _
    refine ws_cons (w1_if (rt_not (rt_val (re_var 0 rfl))) (fun hb => ?_) (fun hb => ?_))
    · obtain rfl : b = false := by simpa using hb
      exact ws_cons (w1_raise rfl X_InvalidTable rfl)
    · obtain rfl : b = true := by simpa using hb
      exact ws_nil (ws_nil rfl)
abbrev Pn := Int × Int
def ptD (p : Pn) : D := .tup [.int p.1, .int p.2]
theorem ptD_inj (p q : Pn) (h : ptD p = ptD q) : p = q := by
  obtain ⟨a, b⟩ := p
  obtain ⟨c, d⟩ := q
  unfold ptD at h
  injection h with h
  injection h with h1 h
  injection h1 with h1
  injection h with h2 h
  injection h2 with h2
  subst h1 h2; rfl
theorem ptD_sh (p : Pn) : Sh 1 (ptD p) := fun d hd => by
  rcases (show d = _ ∨ d = _ by simpa [ptD] using hd) with rfl | rfl <;> exact True.intro
theorem ptD_nb (p : Pn) : Nb 1 (ptD p) := fun d hd => by
  rcases (show d = _ ∨ d = _ by simpa [ptD] using hd) with rfl | rfl <;> exact True.intro
def tabF (w h : Int) (pk : List Pn) : List (Str × D) := [("width", .int w), ("height", .int h), ("pockets", .tup (pk.map ptD))]
def tabD (C : Addr) (w h : Int) (pk : List Pn) : D := .ins C (tabF w h pk)
structure TabC (K : PySem.W.Frag) (C : Addr) : Prop where
  cls : Cls K C
  width : NoAttr K C "width"
  height : NoAttr K C "height"
  pockets : NoAttr K C "pockets"
def onB (w h : Int) (p : Pn) : Bool := (decide (0 ≤ p.1) && decide (p.1 ≤ w)) && (decide (0 ≤ p.2) && decide (p.2 ≤ h))
abbrev N_Table_is_point : List Str := ["self", "point"]
theorem sc_Table_is_point : FnScope N_Table_is_point ["self", "point"] (defScope s_Table_is_point) := ⟨rfl, rfl, rfl, by decide +kernel, rfl, by decide +kernel, by decide +kernel⟩
def S_Table_is_point (C : Addr) : DSp := fun ds o => ∃ (w h : Int) (pd : D) (p : Pn), ds = [.ins C [("width", .int w), ("height", .int h), ("pockets", pd)], ptD p] ∧ o = .val (.bl (onB w h p))
theorem ok_Table_is_point {C_Table : Addr} (T : TabC K C_Table) {f : Addr} {fd : FuncData} (F : Fun K "is_point" "Table.is_point" s_Table_is_point f fd) : FnOk P w K mg base (L2.CX P w) 1 f fd ["self", "point"] (spD K (S_Table_is_point C_Table)) := by
  refine fn_D F sc_Table_is_point (by decide) (fun ds o h => ?_) (fun ds o h B cdv A outer s H E hr => ?_)
  · obtain ⟨_, _, _, _, rfl, _⟩ := h; rfl
  · obtain ⟨w, h, pd, p, rfl, rfl⟩ := h
    show WS _ _ _ [.dat (.ins C_Table [("width", .int w), ("height", .int h), ("pockets", pd)]), .dat (.tup [.int p.1, .int p.2])] _
    refine ws_cons (w1_ret (re_and (re_co3 (c3_lele re_int (re_ix (rp_tup (re_var 1 rfl)) re_int atI_0) (re_fld (re_var 0 rfl) T.cls T.width rfl))) (fun hb => (re_one (re_co3 (c3_lele re_int (re_ix (rp_tup (re_var 1 rfl)) re_int (atI_nat (n := 1) rfl)) (re_fld (re_var 0 rfl) T.cls T.height rfl)))))) rfl)
abbrev M30 : Int := 1000000000000000000000000000000
def szB (w h : Int) : Bool := (decide (1 ≤ w) && decide (w ≤ M30)) && (decide (1 ≤ h) && decide (h ≤ M30))
def TabOk (w h : Int) (pk : List Pn) : Prop := szB w h = true ∧ pk.length ≤ 12 ∧ (∀ p ∈ pk, onB w h p = true) ∧ pk.Nodup
def S_Table (C CI : Addr) : ISp := fun ds o => ∃ (w h : Int) (t : Bool) (pk : List Pn), ds = [.int w, .int h, sqD t (pk.map ptD)] ∧ pk.length ≤ 1000 ∧ ((TabOk w h pk ∧ o = .ok (tabF w h pk)) ∨ (¬ TabOk w h pk ∧ o = .error ⟨CI, none⟩))
abbrev N_Table___init__ : List Str := ["self", "width", "height", "pockets", "point", "number"]
theorem sc_Table___init__ : FnScope N_Table___init__ ["self", "width", "height", "pockets"] (defScope s_Table___init__) := ⟨rfl, rfl, rfl, by decide +kernel, rfl, by decide +kernel, by decide +kernel⟩
theorem ok_Table___init__ (bi : Bis mg) {C_Table C_InvalidTable : Addr} (T : TabC K C_Table) (g_MOST : GV K mg "MOST" (.int 1000000000000000000000000000000)) (g_MOST_POCKETS : GV K mg "MOST_POCKETS" (.int 12)) (G_require : Defn P w K mg base 1 "require" [] (S_require C_InvalidTable)) (G_Table_is_point : Mth P w K mg base 1 C_Table "is_point" [] (S_Table_is_point C_Table))
    {f : Addr} {fd : FuncData} (F : Fun K "__init__" "Table.__init__" s_Table___init__ f fd) : FnOk P w K mg base (L2.CX P w) 2 f fd ["self", "width", "height", "pockets"] (spI K C_Table (S_Table C_Table C_InvalidTable)) := by
  refine fn_I F sc_Table___init__ (by decide) (fun ds o h => ?_) (fun ds o h B y cdv A outer s H E hr => ?_)
  · obtain ⟨_, _, _, _, rfl, _⟩ := h; rfl
  · obtain ⟨w, h, t, pk, rfl, hlen, ho⟩ := h
    have bad : ¬ TabOk w h pk → o = .error ⟨C_InvalidTable, none⟩ := fun g => by
      rcases ho with q | q
      · exact absurd q.1 g
      · exact q.2
    show WS _ _ _ [.own (.slf y C_Table []), .dat (.int w), .dat (.int h), .dat (sqD t (pk.map ptD)), .un, .un] _
    refine ws_cons (w1_req (re_call G_require (hr.mono (by decide)) (rl_cons (re_and (re_co3 (c3_lele re_int (re_var 1 rfl) (re_glob g_MOST))) (fun hb => (re_one (re_co3 (c3_lele re_int (re_var 2 rfl) (re_glob g_MOST)))))) rl_nil) ⟨szB w h, rfl, rfl⟩) (fun hb0 => ?_) (fun hb => bad fun g => by rw [g.1] at hb; cases hb))
    show WS _ _ _ [_, _, _, _, _, _] _
    refine ws_cons (w1_fld 0 rfl (re_var 1 rfl) T.cls T.width (by simp) ?_)
    show WS _ _ _ [_, _, _, _, _, _] _
    refine ws_cons (w1_fld 0 rfl (re_var 2 rfl) T.cls T.height (by simp [putD]) ?_)
    show WS _ _ _ [.own (.slf y C_Table [("width", .int w), ("height", .int h)]), _, _, _, _, _] _
    refine ws_cons (w1_req (re_call G_require (hr.mono (by decide)) (rl_cons (re_and (re_co (c_le (re_len bi.len (rp_sq (re_var 3 rfl))) (re_glob g_MOST_POCKETS))) (fun hb => (re_one (re_all (bs := pk.map fun _ => true) bi.all rfl (rp_is (rp_lst (re_frz (re_lc (own := [("point", 4)]) (Γw := [_, _, _, _, _, _]) pk ptD (fun _ => .bl true) rfl sc_Table___init__.nd (ri_sq (re_var 3 rfl)) (blkOk_by (N := N_Table___init__) (sc := defScope s_Table___init__) (by decide +kernel)) (fun _ _ _ _ _ => (pg_name (i := 4) sc_Table___init__.nd rfl (Or.inl rfl))) (in_name (by decide)) mono_name rfl (by rw [sizeLine_eq]; omega) (fun x hx => ⟨_, fun _ => (rg_name 4), fun _ _ => (re_is (re_co (c_eqS (re_len bi.len (rp_tup (re_var 4 rfl))) re_int rfl)) rfl)⟩)))) (by rw [List.map_map]; rfl)))))) rl_nil) ⟨_, rfl, rfl⟩) (fun hb1 => ?_) (fun hb => bad fun g => ?_))
    · have hl12 : pk.length ≤ 12 := by
        have := of_decide_eq_true (Bool.and_eq_true_iff.mp hb1).1
        rw [List.length_map] at this
        omega
      show WS _ _ _ [_, _, _, _, _, _] _
      refine ws_cons (w1_fld 0 rfl (re_tupleL bi.tuple (rp_lst (re_frz (re_lc (own := [("point", 4)]) (Γw := [_, _, _, _, _, _]) pk ptD ptD rfl sc_Table___init__.nd (ri_sq (re_var 3 rfl)) (blkOk_by (N := N_Table___init__) (sc := defScope s_Table___init__) (by decide +kernel)) (fun _ _ _ _ _ => (pg_name (i := 4) sc_Table___init__.nd rfl (Or.inl rfl))) (in_name (by decide)) mono_name rfl (by rw [sizeLine_eq]; omega) (fun x hx => ⟨_, fun _ => (rg_name 4), fun _ _ => (re_tupleT bi.tuple (re_var 4 rfl))⟩))))) T.cls T.pockets (by simp [putD]) ?_)
      show WS _ _ _ [.own (.slf y C_Table (tabF w h pk)), _, _, _, _, _] _
      refine ws_cons (w1_for (passes_of rfl) rfl (ri_enumT bi.enumerate (re_fldS 0 rfl T.cls T.pockets rfl)) (pg_tup rfl (pgs_cons (pg_name (i := 5) sc_Table___init__.nd rfl (Or.inl rfl)) (pgs_cons (pg_name (i := 4) sc_Table___init__.nd rfl (Or.inl rfl)) pgs_nil)))
        (fun i Γ => (∀ (j : Nat) (p : Pn), j < i → pk[j]? = some p → onB w h p = true ∧ p ∉ pk.take j) ∧ Wk Γ [.own (.slf y C_Table (tabF w h pk)), .un, .un, .un, .un, .un]) ⟨fun j p hj => absurd hj (Nat.not_lt_zero _), by walk_at "wk"⟩ (fun i d Γi hd hI => ?_) (fun Γi hI => ?_))
      · obtain ⟨p, hp, rfl⟩ := enumDK_get hd
        obtain ⟨hI, hw⟩ := hI
        refine ⟨_, rg_wk hw (rg_tup rfl (rgs_cons (rg_name 5) (rgs_cons (rg_name 4) rgs_nil))), ?_⟩
        show WS _ _ _ [.own (.slf y C_Table (tabF w h pk)), .un, .un, .un, .dat (ptD p), .dat (.int (0 + (i : Int)))] _
        refine ws_cons (w1_req (b := onB w h p && !decide (p ∈ pk.take i)) (re_call G_require (hr.mono (by decide)) (rl_cons (re_and (re_methS 0 rfl G_Table_is_point (hr.mono (by decide)) rfl (rl_cons (re_var 4 rfl) rl_nil) ⟨w, h, _, p, rfl, rfl⟩ True.intro) (fun hb => (re_one (re_is (re_co (c_niP (n := 1) (m := 1) (t := false) (ds := (pk.take i).map ptD) (units65 hr) rfl (re_var 4 rfl) (rp_is (rp_tup (re_slT (re_fldS 0 rfl T.cls T.pockets rfl) ro_none (ro_some (re_var 5 rfl)))) (by rw [cut_map, Int.zero_add, cutL_upto])) (ptD_sh p) (fun d hd => by obtain ⟨q, _, rfl⟩ := List.mem_map.mp hd; exact ptD_sh q))) (by rw [inD_map ptD_inj ptD_sh ptD_nb]; exact congrArg (fun b => RO.val (.bl (!b))) (decide_eq_decide.mpr Iff.rfl)))))) rl_nil) ⟨_, rfl, rfl⟩) (fun hb => ?_) (fun hb => bad fun g => ?_))
        · refine ws_nil ⟨_, .refl _, fun j q hj hq => ?_, by walk_at "wk"⟩
          by_cases hji : j = i
          · subst hji
            rw [hp] at hq; cases hq
            have := Bool.and_eq_true_iff.mp hb
            exact ⟨this.1, by simpa using this.2⟩
          · exact hI j q (by omega) hq
        · have h1 := g.2.2.1 p (List.mem_of_getElem? hp)
          have h2 := take_nodup g.2.2.2 i p hp
          rw [h1, decide_eq_false h2] at hb
          cases hb
      · obtain ⟨hI, hw⟩ := hI
        rw [enumDK_len, List.length_map] at hI
        have g : TabOk w h pk := ⟨hb0, hl12, fun p hp => by
          obtain ⟨j, hj⟩ := List.mem_iff_getElem?.mp hp
          exact (hI j p (List.getElem?_eq_some_iff.mp hj).1 hj).1, nodup_take fun j p hj => (hI j p (List.getElem?_eq_some_iff.mp hj).1 hj).2⟩
        refine ws_wk hw (ws_nil ⟨_, rfl, ?_⟩)
        rcases ho with q | q
        · exact q.2
        · exact absurd g q.1
    · have e1 : (pk.map fun _ => true).all id = true := List.all_eq_true.mpr fun x hx => by obtain ⟨_, _, rfl⟩ := List.mem_map.mp hx; rfl
      rw [List.length_map, e1, decide_eq_true (by have := g.2.1; omega)] at hb
      cases hb
structure Bl where
  nm : Str
  x : Int
  y : Int
  dx : Int
  dy : Int
  m : Int
def blD (b : Bl) : D := .tup [.str b.nm, .int b.x, .int b.y, .int b.dx, .int b.dy, .int b.m]
/-- a ball, or a row of another length -/
inductive Bd where
  | six (b : Bl) | odd (ds : List D)
def Bd.d : Bd → D
  | .six b => blD b
  | .odd ds => .tup ds
def Bd.wf : Bd → Prop
  | .six b => b.nm.length ≤ 1000000
  | .odd ds => ds.length ≠ 6
def stB (i : Int) : Bool := decide (i = -1) || (decide (i = 0) || decide (i = 1))
def okBl (w h : Int) (b : Bl) : Bool := isNm b.nm && (onB w h (b.x, b.y) && (decide (0 ≤ b.m) && decide (b.m ≤ M30))) && (stB b.dx && (stB b.dy && !decide (b.dx = 0 ∧ b.dy = 0)))
def Bd.ok (w h : Int) : Bd → Bool
  | .six b => okBl w h b
  | .odd _ => false
theorem inD_st (i : Int) : inD (.int i) [.int (-1), .int 0, .int 1] = stB i := by
  unfold inD stB
  simp only [List.any_cons, List.any_nil, eqD_int, Bool.or_false]
  have e : ∀ a b : Int, decide (a = b) = decide (b = a) := fun a b => decide_eq_decide.mpr ⟨Eq.symm, Eq.symm⟩
  rw [e (-1) i, e 0 i, e 1 i]
abbrev N_is_ball : List Str := ["table", "ball", "_", "x", "y", "dx", "dy", "minute"]
theorem sc_is_ball : FnScope N_is_ball ["table", "ball"] (defScope s_is_ball) := ⟨rfl, rfl, rfl, by decide +kernel, rfl, by decide +kernel, by decide +kernel⟩
def S_is_ball (C : Addr) : DSp := fun ds o => ∃ (w h : Int) (pk : List Pn) (b : Bd), ds = [tabD C w h pk, b.d] ∧ b.wf ∧ o = .val (.bl (b.ok w h))
theorem ok_is_ball (bi : Bis mg) {C_Table : Addr} (T : TabC K C_Table) (g_MOST : GV K mg "MOST" (.int 1000000000000000000000000000000)) (G_is_name : Defn P w K mg base 1 "is_name" [] S_is_name) (G_Table_is_point : Mth P w K mg base 1 C_Table "is_point" [] (S_Table_is_point C_Table))
    {f : Addr} {fd : FuncData} (F : Fun K "is_ball" "is_ball" s_is_ball f fd) : FnOk P w K mg base (L2.CX P w) 2 f fd ["table", "ball"] (spD K (S_is_ball C_Table)) := by
  refine fn_D F sc_is_ball (by decide) (fun ds o h => ?_) (fun ds o h B cdv A outer s H E hr => ?_)
  · obtain ⟨_, _, _, _, rfl, _⟩ := h; rfl
  · obtain ⟨w, h, pk, b, rfl, hwf, rfl⟩ := h
    cases b with
    | odd ds =>
      have hne : decide ((ds.length : Int) = 6) = false := decide_eq_false fun e => hwf (by omega)
      show WS _ _ _ [.dat (tabD C_Table w h pk), .dat (.tup ds), .un, .un, .un, .un, .un, .un] _
      refine ws_cons (w1_if (k1 := true || true) (rt_w (rw_or (rt_is (rt_co (c_neS (re_len bi.len (rp_tup (re_var 1 rfl))) re_int rfl)) (by rw [hne]; rfl)) (fun hb => by cases hb))) (fun hb => ?_) (fun hb => by cases hb))
      exact ws_cons (w1_ret re_bl rfl)
    | six b =>
      show WS _ _ _ [.dat (tabD C_Table w h pk), .dat (.tup [.str b.nm, .int b.x, .int b.y, .int b.dx, .int b.dy, .int b.m]), .un, .un, .un, .un, .un, .un] _
      refine ws_cons (w1_if (k1 := false || !isNm b.nm) (rt_w (rw_or (rt_is (rt_co (c_neS (re_len bi.len (rp_tup (re_var 1 rfl))) re_int rfl)) rfl) (fun hb => (rw_or1 (rt_not (rt_val (re_call G_is_name (hr.mono (by decide)) (rl_cons (re_ix (d := .str b.nm) (rp_tup (re_var 1 rfl)) re_int atI_0) rl_nil) ⟨b.nm, rfl, hwf, rfl⟩))))))) (fun hb => ?_) (fun hb => ?_))
      · refine ws_cons (w1_ret re_bl ?_)
        show RO.val _ = RO.val _
        have : isNm b.nm = false := by simpa using hb
        show _ = RO.val (.bl (okBl w h b))
        unfold okBl
        rw [this]; rfl
      refine ws_nil ?_
      have hnm : isNm b.nm = true := by simpa using hb
      show WS _ _ _ [_, _, _, _, _, _, _, _] _
      refine ws_cons (w1_asg (pg_tup rfl (pgs_cons (pg_name (i := 2) sc_is_ball.nd rfl (Or.inl rfl)) (pgs_cons (pg_name (i := 3) sc_is_ball.nd rfl (Or.inl rfl)) (pgs_cons (pg_name (i := 4) sc_is_ball.nd rfl (Or.inl rfl)) (pgs_cons (pg_name (i := 5) sc_is_ball.nd rfl (Or.inl rfl)) (pgs_cons (pg_name (i := 6) sc_is_ball.nd rfl (Or.inl rfl)) (pgs_cons (pg_name (i := 7) sc_is_ball.nd rfl (Or.inl rfl)) pgs_nil))))))) (re_var 1 rfl) (rg_tup rfl (rgs_cons (rg_name 2) (rgs_cons (rg_name 3) (rgs_cons (rg_name 4) (rgs_cons (rg_name 5) (rgs_cons (rg_name 6) (rgs_cons (rg_name 7) rgs_nil))))))) ?_)
      show WS _ _ _ [_, _, _, _, _, _, _, _] _
      refine ws_cons (w1_if (k1 := !onB w h (b.x, b.y) || !(decide (0 ≤ b.m) && decide (b.m ≤ M30))) (rt_w (rw_or (rt_not (rt_val (re_meth G_Table_is_point (hr.mono (by decide)) (re_var 0 rfl) rfl (rl_cons (re_tup (rl_cons (re_var 3 rfl) (rl_cons (re_var 4 rfl) rl_nil))) rl_nil) ⟨w, h, _, (b.x, b.y), rfl, rfl⟩))) (fun hb => (rw_or1 (rt_not (rt_co3 (c3_lele re_int (re_var 7 rfl) (re_glob g_MOST)))))))) (fun hb => ?_) (fun hb => ?_))
      · refine ws_cons (w1_ret re_bl ?_)
        show _ = RO.val (.bl (okBl w h b))
        have : (onB w h (b.x, b.y) && (decide (0 ≤ b.m) && decide (b.m ≤ M30))) = false := (by decide : ∀ a b : Bool, (!a || !b) = true → (a && b) = false) _ _ hb
        unfold okBl
        rw [this, Bool.and_false, Bool.false_and]
      refine ws_nil ?_
      have hon : (onB w h (b.x, b.y) && (decide (0 ≤ b.m) && decide (b.m ≤ M30))) = true := (by decide : ∀ a b : Bool, (!a || !b) = false → (a && b) = true) _ _ hb
      show WS _ _ _ [_, _, _, _, _, _, _, _] _
      refine ws_cons (w1_ret (re_is (o' := .val (.bl (stB b.dx && (stB b.dy && !decide (b.dx = 0 ∧ b.dy = 0))))) (re_and (re_is (re_co (c_inP (n := 0) (m := 0) (ds := [.int (-1), .int 0, .int 1]) (units65 hr) rfl (re_var 5 rfl) (rp_tup (re_tup (rl_cons (re_neg re_int) (rl_cons re_int (rl_cons re_int rl_nil))))) True.intro (fun d hd => by rcases (show d = _ ∨ d = _ ∨ d = _ by simpa using hd) with rfl | rfl | rfl <;> exact True.intro))) (by rw [inD_st])) (fun hb => (re_and (re_is (re_co (c_inP (n := 0) (m := 0) (ds := [.int (-1), .int 0, .int 1]) (units65 hr) rfl (re_var 6 rfl) (rp_tup (re_tup (rl_cons (re_neg re_int) (rl_cons re_int (rl_cons re_int rl_nil))))) True.intro (fun d hd => by rcases (show d = _ ∨ d = _ ∨ d = _ by simpa using hd) with rfl | rfl | rfl <;> exact True.intro))) (by rw [inD_st])) (fun hb => (re_one (re_is (re_co (c_neD (n := 1) (m := 1) (d1 := ptD (b.dx, b.dy)) (d2 := ptD (0, 0)) hr.units (re_tup (rl_cons (re_var 5 rfl) (rl_cons (re_var 6 rfl) rl_nil))) (re_tup (rl_cons re_int (rl_cons re_int rl_nil))) (ptD_sh _) (ptD_sh _))) (by rw [eqD_iff ptD_inj ptD_sh ptD_nb]; exact congrArg (fun b => RO.val (.bl (!b))) (decide_eq_decide.mpr ⟨fun e => Prod.mk.inj e, fun e => Prod.ext e.1 e.2⟩)))))))) rfl) ?_)
      show _ = RO.val (.bl (okBl w h b))
      unfold okBl
      rw [hnm, hon]; rfl
abbrev N_check_ball : List Str := ["table", "ball"]
theorem sc_check_ball : FnScope N_check_ball ["table", "ball"] (defScope s_check_ball) := ⟨rfl, rfl, rfl, by decide +kernel, rfl, by decide +kernel, by decide +kernel⟩
def S_check_ball (C CB : Addr) : DSp := fun ds o => ∃ (w h : Int) (pk : List Pn) (b : Bd), ds = [tabD C w h pk, b.d] ∧ b.wf ∧ o = if b.ok w h then .val .non else .exc ⟨CB, none⟩
theorem ok_check_ball {C_Table C_InvalidBall : Addr} (X_InvalidBall : XCls K mg "InvalidBall" C_InvalidBall) (G_is_ball : Defn P w K mg base 2 "is_ball" [] (S_is_ball C_Table)) {f : Addr} {fd : FuncData} (F : Fun K "check_ball" "check_ball" s_check_ball f fd) : FnOk P w K mg base (L2.CX P w) 3 f fd ["table", "ball"] (spD K (S_check_ball C_Table C_InvalidBall)) := by
  refine fn_D F sc_check_ball (by decide) (fun ds o h => ?_) (fun ds o h B cdv A outer s H E hr => ?_)
  · obtain ⟨_, _, _, _, rfl, _⟩ := h; rfl
  · obtain ⟨w, h, pk, b, rfl, hwf, rfl⟩ := h
    show WS _ _ _ [.dat (tabD C_Table w h pk), .dat b.d] _
    refine ws_cons (w1_if (rt_not (rt_val (re_call G_is_ball (hr.mono (by decide)) (rl_cons (re_var 0 rfl) (rl_cons (re_var 1 rfl) rl_nil)) ⟨w, h, pk, b, rfl, hwf, rfl⟩))) (fun hb => ?_) (fun hb => ?_))
    · have : b.ok w h = false := by simpa using hb
      rw [this]
      exact ws_cons (w1_raise rfl X_InvalidBall rfl)
    · have : b.ok w h = true := by simpa using hb
      rw [this]
      exact ws_nil (ws_nil rfl)
/-! ### the law's table and balls: _law_table, _law_ball -/
def tabW (ns : List Int) (p : Int) : Int := 1 + nth ns p % 6
def tabH (ns : List Int) (p : Int) : Int := 1 + nth ns (p + 1) % 6
def pkAt (ns : List Int) (p : Int) (k : Nat) : Pn := (nth ns (p + 3 + (0 + (k : Int))) % (tabW ns p + 1), nth ns (p + 3 + (0 + (k : Int))) / 7 % (tabH ns p + 1))
def pkStep (ns : List Int) (p : Int) (acc : List Pn) (k : Nat) : List Pn := if pkAt ns p k ∈ acc then acc else acc ++ [pkAt ns p k]
def tabP (ns : List Int) (p : Int) : List Pn := (List.range (nth ns (p + 2) % 4).toNat).foldl (pkStep ns p) []
theorem tabW_in (ns : List Int) (p : Int) : 1 ≤ tabW ns p ∧ tabW ns p ≤ 6 := by unfold tabW; omega
theorem tabH_in (ns : List Int) (p : Int) : 1 ≤ tabH ns p ∧ tabH ns p ≤ 6 := by unfold tabH; omega
theorem pkAt_on (ns : List Int) (p : Int) (k : Nat) : onB (tabW ns p) (tabH ns p) (pkAt ns p k) = true := by
  have h1 := tabW_in ns p
  have h2 := tabH_in ns p
  unfold onB pkAt
  simp only [Bool.and_eq_true, decide_eq_true_eq]
  have a1 := Int.emod_nonneg (nth ns (p + 3 + (0 + (k : Int)))) (b := tabW ns p + 1) (by omega)
  have a2 := Int.emod_lt_of_pos (nth ns (p + 3 + (0 + (k : Int)))) (b := tabW ns p + 1) (by omega)
  have a3 := Int.emod_nonneg (nth ns (p + 3 + (0 + (k : Int))) / 7) (b := tabH ns p + 1) (by omega)
  have a4 := Int.emod_lt_of_pos (nth ns (p + 3 + (0 + (k : Int))) / 7) (b := tabH ns p + 1) (by omega)
  omega
theorem pkFold (ns : List Int) (p : Int) : ∀ (l : List Nat) (acc : List Pn), acc.Nodup → (∀ q ∈ acc, onB (tabW ns p) (tabH ns p) q = true) → (l.foldl (pkStep ns p) acc).Nodup ∧ (∀ q ∈ l.foldl (pkStep ns p) acc, onB (tabW ns p) (tabH ns p) q = true) ∧ (l.foldl (pkStep ns p) acc).length ≤ acc.length + l.length
  | [], acc, h1, h2 => ⟨h1, h2, by simp⟩
  | k :: l, acc, h1, h2 => by
    rw [List.foldl_cons]
    by_cases h : pkAt ns p k ∈ acc
    · rw [show pkStep ns p acc k = acc from if_pos h]
      obtain ⟨a, b, c⟩ := pkFold ns p l acc h1 h2
      exact ⟨a, b, by rw [List.length_cons]; omega⟩
    · rw [show pkStep ns p acc k = acc ++ [pkAt ns p k] from if_neg h]
      obtain ⟨a, b, c⟩ := pkFold ns p l (acc ++ [pkAt ns p k]) (List.nodup_append.mpr ⟨h1, by simp, fun x hx y hy e => h (by rw [List.mem_singleton] at hy; rw [← hy, ← e]; exact hx)⟩) (fun q hq => by
        rcases List.mem_append.mp hq with hq | hq
        · exact h2 q hq
        · rw [List.mem_singleton] at hq; subst hq; exact pkAt_on ns p k)
      exact ⟨a, b, by rw [List.length_append, List.length_cons, List.length_nil] at c; rw [List.length_cons]; omega⟩
theorem tabP_ok (ns : List Int) (p : Int) : (tabP ns p).Nodup ∧ (∀ q ∈ tabP ns p, onB (tabW ns p) (tabH ns p) q = true) ∧ (tabP ns p).length ≤ 3 := by
  obtain ⟨a, b, c⟩ := pkFold ns p (List.range (nth ns (p + 2) % 4).toNat) [] .nil (fun q hq => by cases hq)
  refine ⟨a, b, ?_⟩
  rw [List.length_range, List.length_nil] at c
  unfold tabP
  omega
theorem tab_ok (ns : List Int) (p : Int) : TabOk (tabW ns p) (tabH ns p) (tabP ns p) := by
  obtain ⟨a, b, c⟩ := tabP_ok ns p
  refine ⟨?_, by omega, b, a⟩
  have h1 := tabW_in ns p
  have h2 := tabH_in ns p
  unfold szB M30
  simp only [Bool.and_eq_true, decide_eq_true_eq]
  omega
abbrev N__law_table : List Str := ["_law_numbers_here", "_law_at", "_law_width", "_law_height", "_law_pockets", "_law_k", "_law_pocket"]
theorem sc__law_table : FnScope N__law_table ["_law_numbers_here", "_law_at"] (defScope s__law_table) := ⟨rfl, rfl, rfl, by decide +kernel, rfl, by decide +kernel, by decide +kernel⟩
def S__law_table : DSp := fun ds o => ∃ (ns : List Int) (p : Int), ds = [.lst (ns.map .int), .int p] ∧ 0 ≤ p ∧ p + 6 < ns.length ∧ ns.length ≤ 1000 ∧ o = .val (.tup [.int (tabW ns p), .int (tabH ns p), .tup ((tabP ns p).map ptD)])
theorem ok__law_table (bi : Bis mg) {f : Addr} {fd : FuncData} (F : Fun K "_law_table" "_law_table" s__law_table f fd) : FnOk P w K mg base (L2.CX P w) 1 f fd ["_law_numbers_here", "_law_at"] (spD K S__law_table) := by
  refine fn_D F sc__law_table (by decide) (fun ds o h => ?_) (fun ds o h B cdv A outer s H E hr => ?_)
  · obtain ⟨_, _, rfl, _⟩ := h; rfl
  · obtain ⟨ns, p, rfl, h0, h1, hlen, rfl⟩ := h
    have hW := tabW_in ns p
    have hH := tabH_in ns p
    show WS _ _ _ [.dat (.lst (ns.map .int)), .dat (.int p), .un, .un, .un, .un, .un] _
    refine ws_cons (w1_set 2 sc__law_table.nd (d := .int (tabW ns p)) (re_add re_int (re_mod (by omega) (re_intI bi.int (re_ix (rp_lst (re_var 0 rfl)) (re_var 1 rfl) (ix_ints (by omega) (by omega)))) re_int)) ?_)
    show WS _ _ _ [_, _, _, _, _, _, _] _
    refine ws_cons (w1_set 3 sc__law_table.nd (d := .int (tabH ns p)) (re_add re_int (re_mod (by omega) (re_intI bi.int (re_ix (rp_lst (re_var 0 rfl)) (re_add (re_var 1 rfl) re_int) (ix_ints (by omega) (by omega)))) re_int)) ?_)
    show WS _ _ _ [_, _, _, _, _, _, _] _
    refine ws_cons (w1_setO 4 sc__law_table.nd (re_lst rl_nil) ?_)
    show WS _ _ _ [_, _, _, _, _, _, _] _
    refine ws_cons (w1_fold (List.range (nth ns (p + 2) % 4).toNat) (fun k => D.int (0 + (k : Int))) (fun acc : List Pn => [.dat (.lst (ns.map .int)), .dat (.int p), .dat (.int (tabW ns p)), .dat (.int (tabH ns p)), .own (.lst (acc.map ptD)), .un, .un]) (pkStep ns p) []
      (passes_of rfl) rfl (ri_range1 bi.range (re_mod (by omega) (re_intI bi.int (re_ix (rp_lst (re_var 0 rfl)) (re_add (re_var 1 rfl) re_int) (ix_ints (by omega) (by omega)))) re_int) (by omega) (by omega)) (pg_name (i := 5) sc__law_table.nd rfl (Or.inl rfl)) (by walk_at "wk") (fun pre x suf hx => ⟨_, (rg_name 5), ?_⟩) (fun Γ' hw => ?_))
    · have hx4 : x < 4 ∧ pre.length < 4 := by
        have h1 := congrArg List.length hx
        rw [List.length_range, List.length_append, List.length_cons] at h1
        have h2 : x ∈ List.range (nth ns (p + 2) % 4).toNat := by rw [hx]; simp
        rw [List.mem_range] at h2
        omega
      have hacc := (pkFold ns p pre [] .nil (fun q hq => by cases hq)).2.2
      rw [List.length_nil] at hacc
      generalize pre.foldl (pkStep ns p) [] = acc at hacc ⊢
      show WS _ _ _ [_, _, _, _, _, _, _] _
      refine ws_cons (w1_set 6 sc__law_table.nd (d := ptD (pkAt ns p x)) (re_tup (rl_cons (re_mod (by omega) (re_intI bi.int (re_ix (rp_lst (re_var 0 rfl)) (re_add (re_add (re_var 1 rfl) re_int) (re_var 5 rfl)) (ix_ints (by omega) (by omega)))) (re_add (re_var 2 rfl) re_int)) (rl_cons (re_mod (by omega) (re_fdiv ⟨by omega, by omega⟩ (re_intI bi.int (re_ix (rp_lst (re_var 0 rfl)) (re_add (re_add (re_var 1 rfl) re_int) (re_var 5 rfl)) (ix_ints (by omega) (by omega)))) re_int) (re_add (re_var 3 rfl) re_int)) rl_nil))) ?_)
      show WS _ _ _ [_, _, _, _, _, _, _] _
      refine ws_cons (w1_if (k1 := !decide (pkAt ns p x ∈ acc)) (rt_is (rt_co (c_niP (n := 1) (m := 1) (units65 hr) rfl (re_var 6 rfl) (rp_own 4 rfl) (ptD_sh _) (fun d hd => by obtain ⟨q, _, rfl⟩ := List.mem_map.mp hd; exact ptD_sh q))) (by rw [inD_map ptD_inj ptD_sh ptD_nb]; exact congrArg (!·) (decide_eq_decide.mpr Iff.rfl))) (fun hb => ?_) (fun hb => ?_))
      · have hb' : pkAt ns p x ∉ acc := by simpa using hb
        refine ws_cons (w1_appendM (f := ptD) (xs := acc) (v := pkAt ns p x) 4 rfl (fun _ h => pe_bm PySem.F.plainAttrs_list PySem.F.slot_list_append PySem.F.type_list_append mt_append (pv 4) (pa_cons h pa_nil)) (re_var 6 rfl) (by rw [sizeLine_eq]; omega) ?_)
        show WS _ _ _ [_, _, _, _, _, _, _] _
        refine ws_nil (ws_nil ⟨_, .refl _, ?_⟩)
        unfold pkStep
        rw [if_neg hb']
        walk_at "wk"
      · have hb' : pkAt ns p x ∈ acc := by simpa using hb
        refine ws_nil (ws_nil ⟨_, .refl _, ?_⟩)
        unfold pkStep
        rw [if_pos hb']
        walk_at "wk"
    · refine ws_wk hw ?_
      show WS _ _ _ [_, _, _, _, _, _, _] _
      exact ws_cons (w1_ret (re_tup (rl_cons (re_var 2 rfl) (rl_cons (re_var 3 rfl) (rl_cons (re_tupleL bi.tuple (rp_own 4 rfl)) rl_nil)))) rfl)
def ways : List Pn := [(1, 1), (1, -1), (-1, 1), (-1, -1), (1, 0), (-1, 0), (0, 1), (0, -1), (1, 1), (-1, 1)]
def wayOf (i : Int) : Pn := ways.getD i.toNat (1, 1)
theorem way_at {i : Int} (h0 : 0 ≤ i) (h1 : i < 10) : atI (ways.map ptD) i = some (ptD (wayOf i)) := by
  refine ix_map h0 ?_
  unfold wayOf
  have hl : i.toNat < ways.length := by show _ < 10; omega
  rw [List.getD_eq_getElem?_getD, List.getElem?_eq_getElem hl]
  rfl
theorem way_ok : ∀ i : Int, stB (wayOf i).1 = true ∧ stB (wayOf i).2 = true ∧ ¬ ((wayOf i).1 = 0 ∧ (wayOf i).2 = 0) := by
  have h : ∀ n : Nat, stB (ways.getD n (1, 1)).1 = true ∧ stB (ways.getD n (1, 1)).2 = true ∧ ¬ ((ways.getD n (1, 1)).1 = 0 ∧ (ways.getD n (1, 1)).2 = 0) := fun n => by
    by_cases hn : n < 10
    · exact (by decide : ∀ n : Fin 10, stB (ways.getD n.1 (1, 1)).1 = true ∧ stB (ways.getD n.1 (1, 1)).2 = true ∧ ¬ ((ways.getD n.1 (1, 1)).1 = 0 ∧ (ways.getD n.1 (1, 1)).2 = 0)) ⟨n, hn⟩
    · have e : ways.getD n (1, 1) = (1, 1) := by
        rw [List.getD_eq_getElem?_getD, List.getElem?_eq_none (by show 10 ≤ n; omega)]; rfl
      rw [e]; decide
  exact fun i => h i.toNat
def ballOf (ns : List Int) (p : Int) (nm : Str) (w h : Int) : Bl := ⟨nm, nth ns (p + 1) % (w + 1), nth ns (p + 2) % (h + 1), (wayOf (nth ns p % 10)).1, (wayOf (nth ns p % 10)).2, nth ns (p + 3) % 5 * (nth ns (p + 4) % 2)⟩
theorem ball_m (ns : List Int) (p : Int) (nm : Str) (w h : Int) : 0 ≤ (ballOf ns p nm w h).m ∧ (ballOf ns p nm w h).m ≤ 4 := by
  show 0 ≤ nth ns (p + 3) % 5 * (nth ns (p + 4) % 2) ∧ nth ns (p + 3) % 5 * (nth ns (p + 4) % 2) ≤ 4
  have h2 : nth ns (p + 4) % 2 = 0 ∨ nth ns (p + 4) % 2 = 1 := by omega
  rcases h2 with e | e <;> rw [e] <;> omega
theorem ball_ok (ns : List Int) (p : Int) {nm : Str} {w h : Int} (hnm : isNm nm = true) (hw : 0 ≤ w) (hh : 0 ≤ h) : okBl w h (ballOf ns p nm w h) = true := by
  have a1 := Int.emod_nonneg (nth ns (p + 1)) (b := w + 1) (by omega)
  have a2 := Int.emod_lt_of_pos (nth ns (p + 1)) (b := w + 1) (by omega)
  have a3 := Int.emod_nonneg (nth ns (p + 2)) (b := h + 1) (by omega)
  have a4 := Int.emod_lt_of_pos (nth ns (p + 2)) (b := h + 1) (by omega)
  have hm := ball_m ns p nm w h
  obtain ⟨c1, c2, c3⟩ := way_ok (nth ns p % 10)
  unfold okBl
  rw [show (ballOf ns p nm w h).nm = nm from rfl, hnm, show (ballOf ns p nm w h).dx = (wayOf (nth ns p % 10)).1 from rfl, show (ballOf ns p nm w h).dy = (wayOf (nth ns p % 10)).2 from rfl, c1, c2, decide_eq_false c3]
  have on : onB w h ((ballOf ns p nm w h).x, (ballOf ns p nm w h).y) = true := by
    unfold onB
    simp only [Bool.and_eq_true, decide_eq_true_eq]
    show (0 ≤ nth ns (p + 1) % (w + 1) ∧ nth ns (p + 1) % (w + 1) ≤ w) ∧ 0 ≤ nth ns (p + 2) % (h + 1) ∧ nth ns (p + 2) % (h + 1) ≤ h
    omega
  rw [on, decide_eq_true hm.1, decide_eq_true (show (ballOf ns p nm w h).m ≤ M30 by unfold M30; omega)]
  rfl
abbrev N__law_ball : List Str := ["_law_numbers_here", "_law_at", "_law_name", "_law_width", "_law_height", "_law_way", "_law_x", "_law_y"]
theorem sc__law_ball : FnScope N__law_ball ["_law_numbers_here", "_law_at", "_law_name", "_law_width", "_law_height"] (defScope s__law_ball) := ⟨rfl, rfl, rfl, by decide +kernel, rfl, by decide +kernel, by decide +kernel⟩
def S__law_ball : DSp := fun ds o => ∃ (ns : List Int) (p : Int) (nm : Str) (w h : Int), ds = [.lst (ns.map .int), .int p, .str nm, .int w, .int h] ∧ 0 ≤ p ∧ p + 4 < ns.length ∧ 0 ≤ w ∧ 0 ≤ h ∧ o = .val (blD (ballOf ns p nm w h))
theorem ok__law_ball (bi : Bis mg) {f : Addr} {fd : FuncData} (F : Fun K "_law_ball" "_law_ball" s__law_ball f fd) : FnOk P w K mg base (L2.CX P w) 1 f fd ["_law_numbers_here", "_law_at", "_law_name", "_law_width", "_law_height"] (spD K S__law_ball) := by
  refine fn_D F sc__law_ball (by decide) (fun ds o h => ?_) (fun ds o h B cdv A outer s H E hr => ?_)
  · obtain ⟨_, _, _, _, _, rfl, _⟩ := h; rfl
  · obtain ⟨ns, p, nm, w, h, rfl, h0, h1, hw, hh, rfl⟩ := h
    show WS _ _ _ [.dat (.lst (ns.map .int)), .dat (.int p), .dat (.str nm), .dat (.int w), .dat (.int h), .un, .un, .un] _
    refine ws_cons (w1_set 5 sc__law_ball.nd (d := ptD (wayOf (nth ns p % 10))) (re_ix (ds := ways.map ptD) (rp_tup (re_tup (rl_cons (re_tup (rl_cons re_int (rl_cons re_int rl_nil))) (rl_cons (re_tup (rl_cons re_int (rl_cons (re_neg re_int) rl_nil))) (rl_cons (re_tup (rl_cons (re_neg re_int) (rl_cons re_int rl_nil))) (rl_cons (re_tup (rl_cons (re_neg re_int) (rl_cons (re_neg re_int) rl_nil))) (rl_cons (re_tup (rl_cons re_int (rl_cons re_int rl_nil))) (rl_cons (re_tup (rl_cons (re_neg re_int) (rl_cons re_int rl_nil))) (rl_cons (re_tup (rl_cons re_int (rl_cons re_int rl_nil))) (rl_cons (re_tup (rl_cons re_int (rl_cons (re_neg re_int) rl_nil))) (rl_cons (re_tup (rl_cons re_int (rl_cons re_int rl_nil))) (rl_cons (re_tup (rl_cons (re_neg re_int) (rl_cons re_int rl_nil))) rl_nil)))))))))) (by show 10 ≤ sizeLine; rw [sizeLine_eq]; decide))) (re_mod (by omega) (re_intI bi.int (re_ix (rp_lst (re_var 0 rfl)) (re_var 1 rfl) (ix_ints (by omega) (by omega)))) re_int) (way_at (by omega) (by omega))) ?_)
    show WS _ _ _ [_, _, _, _, _, .dat (.tup [.int (wayOf (nth ns p % 10)).1, .int (wayOf (nth ns p % 10)).2]), _, _] _
    refine ws_cons (w1_set 6 sc__law_ball.nd (re_mod (by omega) (re_intI bi.int (re_ix (rp_lst (re_var 0 rfl)) (re_add (re_var 1 rfl) re_int) (ix_ints (by omega) (by omega)))) (re_add (re_var 3 rfl) re_int)) ?_)
    show WS _ _ _ [_, _, _, _, _, _, _, _] _
    refine ws_cons (w1_set 7 sc__law_ball.nd (re_mod (by omega) (re_intI bi.int (re_ix (rp_lst (re_var 0 rfl)) (re_add (re_var 1 rfl) re_int) (ix_ints (by omega) (by omega)))) (re_add (re_var 4 rfl) re_int)) ?_)
    show WS _ _ _ [_, _, _, _, _, _, _, _] _
    exact ws_cons (w1_ret (re_tup (rl_cons (re_var 2 rfl) (rl_cons (re_var 6 rfl) (rl_cons (re_var 7 rfl) (rl_cons (re_ix (rp_tup (re_var 5 rfl)) re_int atI_0) (rl_cons (re_ix (rp_tup (re_var 5 rfl)) re_int (atI_nat (n := 1) rfl)) (rl_cons (re_mul (.inl ⟨by omega, by omega⟩) (re_mod (by omega) (re_intI bi.int (re_ix (rp_lst (re_var 0 rfl)) (re_add (re_var 1 rfl) re_int) (ix_ints (by omega) (by omega)))) re_int) (re_mod (by omega) (re_intI bi.int (re_ix (rp_lst (re_var 0 rfl)) (re_add (re_var 1 rfl) re_int) (ix_ints (by omega) (by omega)))) re_int)) rl_nil))))))) rfl)
/-! ### check_balls -/
theorem isNm_strOk {x : Str} (h : isNm x = true) : PyData.strOk x = true := by
  refine strOk_of fun c hc => ?_
  unfold isNm at h
  have h2 := (Bool.and_eq_true_iff.mp h).2
  rw [List.all_map, List.all_eq_true] at h2
  have h3 : c ∈ ("abcdefghijklmnopqrstuvwxyz0123456789" : Str).cps.toList := of_decide_eq_true (h2 c hc)
  exact (by decide +kernel : ∀ c ∈ ("abcdefghijklmnopqrstuvwxyz0123456789" : Str).cps.toList, c < 0x110000) c h3
def Bd.nm : Bd → Str
  | .six b => b.nm
  | .odd _ => ""
def BsOk (w h : Int) (bs : List Bd) : Prop := (∀ b ∈ bs, b.ok w h = true) ∧ (bs.map Bd.nm).Nodup ∧ bs.length ≤ 12
theorem Bd.six_of {w h : Int} {b : Bd} (k : b.ok w h = true) : ∃ c, b = .six c ∧ isNm c.nm = true := by
  cases b with
  | odd ds => cases k
  | six c =>
    refine ⟨c, rfl, ?_⟩
    have k' : okBl w h c = true := k
    unfold okBl at k'
    exact (Bool.and_eq_true_iff.mp (Bool.and_eq_true_iff.mp k').1).1
theorem enumD_get {α : Type} {f : α → D} {xs : List α} {i : Nat} {d : D} (h : (enumD (xs.map f))[i]? = some d) : ∃ x, xs[i]? = some x ∧ d = .tup [.int (i : Nat), f x] := by
  unfold enumD at h
  rw [List.zipIdx_map, List.map_map, List.getElem?_map, List.getElem?_zipIdx] at h
  simp only [Nat.zero_add, Option.map_map] at h
  obtain ⟨u, hu, rfl⟩ := Option.map_eq_some_iff.mp h
  exact ⟨u, hu, rfl⟩
theorem enumD_len {ds : List D} : (enumD ds).length = ds.length := by unfold enumD; rw [List.length_map, List.length_zipIdx]
theorem inD_strs {x : Str} {xs : List Str} (hx : PyData.strOk x = true) : inD (.str x) (xs.map .str) = decide (x ∈ xs) := by
  by_cases h : x ∈ xs
  · rw [decide_eq_true h]
    exact inD_true (n := 0) hx (List.mem_map_of_mem h)
  · rw [decide_eq_false h]
    refine inD_false (n := 0) (m := 0) True.intro (fun e he => by obtain ⟨_, _, rfl⟩ := List.mem_map.mp he; exact True.intro) fun hm => ?_
    obtain ⟨z, hz, e⟩ := List.mem_map.mp hm
    rw [D.str.inj e] at hz
    exact h hz
abbrev N_check_balls : List Str := ["table", "balls", "number", "ball", "other"]
theorem sc_check_balls : FnScope N_check_balls ["table", "balls"] (defScope s_check_balls) := ⟨rfl, rfl, rfl, by decide +kernel, rfl, by decide +kernel, by decide +kernel⟩
def S_check_balls (C CB : Addr) : DSp := fun ds o => ∃ (w h : Int) (pk : List Pn) (bs : List Bd), ds = [tabD C w h pk, .lst (bs.map Bd.d)] ∧ (∀ b ∈ bs, b.wf) ∧ bs.length ≤ 1000 ∧ ((BsOk w h bs ∧ o = .val .non) ∨ (¬ BsOk w h bs ∧ o = .exc ⟨CB, none⟩))
theorem ok_check_balls (bi : Bis mg) {C_Table C_InvalidBall : Addr} (X_InvalidBall : XCls K mg "InvalidBall" C_InvalidBall) (g_MOST_BALLS : GV K mg "MOST_BALLS" (.int 12)) (G_check_ball : Defn P w K mg base 3 "check_ball" [] (S_check_ball C_Table C_InvalidBall)) {f : Addr} {fd : FuncData} (F : Fun K "check_balls" "check_balls" s_check_balls f fd) : FnOk P w K mg base (L2.CX P w) 4 f fd ["table", "balls"] (spD K (S_check_balls C_Table C_InvalidBall)) := by
  refine fn_D F sc_check_balls (by decide) (fun ds o h => ?_) (fun ds o h B cdv A outer s H E hr => ?_)
  · obtain ⟨_, _, _, _, rfl, _⟩ := h; rfl
  · obtain ⟨w, h, pk, bs, rfl, hwf, hlen, ho⟩ := h
    have bad : ¬ BsOk w h bs → o = .exc ⟨C_InvalidBall, none⟩ := fun g => ho.elim (fun q => absurd q.1 g) fun q => q.2
    have good : BsOk w h bs → o = .val .non := fun g => ho.elim (fun q => q.2) fun q => absurd g q.1
    show WS _ _ _ [.dat (tabD C_Table w h pk), .dat (.lst (bs.map Bd.d)), .un, .un, .un] _
    refine ws_cons (w1_for (passes_of rfl) rfl (ri_enum bi.enumerate (rp_lst (re_var 1 rfl)) (re_var 1 rfl)) (pg_tup rfl (pgs_cons (pg_name (i := 2) sc_check_balls.nd rfl (Or.inl rfl)) (pgs_cons (pg_name (i := 3) sc_check_balls.nd rfl (Or.inl rfl)) pgs_nil)))
      (fun i Γ => (∀ (j : Nat) (b : Bd), j < i → bs[j]? = some b → b.ok w h = true ∧ b.nm ∉ (bs.map Bd.nm).take j) ∧ Wk Γ [.dat (tabD C_Table w h pk), .dat (.lst (bs.map Bd.d)), .un, .un, .un]) ⟨fun j p hj => absurd hj (Nat.not_lt_zero _), by walk_at "wk"⟩ (fun i d Γi hd hI => ?_) (fun Γi hI => ?_))
    · obtain ⟨b, hb, rfl⟩ := enumD_get hd
      obtain ⟨hI, hw⟩ := hI
      have hbm := List.mem_of_getElem? hb
      refine ⟨_, rg_wk hw (rg_tup rfl (rgs_cons (rg_name 2) (rgs_cons (rg_name 3) rgs_nil))), ?_⟩
      show WS _ _ _ [.dat (tabD C_Table w h pk), .dat (.lst (bs.map Bd.d)), .dat (.int (i : Nat)), .dat b.d, .un] _
      refine ws_cons (w1_req (b := b.ok w h) (re_call G_check_ball (hr.mono (by decide)) (rl_cons (re_var 0 rfl) (rl_cons (re_var 3 rfl) rl_nil)) ⟨w, h, pk, b, rfl, hwf b hbm, rfl⟩) (fun hbo => ?_) (fun hbo => bad fun g => by rw [g.1 b hbm] at hbo; cases hbo))
      show WS _ _ _ [_, _, _, _, _] _
      have six : ∀ c ∈ bs.take i, ∃ c', c = .six c' ∧ isNm c'.nm = true := fun c hc => by
        obtain ⟨j, hj⟩ := List.mem_iff_getElem?.mp hc
        have hji : j < i := by
          have := (List.getElem?_eq_some_iff.mp hj).1
          rw [List.length_take] at this; omega
        rw [List.getElem?_take_of_lt hji] at hj
        exact Bd.six_of (hI j c hji hj).1
      obtain ⟨b', rfl, hnm⟩ := Bd.six_of hbo
      refine ws_cons (w1_if (k1 := decide (b'.nm ∈ (bs.map Bd.nm).take i)) (rt_is (rt_co (c_inP (n := 0) (m := 0) (t := true) (d := .str b'.nm) (ds := ((bs.take i).map Bd.nm).map .str) (units65 hr) rfl (re_ix (rp_tup (re_var 3 rfl)) re_int atI_0) (rp_is (rp_lst (re_frz (re_lc (own := [("other", 4)]) (Γw := [_, _, _, _, _]) (bs.take i) Bd.d (fun c => .str c.nm) rfl sc_check_balls.nd (ri_is (ri_list (re_frz (re_slL (rp_lst (re_var 1 rfl)) ro_none (ro_some (re_var 2 rfl))))) (by rw [cut_map, cutL_upto])) (blkOk_by (N := N_check_balls) (sc := defScope s_check_balls) (by decide +kernel)) (fun _ _ _ _ _ => (pg_name (i := 4) sc_check_balls.nd rfl (Or.inl rfl))) (in_name (by decide)) mono_name rfl (by rw [List.length_take, sizeLine_eq]; omega) (fun c hc => ⟨_, fun _ => (rg_name 4), fun _ _ => by obtain ⟨c', rfl, _⟩ := six c hc; exact (re_ix (rp_tup (re_var 4 rfl)) re_int atI_0)⟩)))) (by rw [List.map_map]; rfl)) (isNm_strOk hnm) (fun d hd => by
          rw [List.map_map] at hd
          obtain ⟨c, hc, rfl⟩ := List.mem_map.mp hd
          obtain ⟨c', rfl, k⟩ := six c hc
          exact isNm_strOk k))) (by rw [inD_strs (isNm_strOk hnm), List.map_take])) (fun hb2 => ?_) (fun hb2 => ?_))
      · refine ws_cons (w1_raise rfl X_InvalidBall (bad fun g => ?_))
        exact take_nodup g.2.1 i b'.nm (by rw [List.getElem?_map, hb]; rfl) (of_decide_eq_true hb2)
      · refine ws_nil (ws_nil ⟨_, .refl _, fun j c hj hc => ?_, by walk_at "wk"⟩)
        by_cases hji : j = i
        · subst hji
          rw [hb] at hc; cases hc
          exact ⟨hbo, of_decide_eq_false hb2⟩
        · exact hI j c (by omega) hc
    · obtain ⟨hI, hw⟩ := hI
      rw [enumD_len, List.length_map] at hI
      refine ws_wk hw ?_
      show WS _ _ _ [_, _, _, _, _] _
      refine ws_cons (w1_if (rt_co (c_gt (re_len bi.len (rp_lst (re_var 1 rfl))) (re_glob g_MOST_BALLS))) (fun hb => ?_) (fun hb => ?_))
      · refine ws_cons (w1_raise rfl X_InvalidBall (bad fun g => ?_))
        have := of_decide_eq_true hb
        rw [List.length_map] at this
        have := g.2.2
        omega
      · have := of_decide_eq_false hb
        rw [List.length_map] at this
        refine ws_nil (ws_nil (good ⟨fun b hb => ?_, nodup_take fun j x hj => ?_, by omega⟩))
        · obtain ⟨j, hj⟩ := List.mem_iff_getElem?.mp hb
          exact (hI j b (List.getElem?_eq_some_iff.mp hj).1 hj).1
        · rw [List.getElem?_map] at hj
          obtain ⟨b, hb, rfl⟩ := Option.map_eq_some_iff.mp hj
          exact (hI j b (List.getElem?_eq_some_iff.mp hb).1 hb).2
/-! ### enlarged, reduced -/
theorem big_mul {i j : Int} (hi : 0 ≤ i ∧ i < 2 ^ 200) (hj : 0 ≤ j ∧ j < 2 ^ 200) : CMulW i j :=
  wide_mul (a := 200) (b := 200) (by have e : ((2 ^ 200 : Nat) : Int) = (2 : Int) ^ 200 := Int.natCast_pow 2 200; omega) (by have e : ((2 ^ 200 : Nat) : Int) = (2 : Int) ^ 200 := Int.natCast_pow 2 200; omega) (by decide) (by decide) (by decide)
theorem big_div {i j : Int} (h0 : 0 < j) (hj : j < 2 ^ 200) : CDivW i j :=
  wide_div (b := 200) h0 (by have e : ((2 ^ 200 : Nat) : Int) = (2 : Int) ^ 200 := Int.natCast_pow 2 200; omega) (by decide) (by decide)
def scP (f : Int) (p : Pn) : Pn := (p.1 * f, p.2 * f)
def dvP (c : Int) (p : Pn) : Pn := (p.1 / c, p.2 / c)
def scB (f : Int) (b : Bl) : Bl := { b with x := b.x * f, y := b.y * f, m := b.m * f }
def dvB (c : Int) (b : Bl) : Bl := { b with x := b.x / c, y := b.y / c, m := b.m / c }
/-- every figure of it is no less than 0 and below 2^200 -/
def Bg (i : Int) : Prop := 0 ≤ i ∧ i < 2 ^ 200
def TabBg (w h : Int) (pk : List Pn) : Prop := (0 < w ∧ w < 2 ^ 200) ∧ (0 < h ∧ h < 2 ^ 200) ∧ ∀ p ∈ pk, Bg p.1 ∧ Bg p.2
theorem tabBg_of {w h : Int} {pk : List Pn} (k : TabOk w h pk) : TabBg w h pk := by
  obtain ⟨h1, h2, h3, h4⟩ := k
  unfold szB at h1
  simp only [Bool.and_eq_true, decide_eq_true_eq] at h1
  have e : M30 < 2 ^ 200 := by decide +kernel
  refine ⟨by omega, by omega, fun p hp => ?_⟩
  have h5 := h3 p hp
  unfold onB at h5
  simp only [Bool.and_eq_true, decide_eq_true_eq] at h5
  unfold Bg
  omega
abbrev N_check_factor : List Str := ["factor"]
theorem sc_check_factor : FnScope N_check_factor ["factor"] (defScope s_check_factor) := ⟨rfl, rfl, rfl, by decide +kernel, rfl, by decide +kernel, by decide +kernel⟩
def S_check_factor : DSp := fun ds o => ∃ f : Int, ds = [.int f] ∧ 1 ≤ f ∧ f ≤ M30 ∧ o = .val .non
theorem ok_check_factor (g_MOST : GV K mg "MOST" (.int 1000000000000000000000000000000)) {f : Addr} {fd : FuncData} (F : Fun K "check_factor" "check_factor" s_check_factor f fd) : FnOk P w K mg base (L2.CX P w) 1 f fd ["factor"] (spD K S_check_factor) := by
  refine fn_D F sc_check_factor (by decide) (fun ds o h => ?_) (fun ds o h B cdv A outer s H E hr => ?_)
  · obtain ⟨_, rfl, _⟩ := h; rfl
  · obtain ⟨f, rfl, h1, h2, rfl⟩ := h
    show WS _ _ _ [.dat (.int f)] _
    refine ws_cons (w1_if (rt_not (rt_co3 (c3_lele re_int (re_var 0 rfl) (re_glob g_MOST)))) (fun hb => ?_) (fun hb => ws_nil (ws_nil rfl)))
    rw [decide_eq_true h1, decide_eq_true (show f ≤ 1000000000000000000000000000000 from h2)] at hb
    cases hb
abbrev N_enlarged : List Str := ["table", "factor", "pockets", "x", "y"]
theorem sc_enlarged : FnScope N_enlarged ["table", "factor"] (defScope s_enlarged) := ⟨rfl, rfl, rfl, by decide +kernel, rfl, by decide +kernel, by decide +kernel⟩
def S_enlarged (C : Addr) : DSp := fun ds o => ∃ (w h f : Int) (pk : List Pn), ds = [tabD C w h pk, .int f] ∧ 1 ≤ f ∧ f ≤ M30 ∧ TabBg w h pk ∧ pk.length ≤ 12 ∧ TabOk (w * f) (h * f) (pk.map (scP f)) ∧ o = .val (tabD C (w * f) (h * f) (pk.map (scP f)))
theorem ok_enlarged {C_Table C_InvalidTable : Addr} (T : TabC K C_Table) (G_check_factor : Defn P w K mg base 1 "check_factor" [] S_check_factor) (G_Table : Mkr P w K mg base 2 "Table" C_Table [] (S_Table C_Table C_InvalidTable)) {f : Addr} {fd : FuncData} (F : Fun K "enlarged" "enlarged" s_enlarged f fd) : FnOk P w K mg base (L2.CX P w) 4 f fd ["table", "factor"] (spD K (S_enlarged C_Table)) := by
  refine fn_D F sc_enlarged (by decide) (fun ds o h => ?_) (fun ds o h B cdv A outer s H E hr => ?_)
  · obtain ⟨_, _, _, _, rfl, _⟩ := h; rfl
  · obtain ⟨w, h, f, pk, rfl, h1, h2, hb, hl, hok, rfl⟩ := h
    have e30 : M30 < 2 ^ 200 := by decide +kernel
    have hf : 0 ≤ f ∧ f < 2 ^ 200 := by omega
    show WS _ _ _ [.dat (tabD C_Table w h pk), .dat (.int f), .un, .un, .un] _
    refine ws_cons (w1_expr (re_call G_check_factor (hr.mono (by decide)) (rl_cons (re_var 1 rfl) rl_nil) ⟨f, rfl, h1, h2, rfl⟩) ?_)
    show WS _ _ _ [_, _, _, _, _] _
    refine ws_cons (w1_lc 2 (own := [("x", 3), ("y", 4)]) (Γw := [_, _, _, _, _]) pk ptD (fun p => ptD (scP f p)) rfl sc_enlarged.nd (ri_tup (re_fld (re_var 0 rfl) T.cls T.pockets rfl)) (blkOk_by (N := N_enlarged) (sc := defScope s_enlarged) (by decide +kernel)) (fun _ _ _ _ _ => (pg_tup (n := 2) rfl (pgs_cons (pg_name (i := 3) sc_enlarged.nd rfl (Or.inl rfl)) (pgs_cons (pg_name (i := 4) sc_enlarged.nd rfl (Or.inl rfl)) pgs_nil)))) (in_tup (ins_cons mono_name (in_name (by decide)) (monos_cons mono_name monos_nil) (ins_cons mono_name (in_name (by decide)) monos_nil ins_nil))) (mono_tup (monos_cons mono_name (monos_cons mono_name monos_nil))) rfl (by rw [sizeLine_eq]; omega) (fun p hp => ⟨_, fun _ => (rg_tup rfl (rgs_cons (rg_name 3) (rgs_cons (rg_name 4) rgs_nil))), fun _ _ => (re_tup (rl_cons (re_mulW (big_mul (hb.2.2 p hp).1 hf) (re_var 3 rfl) (re_var 1 rfl)) (rl_cons (re_mulW (big_mul (hb.2.2 p hp).2 hf) (re_var 4 rfl) (re_var 1 rfl)) rl_nil)))⟩) ?_ (sw_true rfl rfl rfl (by decide +kernel)))
    show WS _ _ _ [_, _, _, _, _] _
    refine ws_frz 2 rfl ?_
    show WS _ _ _ [_, _, _, _, _] _
    refine ws_cons (w1_ret (re_mk G_Table (hr.mono (by decide)) (rl_cons (re_mulW (big_mul ⟨by have := hb.1; omega, hb.1.2⟩ hf) (re_fld (re_var 0 rfl) T.cls T.width rfl) (re_var 1 rfl)) (rl_cons (re_mulW (big_mul ⟨by have := hb.2.1; omega, hb.2.1.2⟩ hf) (re_fld (re_var 0 rfl) T.cls T.height rfl) (re_var 1 rfl)) (rl_cons (re_var 2 rfl) rl_nil))) ⟨w * f, h * f, true, pk.map (scP f), by rw [List.map_map]; rfl, by rw [List.length_map]; omega, .inl ⟨hok, rfl⟩⟩) rfl)
abbrev N_enlarged_ball : List Str := ["table", "ball", "factor", "greater", "name", "x", "y", "dx", "dy", "minute", "found"]
theorem sc_enlarged_ball : FnScope N_enlarged_ball ["table", "ball", "factor"] (defScope s_enlarged_ball) := ⟨rfl, rfl, rfl, by decide +kernel, rfl, by decide +kernel, by decide +kernel⟩
def S_enlarged_ball (C : Addr) : DSp := fun ds o => ∃ (w h f : Int) (pk : List Pn) (b : Bl), ds = [tabD C w h pk, blD b, .int f] ∧ 1 ≤ f ∧ f ≤ M30 ∧ TabBg w h pk ∧ pk.length ≤ 12 ∧ TabOk (w * f) (h * f) (pk.map (scP f)) ∧ b.nm.length ≤ 1000000 ∧ (Bg b.x ∧ Bg b.y ∧ Bg b.m) ∧ okBl w h b = true ∧ okBl (w * f) (h * f) (scB f b) = true ∧ o = .val (blD (scB f b))
theorem ok_enlarged_ball {C_Table C_InvalidBall : Addr} (G_check_ball : Defn P w K mg base 3 "check_ball" [] (S_check_ball C_Table C_InvalidBall)) (G_enlarged : Defn P w K mg base 4 "enlarged" [] (S_enlarged C_Table)) {f : Addr} {fd : FuncData} (F : Fun K "enlarged_ball" "enlarged_ball" s_enlarged_ball f fd) : FnOk P w K mg base (L2.CX P w) 5 f fd ["table", "ball", "factor"] (spD K (S_enlarged_ball C_Table)) := by
  refine fn_D F sc_enlarged_ball (by decide) (fun ds o h => ?_) (fun ds o h B cdv A outer s H E hr => ?_)
  · obtain ⟨_, _, _, _, _, rfl, _⟩ := h; rfl
  · obtain ⟨w, h, f, pk, b, rfl, h1, h2, hb, hl, hok, hnm, ⟨b1, b2, b3⟩, k1, k2, rfl⟩ := h
    have e30 : M30 < 2 ^ 200 := by decide +kernel
    have hf : 0 ≤ f ∧ f < 2 ^ 200 := by omega
    show WS _ _ _ [.dat (tabD C_Table w h pk), .dat (.tup [.str b.nm, .int b.x, .int b.y, .int b.dx, .int b.dy, .int b.m]), .dat (.int f), .un, .un, .un, .un, .un, .un, .un, .un] _
    refine ws_cons (w1_expr (re_call G_check_ball (hr.mono (by decide)) (rl_cons (re_var 0 rfl) (rl_cons (re_var 1 rfl) rl_nil)) ⟨w, h, pk, .six b, rfl, hnm, by show _ = if okBl w h b then _ else _; rw [k1]; rfl⟩) ?_)
    show WS _ _ _ [_, _, _, _, _, _, _, _, _, _, _] _
    refine ws_cons (w1_set 3 sc_enlarged_ball.nd (re_call G_enlarged (hr.mono (by decide)) (rl_cons (re_var 0 rfl) (rl_cons (re_var 2 rfl) rl_nil)) ⟨w, h, f, pk, rfl, h1, h2, hb, hl, hok, rfl⟩) ?_)
    show WS _ _ _ [_, _, _, _, _, _, _, _, _, _, _] _
    refine ws_cons (w1_asg (pg_tup rfl (pgs_cons (pg_name (i := 4) sc_enlarged_ball.nd rfl (Or.inl rfl)) (pgs_cons (pg_name (i := 5) sc_enlarged_ball.nd rfl (Or.inl rfl)) (pgs_cons (pg_name (i := 6) sc_enlarged_ball.nd rfl (Or.inl rfl)) (pgs_cons (pg_name (i := 7) sc_enlarged_ball.nd rfl (Or.inl rfl)) (pgs_cons (pg_name (i := 8) sc_enlarged_ball.nd rfl (Or.inl rfl)) (pgs_cons (pg_name (i := 9) sc_enlarged_ball.nd rfl (Or.inl rfl)) pgs_nil))))))) (re_var 1 rfl) (rg_tup rfl (rgs_cons (rg_name 4) (rgs_cons (rg_name 5) (rgs_cons (rg_name 6) (rgs_cons (rg_name 7) (rgs_cons (rg_name 8) (rgs_cons (rg_name 9) rgs_nil))))))) ?_)
    show WS _ _ _ [_, _, _, _, _, _, _, _, _, _, _] _
    refine ws_cons (w1_set 10 sc_enlarged_ball.nd (d := blD (scB f b)) (re_tup (rl_cons (re_var 4 rfl) (rl_cons (re_mulW (big_mul b1 hf) (re_var 5 rfl) (re_var 2 rfl)) (rl_cons (re_mulW (big_mul b2 hf) (re_var 6 rfl) (re_var 2 rfl)) (rl_cons (re_var 7 rfl) (rl_cons (re_var 8 rfl) (rl_cons (re_mulW (big_mul b3 hf) (re_var 9 rfl) (re_var 2 rfl)) rl_nil))))))) ?_)
    show WS _ _ _ [_, _, _, _, _, _, _, _, _, _, _] _
    refine ws_cons (w1_expr (re_call G_check_ball (hr.mono (by decide)) (rl_cons (re_var 3 rfl) (rl_cons (re_var 10 rfl) rl_nil)) ⟨w * f, h * f, pk.map (scP f), .six (scB f b), rfl, hnm, by show _ = if okBl (w * f) (h * f) (scB f b) then _ else _; rw [k2]; rfl⟩) ?_)
    show WS _ _ _ [_, _, _, _, _, _, _, _, _, _, _] _
    exact ws_cons (w1_ret (re_var 10 rfl) rfl)
def factorOf (w h : Int) (pk : List Pn) (w2 h2 : Int) (pk2 : List Pn) : D := if w2 ≠ w * (w2 / w) ∨ h2 ≠ h * (w2 / w) then .non else if sortP pk2 ≠ sortP (pk.map (scP (w2 / w))) then .non else .int (w2 / w)
abbrev N_factor_of : List Str := ["table", "other", "factor", "x", "y"]
theorem sc_factor_of : FnScope N_factor_of ["table", "other"] (defScope s_factor_of) := ⟨rfl, rfl, rfl, by decide +kernel, rfl, by decide +kernel, by decide +kernel⟩
def S_factor_of (C : Addr) : DSp := fun ds o => ∃ (w h : Int) (pk : List Pn) (w2 h2 : Int) (pk2 : List Pn), ds = [tabD C w h pk, tabD C w2 h2 pk2] ∧ TabBg w h pk ∧ TabBg w2 h2 pk2 ∧ pk.length ≤ 12 ∧ pk2.length ≤ 12 ∧ o = .val (factorOf w h pk w2 h2 pk2)
theorem pts_sh (l : List Pn) : Sh 2 (.lst (l.map ptD)) := fun d hd => by obtain ⟨p, _, rfl⟩ := List.mem_map.mp hd; exact ptD_sh p
theorem pts_nb (l : List Pn) : Nb 2 (.lst (l.map ptD)) := fun d hd => by obtain ⟨p, _, rfl⟩ := List.mem_map.mp hd; exact ptD_nb p
theorem pts_inj (l m : List Pn) (h : D.lst (l.map ptD) = .lst (m.map ptD)) : l = m := (List.map_inj_right fun x y => ptD_inj x y).mp (D.lst.inj h)
theorem pts_eq (l m : List Pn) : eqD (.lst (l.map ptD)) (.lst (m.map ptD)) = decide (l = m) := eqD_iff (f := fun l : List Pn => D.lst (l.map ptD)) pts_inj pts_sh pts_nb l m
theorem ok_factor_of (bi : Bis mg) {C_Table : Addr} (T : TabC K C_Table) {f : Addr} {fd : FuncData} (F : Fun K "factor_of" "factor_of" s_factor_of f fd) : FnOk P w K mg base (L2.CX P w) 1 f fd ["table", "other"] (spD K (S_factor_of C_Table)) := by
  refine fn_D F sc_factor_of (by decide) (fun ds o h => ?_) (fun ds o h B cdv A outer s H E hr => ?_)
  · obtain ⟨_, _, _, _, _, _, rfl, _⟩ := h; rfl
  · obtain ⟨w, h, pk, w2, h2, pk2, rfl, ⟨t1, t2, t3⟩, ⟨u1, u2, u3⟩, hl, hl2, rfl⟩ := h
    have hf : 0 ≤ w2 / w ∧ w2 / w < 2 ^ 200 := ⟨Int.ediv_nonneg (by omega) (by omega), Int.lt_of_le_of_lt (Int.ediv_le_self w (by omega)) u1.2⟩
    generalize hfe : w2 / w = f at hf
    show WS _ _ _ [.dat (tabD C_Table w h pk), .dat (tabD C_Table w2 h2 pk2), .un, .un, .un] _
    refine ws_cons (w1_set 2 sc_factor_of.nd (d := .int f) (re_is (re_fdivW (big_div t1.1 t1.2) (re_fld (re_var 1 rfl) T.cls T.width rfl) (re_fld (re_var 0 rfl) T.cls T.width rfl)) (by rw [hfe])) ?_)
    show WS _ _ _ [_, _, _, _, _] _
    refine ws_cons (w1_if (rt_w (rw_or (rt_co (c_neS (re_fld (re_var 1 rfl) T.cls T.width rfl) (re_mulW (big_mul ⟨by omega, t1.2⟩ hf) (re_fld (re_var 0 rfl) T.cls T.width rfl) (re_var 2 rfl)) rfl)) (fun hb => (rw_or1 (rt_co (c_neS (re_fld (re_var 1 rfl) T.cls T.height rfl) (re_mulW (big_mul ⟨by omega, t2.2⟩ hf) (re_fld (re_var 0 rfl) T.cls T.height rfl) (re_var 2 rfl)) rfl)))))) (fun hb => ?_) (fun hb => ?_))
    · refine ws_cons (w1_ret re_non ?_)
      show RO.val _ = RO.val _
      unfold factorOf
      rw [hfe, if_pos (by simpa [Bool.or_eq_true] using hb)]
    refine ws_nil ?_
    have hb0 : ¬ (w2 ≠ w * f ∨ h2 ≠ h * f) := by
      have := Bool.or_eq_false_iff.mp hb
      simpa using this
    show WS _ _ _ [_, _, _, _, _] _
    refine ws_cons (w1_if (k1 := !decide (sortP pk2 = sortP (pk.map (scP f)))) (rt_is (rt_co (c_neD (n := 2) (m := 2) (d1 := .lst ((sortP pk2).map ptD)) (d2 := .lst ((sortP (pk.map (scP f))).map ptD)) hr.units (re_frz (re_sortedT bi.sorted (rp_tup (re_fld (re_var 1 rfl) T.cls T.pockets rfl)) (by omega) (fun q hq => ⟨(u3 q hq).1.1, (u3 q hq).2.1⟩))) (re_frz (re_sortedP bi.sorted (ps := pk.map (scP f)) (rp_is (rp_lst (re_frz (re_lc (own := [("x", 3), ("y", 4)]) (Γw := [_, _, _, _, _]) pk ptD (fun p => ptD (scP f p)) rfl sc_factor_of.nd (ri_tup (re_fld (re_var 0 rfl) T.cls T.pockets rfl)) (blkOk_by (N := N_factor_of) (sc := defScope s_factor_of) (by decide +kernel)) (fun _ _ _ _ _ => (pg_tup (n := 2) rfl (pgs_cons (pg_name (i := 3) sc_factor_of.nd rfl (Or.inl rfl)) (pgs_cons (pg_name (i := 4) sc_factor_of.nd rfl (Or.inl rfl)) pgs_nil)))) (in_tup (ins_cons mono_name (in_name (by decide)) (monos_cons mono_name monos_nil) (ins_cons mono_name (in_name (by decide)) monos_nil ins_nil))) (mono_tup (monos_cons mono_name (monos_cons mono_name monos_nil))) rfl (by rw [sizeLine_eq]; omega) (fun p hp => ⟨_, fun _ => (rg_tup rfl (rgs_cons (rg_name 3) (rgs_cons (rg_name 4) rgs_nil))), fun _ _ => (re_tup (rl_cons (re_mulW (big_mul (t3 p hp).1 hf) (re_var 3 rfl) (re_var 2 rfl)) (rl_cons (re_mulW (big_mul (t3 p hp).2 hf) (re_var 4 rfl) (re_var 2 rfl)) rl_nil)))⟩)))) (by rw [List.map_map]; rfl)) (by rw [List.length_map]; omega) (fun q hq => by
        obtain ⟨p, hp, rfl⟩ := List.mem_map.mp hq
        exact ⟨Int.mul_nonneg (t3 p hp).1.1 hf.1, Int.mul_nonneg (t3 p hp).2.1 hf.1⟩))) (pts_sh _) (pts_sh _))) (by rw [pts_eq])) (fun hb => ?_) (fun hb => ?_))
    · refine ws_cons (w1_ret re_non ?_)
      show RO.val _ = RO.val _
      unfold factorOf
      rw [hfe, if_neg hb0, if_pos (by simpa using hb)]
    · refine ws_nil ?_
      show WS _ _ _ [_, _, _, _, _] _
      refine ws_cons (w1_ret (re_var 2 rfl) ?_)
      show RO.val _ = RO.val _
      unfold factorOf
      rw [hfe, if_neg hb0, if_neg (by simpa using hb)]
def gI (a b : Int) : Int := ((Nat.gcd a.natAbs b.natAbs : Nat) : Int)
def gPk (g : Int) (p : Pn) : Int := gI g (gI p.1 p.2)
def gBl (g : Int) (b : Bl) : Int := gI g (gI (gI b.x b.y) b.m)
def gfac (w h : Int) (pk : List Pn) (bs : List Bl) : Int := bs.foldl gBl (pk.foldl gPk (gI w h))
abbrev N_greatest_factor : List Str := ["table", "balls", "factor", "x", "y", "_", "minute"]
theorem sc_greatest_factor : FnScope N_greatest_factor ["table", "balls"] (defScope s_greatest_factor) := ⟨rfl, rfl, rfl, by decide +kernel, rfl, by decide +kernel, by decide +kernel⟩
def S_greatest_factor (C CB : Addr) : DSp := fun ds o => ∃ (w h : Int) (pk : List Pn) (bs : List Bl), ds = [tabD C w h pk, .lst (bs.map blD)] ∧ (∀ b ∈ bs, b.nm.length ≤ 1000000) ∧ bs.length ≤ 1000 ∧ ((BsOk w h (bs.map .six) ∧ o = .val (.int (gfac w h pk bs))) ∨ (¬ BsOk w h (bs.map .six) ∧ o = .exc ⟨CB, none⟩))
theorem blD_six (bs : List Bl) : bs.map blD = (bs.map Bd.six).map Bd.d := by rw [List.map_map]; rfl
theorem wf_six {bs : List Bl} (h : ∀ b ∈ bs, b.nm.length ≤ 1000000) : ∀ b ∈ bs.map Bd.six, b.wf := fun b hb => by
  obtain ⟨c, hc, rfl⟩ := List.mem_map.mp hb
  exact h c hc
theorem ok_greatest_factor {C_Table C_InvalidBall : Addr} (T : TabC K C_Table) (hmgcd : mg "gcd" = some (.builtin "math.gcd")) (G_check_balls : Defn P w K mg base 4 "check_balls" [] (S_check_balls C_Table C_InvalidBall)) {f : Addr} {fd : FuncData} (F : Fun K "greatest_factor" "greatest_factor" s_greatest_factor f fd) : FnOk P w K mg base (L2.CX P w) 5 f fd ["table", "balls"] (spD K (S_greatest_factor C_Table C_InvalidBall)) := by
  refine fn_D F sc_greatest_factor (by decide) (fun ds o h => ?_) (fun ds o h B cdv A outer s H E hr => ?_)
  · obtain ⟨_, _, _, _, rfl, _⟩ := h; rfl
  · obtain ⟨w, h, pk, bs, rfl, hnm, hlen, ho⟩ := h
    show WS _ _ _ [.dat (tabD C_Table w h pk), .dat (.lst (bs.map blD)), .un, .un, .un, .un, .un] _
    rcases ho with ⟨hk, rfl⟩ | ⟨hk, rfl⟩
    · refine ws_cons (w1_expr (re_call G_check_balls (hr.mono (by decide)) (rl_cons (re_var 0 rfl) (rl_cons (re_var 1 rfl) rl_nil)) ⟨w, h, pk, bs.map .six, by rw [blD_six]; rfl, wf_six hnm, by rw [List.length_map]; exact hlen, .inl ⟨hk, rfl⟩⟩) ?_)
      show WS _ _ _ [_, _, _, _, _, _, _] _
      refine ws_cons (w1_set 2 sc_greatest_factor.nd (d := .int (gI w h)) (re_gcd hmgcd (re_fld (re_var 0 rfl) T.cls T.width rfl) (re_fld (re_var 0 rfl) T.cls T.height rfl)) ?_)
      show WS _ _ _ [_, _, _, _, _, _, _] _
      refine ws_cons (w1_fold pk ptD (fun g : Int => [.dat (tabD C_Table w h pk), .dat (.lst (bs.map blD)), .dat (.int g), .un, .un, .un, .un]) gPk (gI w h) (passes_of rfl) rfl (ri_tup (re_fld (re_var 0 rfl) T.cls T.pockets rfl)) (pg_tup rfl (pgs_cons (pg_name (i := 3) sc_greatest_factor.nd rfl (Or.inl rfl)) (pgs_cons (pg_name (i := 4) sc_greatest_factor.nd rfl (Or.inl rfl)) pgs_nil))) (by walk_at "wk") (fun pre x suf hx => ⟨_, (rg_tup rfl (rgs_cons (rg_name 3) (rgs_cons (rg_name 4) rgs_nil))), ?_⟩) (fun Γ' hw => ?_))
      · show WS _ _ _ [_, _, _, _, _, _, _] _
        refine ws_cons (w1_set 2 sc_greatest_factor.nd (d := .int (gPk (pre.foldl gPk (gI w h)) x)) (re_gcd hmgcd (re_var 2 rfl) (re_gcd hmgcd (re_var 3 rfl) (re_var 4 rfl))) ?_)
        show WS _ _ _ [_, _, _, _, _, _, _] _
        exact ws_nil ⟨_, .refl _, by walk_at "wk"⟩
      refine ws_wk hw ?_
      generalize hg0 : pk.foldl gPk (gI w h) = g0
      show WS _ _ _ [_, _, _, _, _, _, _] _
      refine ws_cons (w1_fold bs blD (fun g : Int => [.dat (tabD C_Table w h pk), .dat (.lst (bs.map blD)), .dat (.int g), .un, .un, .un, .un]) gBl g0 (passes_of rfl) rfl (ri_list (re_var 1 rfl)) (pg_tup rfl (pgs_cons (pg_name (i := 5) sc_greatest_factor.nd rfl (Or.inl rfl)) (pgs_cons (pg_name (i := 3) sc_greatest_factor.nd rfl (Or.inl rfl)) (pgs_cons (pg_name (i := 4) sc_greatest_factor.nd rfl (Or.inl rfl)) (pgs_cons (pg_name (i := 5) sc_greatest_factor.nd rfl (Or.inl rfl)) (pgs_cons (pg_name (i := 5) sc_greatest_factor.nd rfl (Or.inl rfl)) (pgs_cons (pg_name (i := 6) sc_greatest_factor.nd rfl (Or.inl rfl)) pgs_nil))))))) (by walk_at "wk") (fun pre x suf hx => ⟨_, (rg_tup rfl (rgs_cons (rg_name 5) (rgs_cons (rg_name 3) (rgs_cons (rg_name 4) (rgs_cons (rg_name 5) (rgs_cons (rg_name 5) (rgs_cons (rg_name 6) rgs_nil))))))), ?_⟩) (fun Γ' hw => ?_))
      · show WS _ _ _ [_, _, _, _, _, _, _] _
        refine ws_cons (w1_set 2 sc_greatest_factor.nd (d := .int (gBl (pre.foldl gBl g0) x)) (re_gcd hmgcd (re_var 2 rfl) (re_gcd hmgcd (re_gcd hmgcd (re_var 3 rfl) (re_var 4 rfl)) (re_var 6 rfl))) ?_)
        show WS _ _ _ [_, _, _, _, _, _, _] _
        exact ws_nil ⟨_, .refl _, by walk_at "wk"⟩
      refine ws_wk hw ?_
      show WS _ _ _ [_, _, _, _, _, _, _] _
      refine ws_cons (w1_ret (re_var 2 rfl) ?_)
      show RO.val (.int (bs.foldl gBl g0)) = RO.val (.int (bs.foldl gBl (pk.foldl gPk (gI w h))))
      rw [hg0]
    · exact ws_cons (w1_exprX (re_call G_check_balls (hr.mono (by decide)) (rl_cons (re_var 0 rfl) (rl_cons (re_var 1 rfl) rl_nil)) ⟨w, h, pk, bs.map .six, by rw [blD_six]; rfl, wf_six hnm, by rw [List.length_map]; exact hlen, .inr ⟨hk, rfl⟩⟩) rfl)
abbrev N_reduced : List Str := ["table", "balls", "factor", "pockets", "x", "y", "smaller", "rows", "name", "dx", "dy", "minute"]
theorem sc_reduced : FnScope N_reduced ["table", "balls"] (defScope s_reduced) := ⟨rfl, rfl, rfl, by decide +kernel, rfl, by decide +kernel, by decide +kernel⟩
def S_reduced (C CB : Addr) : DSp := fun ds o => ∃ (w h : Int) (pk : List Pn) (bs : List Bl), ds = [tabD C w h pk, .lst (bs.map blD)] ∧ (∀ b ∈ bs, b.nm.length ≤ 1000000) ∧ bs.length ≤ 1000 ∧ pk.length ≤ 12 ∧
  ((BsOk w h (bs.map .six) ∧ ∃ c, c = gfac w h pk bs ∧ (0 < c ∧ c < 2 ^ 200) ∧ TabOk (w / c) (h / c) (pk.map (dvP c)) ∧ o = .val (.tup [tabD C (w / c) (h / c) (pk.map (dvP c)), .lst ((bs.map (dvB c)).map blD)])) ∨ (¬ BsOk w h (bs.map .six) ∧ o = .exc ⟨CB, none⟩))
theorem ok_reduced {C_Table C_InvalidBall C_InvalidTable : Addr} (T : TabC K C_Table) (G_Table : Mkr P w K mg base 2 "Table" C_Table [] (S_Table C_Table C_InvalidTable)) (G_greatest_factor : Defn P w K mg base 5 "greatest_factor" [] (S_greatest_factor C_Table C_InvalidBall)) {f : Addr} {fd : FuncData} (F : Fun K "reduced" "reduced" s_reduced f fd) : FnOk P w K mg base (L2.CX P w) 6 f fd ["table", "balls"] (spD K (S_reduced C_Table C_InvalidBall)) := by
  refine fn_D F sc_reduced (by decide) (fun ds o h => ?_) (fun ds o h B cdv A outer s H E hr => ?_)
  · obtain ⟨_, _, _, _, rfl, _⟩ := h; rfl
  · obtain ⟨w, h, pk, bs, rfl, hnm, hlen, hpl, ho⟩ := h
    show WS _ _ _ [.dat (tabD C_Table w h pk), .dat (.lst (bs.map blD)), .un, .un, .un, .un, .un, .un, .un, .un, .un, .un] _
    rcases ho with ⟨hk, c, hc, ⟨c0, c1⟩, hok, rfl⟩ | ⟨hk, rfl⟩
    · refine ws_cons (w1_set 2 sc_reduced.nd (d := .int c) (re_is (re_call G_greatest_factor (hr.mono (by decide)) (rl_cons (re_var 0 rfl) (rl_cons (re_var 1 rfl) rl_nil)) ⟨w, h, pk, bs, rfl, hnm, hlen, .inl ⟨hk, rfl⟩⟩) (by rw [hc])) ?_)
      show WS _ _ _ [_, _, _, _, _, _, _, _, _, _, _, _] _
      refine ws_cons (w1_lc 3 (own := [("x", 4), ("y", 5)]) (Γw := [_, _, _, _, _, _, _, _, _, _, _, _]) pk ptD (fun p => ptD (dvP c p)) rfl sc_reduced.nd (ri_tup (re_fld (re_var 0 rfl) T.cls T.pockets rfl)) (blkOk_by (N := N_reduced) (sc := defScope s_reduced) (by decide +kernel)) (fun _ _ _ _ _ => (pg_tup (n := 2) rfl (pgs_cons (pg_name (i := 4) sc_reduced.nd rfl (Or.inl rfl)) (pgs_cons (pg_name (i := 5) sc_reduced.nd rfl (Or.inl rfl)) pgs_nil)))) (in_tup (ins_cons mono_name (in_name (by decide)) (monos_cons mono_name monos_nil) (ins_cons mono_name (in_name (by decide)) monos_nil ins_nil))) (mono_tup (monos_cons mono_name (monos_cons mono_name monos_nil))) rfl (by rw [sizeLine_eq]; omega) (fun p hp => ⟨_, fun _ => (rg_tup rfl (rgs_cons (rg_name 4) (rgs_cons (rg_name 5) rgs_nil))), fun _ _ => (re_tup (rl_cons (re_fdivW (big_div c0 c1) (re_var 4 rfl) (re_var 2 rfl)) (rl_cons (re_fdivW (big_div c0 c1) (re_var 5 rfl) (re_var 2 rfl)) rl_nil)))⟩) ?_ (sw_true rfl rfl rfl (by decide +kernel)))
      show WS _ _ _ [_, _, _, _, _, _, _, _, _, _, _, _] _
      refine ws_frz 3 rfl ?_
      show WS _ _ _ [_, _, _, _, _, _, _, _, _, _, _, _] _
      refine ws_cons (w1_set 6 sc_reduced.nd (re_mk G_Table (hr.mono (by decide)) (rl_cons (re_fdivW (big_div c0 c1) (re_fld (re_var 0 rfl) T.cls T.width rfl) (re_var 2 rfl)) (rl_cons (re_fdivW (big_div c0 c1) (re_fld (re_var 0 rfl) T.cls T.height rfl) (re_var 2 rfl)) (rl_cons (re_var 3 rfl) rl_nil))) ⟨w / c, h / c, true, pk.map (dvP c), by rw [List.map_map]; rfl, by rw [List.length_map]; omega, .inl ⟨hok, rfl⟩⟩) ?_)
      show WS _ _ _ [_, _, _, _, _, _, _, _, _, _, _, _] _
      refine ws_cons (w1_lc 7 (own := [("name", 8), ("x", 4), ("y", 5), ("dx", 9), ("dy", 10), ("minute", 11)]) (Γw := [_, _, _, _, _, _, _, _, _, _, _, _]) bs blD (fun b => blD (dvB c b)) rfl sc_reduced.nd (ri_list (re_var 1 rfl)) (blkOk_by (N := N_reduced) (sc := defScope s_reduced) (by decide +kernel)) (fun _ _ _ _ _ => (pg_tup (n := 6) rfl (pgs_cons (pg_name (i := 8) sc_reduced.nd rfl (Or.inl rfl)) (pgs_cons (pg_name (i := 4) sc_reduced.nd rfl (Or.inl rfl)) (pgs_cons (pg_name (i := 5) sc_reduced.nd rfl (Or.inl rfl)) (pgs_cons (pg_name (i := 9) sc_reduced.nd rfl (Or.inl rfl)) (pgs_cons (pg_name (i := 10) sc_reduced.nd rfl (Or.inl rfl)) (pgs_cons (pg_name (i := 11) sc_reduced.nd rfl (Or.inl rfl)) pgs_nil)))))))) (in_tup (ins_cons mono_name (in_name (by decide)) (monos_cons mono_name (monos_cons mono_name (monos_cons mono_name (monos_cons mono_name (monos_cons mono_name monos_nil))))) (ins_cons mono_name (in_name (by decide)) (monos_cons mono_name (monos_cons mono_name (monos_cons mono_name (monos_cons mono_name monos_nil)))) (ins_cons mono_name (in_name (by decide)) (monos_cons mono_name (monos_cons mono_name (monos_cons mono_name monos_nil))) (ins_cons mono_name (in_name (by decide)) (monos_cons mono_name (monos_cons mono_name monos_nil)) (ins_cons mono_name (in_name (by decide)) (monos_cons mono_name monos_nil) (ins_cons mono_name (in_name (by decide)) monos_nil ins_nil))))))) (mono_tup (monos_cons mono_name (monos_cons mono_name (monos_cons mono_name (monos_cons mono_name (monos_cons mono_name (monos_cons mono_name monos_nil))))))) rfl (by rw [sizeLine_eq]; omega) (fun b hb => ⟨_, fun _ => (rg_tup rfl (rgs_cons (rg_name 8) (rgs_cons (rg_name 4) (rgs_cons (rg_name 5) (rgs_cons (rg_name 9) (rgs_cons (rg_name 10) (rgs_cons (rg_name 11) rgs_nil))))))), fun _ _ => (re_tup (rl_cons (re_var 8 rfl) (rl_cons (re_fdivW (big_div c0 c1) (re_var 4 rfl) (re_var 2 rfl)) (rl_cons (re_fdivW (big_div c0 c1) (re_var 5 rfl) (re_var 2 rfl)) (rl_cons (re_var 9 rfl) (rl_cons (re_var 10 rfl) (rl_cons (re_fdivW (big_div c0 c1) (re_var 11 rfl) (re_var 2 rfl)) rl_nil)))))))⟩) ?_ (sw_true rfl rfl rfl (by decide +kernel)))
      show WS _ _ _ [_, _, _, _, _, _, _, _, _, _, _, _] _
      refine ws_frz 7 rfl ?_
      show WS _ _ _ [_, _, _, _, _, _, _, _, _, _, _, _] _
      refine ws_cons (w1_ret (re_tup (rl_cons (re_var 6 rfl) (rl_cons (re_var 7 rfl) rl_nil))) ?_)
      show RO.val _ = RO.val _
      rw [List.map_map]; rfl
    · exact ws_cons (w1_setX (i := 2) sc_reduced.nd (re_call G_greatest_factor (hr.mono (by decide)) (rl_cons (re_var 0 rfl) (rl_cons (re_var 1 rfl) rl_nil)) ⟨w, h, pk, bs, rfl, hnm, hlen, .inr ⟨hk, rfl⟩⟩) rfl rfl)
/-! ### _law_factor, _law_common -/
def facN (ns : List Int) : Int := 7 * (if decide (nth ns 41 % 3 = 1) = true then 1 else 0)
def facOf (ns : List Int) : Int := (List.range (facN ns).toNat).foldl (fun v (k : Nat) => v * 1009 + nth ns (42 + (0 + (k : Int)))) (1 + nth ns 40 % 6)
theorem facN_in (ns : List Int) : 0 ≤ facN ns ∧ facN ns ≤ 7 := by unfold facN; split <;> omega
theorem fac_fold {ns : List Int} (h : ∀ x ∈ ns, 0 ≤ x ∧ x < 1009) : ∀ (l : List Nat) (v m : Int), 1 ≤ v → v < m → 1 ≤ l.foldl (fun v (k : Nat) => v * 1009 + nth ns (42 + (0 + (k : Int)))) v ∧ l.foldl (fun v (k : Nat) => v * 1009 + nth ns (42 + (0 + (k : Int)))) v < m * 1009 ^ l.length
  | [], v, m, h0, h1 => ⟨h0, by simpa using h1⟩
  | k :: l, v, m, h0, h1 => by
    have hn := nth_in h (42 + (0 + (k : Int)))
    have := fac_fold h l (v * 1009 + nth ns (42 + (0 + (k : Int)))) (m * 1009) (by omega) (by omega)
    rw [List.foldl_cons, List.length_cons, Int.pow_succ', ← Int.mul_assoc]
    exact this
theorem facOf_in {ns : List Int} (h : ∀ x ∈ ns, 0 ≤ x ∧ x < 1009) : 1 ≤ facOf ns ∧ facOf ns < 7 * 1009 ^ 7 := by
  obtain ⟨h1, h2⟩ := fac_fold h (List.range (facN ns).toNat) (1 + nth ns 40 % 6) 7 (by omega) (by omega)
  refine ⟨h1, Int.lt_of_lt_of_le h2 ?_⟩
  rw [List.length_range]
  have h3 : 1009 ^ (facN ns).toNat ≤ 1009 ^ 7 := Nat.pow_le_pow_right (by decide) (by have := (facN_in ns).2; omega)
  have e3 : ((1009 ^ (facN ns).toNat : Nat) : Int) = (1009 : Int) ^ (facN ns).toNat := Int.natCast_pow 1009 _
  have e4 : ((1009 ^ 7 : Nat) : Int) = (1009 : Int) ^ 7 := Int.natCast_pow 1009 _
  omega
abbrev N__law_factor : List Str := ["_law_numbers_here", "_law_value", "_law_k"]
theorem sc__law_factor : FnScope N__law_factor ["_law_numbers_here"] (defScope s__law_factor) := ⟨rfl, rfl, rfl, by decide +kernel, rfl, by decide +kernel, by decide +kernel⟩
def S__law_factor : DSp := fun ds o => ∃ ns : List Int, ds = [.lst (ns.map .int)] ∧ ns.length = 70 ∧ o = .val (.int (facOf ns))
theorem ok__law_factor (bi : Bis mg) {f : Addr} {fd : FuncData} (F : Fun K "_law_factor" "_law_factor" s__law_factor f fd) : FnOk P w K mg base (L2.CX P w) 1 f fd ["_law_numbers_here"] (spD K S__law_factor) := by
  refine fn_D F sc__law_factor (by decide) (fun ds o h => ?_) (fun ds o h B cdv A outer s H E hr => ?_)
  · obtain ⟨_, rfl, _⟩ := h; rfl
  · obtain ⟨ns, rfl, hl, rfl⟩ := h
    have hN := facN_in ns
    show WS _ _ _ [.dat (.lst (ns.map .int)), .un, .un] _
    refine ws_cons (w1_set 1 sc__law_factor.nd (re_add re_int (re_mod (by omega) (re_intI bi.int (re_ix (rp_lst (re_var 0 rfl)) re_int (ix_ints (by omega) (by omega)))) re_int)) ?_)
    show WS _ _ _ [_, _, _] _
    refine ws_cons (w1_fold (List.range (facN ns).toNat) (fun k => D.int (0 + (k : Int))) (fun v : Int => [.dat (.lst (ns.map .int)), .dat (.int v), .un]) (fun v (k : Nat) => v * 1009 + nth ns (42 + (0 + (k : Int)))) (1 + nth ns 40 % 6) (passes_of rfl) rfl (ri_range1 (n := facN ns) bi.range (re_mul (.inl ⟨by omega, by omega⟩) re_int (re_intB bi.int (re_co (c_eqS (re_mod (by omega) (re_intI bi.int (re_ix (rp_lst (re_var 0 rfl)) re_int (ix_ints (by omega) (by omega)))) re_int) re_int rfl)))) (by omega) (by omega)) (pg_name (i := 2) sc__law_factor.nd rfl (Or.inl rfl)) (by walk_at "wk") (fun pre x suf hx => ⟨_, (rg_name 2), ?_⟩) (fun Γ' hw => ?_))
    · have hx7 : x < 7 := by
        have h2 : x ∈ List.range (facN ns).toNat := by rw [hx]; simp
        rw [List.mem_range] at h2
        omega
      show WS _ _ _ [_, _, _] _
      refine ws_cons (w1_set 1 sc__law_factor.nd (re_add (re_mul (.inr ⟨by omega, by omega⟩) (re_var 1 rfl) re_int) (re_intI bi.int (re_ix (rp_lst (re_var 0 rfl)) (re_add re_int (re_var 2 rfl)) (ix_ints (by omega) (by omega))))) ?_)
      show WS _ _ _ [_, _, _] _
      exact ws_nil ⟨_, .refl _, by walk_at "wk"⟩
    refine ws_wk hw ?_
    show WS _ _ _ [_, _, _] _
    exact ws_cons (w1_ret (re_var 1 rfl) rfl)
def estep (s : Int × Int) (_ : Nat) : Int × Int := if 0 < s.2 then (s.2, s.1 % s.2) else s
def eucl (g x : Int) : Int × Int := (List.range 200).foldl estep (g, x)
theorem estep_id {g : Int} {k : Nat} : estep (g, 0) k = (g, 0) := if_neg (by show ¬ (0 < (0 : Int)); omega)
theorem esteps_id (g : Int) : ∀ l : List Nat, l.foldl estep (g, 0) = (g, 0)
  | [] => rfl
  | k :: l => by rw [List.foldl_cons, estep_id, esteps_id g l]
theorem gI_step {g x : Int} (hg : 0 ≤ g) (hx : 0 < x) : gI x (g % x) = gI g x := by
  obtain ⟨a, rfl⟩ := Int.eq_ofNat_of_zero_le hg
  obtain ⟨b, rfl⟩ := Int.eq_ofNat_of_zero_le (Int.le_of_lt hx)
  unfold gI
  rw [show ((a : Int) % (b : Int)).natAbs = a % b by rw [← Int.natCast_emod, Int.natAbs_natCast], Int.natAbs_natCast, Int.natAbs_natCast, Nat.gcd_comm a b, Nat.gcd_rec b a, Nat.gcd_comm]
theorem gI_zero {g : Int} (hg : 0 ≤ g) : gI g 0 = g := by
  obtain ⟨a, rfl⟩ := Int.eq_ofNat_of_zero_le hg
  unfold gI
  simp
theorem eucl_run : ∀ (k : Nat) (l : List Nat) (g x : Int), 0 ≤ g → 0 ≤ x → x < 2 ^ k → 2 * k ≤ l.length → l.foldl estep (g, x) = (gI g x, 0)
  | 0, l, g, x, hg, h0, h1, _ => by
    obtain rfl : x = 0 := by omega
    rw [esteps_id, gI_zero hg]
  | k + 1, l, g, x, hg, h0, h1, hl => by
    match l, hl with
    | a :: b :: l, hl =>
      rw [List.length_cons, List.length_cons] at hl
      by_cases hx : x = 0
      · subst hx
        rw [esteps_id, gI_zero hg]
      · have hx0 : 0 < x := by omega
        have e1 : estep (g, x) a = (x, g % x) := if_pos hx0
        have m0 := Int.emod_nonneg g (b := x) (by omega)
        have m1 := Int.emod_lt_of_pos g hx0
        rw [List.foldl_cons, e1, ← gI_step hg hx0]
        by_cases hy : g % x = 0
        · rw [hy, esteps_id, gI_zero h0]
        · have hy0 : 0 < g % x := by omega
          have e2 : estep (x, g % x) b = (g % x, x % (g % x)) := if_pos hy0
          have n0 := Int.emod_nonneg x (b := g % x) (by omega)
          have n1 := Int.emod_lt_of_pos x hy0
          have n2 : 2 * (x % (g % x)) < x := by
            have q := Int.emod_add_mul_ediv x (g % x)
            have q1 : 1 ≤ x / (g % x) := (Int.le_ediv_iff_mul_le hy0).mpr (by omega)
            have q2 : (g % x) * 1 ≤ (g % x) * (x / (g % x)) := Int.mul_le_mul_of_nonneg_left q1 (by omega)
            omega
          rw [List.foldl_cons, e2, ← gI_step h0 hy0]
          refine eucl_run k l _ _ (by omega) n0 ?_ (by omega)
          rw [Int.pow_succ] at h1
          omega
theorem eucl_gI {g x : Int} (hg : 0 ≤ g) (h0 : 0 ≤ x) (h1 : x < 2 ^ 100) : eucl g x = (gI g x, 0) := eucl_run 100 (List.range 200) g x hg h0 h1 (by rw [List.length_range]; decide)
def commonOf (l : List Int) : Int := l.foldl gI 0
abbrev N__law_common : List Str := ["_law_figures", "_law_found", "_law_figure", "_law_one", "_law_k"]
theorem sc__law_common : FnScope N__law_common ["_law_figures"] (defScope s__law_common) := ⟨rfl, rfl, rfl, by decide +kernel, rfl, by decide +kernel, by decide +kernel⟩
def S__law_common : DSp := fun ds o => ∃ l : List Int, ds = [.lst (l.map .int)] ∧ (∀ x ∈ l, 0 ≤ x ∧ x < 2 ^ 100) ∧ o = .val (.int (commonOf l))
theorem gI_nn (a b : Int) : 0 ≤ gI a b := Int.natCast_nonneg _
theorem gfold_nn : ∀ (l : List Int) (a : Int), 0 ≤ a → 0 ≤ l.foldl gI a
  | [], _, h => h
  | x :: l, a, _ => gfold_nn l _ (gI_nn a x)
theorem ok__law_common (bi : Bis mg) {f : Addr} {fd : FuncData} (F : Fun K "_law_common" "_law_common" s__law_common f fd) : FnOk P w K mg base (L2.CX P w) 1 f fd ["_law_figures"] (spD K S__law_common) := by
  refine fn_D F sc__law_common (by decide) (fun ds o h => ?_) (fun ds o h B cdv A outer s H E hr => ?_)
  · obtain ⟨_, rfl, _⟩ := h; rfl
  · obtain ⟨l, rfl, hl, rfl⟩ := h
    show WS _ _ _ [.dat (.lst (l.map .int)), .un, .un, .un, .un] _
    refine ws_cons (w1_set 1 sc__law_common.nd re_int ?_)
    show WS _ _ _ [_, _, _, _, _] _
    refine ws_cons (w1_fold l D.int (fun g : Int => [.dat (.lst (l.map .int)), .dat (.int g), .un, .un, .un]) gI 0 (passes_of rfl) rfl (ri_list (re_var 0 rfl)) (pg_name (i := 2) sc__law_common.nd rfl (Or.inl rfl)) (by walk_at "wk") (fun pre x suf hx => ⟨_, (rg_name 2), ?_⟩) (fun Γ' hw => ?_))
    · have hx1 := hl x (by rw [hx]; simp)
      have hg := gfold_nn pre 0 (Int.le_refl 0)
      generalize pre.foldl gI 0 = g at hg ⊢
      show WS _ _ _ [_, _, _, _, _] _
      refine ws_cons (w1_set 3 sc__law_common.nd (re_var 2 rfl) ?_)
      show WS _ _ _ [_, _, _, _, _] _
      refine ws_cons (w1_fold (List.range 200) (fun k => D.int (0 + (k : Int))) (fun s : Int × Int => [.dat (.lst (l.map .int)), .dat (.int s.1), .un, .dat (.int s.2), .un]) estep (g, x) (passes_of rfl) rfl (ri_range1 bi.range re_int (by omega) (by omega)) (pg_name (i := 4) sc__law_common.nd rfl (Or.inl rfl)) (by walk_at "wk") (fun pre x suf hx => ⟨_, (rg_name 4), ?_⟩) (fun Γ' hw => ?_))
      · generalize pre.foldl estep _ = t
        show WS _ _ _ [_, _, _, _, _] _
        refine ws_cons (w1_if (rt_co (c_gt (re_var 3 rfl) re_int)) (fun hb => ?_) (fun hb => ?_))
        · have hb' : 0 < t.2 := of_decide_eq_true hb
          refine ws_cons (w1_par 1 3 rfl sc__law_common.nd (re_var 3 rfl) (re_mod hb' (re_intI bi.int (re_var 1 rfl)) (re_var 3 rfl)) ?_)
          show WS _ _ _ [_, _, _, _, _] _
          refine ws_nil (ws_nil ⟨_, .refl _, ?_⟩)
          rw [show estep t x = (t.2, t.1 % t.2) from if_pos hb']
          walk_at "wk"
        · have hb' : ¬ 0 < t.2 := of_decide_eq_false hb
          refine ws_nil (ws_nil ⟨_, .refl _, ?_⟩)
          rw [show estep t x = t from if_neg hb']
          walk_at "wk"
      · rw [show (List.range 200).foldl estep (g, x) = (gI g x, 0) from eucl_gI hg hx1.1 hx1.2] at hw
        refine ws_wk hw (ws_nil ⟨_, .refl _, by walk_at "wk"⟩)
    refine ws_wk hw ?_
    show WS _ _ _ [_, _, _, _, _] _
    exact ws_cons (w1_ret (re_var 1 rfl) rfl)
/-! ### _law_other -/
theorem scP_comm (f : Int) (p : Pn) : (f * p.1, f * p.2) = scP f p := by unfold scP; rw [Int.mul_comm f, Int.mul_comm f]
def rotP (ns : List Int) (l : List Pn) : List Pn := cutL l (some (nth ns 60 % (if (l.length : Int) > 1 then (l.length : Int) else 1))) none ++ cutL l none (some (nth ns 60 % (if (l.length : Int) > 1 then (l.length : Int) else 1)))
theorem rotP_perm (ns : List Int) (l : List Pn) : (rotP ns l).Perm l := by
  unfold rotP
  have h0 : 0 ≤ nth ns 60 % (if (l.length : Int) > 1 then (l.length : Int) else 1) := Int.emod_nonneg _ (by split <;> omega)
  generalize nth ns 60 % (if (l.length : Int) > 1 then (l.length : Int) else 1) = t at h0
  obtain ⟨n, rfl⟩ := Int.eq_ofNat_of_zero_le h0
  rw [cutL_from, cutL_upto]
  exact List.perm_append_comm.trans (by rw [List.take_append_drop])
def othR (c W H : Int) (rows : List Pn) : Int × Int × List Pn × Bool :=
  if c = 0 then (W + 1, H, rows, false)
  else if c = 1 then (W, H + 1, rows, false)
  else if c = 2 ∧ 0 < rows.length then (W, H, rows.drop 1, false)
  else if c = 3 ∧ ((0, 0) : Pn) ∉ rows then (W, H, rows ++ [(0, 0)], false)
  else (W, H, rows, true)
def othOf (ns : List Int) (w h f : Int) (pk : List Pn) : Int × Int × List Pn × Bool := othR (nth ns 61 % 6) (f * w) (f * h) (rotP ns (pk.map (scP f)))
theorem onB_mono {w h w2 h2 : Int} {p : Pn} (h1 : w ≤ w2) (h3 : h ≤ h2) (k : onB w h p = true) : onB w2 h2 p = true := by
  unfold onB at *
  simp only [Bool.and_eq_true, decide_eq_true_eq] at *
  omega
theorem onB_sc {w h f : Int} {p : Pn} (hf : 1 ≤ f) (k : onB w h p = true) : onB (f * w) (f * h) (scP f p) = true := by
  unfold onB at *
  simp only [Bool.and_eq_true, decide_eq_true_eq] at *
  obtain ⟨⟨a, b⟩, c, d⟩ := k
  refine ⟨⟨Int.mul_nonneg a (by omega), ?_⟩, Int.mul_nonneg c (by omega), ?_⟩
  · show p.1 * f ≤ f * w
    rw [Int.mul_comm f w]; exact Int.mul_le_mul_of_nonneg_right b (by omega)
  · show p.2 * f ≤ f * h
    rw [Int.mul_comm f h]; exact Int.mul_le_mul_of_nonneg_right d (by omega)
theorem scP_inj {f : Int} (hf : 1 ≤ f) (p q : Pn) (h : scP f p = scP f q) : p = q := by
  have h1 : p.1 * f = q.1 * f := congrArg Prod.fst h
  have h2 : p.2 * f = q.2 * f := congrArg Prod.snd h
  exact Prod.ext (Int.eq_of_mul_eq_mul_right (by omega) h1) (Int.eq_of_mul_eq_mul_right (by omega) h2)
theorem sc_nodup {f : Int} (hf : 1 ≤ f) {pk : List Pn} (h : pk.Nodup) : (pk.map (scP f)).Nodup := by
  refine List.pairwise_map.mpr (h.imp fun {a b} hne e => hne (scP_inj hf a b e))
/-- the tables that the law makes are tables -/
theorem oth_ok {ns : List Int} {w h f : Int} {pk : List Pn} (hw : 1 ≤ w ∧ w ≤ 6) (hh : 1 ≤ h ∧ h ≤ 6) (hf : 1 ≤ f) (hf2 : f < 7 * 1009 ^ 7) (hp : pk.Nodup) (hb : ∀ p ∈ pk, onB w h p = true) (hl : pk.length ≤ 3) :
    TabOk (othOf ns w h f pk).1 (othOf ns w h f pk).2.1 (othOf ns w h f pk).2.2.1 := by
  have hrp := rotP_perm ns (pk.map (scP f))
  have hnd : (rotP ns (pk.map (scP f))).Nodup := hrp.nodup_iff.mpr (sc_nodup hf hp)
  have hon : ∀ q ∈ rotP ns (pk.map (scP f)), onB (f * w) (f * h) q = true := fun q hq => by
    obtain ⟨p, hp', rfl⟩ := List.mem_map.mp (hrp.mem_iff.mp hq)
    exact onB_sc hf (hb p hp')
  have hlen : (rotP ns (pk.map (scP f))).length ≤ 3 := by rw [hrp.length_eq, List.length_map]; exact hl
  have fw : 1 ≤ f * w ∧ f * w ≤ 6 * f := by
    have a := Int.mul_le_mul_of_nonneg_left hw.1 (show 0 ≤ f by omega)
    have b := Int.mul_le_mul_of_nonneg_left hw.2 (show 0 ≤ f by omega)
    omega
  have fh : 1 ≤ f * h ∧ f * h ≤ 6 * f := by
    have a := Int.mul_le_mul_of_nonneg_left hh.1 (show 0 ≤ f by omega)
    have b := Int.mul_le_mul_of_nonneg_left hh.2 (show 0 ≤ f by omega)
    omega
  have e30 : (7 : Int) * 1009 ^ 7 * 6 + 1 ≤ M30 := by decide +kernel
  have sz : ∀ a b : Int, 1 ≤ a → a ≤ 6 * f + 1 → 1 ≤ b → b ≤ 6 * f + 1 → szB a b = true := fun a b h1 h2 h3 h4 => by
    unfold szB
    simp only [Bool.and_eq_true, decide_eq_true_eq]
    omega
  unfold othOf
  generalize rotP ns (pk.map (scP f)) = rows at hnd hon hlen
  generalize f * w = W at fw hon
  generalize f * h = H at fh hon
  unfold othR
  split
  · show TabOk (W + 1) H rows
    exact ⟨sz _ _ (by omega) (by omega) fh.1 (by omega), by omega, fun p hp => onB_mono (by omega) (by omega) (hon p hp), hnd⟩
  split
  · show TabOk W (H + 1) rows
    exact ⟨sz _ _ fw.1 (by omega) (by omega) (by omega), by omega, fun p hp => onB_mono (by omega) (by omega) (hon p hp), hnd⟩
  split
  · show TabOk W H (rows.drop 1)
    exact ⟨sz _ _ fw.1 (by omega) fh.1 (by omega), by show (rows.drop 1).length ≤ 12; rw [List.length_drop]; omega, fun p hp => hon p (List.mem_of_mem_drop hp), List.Nodup.sublist (List.drop_sublist 1 rows) hnd⟩
  split
  · rename_i hc
    show TabOk W H (rows ++ [(0, 0)])
    refine ⟨sz _ _ fw.1 (by omega) fh.1 (by omega), by show (rows ++ [(0, 0)]).length ≤ 12; rw [List.length_append, List.length_singleton]; omega, fun p hp => ?_, List.nodup_append.mpr ⟨hnd, by simp, fun x hx y hy e => hc.2 (by rw [List.mem_singleton] at hy; rw [← hy, ← e]; exact hx)⟩⟩
    rcases List.mem_append.mp hp with hp | hp
    · exact hon p hp
    · rw [List.mem_singleton] at hp
      subst hp
      show onB W H (0, 0) = true
      unfold onB
      simp only [Bool.and_eq_true, decide_eq_true_eq]
      omega
  · show TabOk W H rows
    exact ⟨sz _ _ fw.1 (by omega) fh.1 (by omega), by omega, hon, hnd⟩
theorem oth_due {ns : List Int} {w h f : Int} {pk : List Pn} (hw : 1 ≤ w) (hh : 1 ≤ h) (hf : 1 ≤ f) :
    factorOf w h pk (othOf ns w h f pk).1 (othOf ns w h f pk).2.1 (othOf ns w h f pk).2.2.1 = if (othOf ns w h f pk).2.2.2 then .int f else .non := by
  have hrp := rotP_perm ns (pk.map (scP f))
  unfold othOf
  generalize rotP ns (pk.map (scP f)) = rows at hrp
  have q0 : f * w / w = f := Int.mul_ediv_cancel f (by omega)
  have lens : ∀ m : List Pn, m.length ≠ (pk.map (scP f)).length → sortP m ≠ sortP (pk.map (scP f)) := fun m hm e => hm (by rw [← sortP_len m, e, sortP_len])
  have hl := hrp.length_eq
  unfold othR
  split
  · unfold factorOf
    show (if f * w + 1 ≠ w * ((f * w + 1) / w) ∨ f * h ≠ h * ((f * w + 1) / w) then D.non else _) = .non
    refine if_pos ?_
    by_cases h1 : w = 1
    · subst h1
      refine .inr fun e => ?_
      rw [Int.ediv_one, Int.mul_one, Int.mul_add, Int.mul_one, Int.mul_comm f h] at e
      omega
    · refine .inl fun e => ?_
      have e2 : (f * w + 1) / w = f := by
        rw [Int.add_comm, Int.add_mul_ediv_right 1 f (by omega), Int.ediv_eq_zero_of_lt (by omega) (by omega), Int.zero_add]
      rw [e2, Int.mul_comm w f] at e
      omega
  split
  · unfold factorOf
    show (if f * w ≠ w * (f * w / w) ∨ f * h + 1 ≠ h * (f * w / w) then D.non else _) = .non
    rw [q0]
    exact if_pos (.inr (by rw [Int.mul_comm h f]; omega))
  have go : ∀ m : List Pn, factorOf w h pk (f * w) (f * h) m = if sortP m ≠ sortP (pk.map (scP f)) then .non else .int f := fun m => by
    unfold factorOf
    rw [q0, if_neg (by rw [Int.mul_comm w f, Int.mul_comm h f]; omega)]
  split
  · rename_i hc
    show factorOf w h pk (f * w) (f * h) (rows.drop 1) = .non
    rw [go, if_pos (lens _ (by rw [List.length_drop]; omega))]
  split
  · show factorOf w h pk (f * w) (f * h) (rows ++ [(0, 0)]) = .non
    rw [go, if_pos (lens _ (by rw [List.length_append, List.length_singleton]; omega))]
  · show factorOf w h pk (f * w) (f * h) rows = .int f
    rw [go, if_neg (by rw [sortP_congr hrp]; exact fun h => h rfl)]
abbrev N__law_other : List Str := ["_law_parts", "_law_factor_here", "_law_numbers_here", "_law_width", "_law_height", "_law_pockets", "_law_rows", "_law_x", "_law_y", "_law_turn", "_law_choice"]
theorem sc__law_other : FnScope N__law_other ["_law_parts", "_law_factor_here", "_law_numbers_here"] (defScope s__law_other) := ⟨rfl, rfl, rfl, by decide +kernel, rfl, by decide +kernel, by decide +kernel⟩
def S__law_other (C : Addr) : DSp := fun ds o => ∃ (w h f : Int) (pk : List Pn) (ns : List Int), ds = [.tup [.int w, .int h, .tup (pk.map ptD)], .int f, .lst (ns.map .int)] ∧ ns.length = 70 ∧ (1 ≤ w ∧ w ≤ 6) ∧ (1 ≤ h ∧ h ≤ 6) ∧ 1 ≤ f ∧ f < 7 * 1009 ^ 7 ∧ pk.Nodup ∧ (∀ p ∈ pk, onB w h p = true) ∧ pk.length ≤ 3 ∧
  o = .val (.tup [tabD C (othOf ns w h f pk).1 (othOf ns w h f pk).2.1 (othOf ns w h f pk).2.2.1, .bl (othOf ns w h f pk).2.2.2])
theorem ok__law_other (bi : Bis mg) {C_Table C_InvalidTable : Addr} (T : TabC K C_Table) (G_Table : Mkr P w K mg base 2 "Table" C_Table [] (S_Table C_Table C_InvalidTable)) {f : Addr} {fd : FuncData} (F : Fun K "_law_other" "_law_other" s__law_other f fd) : FnOk P w K mg base (L2.CX P w) 4 f fd ["_law_parts", "_law_factor_here", "_law_numbers_here"] (spD K (S__law_other C_Table)) := by
  refine fn_D F sc__law_other (by decide) (fun ds o h => ?_) (fun ds o h B cdv A outer s H E hr => ?_)
  · obtain ⟨_, _, _, _, _, rfl, _⟩ := h; rfl
  · obtain ⟨w, h, f, pk, ns, rfl, hl, hw, hh, hf, hf2, hp, hb, hlp, rfl⟩ := h
    have hok := oth_ok (ns := ns) hw hh hf hf2 hp hb hlp
    have hrl : (rotP ns (pk.map (scP f))).length ≤ 3 := by rw [(rotP_perm ns _).length_eq, List.length_map]; exact hlp
    have e200 : (7 : Int) * 1009 ^ 7 * 7 < 2 ^ 200 := by decide +kernel
    have hfb : 0 ≤ f ∧ f < 2 ^ 200 := by omega
    have hpb : ∀ p ∈ pk, (0 ≤ p.1 ∧ p.1 < 2 ^ 200) ∧ (0 ≤ p.2 ∧ p.2 < 2 ^ 200) := fun p hp => by
      have := hb p hp
      unfold onB at this
      simp only [Bool.and_eq_true, decide_eq_true_eq] at this
      omega
    show WS _ _ _ [.dat (.tup [.int w, .int h, .tup (pk.map ptD)]), .dat (.int f), .dat (.lst (ns.map .int)), .un, .un, .un, .un, .un, .un, .un, .un] _
    refine ws_cons (w1_asg (pg_tup rfl (pgs_cons (pg_name (i := 3) sc__law_other.nd rfl (Or.inl rfl)) (pgs_cons (pg_name (i := 4) sc__law_other.nd rfl (Or.inl rfl)) (pgs_cons (pg_name (i := 5) sc__law_other.nd rfl (Or.inl rfl)) pgs_nil)))) (re_var 0 rfl) (rg_tup rfl (rgs_cons (rg_name 3) (rgs_cons (rg_name 4) (rgs_cons (rg_name 5) rgs_nil)))) ?_)
    show WS _ _ _ [_, _, _, _, _, _, _, _, _, _, _] _
    refine ws_cons (w1_lc 6 (own := [("_law_x", 7), ("_law_y", 8)]) (Γw := [_, _, _, _, _, _, _, _, _, _, _]) pk ptD (fun p => ptD (scP f p)) rfl sc__law_other.nd (ri_tup (re_var 5 rfl)) (blkOk_by (N := N__law_other) (sc := defScope s__law_other) (by decide +kernel)) (fun _ _ _ _ _ => (pg_tup (n := 2) rfl (pgs_cons (pg_name (i := 7) sc__law_other.nd rfl (Or.inl rfl)) (pgs_cons (pg_name (i := 8) sc__law_other.nd rfl (Or.inl rfl)) pgs_nil)))) (in_tup (ins_cons mono_name (in_name (by decide)) (monos_cons mono_name monos_nil) (ins_cons mono_name (in_name (by decide)) monos_nil ins_nil))) (mono_tup (monos_cons mono_name (monos_cons mono_name monos_nil))) rfl (by rw [sizeLine_eq]; omega) (fun p hp => ⟨_, fun _ => (rg_tup rfl (rgs_cons (rg_name 7) (rgs_cons (rg_name 8) rgs_nil))), fun _ _ => (re_is (re_tup (rl_cons (re_mulW (big_mul hfb (hpb p hp).1) (re_var 1 rfl) (re_var 7 rfl)) (rl_cons (re_mulW (big_mul hfb (hpb p hp).2) (re_var 1 rfl) (re_var 8 rfl)) rl_nil))) (by rw [← scP_comm]; rfl))⟩) ?_ (sw_true rfl rfl rfl (by decide +kernel)))
    rw [show pk.map (fun p => ptD (scP f p)) = (pk.map (scP f)).map ptD by rw [List.map_map]; rfl]
    show WS _ _ _ [_, _, _, _, _, _, .own (.lst ((pk.map (scP f)).map ptD)), _, _, _, _] _
    refine ws_cons (w1_set 9 sc__law_other.nd (d := .int (nth ns 60 % (if ((pk.map (scP f)).length : Int) > 1 then ((pk.map (scP f)).length : Int) else 1))) (re_is (re_mod (by split <;> omega) (re_intI bi.int (re_ix (rp_lst (re_var 2 rfl)) re_int (ix_ints (by omega) (by omega)))) (re_max2 bi.max rfl re_int (re_len bi.len (rp_own 6 rfl)))) (by rw [List.length_map (f := ptD)])) ?_)
    show WS _ _ _ [_, _, _, _, _, _, _, _, _, _, _] _
    refine ws_cons (w1_setO (o := .lst ((rotP ns (pk.map (scP f))).map ptD)) 6 sc__law_other.nd (re_is (re_addL (ds := (cutL (pk.map (scP f)) (some (nth ns 60 % (if ((pk.map (scP f)).length : Int) > 1 then ((pk.map (scP f)).length : Int) else 1))) none).map ptD) (es := (cutL (pk.map (scP f)) none (some (nth ns 60 % (if ((pk.map (scP f)).length : Int) > 1 then ((pk.map (scP f)).length : Int) else 1)))).map ptD) (by
        have := hrl
        unfold rotP at this
        rw [List.length_append] at this
        simp only [List.length_map] at this ⊢
        rw [sizeLine_eq]; omega) (re_frz (re_slM (rp_own 6 rfl) (ro_some (re_var 9 rfl)) ro_none)) (re_frz (re_slM (rp_own 6 rfl) ro_none (ro_some (re_var 9 rfl))))) (by unfold rotP; rw [List.map_append])) ?_)
    generalize hrw : rotP ns (pk.map (scP f)) = rows at hrl
    show WS _ _ _ [_, _, _, _, _, _, .own (.lst (rows.map ptD)), _, _, _, _] _
    refine ws_cons (w1_set 10 sc__law_other.nd (re_mod (by omega) (re_intI bi.int (re_ix (rp_lst (re_var 2 rfl)) re_int (ix_ints (by omega) (by omega)))) re_int) ?_)
    have heo : othOf ns w h f pk = othR (nth ns 61 % 6) (f * w) (f * h) rows := by unfold othOf; rw [hrw]
    rw [heo] at hok ⊢
    have hcc : 0 ≤ nth ns 61 % 6 ∧ nth ns 61 % 6 < 6 := by omega
    generalize nth ns 61 % 6 = c at hok hcc
    show WS _ _ _ [_, _, _, _, _, _, .own (.lst (rows.map ptD)), _, _, _, .dat (.int c)] _
    have mw : CMulW f w := big_mul hfb (by omega)
    have mh : CMulW f h := big_mul hfb (by omega)
    refine ws_cons (w1_if (rt_co (c_eqS (re_var 10 rfl) re_int rfl)) (fun hb => ?_) (fun hb => ?_))
    · have e : othR c (f * w) (f * h) rows = (f * w + 1, f * h, rows, false) := if_pos (of_decide_eq_true hb)
      rw [e] at hok ⊢
      refine ws_frz 6 rfl ?_
      show WS _ _ _ [_, _, _, _, _, _, _, _, _, _, _] _
      exact ws_cons (w1_ret (re_tup (rl_cons (re_mk G_Table (hr.mono (by decide)) (rl_cons (re_add (re_mulW mw (re_var 1 rfl) (re_var 3 rfl)) re_int) (rl_cons (re_mulW mh (re_var 1 rfl) (re_var 4 rfl)) (rl_cons (re_var 6 rfl) rl_nil))) ⟨f * w + 1, f * h, true, rows, rfl, by omega, .inl ⟨hok, rfl⟩⟩) (rl_cons re_bl rl_nil))) rfl)
    have c0 : ¬ c = 0 := of_decide_eq_false hb
    refine ws_nil ?_
    show WS _ _ _ [_, _, _, _, _, _, _, _, _, _, _] _
    refine ws_cons (w1_if (rt_co (c_eqS (re_var 10 rfl) re_int rfl)) (fun hb => ?_) (fun hb => ?_))
    · have e : othR c (f * w) (f * h) rows = (f * w, f * h + 1, rows, false) := by unfold othR; rw [if_neg c0, if_pos (of_decide_eq_true hb)]
      rw [e] at hok ⊢
      refine ws_frz 6 rfl ?_
      show WS _ _ _ [_, _, _, _, _, _, _, _, _, _, _] _
      exact ws_cons (w1_ret (re_tup (rl_cons (re_mk G_Table (hr.mono (by decide)) (rl_cons (re_mulW mw (re_var 1 rfl) (re_var 3 rfl)) (rl_cons (re_add (re_mulW mh (re_var 1 rfl) (re_var 4 rfl)) re_int) (rl_cons (re_var 6 rfl) rl_nil))) ⟨f * w, f * h + 1, true, rows, rfl, by omega, .inl ⟨hok, rfl⟩⟩) (rl_cons re_bl rl_nil))) rfl)
    have c1 : ¬ c = 1 := of_decide_eq_false hb
    refine ws_nil ?_
    show WS _ _ _ [_, _, _, _, _, _, _, _, _, _, _] _
    refine ws_cons (w1_if (k1 := decide (c = 2) && decide ((rows.length : Int) > 0)) (rt_w (rw_and (rt_co (c_eqS (re_var 10 rfl) re_int rfl)) (fun hb => (rw_and1 (rt_is (rt_co (c_gt (re_len bi.len (rp_own 6 rfl)) re_int)) (by rw [List.length_map])))))) (fun hb => ?_) (fun hb => ?_))
    · have hb' : c = 2 ∧ 0 < rows.length := by
        have := Bool.and_eq_true_iff.mp hb
        have h2 := of_decide_eq_true this.2
        exact ⟨of_decide_eq_true this.1, by omega⟩
      have e : othR c (f * w) (f * h) rows = (f * w, f * h, rows.drop 1, false) := by unfold othR; rw [if_neg c0, if_neg c1, if_pos hb']
      rw [e] at hok ⊢
      exact ws_cons (w1_ret (re_tup (rl_cons (re_mk G_Table (hr.mono (by decide)) (rl_cons (re_mulW mw (re_var 1 rfl) (re_var 3 rfl)) (rl_cons (re_mulW mh (re_var 1 rfl) (re_var 4 rfl)) (rl_cons (re_frz (re_slM (rp_own 6 rfl) (ro_some re_int) ro_none)) rl_nil))) ⟨f * w, f * h, true, rows.drop 1, by rw [show cutL rows (some 1) none = rows.drop 1 from cutL_from rows 1]; rfl, by rw [List.length_drop]; omega, .inl ⟨hok, rfl⟩⟩) (rl_cons re_bl rl_nil))) rfl)
    have c2 : ¬ (c = 2 ∧ 0 < rows.length) := fun ⟨a, b⟩ => by
      rw [decide_eq_true a, decide_eq_true (show (rows.length : Int) > 0 by omega)] at hb
      cases hb
    refine ws_nil ?_
    show WS _ _ _ [_, _, _, _, _, _, _, _, _, _, _] _
    refine ws_cons (w1_if (k1 := decide (c = 3) && !decide (((0, 0) : Pn) ∈ rows)) (rt_w (rw_and (rt_co (c_eqS (re_var 10 rfl) re_int rfl)) (fun hb => (rw_and1 (rt_is (rt_co (c_niP (n := 1) (m := 1) (d := ptD (0, 0)) (units65 hr) rfl (re_tup (rl_cons re_int (rl_cons re_int rl_nil))) (rp_own 6 rfl) (ptD_sh _) (fun d hd => by obtain ⟨q, _, rfl⟩ := List.mem_map.mp hd; exact ptD_sh q))) (by rw [inD_map ptD_inj ptD_sh ptD_nb]; exact congrArg (!·) (decide_eq_decide.mpr Iff.rfl))))))) (fun hb => ?_) (fun hb => ?_))
    · have hb' : c = 3 ∧ ((0, 0) : Pn) ∉ rows := by
        have := Bool.and_eq_true_iff.mp hb
        exact ⟨of_decide_eq_true this.1, by simpa using this.2⟩
      have e : othR c (f * w) (f * h) rows = (f * w, f * h, rows ++ [(0, 0)], false) := by unfold othR; rw [if_neg c0, if_neg c1, if_neg c2, if_pos hb']
      rw [e] at hok ⊢
      refine ws_frz 6 rfl ?_
      show WS _ _ _ [_, _, _, _, _, _, _, _, _, _, _] _
      exact ws_cons (w1_ret (re_tup (rl_cons (re_mk G_Table (hr.mono (by decide)) (rl_cons (re_mulW mw (re_var 1 rfl) (re_var 3 rfl)) (rl_cons (re_mulW mh (re_var 1 rfl) (re_var 4 rfl)) (rl_cons (re_frz (re_addL (es := [ptD (0, 0)]) (by rw [List.length_map, sizeLine_eq]; show _ + 1 ≤ _; omega) (re_var 6 rfl) (re_frz (re_lst (rl_cons (re_tup (rl_cons re_int (rl_cons re_int rl_nil))) rl_nil))))) rl_nil))) ⟨f * w, f * h, true, rows ++ [(0, 0)], by rw [List.map_append]; rfl, by rw [List.length_append, List.length_singleton]; omega, .inl ⟨hok, rfl⟩⟩) (rl_cons re_bl rl_nil))) rfl)
    have c3 : ¬ (c = 3 ∧ ((0, 0) : Pn) ∉ rows) := fun ⟨a, b⟩ => by
      rw [decide_eq_true a, decide_eq_false b] at hb
      cases hb
    refine ws_nil ?_
    have e : othR c (f * w) (f * h) rows = (f * w, f * h, rows, true) := by unfold othR; rw [if_neg c0, if_neg c1, if_neg c2, if_neg c3]
    rw [e] at hok ⊢
    show WS _ _ _ [_, _, _, _, _, _, _, _, _, _, _] _
    refine ws_frz 6 rfl ?_
    show WS _ _ _ [_, _, _, _, _, _, _, _, _, _, _] _
    exact ws_cons (w1_ret (re_tup (rl_cons (re_mk G_Table (hr.mono (by decide)) (rl_cons (re_mulW mw (re_var 1 rfl) (re_var 3 rfl)) (rl_cons (re_mulW mh (re_var 1 rfl) (re_var 4 rfl)) (rl_cons (re_var 6 rfl) rl_nil))) ⟨f * w, f * h, true, rows, rfl, by omega, .inl ⟨hok, rfl⟩⟩) (rl_cons re_bl rl_nil))) rfl)
/-! ### the plain law of k63 -/
theorem gI_gcd (a b : Int) : gI a b = ((Int.gcd a b : Nat) : Int) := rfl
theorem gI_dl (a b : Int) : gI a b ∣ a := Int.gcd_dvd_left ..
theorem gI_dr (a b : Int) : gI a b ∣ b := Int.gcd_dvd_right ..
theorem gI_assoc (a b c : Int) : gI (gI a b) c = gI a (gI b c) := by
  unfold gI
  rw [Int.natAbs_natCast, Int.natAbs_natCast, Nat.gcd_assoc]
theorem gI_mul {f : Int} (hf : 0 ≤ f) (a b : Int) : gI (a * f) (b * f) = gI a b * f := by
  obtain ⟨n, rfl⟩ := Int.eq_ofNat_of_zero_le hf
  unfold gI
  rw [Int.natAbs_mul, Int.natAbs_mul, Int.natAbs_natCast, Nat.gcd_mul_right, Int.natCast_mul]
theorem gPk_mul {f : Int} (hf : 0 ≤ f) (g : Int) (p : Pn) : gPk (g * f) (scP f p) = gPk g p * f := by
  unfold gPk scP
  rw [gI_mul hf, gI_mul hf]
theorem gBl_mul {f : Int} (hf : 0 ≤ f) (g : Int) (b : Bl) : gBl (g * f) (scB f b) = gBl g b * f := by
  unfold gBl scB
  show gI (g * f) (gI (gI (b.x * f) (b.y * f)) (b.m * f)) = _
  rw [gI_mul hf, gI_mul hf, gI_mul hf]
theorem gPks_mul {f : Int} (hf : 0 ≤ f) : ∀ (l : List Pn) (g : Int), (l.map (scP f)).foldl gPk (g * f) = l.foldl gPk g * f
  | [], g => rfl
  | p :: l, g => by rw [List.map_cons, List.foldl_cons, gPk_mul hf, gPks_mul hf l, List.foldl_cons]
theorem gBls_mul {f : Int} (hf : 0 ≤ f) : ∀ (l : List Bl) (g : Int), (l.map (scB f)).foldl gBl (g * f) = l.foldl gBl g * f
  | [], g => rfl
  | p :: l, g => by rw [List.map_cons, List.foldl_cons, gBl_mul hf, gBls_mul hf l, List.foldl_cons]
theorem gfac_mul {f : Int} (hf : 0 ≤ f) (w h : Int) (pk : List Pn) (bs : List Bl) : gfac (w * f) (h * f) (pk.map (scP f)) (bs.map (scB f)) = gfac w h pk bs * f := by
  unfold gfac
  rw [gI_mul hf, gPks_mul hf, gBls_mul hf]
theorem gPks_dvd : ∀ (l : List Pn) (g : Int), (l.foldl gPk g ∣ g) ∧ ∀ p ∈ l, (l.foldl gPk g ∣ p.1) ∧ (l.foldl gPk g ∣ p.2)
  | [], g => ⟨Int.dvd_refl g, fun p hp => by cases hp⟩
  | q :: l, g => by
    obtain ⟨h1, h2⟩ := gPks_dvd l (gPk g q)
    rw [List.foldl_cons]
    have hq : gPk g q ∣ gI q.1 q.2 := gI_dr ..
    refine ⟨Int.dvd_trans h1 (gI_dl ..), fun p hp => ?_⟩
    rcases List.mem_cons.mp hp with rfl | hp
    · exact ⟨Int.dvd_trans h1 (Int.dvd_trans hq (gI_dl ..)), Int.dvd_trans h1 (Int.dvd_trans hq (gI_dr ..))⟩
    · exact h2 p hp
theorem gBls_dvd : ∀ (l : List Bl) (g : Int), (l.foldl gBl g ∣ g) ∧ ∀ b ∈ l, (l.foldl gBl g ∣ b.x) ∧ (l.foldl gBl g ∣ b.y) ∧ (l.foldl gBl g ∣ b.m)
  | [], g => ⟨Int.dvd_refl g, fun p hp => by cases hp⟩
  | q :: l, g => by
    obtain ⟨h1, h2⟩ := gBls_dvd l (gBl g q)
    rw [List.foldl_cons]
    have hq : gBl g q ∣ gI (gI q.x q.y) q.m := gI_dr ..
    have hxy : gBl g q ∣ gI q.x q.y := Int.dvd_trans hq (gI_dl ..)
    refine ⟨Int.dvd_trans h1 (gI_dl ..), fun p hp => ?_⟩
    rcases List.mem_cons.mp hp with rfl | hp
    · exact ⟨Int.dvd_trans h1 (Int.dvd_trans hxy (gI_dl ..)), Int.dvd_trans h1 (Int.dvd_trans hxy (gI_dr ..)), Int.dvd_trans h1 (Int.dvd_trans hq (gI_dr ..))⟩
    · exact h2 p hp
theorem gfac_dvd (w h : Int) (pk : List Pn) (bs : List Bl) : (gfac w h pk bs ∣ w) ∧ (gfac w h pk bs ∣ h) ∧ (∀ p ∈ pk, (gfac w h pk bs ∣ p.1) ∧ (gfac w h pk bs ∣ p.2)) ∧ ∀ b ∈ bs, (gfac w h pk bs ∣ b.x) ∧ (gfac w h pk bs ∣ b.y) ∧ (gfac w h pk bs ∣ b.m) := by
  unfold gfac
  obtain ⟨a1, a2⟩ := gPks_dvd pk (gI w h)
  obtain ⟨b1, b2⟩ := gBls_dvd bs (pk.foldl gPk (gI w h))
  exact ⟨Int.dvd_trans b1 (Int.dvd_trans a1 (gI_dl ..)), Int.dvd_trans b1 (Int.dvd_trans a1 (gI_dr ..)), fun p hp => ⟨Int.dvd_trans b1 (a2 p hp).1, Int.dvd_trans b1 (a2 p hp).2⟩, b2⟩
theorem gPks_nn : ∀ (l : List Pn) (g : Int), 0 ≤ g → 0 ≤ l.foldl gPk g
  | [], _, h => h
  | p :: l, g, _ => gPks_nn l _ (gI_nn ..)
theorem gBls_nn : ∀ (l : List Bl) (g : Int), 0 ≤ g → 0 ≤ l.foldl gBl g
  | [], _, h => h
  | p :: l, g, _ => gBls_nn l _ (gI_nn ..)
theorem gfac_pos {w h : Int} {pk : List Pn} {bs : List Bl} (hw : 0 < w) : 0 < gfac w h pk bs := by
  have h0 : 0 ≤ gfac w h pk bs := gBls_nn bs _ (gPks_nn pk _ (gI_nn ..))
  have h1 := (gfac_dvd w h pk bs).1
  rcases Int.lt_or_eq_of_le h0 with q | q
  · exact q
  · rw [← q] at h1
    have := Int.zero_dvd.mp h1
    omega
/-- the figures that the law gathers -/
def figP (a : List Int) (p : Pn) : List Int := a ++ [p.1, p.2]
def figB (a : List Int) (b : Bl) : List Int := a ++ [b.x, b.y, b.m]
def figs (w h : Int) (pk : List Pn) (bs : List Bl) : List Int := bs.foldl figB (pk.foldl figP [w, h])
theorem common_app (a b : List Int) : commonOf (a ++ b) = b.foldl gI (commonOf a) := by unfold commonOf; rw [List.foldl_append]
theorem figP_common : ∀ (l : List Pn) (a : List Int), commonOf (l.foldl figP a) = l.foldl gPk (commonOf a)
  | [], _ => rfl
  | p :: l, a => by
    rw [List.foldl_cons, figP_common l, List.foldl_cons]
    have : commonOf (figP a p) = gPk (commonOf a) p := by
      unfold figP gPk
      rw [common_app]
      exact gI_assoc ..
    rw [this]
theorem figB_common : ∀ (l : List Bl) (a : List Int), commonOf (l.foldl figB a) = l.foldl gBl (commonOf a)
  | [], _ => rfl
  | b :: l, a => by
    rw [List.foldl_cons, figB_common l, List.foldl_cons]
    have : commonOf (figB a b) = gBl (commonOf a) b := by
      unfold figB gBl
      rw [common_app]
      show gI (gI (gI (commonOf a) b.x) b.y) b.m = _
      rw [gI_assoc (commonOf a), gI_assoc (commonOf a)]
    rw [this]
theorem figs_common {w h : Int} (hw : 0 ≤ w) (pk : List Pn) (bs : List Bl) : commonOf (figs w h pk bs) = gfac w h pk bs := by
  unfold figs gfac
  rw [figB_common, figP_common]
  have : commonOf [w, h] = gI w h := by
    show gI (gI 0 w) h = gI w h
    obtain ⟨n, rfl⟩ := Int.eq_ofNat_of_zero_le hw
    have : gI 0 (n : Int) = (n : Int) := by unfold gI; simp
    rw [this]
  rw [this]
theorem figs_bd {w h M : Int} {pk : List Pn} {bs : List Bl} (hw : 0 ≤ w ∧ w < M) (hh : 0 ≤ h ∧ h < M) (hp : ∀ p ∈ pk, (0 ≤ p.1 ∧ p.1 < M) ∧ (0 ≤ p.2 ∧ p.2 < M)) (hb : ∀ b ∈ bs, (0 ≤ b.x ∧ b.x < M) ∧ (0 ≤ b.y ∧ b.y < M) ∧ (0 ≤ b.m ∧ b.m < M)) : ∀ x ∈ figs w h pk bs, 0 ≤ x ∧ x < M := by
  have h1 : ∀ (l : List Pn) (a : List Int), (∀ x ∈ a, 0 ≤ x ∧ x < M) → (∀ p ∈ l, (0 ≤ p.1 ∧ p.1 < M) ∧ (0 ≤ p.2 ∧ p.2 < M)) → ∀ x ∈ l.foldl figP a, 0 ≤ x ∧ x < M := by
    intro l
    induction l with
    | nil => exact fun a ha _ => ha
    | cons p l ih =>
      intro a ha hl
      refine ih _ (fun x hx => ?_) fun q hq => hl q (List.mem_cons_of_mem _ hq)
      rcases List.mem_append.mp hx with hx | hx
      · exact ha x hx
      · have := hl p List.mem_cons_self
        rcases (show x = _ ∨ x = _ by simpa using hx) with rfl | rfl
        · exact this.1
        · exact this.2
  have h2 : ∀ (l : List Bl) (a : List Int), (∀ x ∈ a, 0 ≤ x ∧ x < M) → (∀ b ∈ l, (0 ≤ b.x ∧ b.x < M) ∧ (0 ≤ b.y ∧ b.y < M) ∧ (0 ≤ b.m ∧ b.m < M)) → ∀ x ∈ l.foldl figB a, 0 ≤ x ∧ x < M := by
    intro l
    induction l with
    | nil => exact fun a ha _ => ha
    | cons p l ih =>
      intro a ha hl
      refine ih _ (fun x hx => ?_) fun q hq => hl q (List.mem_cons_of_mem _ hq)
      rcases List.mem_append.mp hx with hx | hx
      · exact ha x hx
      · have := hl p List.mem_cons_self
        rcases (show x = _ ∨ x = _ ∨ x = _ by simpa using hx) with rfl | rfl | rfl
        · exact this.1
        · exact this.2.1
        · exact this.2.2
  refine h2 bs _ (h1 pk _ (fun x hx => ?_) hp) hb
  rcases (show x = _ ∨ x = _ by simpa using hx) with rfl | rfl
  · exact hw
  · exact hh
theorem dv_sc {c x : Int} (h : c ∣ x) : x / c * c = x := Int.ediv_mul_cancel h
theorem dvP_sc {c : Int} {p : Pn} (h : c ∣ p.1 ∧ c ∣ p.2) : scP c (dvP c p) = p := Prod.ext (dv_sc h.1) (dv_sc h.2)
theorem dvPs_sc {c : Int} {pk : List Pn} (h : ∀ p ∈ pk, c ∣ p.1 ∧ c ∣ p.2) : (pk.map (dvP c)).map (scP c) = pk := by
  rw [List.map_map]
  conv => rhs; rw [← List.map_id pk]
  exact List.map_congr_left fun p hp => dvP_sc (h p hp)
theorem dvBs_sc {c : Int} {bs : List Bl} (h : ∀ b ∈ bs, c ∣ b.x ∧ c ∣ b.y ∧ c ∣ b.m) : (bs.map (dvB c)).map (scB c) = bs := by
  rw [List.map_map]
  conv => rhs; rw [← List.map_id bs]
  refine List.map_congr_left fun b hb => ?_
  obtain ⟨h1, h2, h3⟩ := h b hb
  show scB c (dvB c b) = b
  unfold scB dvB
  show Bl.mk b.nm (b.x / c * c) (b.y / c * c) b.dx b.dy (b.m / c * c) = b
  rw [dv_sc h1, dv_sc h2, dv_sc h3]
theorem gfac_one {w h c : Int} {pk : List Pn} {bs : List Bl} (hw : 0 < w) (hc : c = gfac w h pk bs) : gfac (w / c) (h / c) (pk.map (dvP c)) (bs.map (dvB c)) = 1 := by
  obtain ⟨d1, d2, d3, d4⟩ := gfac_dvd w h pk bs
  rw [← hc] at d1 d2 d3 d4
  have c0 : 0 < c := by rw [hc]; exact gfac_pos hw
  have := gfac_mul (f := c) (by omega) (w / c) (h / c) (pk.map (dvP c)) (bs.map (dvB c))
  rw [dv_sc d1, dv_sc d2, dvPs_sc d3, dvBs_sc d4, ← hc] at this
  have h2 : 1 * c = gfac (w / c) (h / c) (pk.map (dvP c)) (bs.map (dvB c)) * c := by rw [← this, Int.one_mul]
  exact (Int.eq_of_mul_eq_mul_right (by omega) h2).symm
theorem onB_dv {w h c : Int} {p : Pn} (hc : 0 < c) (k : onB w h p = true) : onB (w / c) (h / c) (dvP c p) = true := by
  unfold onB at *
  simp only [Bool.and_eq_true, decide_eq_true_eq] at *
  exact ⟨⟨Int.ediv_nonneg k.1.1 (by omega), Int.ediv_le_ediv hc k.1.2⟩, Int.ediv_nonneg k.2.1 (by omega), Int.ediv_le_ediv hc k.2.2⟩
theorem dv_tab {w h c : Int} {pk : List Pn} {bs : List Bl} (k : TabOk w h pk) (hc : c = gfac w h pk bs) : TabOk (w / c) (h / c) (pk.map (dvP c)) := by
  obtain ⟨k1, k2, k3, k4⟩ := k
  unfold szB at k1
  simp only [Bool.and_eq_true, decide_eq_true_eq] at k1
  obtain ⟨d1, d2, d3, d4⟩ := gfac_dvd w h pk bs
  rw [← hc] at d1 d2 d3 d4
  have c0 : 0 < c := by rw [hc]; exact gfac_pos (by omega)
  refine ⟨?_, by rw [List.length_map]; exact k2, fun p hp => ?_, ?_⟩
  · unfold szB
    simp only [Bool.and_eq_true, decide_eq_true_eq]
    have a1 := Int.ediv_le_self (a := w) c (by omega)
    have a2 := Int.ediv_le_self (a := h) c (by omega)
    have a3 : 0 < w / c := Int.ediv_pos_of_pos_of_dvd (by omega) (by omega) d1
    have a4 : 0 < h / c := Int.ediv_pos_of_pos_of_dvd (by omega) (by omega) d2
    omega
  · obtain ⟨q, hq, rfl⟩ := List.mem_map.mp hp
    exact onB_dv c0 (k3 q hq)
  · refine List.pairwise_map.mpr (List.Pairwise.imp_of_mem (fun {a b} ha hb hne e => hne ?_) k4)
    have := congrArg (scP c) e
    rw [dvP_sc (d3 a ha), dvP_sc (d3 b hb)] at this
    exact this
theorem okdv {w h c : Int} {b : Bl} (hc : 0 < c) (k : okBl w h b = true) : okBl (w / c) (h / c) (dvB c b) = true := by
  unfold okBl at *
  simp only [Bool.and_eq_true, decide_eq_true_eq] at *
  obtain ⟨⟨a1, a2, a3, a4⟩, a5⟩ := k
  refine ⟨⟨a1, onB_dv hc a2, Int.ediv_nonneg a3 (by omega), Int.le_trans (Int.ediv_le_self c a3) a4⟩, a5⟩
theorem okscB {w h f : Int} {b : Bl} (hf : 1 ≤ f) (hm : b.m * f ≤ M30) (k : okBl w h b = true) : okBl (w * f) (h * f) (scB f b) = true := by
  unfold okBl at *
  simp only [Bool.and_eq_true, decide_eq_true_eq] at *
  obtain ⟨⟨a1, a2, a3, a4⟩, a5⟩ := k
  refine ⟨⟨a1, ?_, Int.mul_nonneg a3 (by omega), hm⟩, a5⟩
  have := onB_sc hf a2
  rw [Int.mul_comm f w, Int.mul_comm f h] at this
  exact this
theorem dv_factor {w h c : Int} {pk : List Pn} {bs : List Bl} (hw : 0 < w) (hc : c = gfac w h pk bs) : factorOf (w / c) (h / c) (pk.map (dvP c)) w h pk = .int c := by
  obtain ⟨d1, d2, d3, d4⟩ := gfac_dvd w h pk bs
  rw [← hc] at d1 d2 d3 d4
  have c0 : 0 < c := by rw [hc]; exact gfac_pos hw
  have q : w / (w / c) = c := by
    have a3 : 0 < w / c := Int.ediv_pos_of_pos_of_dvd hw (by omega) d1
    have e : w = w / c * c := (dv_sc d1).symm
    conv => lhs; arg 1; rw [e]
    exact Int.mul_ediv_cancel_left c (by omega)
  unfold factorOf
  rw [q, dv_sc d1, dv_sc d2, dvPs_sc d3, if_neg (by simp), if_neg (by simp)]
theorem sc_factor {w h f : Int} {pk : List Pn} (hw : 0 < w) : factorOf w h pk (w * f) (h * f) (pk.map (scP f)) = .int f := by
  unfold factorOf
  rw [Int.mul_ediv_cancel_left f (by omega), if_neg (by simp), if_neg (by simp)]
theorem sc_factor2 {w h f : Int} {pk : List Pn} (hw : 0 < w) (hf : 1 ≤ f) : factorOf (w * f) (h * f) (pk.map (scP f)) w h pk = if f = 1 then .int 1 else .non := by
  by_cases h1 : f = 1
  · subst h1
    have e : pk.map (scP 1) = pk := by
      conv => rhs; rw [← List.map_id pk]
      exact List.map_congr_left fun p _ => Prod.ext (Int.mul_one _) (Int.mul_one _)
    unfold factorOf
    rw [Int.mul_one, Int.mul_one, Int.ediv_self (by omega), e, e, Int.mul_one, Int.mul_one, if_neg (by simp), if_neg (by simp), if_pos rfl]
  · rw [if_neg h1]
    unfold factorOf
    have hlt : w < w * f := by
      have := Int.mul_le_mul_of_nonneg_left (show 2 ≤ f by omega) (show 0 ≤ w by omega)
      omega
    rw [Int.ediv_eq_zero_of_lt (by omega) hlt, Int.mul_zero, if_pos (.inl (by omega))]
theorem kit_ownT {K : PySem.W.Frag} {D : Addr} {T : String} {b : Bool} (h : PySem.W.subIn K (.ref D) (.type T) = some b) (hm : PySem.W.kitMeta T = true) : PySem.W.kitOne K (.ref D) (.type T) = some b := by
  unfold PySem.W.kitOne PySem.W.kitCls
  rw [if_neg (by simp)]
  show (if PySem.W.kitMeta T = true then PySem.W.subIn K (.ref D) (.type T) else none) = some b
  rw [if_pos hm, h]
theorem exm_ref {K : PySem.W.Frag} {D C : Addr} {b : Bool} (h1 : PySem.W.subIn K (.ref C) (.type "BaseException") = some true) (hc : (PySem.W.clsIn K C).isSome = true) (ht : PySem.W.typeIn K (.ref C) = some (.type "type")) (h : PySem.W.subIn K (.ref D) (.ref C) = some b) : PySem.W.exmOne K (.ref D) (.ref C) = some b := by
  unfold PySem.W.exmOne PySem.W.kitCls
  rw [h1, if_pos (by rfl)]
  show (if ((PySem.W.clsIn K C).isSome && PySem.W.typeIn K (.ref C) == some (.type "type")) = true then PySem.W.subIn K (.ref D) (.ref C) else none) = some b
  rw [hc, ht, if_pos (by rfl), h]
theorem clsIn_of {K : PySem.W.Frag} {C : Addr} (h : PySem.W.hasDictIn K C = true) : (PySem.W.clsIn K C).isSome = true := by
  obtain ⟨cd, hc, _⟩ := PySem.W.any_some h
  rw [hc]; rfl
def nm3 : List Str := ["one", "two", "three"]
def balls3 (ns : List Int) (w h : Int) : List Bl := (List.range (nth ns 9 % 4).toNat).map fun (k : Nat) => ballOf ns (10 + 6 * (0 + (k : Int))) (nm3.getD k "") w h
theorem nm3_at {k : Nat} (h : k < 3) : atI (nm3.map D.str) (0 + (k : Int)) = some (.str (nm3.getD k "")) := by
  refine ix_map (by omega) ?_
  rw [List.getD_eq_getElem?_getD, show (0 + (k : Int)).toNat = k by omega, List.getElem?_eq_getElem (show k < nm3.length from h)]
  rfl
theorem nm3_ok : ∀ k : Nat, k < 3 → isNm (nm3.getD k "") = true ∧ (nm3.getD k "").length ≤ 1000000 := by
  intro k hk
  have : k = 0 ∨ k = 1 ∨ k = 2 := by omega
  rcases this with rfl | rfl | rfl <;> exact ⟨by decide +kernel, by decide⟩
theorem b3_n (ns : List Int) : (nth ns 9 % 4).toNat ≤ 3 := by omega
theorem b3_mem {ns : List Int} {w h : Int} {b : Bl} (hb : b ∈ balls3 ns w h) : ∃ k : Nat, k < 3 ∧ b = ballOf ns (10 + 6 * (0 + (k : Int))) (nm3.getD k "") w h := by
  obtain ⟨k, hk, rfl⟩ := List.mem_map.mp hb
  exact ⟨k, by have := List.mem_range.mp hk; have := b3_n ns; omega, rfl⟩
theorem b3_nodup (ns : List Int) (w h : Int) : ((balls3 ns w h).map Bl.nm).Nodup := by
  have e : (balls3 ns w h).map Bl.nm = (List.range (nth ns 9 % 4).toNat).map fun (k : Nat) => nm3.getD k "" := by unfold balls3; rw [List.map_map]; rfl
  rw [e]
  have hn := b3_n ns
  generalize (nth ns 9 % 4).toNat = n at hn
  have : n = 0 ∨ n = 1 ∨ n = 2 ∨ n = 3 := by omega
  rcases this with rfl | rfl | rfl | rfl <;> decide +kernel
theorem b3_ok {w h : Int} {bs : List Bl} (h1 : ∀ b ∈ bs, okBl w h b = true) (h2 : (bs.map Bl.nm).Nodup) (h3 : bs.length ≤ 12) : BsOk w h (bs.map .six) := by
  refine ⟨fun b hb => ?_, ?_, by rw [List.length_map]; exact h3⟩
  · obtain ⟨c, hc, rfl⟩ := List.mem_map.mp hb
    exact h1 c hc
  · rw [List.map_map]; exact h2
theorem blD_sh {b : Bl} (h : isNm b.nm = true) : Sh 1 (blD b) := fun d hd => by
  rcases (show d = _ ∨ d = _ ∨ d = _ ∨ d = _ ∨ d = _ ∨ d = _ by simpa [blD] using hd) with rfl | rfl | rfl | rfl | rfl | rfl
  · exact isNm_strOk h
  all_goals exact True.intro
theorem bls_sh {bs : List Bl} (h : ∀ b ∈ bs, isNm b.nm = true) : Sh 2 (.lst (bs.map blD)) := fun d hd => by
  obtain ⟨b, hb, rfl⟩ := List.mem_map.mp hd
  exact blD_sh (h b hb)
theorem tup_sh (l : List Pn) : Sh 2 (.tup (l.map ptD)) := fun d hd => by obtain ⟨p, _, rfl⟩ := List.mem_map.mp hd; exact ptD_sh p
theorem i2_sh (a b : Int) : Sh 1 (.lst [.int a, .int b]) := fun d hd => by rcases (show d = _ ∨ d = _ by simpa using hd) with rfl | rfl <;> exact True.intro
theorem okBl_nm {w h : Int} {b : Bl} (k : okBl w h b = true) : isNm b.nm = true := by
  unfold okBl at k
  exact (Bool.and_eq_true_iff.mp (Bool.and_eq_true_iff.mp k).1).1
theorem okBl_bg {w h : Int} {b : Bl} (k : okBl w h b = true) : (0 ≤ b.x ∧ b.x ≤ w) ∧ (0 ≤ b.y ∧ b.y ≤ h) ∧ (0 ≤ b.m ∧ b.m ≤ M30) := by
  unfold okBl onB at k
  simp only [Bool.and_eq_true, decide_eq_true_eq] at k
  obtain ⟨⟨a1, ⟨a2, a3⟩, a4⟩, a5⟩ := k
  exact ⟨a2, a3, a4⟩
theorem cut_two {P : Prop} (a b : Bl) (h : a.nm = b.nm) : ¬ (([Bd.six a, Bd.six b].map Bd.nm).Nodup) := by
  intro hn
  have : (a.nm :: [b.nm]).Nodup := hn
  rw [h] at this
  simp at this
theorem fac_sh (w h : Int) (pk : List Pn) (w2 h2 : Int) (pk2 : List Pn) : Sh 0 (factorOf w h pk w2 h2 pk2) := by
  unfold factorOf
  split
  · exact True.intro
  split
  · exact True.intro
  · exact True.intro
abbrev N_law : List Str := ["_law_script", "_law_numbers_here", "_law_parts", "_law_width", "_law_height", "_law_pockets", "_law_factor_here", "_law_table_here", "_law_names", "_law_balls", "_law_k", "_law_great", "_law_large", "_law_ball_here", "_law_figures", "_law_point", "_law_common_here", "_law_told", "_law_x", "_law_y", "_law_name", "_law_dx", "_law_dy", "_law_minute", "_law_other_here", "_law_fits", "_law_due", "e"]
theorem sc_law : FnScope N_law ["_law_script"] (defScope s_law) := ⟨rfl, rfl, rfl, by decide +kernel, rfl, by decide +kernel, by decide +kernel⟩
theorem ok_law (bi : Bis mg) {C_Table C_InvalidTable C_InvalidBall : Addr} (T : TabC K C_Table) (X_InvalidBall : XCls K mg "InvalidBall" C_InvalidBall) (EC_InvalidBall : ExcC K C_InvalidBall) (S1 : PySem.W.subIn K (.ref C_InvalidBall) (.ref C_InvalidBall) = some true) (S2 : PySem.W.subIn K (.ref C_InvalidBall) (.type "ValueError") = some true)
    (hmtuple : mg "tuple" = none) (hmVE : mg "ValueError" = none) (G__law_numbers : Defn P w K mg base 2 "_law_numbers" [] S__law_numbers) (G__law_table : Defn P w K mg base 1 "_law_table" [] S__law_table) (G__law_ball : Defn P w K mg base 1 "_law_ball" [] S__law_ball) (G__law_factor : Defn P w K mg base 1 "_law_factor" [] S__law_factor) (G__law_common : Defn P w K mg base 1 "_law_common" [] S__law_common)
    (G__law_other : Defn P w K mg base 4 "_law_other" [] (S__law_other C_Table)) (G_Table : Mkr P w K mg base 2 "Table" C_Table [] (S_Table C_Table C_InvalidTable)) (G_enlarged : Defn P w K mg base 4 "enlarged" [] (S_enlarged C_Table)) (G_enlarged_ball : Defn P w K mg base 5 "enlarged_ball" [] (S_enlarged_ball C_Table)) (G_greatest_factor : Defn P w K mg base 5 "greatest_factor" [] (S_greatest_factor C_Table C_InvalidBall))
    (G_reduced : Defn P w K mg base 6 "reduced" [] (S_reduced C_Table C_InvalidBall)) (G_factor_of : Defn P w K mg base 1 "factor_of" [] (S_factor_of C_Table))
    {f : Addr} {fd : FuncData} (F : Fun K "law" "law" s_law f fd) : FnOk P w K mg base (L2.CX P w) 7 f fd ["_law_script"] (spD K SLaw) := by
  refine fn_D F sc_law (by decide) (fun ds o h => ?_) (fun ds o h B cdv A outer s H E hr => ?_)
  · obtain ⟨ns, rfl, _⟩ := h; rfl
  · obtain ⟨sc, rfl, hsc, rfl⟩ := h
    have hl : (lawNumbers sc 70).length = 70 := lawNumbers_len sc (by decide)
    have hi := lawNumbers_in sc (m := 70) (by decide)
    show WS _ _ _ [.dat (.lst (sc.map .int)), .un, .un, .un, .un, .un, .un, .un, .un, .un, .un, .un, .un, .un, .un, .un, .un, .un, .un, .un, .un, .un, .un, .un, .un, .un, .un, .un] _
    refine ws_cons (w1_set 1 sc_law.nd (re_frz (re_call G__law_numbers (hr.mono (by decide)) (rl_cons (re_var 0 rfl) (rl_cons re_int rl_nil)) ⟨sc, 70, rfl, by decide, by decide, rfl⟩)) ?_)
    generalize lawNumbers sc 70 = ns at hl hi
    have hW := tabW_in ns 0
    have hH := tabH_in ns 0
    obtain ⟨hPn, hPo, hPl⟩ := tabP_ok ns 0
    have hTab := tab_ok ns 0
    have hf := facOf_in hi
    have hb0 : ∀ b ∈ balls3 ns (tabW ns 0) (tabH ns 0), okBl (tabW ns 0) (tabH ns 0) b = true ∧ b.nm.length ≤ 1000000 ∧ 0 ≤ b.m ∧ b.m ≤ 4 := fun b hb => by
      obtain ⟨k, hk, rfl⟩ := b3_mem hb
      exact ⟨ball_ok ns _ (nm3_ok k hk).1 (by omega) (by omega), (nm3_ok k hk).2, ball_m ..⟩
    have hbl : (balls3 ns (tabW ns 0) (tabH ns 0)).length ≤ 3 := by unfold balls3; rw [List.length_map, List.length_range]; exact b3_n ns
    have hbn := b3_nodup ns (tabW ns 0) (tabH ns 0)
    show WS _ _ _ [_, _, _, _, _, _, _, _, _, _, _, _, _, _, _, _, _, _, _, _, _, _, _, _, _, _, _, _] _
    refine ws_cons (w1_set 2 sc_law.nd (re_call G__law_table (hr.mono (by decide)) (rl_cons (re_var 1 rfl) (rl_cons re_int rl_nil)) ⟨ns, 0, rfl, by decide, by omega, by omega, rfl⟩) ?_)
    show WS _ _ _ [_, _, _, _, _, _, _, _, _, _, _, _, _, _, _, _, _, _, _, _, _, _, _, _, _, _, _, _] _
    refine ws_cons (w1_asg (pg_tup rfl (pgs_cons (pg_name (i := 3) sc_law.nd rfl (Or.inr rfl)) (pgs_cons (pg_name (i := 4) sc_law.nd rfl (Or.inr rfl)) (pgs_cons (pg_name (i := 5) sc_law.nd rfl (Or.inl rfl)) pgs_nil)))) (re_var 2 rfl) (rg_tup rfl (rgs_cons (rg_name 3) (rgs_cons (rg_name 4) (rgs_cons (rg_name 5) rgs_nil)))) ?_)
    show WS _ _ _ [_, _, _, _, _, _, _, _, _, _, _, _, _, _, _, _, _, _, _, _, _, _, _, _, _, _, _, _] _
    refine ws_cons (w1_set 6 sc_law.nd (re_call G__law_factor (hr.mono (by decide)) (rl_cons (re_var 1 rfl) rl_nil) ⟨ns, rfl, hl, rfl⟩) ?_)
    show WS _ _ _ [_, _, _, _, _, _, _, _, _, _, _, _, _, _, _, _, _, _, _, _, _, _, _, _, _, _, _, _] _
    refine ws_cons (w1_set 7 sc_law.nd (re_mk G_Table (hr.mono (by decide)) (rl_cons (re_var 3 rfl) (rl_cons (re_var 4 rfl) (rl_cons (re_var 5 rfl) rl_nil))) ⟨_, _, false, _, rfl, by omega, .inl ⟨hTab, rfl⟩⟩) ?_)
    show WS _ _ _ [_, _, _, _, _, _, _, _, _, _, _, _, _, _, _, _, _, _, _, _, _, _, _, _, _, _, _, _] _
    refine ws_cons (w1_set 8 sc_law.nd (d := .lst (nm3.map .str)) (re_frz (re_lst (rl_cons re_str (rl_cons re_str (rl_cons re_str rl_nil))) (by show 3 ≤ sizeLine; rw [sizeLine_eq]; decide))) ?_)
    show WS _ _ _ [_, _, _, _, _, _, _, _, _, _, _, _, _, _, _, _, _, _, _, _, _, _, _, _, _, _, _, _] _
    refine ws_cons (w1_lc 9 (own := [("_law_k", 10)]) (Γw := [_, _, _, _, _, _, _, _, _, _, _, _, _, _, _, _, _, _, _, _, _, _, _, _, _, _, _, _]) (List.range (nth ns 9 % 4).toNat) (fun (k : Nat) => .int (0 + (k : Int))) (fun (k : Nat) => blD (ballOf ns (10 + 6 * (0 + (k : Int))) (nm3.getD k "") (tabW ns 0) (tabH ns 0))) rfl sc_law.nd (ri_range1 bi.range (re_mod (by omega) (re_intI bi.int (re_ix (rp_lst (re_var 1 rfl)) re_int (ix_ints (by omega) (by omega)))) re_int) (by omega) (by omega)) (blkOk_by (N := N_law) (sc := defScope s_law) (by decide +kernel)) (fun _ _ _ _ _ => (pg_name (i := 10) sc_law.nd rfl (Or.inl rfl))) (in_name (by decide)) mono_name rfl (by rw [List.length_range, sizeLine_eq]; omega) (fun k hk => ⟨_, fun _ => (rg_name 10), fun _ _ => (re_call G__law_ball (hr.mono (by decide)) (rl_cons (re_var 1 rfl) (rl_cons (re_add re_int (re_mul (.inl ⟨by omega, by omega⟩) re_int (re_var 10 rfl))) (rl_cons (re_ix (rp_lst (re_var 8 rfl)) (re_var 10 rfl) (nm3_at (by have := List.mem_range.mp hk; omega))) (rl_cons (re_var 3 rfl) (rl_cons (re_var 4 rfl) rl_nil))))) ⟨ns, _, _, _, _, rfl, by omega, by have := List.mem_range.mp hk; omega, by omega, by omega, rfl⟩)⟩) ?_ (sw_true rfl rfl rfl (by decide +kernel)))
    rw [show (List.range (nth ns 9 % 4).toNat).map (fun (k : Nat) => blD (ballOf ns (10 + 6 * (0 + (k : Int))) (nm3.getD k "") (tabW ns 0) (tabH ns 0))) = (balls3 ns (tabW ns 0) (tabH ns 0)).map blD by unfold balls3; rw [List.map_map]; rfl]
    have hfT : TabOk (tabW ns 0 * facOf ns) (tabH ns 0 * facOf ns) ((tabP ns 0).map (scP (facOf ns))) := by
      have e30 : (7 : Int) * 1009 ^ 7 * 6 + 1 ≤ M30 := by decide +kernel
      have fw := Int.mul_le_mul_of_nonneg_left hW.1 (show 0 ≤ facOf ns by omega)
      have fw2 := Int.mul_le_mul_of_nonneg_left hW.2 (show 0 ≤ facOf ns by omega)
      have fh := Int.mul_le_mul_of_nonneg_left hH.1 (show 0 ≤ facOf ns by omega)
      have fh2 := Int.mul_le_mul_of_nonneg_left hH.2 (show 0 ≤ facOf ns by omega)
      rw [Int.mul_comm (tabW ns 0), Int.mul_comm (tabH ns 0)]
      refine ⟨?_, by rw [List.length_map]; omega, fun q hq => ?_, sc_nodup hf.1 hPn⟩
      · unfold szB
        simp only [Bool.and_eq_true, decide_eq_true_eq]
        omega
      · obtain ⟨p, hp, rfl⟩ := List.mem_map.mp hq
        exact onB_sc hf.1 (hPo p hp)
    have hfw : 0 < tabW ns 0 * facOf ns ∧ tabW ns 0 * facOf ns < 2 ^ 100 ∧ 0 ≤ tabH ns 0 * facOf ns ∧ tabH ns 0 * facOf ns < 2 ^ 100 := by
      have e100 : (7 : Int) * 1009 ^ 7 * 6 < 2 ^ 100 := by decide +kernel
      have fw := Int.mul_le_mul_of_nonneg_left hW.1 (show 0 ≤ facOf ns by omega)
      have fw2 := Int.mul_le_mul_of_nonneg_left hW.2 (show 0 ≤ facOf ns by omega)
      have fh := Int.mul_le_mul_of_nonneg_left hH.1 (show 0 ≤ facOf ns by omega)
      have fh2 := Int.mul_le_mul_of_nonneg_left hH.2 (show 0 ≤ facOf ns by omega)
      rw [Int.mul_comm (tabW ns 0), Int.mul_comm (tabH ns 0)]
      omega
    have hb1 : ∀ b ∈ balls3 ns (tabW ns 0) (tabH ns 0), okBl (tabW ns 0 * facOf ns) (tabH ns 0 * facOf ns) (scB (facOf ns) b) = true := fun b hb => by
      obtain ⟨k1, k2, k3, k4⟩ := hb0 b hb
      refine okscB hf.1 ?_ k1
      have e30 : (7 : Int) * 1009 ^ 7 * 6 + 1 ≤ M30 := by decide +kernel
      have := Int.mul_le_mul_of_nonneg_right k4 (show 0 ≤ facOf ns by omega)
      omega
    have hbg0 : ∀ b ∈ balls3 ns (tabW ns 0) (tabH ns 0), Bg b.x ∧ Bg b.y ∧ Bg b.m := fun b hb => by
      obtain ⟨k1, k2, k3, k4⟩ := hb0 b hb
      have := okBl_bg k1
      unfold Bg
      omega
    have hBg := tabBg_of hTab
    have hfM : facOf ns ≤ M30 := by
      have e30 : (7 : Int) * 1009 ^ 7 * 6 + 1 ≤ M30 := by decide +kernel
      omega
    have hot := oth_due (ns := ns) (h := tabH ns 0) (pk := tabP ns 0) hW.1 hH.1 hf.1
    have hoK := oth_ok (ns := ns) hW hH hf.1 hf.2 hPn hPo hPl
    have hfb : facOf ns * 4 < 2 ^ 100 := by
      have e100 : (7 : Int) * 1009 ^ 7 * 6 < 2 ^ 100 := by decide +kernel
      omega
    generalize hx1 : balls3 ns (tabW ns 0) (tabH ns 0) = bs at hb0 hbl hbn hb1 hbg0
    generalize tabW ns 0 = tw at *
    generalize tabH ns 0 = th at *
    generalize tabP ns 0 = pk at *
    generalize facOf ns = fc at *
    show WS _ _ _ [_, _, _, _, _, _, _, _, _, _, _, _, _, _, _, _, _, _, _, _, _, _, _, _, _, _, _, _] _
    refine ws_cons (w1_set 11 sc_law.nd (re_call G_enlarged (hr.mono (by decide)) (rl_cons (re_var 7 rfl) (rl_cons (re_var 6 rfl) rl_nil)) ⟨_, _, _, _, rfl, hf.1, hfM, hBg, by omega, hfT, rfl⟩) ?_)
    show WS _ _ _ [_, _, _, _, _, _, _, _, _, _, _, _, _, _, _, _, _, _, _, _, _, _, _, _, _, _, _, _] _
    refine ws_frz 9 rfl ?_
    show WS _ _ _ [_, _, _, _, _, _, _, _, _, _, _, _, _, _, _, _, _, _, _, _, _, _, _, _, _, _, _, _] _
    refine ws_cons (w1_lc 12 (own := [("_law_ball_here", 13)]) (Γw := [_, _, _, _, _, _, _, _, _, _, _, _, _, _, _, _, _, _, _, _, _, _, _, _, _, _, _, _]) bs blD (fun b => blD (scB fc b)) rfl sc_law.nd (ri_list (re_var 9 rfl)) (blkOk_by (N := N_law) (sc := defScope s_law) (by decide +kernel)) (fun _ _ _ _ _ => (pg_name (i := 13) sc_law.nd rfl (Or.inl rfl))) (in_name (by decide)) mono_name rfl (by rw [sizeLine_eq]; omega) (fun b hb => ⟨_, fun _ => (rg_name 13), fun _ _ => (re_call G_enlarged_ball (hr.mono (by decide)) (rl_cons (re_var 7 rfl) (rl_cons (re_var 13 rfl) (rl_cons (re_var 6 rfl) rl_nil))) ⟨_, _, _, _, b, rfl, hf.1, hfM, hBg, by omega, hfT, (hb0 b hb).2.1, hbg0 b hb, (hb0 b hb).1, hb1 b hb, rfl⟩)⟩) ?_ (sw_true rfl rfl rfl (by decide +kernel)))
    rw [show bs.map (fun b => blD (scB fc b)) = (bs.map (scB fc)).map blD by rw [List.map_map]; rfl]
    have hLk : ∀ b ∈ bs.map (scB fc), okBl (tw * fc) (th * fc) b = true := fun b hb => by
      obtain ⟨c, hc, rfl⟩ := List.mem_map.mp hb
      exact hb1 c hc
    have hLm : ∀ b ∈ bs.map (scB fc), b.m < 2 ^ 100 := fun b hb => by
      obtain ⟨c, hc, rfl⟩ := List.mem_map.mp hb
      show c.m * fc < 2 ^ 100
      have := Int.mul_le_mul_of_nonneg_right (hb0 c hc).2.2.2 (show 0 ≤ fc by omega)
      omega
    have hLn : ((bs.map (scB fc)).map Bl.nm).Nodup := by rw [List.map_map]; exact hbn
    have hLl : (bs.map (scB fc)).length ≤ 3 := by rw [List.length_map]; exact hbl
    have hLs : ∀ b ∈ bs.map (scB fc), b.nm.length ≤ 1000000 := fun b hb => by
      obtain ⟨c, hc, rfl⟩ := List.mem_map.mp hb
      exact (hb0 c hc).2.1
    have hgm := gfac_mul (f := fc) (by omega) tw th pk bs
    have hQl : (pk.map (scP fc)).length ≤ 3 := by rw [List.length_map]; exact hPl
    have hsf := sc_factor (h := th) (f := fc) (pk := pk) (show 0 < tw by omega)
    have hsf2 := sc_factor2 (h := th) (f := fc) (pk := pk) (show 0 < tw by omega) hf.1
    generalize bs.map (scB fc) = lb at *
    generalize hqk : pk.map (scP fc) = qk at *
    generalize tw * fc = gw at *
    generalize th * fc = gh at *
    have hqb : ∀ p ∈ qk, (0 ≤ p.1 ∧ p.1 < 2 ^ 100) ∧ (0 ≤ p.2 ∧ p.2 < 2 ^ 100) := fun p hp => by
      have := hfT.2.2.1 p hp
      unfold onB at this
      simp only [Bool.and_eq_true, decide_eq_true_eq] at this
      omega
    have hlb : ∀ b ∈ lb, (0 ≤ b.x ∧ b.x < 2 ^ 100) ∧ (0 ≤ b.y ∧ b.y < 2 ^ 100) ∧ (0 ≤ b.m ∧ b.m < 2 ^ 100) := fun b hb => by
      have k := okBl_bg (hLk b hb)
      have := hLm b hb
      omega
    have hfg := figs_bd (w := gw) (h := gh) (M := 2 ^ 100) (pk := qk) (bs := lb) (by omega) (by omega) hqb hlb
    have hcm := figs_common (w := gw) (show 0 ≤ gw by omega) qk lb (h := gh)
    have hBs := b3_ok hLk hLn (by omega)
    have hfpos : 0 < gfac gw gh qk lb := gfac_pos hfw.1
    obtain ⟨dW, _, _, _⟩ := gfac_dvd gw gh qk lb
    have hcle : gfac gw gh qk lb ≤ gw := Int.le_of_dvd hfw.1 dW
    have hdT := dv_tab (bs := lb) hfT rfl
    have hone := gfac_one (h := gh) (pk := qk) (bs := lb) hfw.1 rfl
    have hdf := dv_factor (h := gh) (pk := qk) (bs := lb) hfw.1 rfl
    have hdBs : BsOk (gw / gfac gw gh qk lb) (gh / gfac gw gh qk lb) ((lb.map (dvB (gfac gw gh qk lb))).map .six) := b3_ok (fun b hb => by
      obtain ⟨c, hc, rfl⟩ := List.mem_map.mp hb
      exact okdv hfpos (hLk c hc)) (by rw [List.map_map]; exact hLn) (by rw [List.length_map]; omega)
    have hcf : gfac gw gh qk lb % fc = 0 := by rw [hgm]; exact Int.mul_emod_left ..
    have e200 : (2 : Int) ^ 100 < 2 ^ 200 := by decide +kernel
    have hqB := tabBg_of hfT
    have hdB := tabBg_of hdT
    have hoB := tabBg_of hoK
    show WS _ _ _ [_, _, _, _, _, _, _, _, _, _, _, _, _, _, _, _, _, _, _, _, _, _, _, _, _, _, _, _] _
    refine ws_cons (w1_set 14 sc_law.nd (re_frz (re_lst (rl_cons (re_fld (re_var 11 rfl) T.cls T.width rfl) (rl_cons (re_fld (re_var 11 rfl) T.cls T.height rfl) rl_nil)))) ?_)
    show WS _ _ _ [_, _, _, _, _, _, _, _, _, _, _, _, _, _, _, _, _, _, _, _, _, _, _, _, _, _, _, _] _
    refine ws_frz 12 rfl ?_
    refine ws_cons (w1_fold qk ptD (fun a : List Int => [.un, .dat (.lst (ns.map .int)), .dat (.tup [.int tw, .int th, .tup (pk.map ptD)]), .un, .un, .un, .dat (.int fc), .dat (tabD C_Table tw th pk), .un, .un, .un, .dat (tabD C_Table gw gh qk), .dat (.lst (lb.map blD)), .un, .dat (.lst (a.map .int)), .un, .un, .un, .un, .un, .un, .un, .un, .un, .un, .un, .un, .un]) figP [gw, gh] (passes_of rfl) rfl (ri_tup (re_fld (re_var 11 rfl) T.cls T.pockets rfl)) (pg_name (i := 15) sc_law.nd rfl (Or.inl rfl)) (by walk_at "wk") (fun pre x suf hx => ⟨_, (rg_name 15), ?_⟩) (fun Γ' hw => ?_))
    · have hpl : pre.length < 4 := by
        have := congrArg List.length hx
        rw [List.length_append, List.length_cons] at this
        omega
      have hal : (pre.foldl figP [gw, gh]).length = 2 + 2 * pre.length := by
        have : ∀ (l : List Pn) (a : List Int), (l.foldl figP a).length = a.length + 2 * l.length := by
          intro l
          induction l with
          | nil => intro a; simp
          | cons p l ih => intro a; rw [List.foldl_cons, ih]; unfold figP; simp; omega
        rw [this]; rfl
      generalize pre.foldl figP [gw, gh] = a at hal ⊢
      show WS _ _ _ [_, _, _, _, _, _, _, _, _, _, _, _, _, _, _, _, _, _, _, _, _, _, _, _, _, _, _, _] _
      refine ws_cons (w1_set 14 sc_law.nd (d := .lst ((figP a x).map .int)) (re_is (re_frz (re_addL (es := [.int x.1, .int x.2]) (by rw [List.length_map, sizeLine_eq]; show _ + 2 ≤ _; omega) (re_var 14 rfl) (re_frz (re_list bi.list (rp_tup (re_var 15 rfl)))))) (by unfold figP; rw [List.map_append]; rfl)) ?_)
      show WS _ _ _ [_, _, _, _, _, _, _, _, _, _, _, _, _, _, _, _, _, _, _, _, _, _, _, _, _, _, _, _] _
      exact ws_nil ⟨_, .refl _, by walk_at "wk"⟩
    refine ws_wk hw ?_
    have hal0 : (qk.foldl figP [gw, gh]).length = 2 + 2 * qk.length := by
      have : ∀ (l : List Pn) (a : List Int), (l.foldl figP a).length = a.length + 2 * l.length := by
        intro l
        induction l with
        | nil => intro a; simp
        | cons p l ih => intro a; rw [List.foldl_cons, ih]; unfold figP; simp; omega
      rw [this]; rfl
    refine ws_cons (w1_fold lb blD (fun a : List Int => [.un, .dat (.lst (ns.map .int)), .dat (.tup [.int tw, .int th, .tup (pk.map ptD)]), .un, .un, .un, .dat (.int fc), .dat (tabD C_Table tw th pk), .un, .un, .un, .dat (tabD C_Table gw gh qk), .dat (.lst (lb.map blD)), .un, .dat (.lst (a.map .int)), .un, .un, .un, .un, .un, .un, .un, .un, .un, .un, .un, .un, .un]) figB (qk.foldl figP [gw, gh]) (passes_of rfl) rfl (ri_list (re_var 12 rfl)) (pg_name (i := 13) sc_law.nd rfl (Or.inl rfl)) (by walk_at "wk") (fun pre x suf hx => ⟨_, (rg_name 13), ?_⟩) (fun Γ' hw => ?_))
    · have hpl : pre.length < 4 := by
        have := congrArg List.length hx
        rw [List.length_append, List.length_cons] at this
        omega
      have hal : (pre.foldl figB (qk.foldl figP [gw, gh])).length = 2 + 2 * qk.length + 3 * pre.length := by
        have : ∀ (l : List Bl) (a : List Int), (l.foldl figB a).length = a.length + 3 * l.length := by
          intro l
          induction l with
          | nil => intro a; simp
          | cons p l ih => intro a; rw [List.foldl_cons, ih]; unfold figB; simp; omega
        rw [this, hal0]
      generalize pre.foldl figB (qk.foldl figP [gw, gh]) = a at hal ⊢
      show WS _ _ _ [_, _, _, _, _, _, _, _, _, _, _, _, _, _, _, _, _, _, _, _, _, _, _, _, _, _, _, _] _
      refine ws_cons (w1_set 14 sc_law.nd (d := .lst ((figB a x).map .int)) (re_is (re_frz (re_addL (es := [.int x.x, .int x.y, .int x.m]) (by rw [List.length_map, sizeLine_eq]; show _ + 3 ≤ _; omega) (re_var 14 rfl) (re_frz (re_lst (rl_cons (re_ix (rp_tup (re_var 13 rfl)) re_int (atI_nat (n := 1) rfl)) (rl_cons (re_ix (rp_tup (re_var 13 rfl)) re_int (atI_nat (n := 2) rfl)) (rl_cons (re_ix (rp_tup (re_var 13 rfl)) re_int (atI_nat (n := 5) rfl)) rl_nil))))))) (by unfold figB; rw [List.map_append]; rfl)) ?_)
      show WS _ _ _ [_, _, _, _, _, _, _, _, _, _, _, _, _, _, _, _, _, _, _, _, _, _, _, _, _, _, _, _] _
      exact ws_nil ⟨_, .refl _, by walk_at "wk"⟩
    refine ws_wk hw ?_
    show WS _ _ _ [_, _, _, _, _, _, _, _, _, _, _, _, _, _, .dat (.lst ((figs gw gh qk lb).map .int)), _, _, _, _, _, _, _, _, _, _, _, _, _] _
    refine ws_cons (w1_set 16 sc_law.nd (d := .int (gfac gw gh qk lb)) (re_is (re_call G__law_common (hr.mono (by decide)) (rl_cons (re_var 14 rfl) rl_nil) ⟨_, rfl, hfg, rfl⟩) (by rw [hcm])) ?_)
    show WS _ _ _ [_, _, _, _, _, _, _, _, _, _, _, _, _, _, _, _, _, _, _, _, _, _, _, _, _, _, _, _] _
    refine ws_cons (w1_if (k1 := false || false) (rt_w (rw_or (rt_is (rt_co (c_neS (re_call G_greatest_factor (hr.mono (by decide)) (rl_cons (re_var 11 rfl) (rl_cons (re_var 12 rfl) rl_nil)) ⟨_, _, _, lb, rfl, hLs, by omega, .inl ⟨hBs, rfl⟩⟩) (re_var 16 rfl) rfl)) (by simp)) (fun hb => (rw_or1 (rt_is (rt_co (c_neS (re_mod (by omega) (re_intI bi.int (re_var 16 rfl)) (re_var 6 rfl)) re_int rfl)) (by rw [hcf]; rfl)))))) (fun hb => by cases hb) (fun hb => ?_))
    refine ws_nil ?_
    generalize hc : gfac gw gh qk lb = c at *
    show WS _ _ _ [_, _, _, _, _, _, _, _, _, _, _, _, _, _, _, _, _, _, _, _, _, _, _, _, _, _, _, _] _
    refine ws_cons (w1_set 17 sc_law.nd (d := .tup [tabD C_Table (gw / c) (gh / c) (qk.map (dvP c)), .lst ((lb.map (dvB c)).map blD)]) (re_call G_reduced (hr.mono (by decide)) (rl_cons (re_var 11 rfl) (rl_cons (re_var 12 rfl) rl_nil)) ⟨_, _, _, lb, rfl, hLs, by omega, by omega, .inl ⟨hBs, c, hc.symm, by omega, hdT, rfl⟩⟩) ?_)
    show WS _ _ _ [_, _, _, _, _, _, _, _, _, _, _, _, _, _, _, _, _, .dat (.tup [tabD C_Table (gw / c) (gh / c) (qk.map (dvP c)), .lst ((lb.map (dvB c)).map blD)]), _, _, _, _, _, _, _, _, _, _] _
    have cD : ∀ i : Int, CDivW i c := fun i => big_div hfpos (by omega)
    refine ws_cons (w1_if (k1 := false || false) (rt_w (rw_or (rt_not (rt_val (re_isi "tuple" "tuple" (r := true) bi.isinstance hmtuple (re_var 17 rfl)))) (fun hb => (rw_or1 (rt_is (rt_co (c_neD (n := 1) (m := 1) (d1 := .lst [.int (gw / c), .int (gh / c)]) (d2 := .lst [.int (gw / c), .int (gh / c)]) hr.units (re_frz (re_lst (rl_cons (re_fld (re_ix (rp_tup (re_var 17 rfl)) re_int atI_0) T.cls T.width rfl) (rl_cons (re_fld (re_ix (rp_tup (re_var 17 rfl)) re_int atI_0) T.cls T.height rfl) rl_nil)))) (re_frz (re_lst (rl_cons (re_fdivW (cD _) (re_fld (re_var 11 rfl) T.cls T.width rfl) (re_var 16 rfl)) (rl_cons (re_fdivW (cD _) (re_fld (re_var 11 rfl) T.cls T.height rfl) (re_var 16 rfl)) rl_nil)))) (i2_sh _ _) (i2_sh _ _))) (by rw [eqD_refl (i2_sh _ _)]; rfl)))))) (fun hb => by cases hb) (fun hb => ?_))
    refine ws_nil ?_
    show WS _ _ _ [_, _, _, _, _, _, _, _, _, _, _, _, _, _, _, _, _, _, _, _, _, _, _, _, _, _, _, _] _
    refine ws_cons (w1_if (k1 := false) (rt_is (rt_co (c_neD (n := 2) (m := 2) (d1 := .tup ((qk.map (dvP c)).map ptD)) (d2 := .tup ((qk.map (dvP c)).map ptD)) hr.units (re_fld (re_ix (rp_tup (re_var 17 rfl)) re_int atI_0) T.cls T.pockets rfl) (re_is (re_tupleL bi.tuple (rp_lst (re_frz (re_lc (own := [("_law_x", 18), ("_law_y", 19)]) (Γw := [_, _, _, _, _, _, _, _, _, _, _, _, _, _, _, _, _, _, _, _, _, _, _, _, _, _, _, _]) qk ptD (fun p => ptD (dvP c p)) rfl sc_law.nd (ri_tup (re_fld (re_var 11 rfl) T.cls T.pockets rfl)) (blkOk_by (N := N_law) (sc := defScope s_law) (by decide +kernel)) (fun _ _ _ _ _ => (pg_tup (n := 2) rfl (pgs_cons (pg_name (i := 18) sc_law.nd rfl (Or.inl rfl)) (pgs_cons (pg_name (i := 19) sc_law.nd rfl (Or.inl rfl)) pgs_nil)))) (in_tup (ins_cons mono_name (in_name (by decide)) (monos_cons mono_name monos_nil) (ins_cons mono_name (in_name (by decide)) monos_nil ins_nil))) (mono_tup (monos_cons mono_name (monos_cons mono_name monos_nil))) rfl (by rw [sizeLine_eq]; omega) (fun p hp => ⟨_, fun _ => (rg_tup rfl (rgs_cons (rg_name 18) (rgs_cons (rg_name 19) rgs_nil))), fun _ _ => (re_tup (rl_cons (re_fdivW (cD _) (re_var 18 rfl) (re_var 16 rfl)) (rl_cons (re_fdivW (cD _) (re_var 19 rfl) (re_var 16 rfl)) rl_nil)))⟩))))) (by rw [List.map_map]; rfl)) (tup_sh _) (tup_sh _))) (by rw [eqD_refl (tup_sh _)]; rfl)) (fun hb => by cases hb) (fun hb => ?_))
    refine ws_nil ?_
    have hdn : ∀ b ∈ lb.map (dvB c), isNm b.nm = true := fun b hb => by
      obtain ⟨b', hb', rfl⟩ := List.mem_map.mp hb
      show isNm b'.nm = true
      exact okBl_nm (hLk b' hb')
    have hds : ∀ b ∈ lb.map (dvB c), b.nm.length ≤ 1000000 := fun b hb => by
      obtain ⟨b', hb', rfl⟩ := List.mem_map.mp hb
      exact hLs b' hb'
    show WS _ _ _ [_, _, _, _, _, _, _, _, _, _, _, _, _, _, _, _, _, _, _, _, _, _, _, _, _, _, _, _] _
    refine ws_cons (w1_if (k1 := false) (rt_is (rt_co (c_neD (n := 2) (m := 2) (d1 := .lst ((lb.map (dvB c)).map blD)) (d2 := .lst ((lb.map (dvB c)).map blD)) hr.units (re_ix (rp_tup (re_var 17 rfl)) re_int (atI_nat (n := 1) rfl)) (re_is (re_frz (re_lc (own := [("_law_name", 20), ("_law_x", 18), ("_law_y", 19), ("_law_dx", 21), ("_law_dy", 22), ("_law_minute", 23)]) (Γw := [_, _, _, _, _, _, _, _, _, _, _, _, _, _, _, _, _, _, _, _, _, _, _, _, _, _, _, _]) lb blD (fun b => blD (dvB c b)) rfl sc_law.nd (ri_list (re_var 12 rfl)) (blkOk_by (N := N_law) (sc := defScope s_law) (by decide +kernel)) (fun _ _ _ _ _ => (pg_tup (n := 6) rfl (pgs_cons (pg_name (i := 20) sc_law.nd rfl (Or.inl rfl)) (pgs_cons (pg_name (i := 18) sc_law.nd rfl (Or.inl rfl)) (pgs_cons (pg_name (i := 19) sc_law.nd rfl (Or.inl rfl)) (pgs_cons (pg_name (i := 21) sc_law.nd rfl (Or.inl rfl)) (pgs_cons (pg_name (i := 22) sc_law.nd rfl (Or.inl rfl)) (pgs_cons (pg_name (i := 23) sc_law.nd rfl (Or.inl rfl)) pgs_nil)))))))) (in_tup (ins_cons mono_name (in_name (by decide)) (monos_cons mono_name (monos_cons mono_name (monos_cons mono_name (monos_cons mono_name (monos_cons mono_name monos_nil))))) (ins_cons mono_name (in_name (by decide)) (monos_cons mono_name (monos_cons mono_name (monos_cons mono_name (monos_cons mono_name monos_nil)))) (ins_cons mono_name (in_name (by decide)) (monos_cons mono_name (monos_cons mono_name (monos_cons mono_name monos_nil))) (ins_cons mono_name (in_name (by decide)) (monos_cons mono_name (monos_cons mono_name monos_nil)) (ins_cons mono_name (in_name (by decide)) (monos_cons mono_name monos_nil) (ins_cons mono_name (in_name (by decide)) monos_nil ins_nil))))))) (mono_tup (monos_cons mono_name (monos_cons mono_name (monos_cons mono_name (monos_cons mono_name (monos_cons mono_name (monos_cons mono_name monos_nil))))))) rfl (by rw [sizeLine_eq]; omega) (fun b hb => ⟨_, fun _ => (rg_tup rfl (rgs_cons (rg_name 20) (rgs_cons (rg_name 18) (rgs_cons (rg_name 19) (rgs_cons (rg_name 21) (rgs_cons (rg_name 22) (rgs_cons (rg_name 23) rgs_nil))))))), fun _ _ => (re_tup (rl_cons (re_var 20 rfl) (rl_cons (re_fdivW (cD _) (re_var 18 rfl) (re_var 16 rfl)) (rl_cons (re_fdivW (cD _) (re_var 19 rfl) (re_var 16 rfl)) (rl_cons (re_var 21 rfl) (rl_cons (re_var 22 rfl) (rl_cons (re_fdivW (cD _) (re_var 23 rfl) (re_var 16 rfl)) rl_nil)))))))⟩))) (by rw [List.map_map]; rfl)) (bls_sh hdn) (bls_sh hdn))) (by rw [eqD_refl (bls_sh hdn)]; rfl)) (fun hb => by cases hb) (fun hb => ?_))
    refine ws_nil ?_
    show WS _ _ _ [_, _, _, _, _, _, _, _, _, _, _, _, _, _, _, _, _, _, _, _, _, _, _, _, _, _, _, _] _
    refine ws_cons (w1_if (k1 := false || false) (rt_w (rw_or (rt_is (rt_co (c_neS (re_call G_greatest_factor (hr.mono (by decide)) (rl_cons (re_ix (d := tabD C_Table (gw / c) (gh / c) (qk.map (dvP c))) (rp_tup (re_var 17 rfl)) re_int atI_0) (rl_cons (re_ix (rp_tup (re_var 17 rfl)) re_int (atI_nat (n := 1) rfl)) rl_nil)) ⟨_, _, _, lb.map (dvB c), rfl, hds, by rw [List.length_map]; omega, .inl ⟨hdBs, rfl⟩⟩) re_int rfl)) (by rw [hone]; rfl)) (fun hb => (rw_or1 (rt_is (rt_co (c_neD (n := 0) (m := 0) (d2 := .int c) hr.units (re_call G_factor_of (hr.mono (by decide)) (rl_cons (re_ix (d := tabD C_Table (gw / c) (gh / c) (qk.map (dvP c))) (rp_tup (re_var 17 rfl)) re_int atI_0) (rl_cons (re_var 11 rfl) rl_nil)) ⟨_, _, _, _, _, _, rfl, hdB, hqB, by rw [List.length_map]; omega, by omega, rfl⟩) (re_var 16 rfl) (fac_sh ..) True.intro)) (by rw [hdf, eqD_refl (n := 0) (d := .int c) True.intro]; rfl)))))) (fun hb => by cases hb) (fun hb => ?_))
    refine ws_nil ?_
    show WS _ _ _ [_, _, _, _, _, _, _, _, _, _, _, _, _, _, _, _, _, _, _, _, _, _, _, _, _, _, _, _] _
    have hol : (othOf ns tw th fc pk).2.2.1.length ≤ 12 := hoK.2.1
    refine ws_cons (w1_asg (pg_tup rfl (pgs_cons (pg_name (i := 24) sc_law.nd rfl (Or.inl rfl)) (pgs_cons (pg_name (i := 25) sc_law.nd rfl (Or.inl rfl)) pgs_nil))) (re_call G__law_other (hr.mono (by decide)) (rl_cons (re_var 2 rfl) (rl_cons (re_var 6 rfl) (rl_cons (re_var 1 rfl) rl_nil))) ⟨tw, th, fc, pk, ns, rfl, hl, hW, hH, hf.1, hf.2, hPn, hPo, hPl, rfl⟩) (rg_tup rfl (rgs_cons (rg_name 24) (rgs_cons (rg_name 25) rgs_nil))) ?_)
    generalize othOf ns tw th fc pk = oth at hot hoK hoB hol
    obtain ⟨ow, oh, opk, ofit⟩ := oth
    dsimp only at hot hoK hoB hol
    show WS _ _ _ [_, _, _, _, _, _, _, _, _, _, _, _, _, _, _, _, _, _, _, _, _, _, _, _, .dat (tabD C_Table ow oh opk), .dat (.bl ofit), _, _] _
    refine ws_cons (w1_set 26 sc_law.nd re_non ?_)
    show WS _ _ _ [_, _, _, _, _, _, _, _, _, _, _, _, _, _, _, _, _, _, _, _, _, _, _, _, _, _, _, _] _
    have hpb : Sh 0 (if ofit then D.int fc else .non) := by split <;> exact True.intro
    have fin : ∀ {Γ3 : List SV}, Γ3 = [.un, .un, .un, .un, .un, .un, .dat (.int fc), .dat (tabD C_Table tw th pk), .un, .un, .un, .dat (tabD C_Table gw gh qk), .un, .un, .un, .un, .un, .un, .un, .un, .un, .un, .un, .un, .dat (tabD C_Table ow oh opk), .un, .dat (if ofit then D.int fc else .non), .un] → WS B (cxOf (L2.CX P w) P w K mg base N_law "law" (defScope s_law) f cdv A outer s H E) ((defBody s_law).drop 22) Γ3 (retP (.val (.bl true))) := by
      intro Γ3 e3
      subst e3
      have hat : atI [D.non, D.int 1] (if decide (fc = 1) = true then 1 else 0) = some (if fc = 1 then D.int 1 else .non) := by
        by_cases h1 : fc = 1
        · rw [decide_eq_true h1, if_pos rfl, if_pos h1]; exact atI_nat (n := 1) rfl
        · rw [decide_eq_false h1, if_neg h1, if_neg (by simp)]; exact atI_0
      have hsh2 : Sh 0 (if fc = 1 then D.int 1 else .non) := by split <;> exact True.intro
      refine ws_cons (w1_if (k1 := false || (false || false)) (rt_w (rw_or (rt_is (rt_co (c_neD (n := 0) (m := 0) hr.units (re_call G_factor_of (hr.mono (by decide)) (rl_cons (re_var 7 rfl) (rl_cons (re_var 24 rfl) rl_nil)) ⟨_, _, _, _, _, _, rfl, hBg, hoB, by omega, hol, rfl⟩) (re_var 26 rfl) (fac_sh ..) hpb)) (by rw [hot, eqD_refl hpb]; rfl)) (fun hb => (rw_or (rt_is (rt_co (c_neD (n := 0) (m := 0) (d2 := .int fc) hr.units (re_call G_factor_of (hr.mono (by decide)) (rl_cons (re_var 7 rfl) (rl_cons (re_var 11 rfl) rl_nil)) ⟨_, _, _, _, _, _, rfl, hBg, hqB, by omega, by omega, rfl⟩) (re_var 6 rfl) (fac_sh ..) True.intro)) (by rw [hsf, eqD_refl (n := 0) (d := .int fc) True.intro]; rfl)) (fun hb => (rw_or1 (rt_is (rt_co (c_neD (n := 0) (m := 0) (d2 := if fc = 1 then D.int 1 else .non) hr.units (re_call G_factor_of (hr.mono (by decide)) (rl_cons (re_var 11 rfl) (rl_cons (re_var 7 rfl) rl_nil)) ⟨_, _, _, _, _, _, rfl, hqB, hBg, by omega, by omega, rfl⟩) (re_ix (rp_lst (re_frz (re_lst (rl_cons re_non (rl_cons re_int rl_nil))))) (re_intB bi.int (re_co (c_eqS (re_var 6 rfl) re_int rfl))) hat) (fac_sh ..) hsh2)) (by rw [hsf2, eqD_refl hsh2]; rfl)))))))) (fun hb => by cases hb) (fun hb => ?_))
      refine ws_nil ?_
      show WS _ _ _ [_, _, _, _, _, _, _, _, _, _, _, _, _, _, _, _, _, _, _, _, _, _, _, _, _, _, _, _] _
      refine ws_cons (w1_tryAs 27 ⟨rfl, by decide, .inl X_InvalidBall.g⟩ sc_law.nd (fun pn xe po => ?_))
      refine ws_cons (w1_exprX (z := ⟨C_InvalidBall, none⟩) (re_call G_reduced (hr.mono (by decide)) (rl_cons (re_var 7 rfl) (rl_cons (re_frz (re_lst (rl_cons (re_tup (rl_cons re_str (rl_cons re_int (rl_cons re_int (rl_cons re_int (rl_cons re_int (rl_cons re_int rl_nil))))))) (rl_cons (re_tup (rl_cons re_str (rl_cons re_int (rl_cons re_int (rl_cons re_int (rl_cons re_int (rl_cons re_int rl_nil))))))) rl_nil)))) rl_nil)) ⟨tw, th, pk, [⟨"one", 0, 0, 1, 0, 0⟩, ⟨"one", 1, 1, 1, 0, 0⟩], rfl, fun b hb => by rcases (show b = _ ∨ b = _ by simpa using hb) with rfl | rfl <;> decide, by decide, by omega, .inr ⟨fun k => absurd k.2.1 (by decide +kernel), rfl⟩⟩) ?_)
      refine ⟨rfl, true, exm_ref X_InvalidBall.b (clsIn_of EC_InvalidBall.hd) X_InvalidBall.t S1, fun _ B' a oe pn' hz hd => ?_, fun h => by cases h⟩
      exact ws_cons (w1_ret (re_isE 27 EC_InvalidBall hz hd rfl bi.isinstance (pe_bltn (v := .ty "ValueError") rfl hmVE (by decide +kernel) rfl (by decide) (by decide)) (fun u h => h) (kit_ownT S2 (by decide +kernel))) rfl)
    refine ws_cons (w1_if (k1 := ofit) (rt_tru (re_var 25 rfl) rfl) (fun hb => ?_) (fun hb => ?_))
    · refine ws_cons (w1_set 26 sc_law.nd (re_var 6 rfl) ?_)
      show WS _ _ _ [_, _, _, _, _, _, _, _, _, _, _, _, _, _, _, _, _, _, _, _, _, _, _, _, _, _, _, _] _
      refine ws_nil (ws_wk (Γ' := [.un, .un, .un, .un, .un, .un, .dat (.int fc), .dat (tabD C_Table tw th pk), .un, .un, .un, .dat (tabD C_Table gw gh qk), .un, .un, .un, .un, .un, .un, .un, .un, .un, .un, .un, .un, .dat (tabD C_Table ow oh opk), .un, .dat (if ofit then D.int fc else .non), .un]) (by rw [hb]; walk_at "wk") (fin rfl))
    · refine ws_nil (ws_wk (Γ' := [.un, .un, .un, .un, .un, .un, .dat (.int fc), .dat (tabD C_Table tw th pk), .un, .un, .un, .dat (tabD C_Table gw gh qk), .un, .un, .un, .un, .un, .un, .un, .un, .un, .un, .un, .un, .dat (tabD C_Table ow oh opk), .un, .dat (if ofit then D.int fc else .non), .un]) (by rw [hb]; walk_at "wk") (fin rfl))
end
/-! ### what the top has written -/
theorem all_mk {l : PySem.W.OpenLaw} {w : World} {K : PySem.W.Frag} {h : Heap} {mg : Str → Option Value} {fa f__law_row f__law_numbers f_is_name f_require f_Table_is_point f_Table___init__ f_is_ball f_check_ball f__law_table f__law_ball f_check_balls f_check_factor f_enlarged f_enlarged_ball f_factor_of f_greatest_factor f_reduced f__law_factor f__law_common f__law_other f_law C_Table T_Table___init__ C_InvalidTable C_InvalidBall : Addr} {t_MOST t_MOST_BALLS t_MOST_NAME_CHARS t_MOST_POCKETS t_NAME_CHARS : Tok} (X : K.In h) (G : h.Ns mainGlobals mg) (hfa : mg "law" = some (.ref fa))
    {od__law_row an__law_row od__law_numbers an__law_numbers od_is_name an_is_name od_require an_require od_Table_is_point an_Table_is_point od_Table___init__ an_Table___init__ od_is_ball an_is_ball od_check_ball an_check_ball od__law_table an__law_table od__law_ball an__law_ball od_check_balls an_check_balls od_check_factor an_check_factor od_enlarged an_enlarged od_enlarged_ball an_enlarged_ball od_factor_of an_factor_of od_greatest_factor an_greatest_factor od_reduced an_reduced od__law_factor an__law_factor od__law_common an__law_common od__law_other an__law_other od_law an_law oz_Table___init__ : Option Addr} {sl__law_row sl__law_numbers sl_is_name sl_require sl_Table_is_point sl_Table___init__ sl_is_ball sl_check_ball sl__law_table sl__law_ball sl_check_balls sl_check_factor sl_enlarged sl_enlarged_ball sl_factor_of sl_greatest_factor sl_reduced sl__law_factor sl__law_common sl__law_other sl_law sz_Table___init__ : Array (Option Value)} {dw0_Table___init__ oc__law_row kV__law_row dc__law_row pm__law_row cd__law_row ct__law_row oc__law_numbers kV__law_numbers dc__law_numbers pm__law_numbers cd__law_numbers ct__law_numbers oc_is_name kV_is_name dc_is_name pm_is_name cd_is_name ct_is_name oc_require kV_require dc_require pm_require cd_require ct_require oc_Table_is_point kV_Table_is_point dc_Table_is_point pm_Table_is_point cd_Table_is_point ct_Table_is_point oc_Table___init__ kV_Table___init__ dc_Table___init__ pm_Table___init__ cd_Table___init__ ct_Table___init__ oc_is_ball kV_is_ball dc_is_ball pm_is_ball cd_is_ball ct_is_ball oc_check_ball kV_check_ball dc_check_ball pm_check_ball cd_check_ball ct_check_ball oc__law_table kV__law_table dc__law_table pm__law_table cd__law_table ct__law_table oc__law_ball kV__law_ball dc__law_ball pm__law_ball cd__law_ball ct__law_ball oc_check_balls kV_check_balls dc_check_balls pm_check_balls cd_check_balls ct_check_balls oc_check_factor kV_check_factor dc_check_factor pm_check_factor cd_check_factor ct_check_factor oc_enlarged kV_enlarged dc_enlarged pm_enlarged cd_enlarged ct_enlarged oc_enlarged_ball kV_enlarged_ball dc_enlarged_ball pm_enlarged_ball cd_enlarged_ball ct_enlarged_ball oc_factor_of kV_factor_of dc_factor_of pm_factor_of cd_factor_of ct_factor_of oc_greatest_factor kV_greatest_factor dc_greatest_factor pm_greatest_factor cd_greatest_factor ct_greatest_factor oc_reduced kV_reduced dc_reduced pm_reduced cd_reduced ct_reduced oc__law_factor kV__law_factor dc__law_factor pm__law_factor cd__law_factor ct__law_factor oc__law_common kV__law_common dc__law_common pm__law_common cd__law_common ct__law_common oc__law_other kV__law_other dc__law_other pm__law_other cd__law_other ct__law_other oc_law kV_law dc_law pm_law cd_law ct_law ot_Table___init__ : Value} {nt_Table___init__ : Nat}
    (a__law_row : PySem.W.nsIn K mainGlobals "_law_row" = some (some (.ref f__law_row)))
    (l__law_row : K.lookup f__law_row = some ⟨oc__law_row, od__law_row, .func (PySem.W.fnOf "_law_row" "_law_row" (defArgs s__law_row) (defBody s__law_row) (defScope s__law_row) .none kV__law_row dc__law_row pm__law_row an__law_row cd__law_row ct__law_row), sl__law_row⟩)
    (c__law_row : PySem.W.codeIn K cd__law_row "_law_row" = true)
    (k__law_row : PySem.W.keepIn K (.ref f__law_row) = true)
    (a__law_numbers : PySem.W.nsIn K mainGlobals "_law_numbers" = some (some (.ref f__law_numbers)))
    (l__law_numbers : K.lookup f__law_numbers = some ⟨oc__law_numbers, od__law_numbers, .func (PySem.W.fnOf "_law_numbers" "_law_numbers" (defArgs s__law_numbers) (defBody s__law_numbers) (defScope s__law_numbers) .none kV__law_numbers dc__law_numbers pm__law_numbers an__law_numbers cd__law_numbers ct__law_numbers), sl__law_numbers⟩)
    (c__law_numbers : PySem.W.codeIn K cd__law_numbers "_law_numbers" = true)
    (k__law_numbers : PySem.W.keepIn K (.ref f__law_numbers) = true)
    (a_is_name : PySem.W.nsIn K mainGlobals "is_name" = some (some (.ref f_is_name)))
    (l_is_name : K.lookup f_is_name = some ⟨oc_is_name, od_is_name, .func (PySem.W.fnOf "is_name" "is_name" (defArgs s_is_name) (defBody s_is_name) (defScope s_is_name) .none kV_is_name dc_is_name pm_is_name an_is_name cd_is_name ct_is_name), sl_is_name⟩)
    (c_is_name : PySem.W.codeIn K cd_is_name "is_name" = true)
    (k_is_name : PySem.W.keepIn K (.ref f_is_name) = true)
    (a_require : PySem.W.nsIn K mainGlobals "require" = some (some (.ref f_require)))
    (l_require : K.lookup f_require = some ⟨oc_require, od_require, .func (PySem.W.fnOf "require" "require" (defArgs s_require) (defBody s_require) (defScope s_require) .none kV_require dc_require pm_require an_require cd_require ct_require), sl_require⟩)
    (c_require : PySem.W.codeIn K cd_require "require" = true)
    (k_require : PySem.W.keepIn K (.ref f_require) = true)
    (cn_Table : PySem.W.nsIn K mainGlobals "Table" = some (some (.ref C_Table)))
    (a_Table_is_point : PySem.W.findIn K (.ref C_Table) "is_point" = some (some (.ref f_Table_is_point)))
    (i_Table_is_point : PySem.W.isFn K (.ref f_Table_is_point) = true)
    (l_Table_is_point : K.lookup f_Table_is_point = some ⟨oc_Table_is_point, od_Table_is_point, .func (PySem.W.fnOf "is_point" "Table.is_point" (defArgs s_Table_is_point) (defBody s_Table_is_point) (defScope s_Table_is_point) .none kV_Table_is_point dc_Table_is_point pm_Table_is_point an_Table_is_point cd_Table_is_point ct_Table_is_point), sl_Table_is_point⟩)
    (c_Table_is_point : PySem.W.codeIn K cd_Table_is_point "Table.is_point" = true)
    (k_Table_is_point : PySem.W.keepIn K (.ref f_Table_is_point) = true)
    (a_Table___init__ : PySem.W.findIn K (.ref C_Table) "__init__" = some (some (.ref f_Table___init__)))
    (i_Table___init__ : PySem.W.isFn K (.ref f_Table___init__) = true)
    (l_Table___init__ : K.lookup f_Table___init__ = some ⟨oc_Table___init__, od_Table___init__, .func (PySem.W.fnOf "__init__" "Table.__init__" (defArgs s_Table___init__) (defBody s_Table___init__) (defScope s_Table___init__) (.ref T_Table___init__) kV_Table___init__ dc_Table___init__ pm_Table___init__ an_Table___init__ cd_Table___init__ ct_Table___init__), sl_Table___init__⟩)
    (lt_Table___init__ : K.lookup T_Table___init__ = some ⟨ot_Table___init__, oz_Table___init__, .seq [dw0_Table___init__].toArray nt_Table___init__, sz_Table___init__⟩)
    (c_Table___init__ : PySem.W.codeIn K cd_Table___init__ "Table.__init__" = true)
    (k_Table___init__ : PySem.W.keepIn K (.ref f_Table___init__) = true)
    (a_is_ball : PySem.W.nsIn K mainGlobals "is_ball" = some (some (.ref f_is_ball)))
    (l_is_ball : K.lookup f_is_ball = some ⟨oc_is_ball, od_is_ball, .func (PySem.W.fnOf "is_ball" "is_ball" (defArgs s_is_ball) (defBody s_is_ball) (defScope s_is_ball) .none kV_is_ball dc_is_ball pm_is_ball an_is_ball cd_is_ball ct_is_ball), sl_is_ball⟩)
    (c_is_ball : PySem.W.codeIn K cd_is_ball "is_ball" = true)
    (k_is_ball : PySem.W.keepIn K (.ref f_is_ball) = true)
    (a_check_ball : PySem.W.nsIn K mainGlobals "check_ball" = some (some (.ref f_check_ball)))
    (l_check_ball : K.lookup f_check_ball = some ⟨oc_check_ball, od_check_ball, .func (PySem.W.fnOf "check_ball" "check_ball" (defArgs s_check_ball) (defBody s_check_ball) (defScope s_check_ball) .none kV_check_ball dc_check_ball pm_check_ball an_check_ball cd_check_ball ct_check_ball), sl_check_ball⟩)
    (c_check_ball : PySem.W.codeIn K cd_check_ball "check_ball" = true)
    (k_check_ball : PySem.W.keepIn K (.ref f_check_ball) = true)
    (a__law_table : PySem.W.nsIn K mainGlobals "_law_table" = some (some (.ref f__law_table)))
    (l__law_table : K.lookup f__law_table = some ⟨oc__law_table, od__law_table, .func (PySem.W.fnOf "_law_table" "_law_table" (defArgs s__law_table) (defBody s__law_table) (defScope s__law_table) .none kV__law_table dc__law_table pm__law_table an__law_table cd__law_table ct__law_table), sl__law_table⟩)
    (c__law_table : PySem.W.codeIn K cd__law_table "_law_table" = true)
    (k__law_table : PySem.W.keepIn K (.ref f__law_table) = true)
    (a__law_ball : PySem.W.nsIn K mainGlobals "_law_ball" = some (some (.ref f__law_ball)))
    (l__law_ball : K.lookup f__law_ball = some ⟨oc__law_ball, od__law_ball, .func (PySem.W.fnOf "_law_ball" "_law_ball" (defArgs s__law_ball) (defBody s__law_ball) (defScope s__law_ball) .none kV__law_ball dc__law_ball pm__law_ball an__law_ball cd__law_ball ct__law_ball), sl__law_ball⟩)
    (c__law_ball : PySem.W.codeIn K cd__law_ball "_law_ball" = true)
    (k__law_ball : PySem.W.keepIn K (.ref f__law_ball) = true)
    (a_check_balls : PySem.W.nsIn K mainGlobals "check_balls" = some (some (.ref f_check_balls)))
    (l_check_balls : K.lookup f_check_balls = some ⟨oc_check_balls, od_check_balls, .func (PySem.W.fnOf "check_balls" "check_balls" (defArgs s_check_balls) (defBody s_check_balls) (defScope s_check_balls) .none kV_check_balls dc_check_balls pm_check_balls an_check_balls cd_check_balls ct_check_balls), sl_check_balls⟩)
    (c_check_balls : PySem.W.codeIn K cd_check_balls "check_balls" = true)
    (k_check_balls : PySem.W.keepIn K (.ref f_check_balls) = true)
    (a_check_factor : PySem.W.nsIn K mainGlobals "check_factor" = some (some (.ref f_check_factor)))
    (l_check_factor : K.lookup f_check_factor = some ⟨oc_check_factor, od_check_factor, .func (PySem.W.fnOf "check_factor" "check_factor" (defArgs s_check_factor) (defBody s_check_factor) (defScope s_check_factor) .none kV_check_factor dc_check_factor pm_check_factor an_check_factor cd_check_factor ct_check_factor), sl_check_factor⟩)
    (c_check_factor : PySem.W.codeIn K cd_check_factor "check_factor" = true)
    (k_check_factor : PySem.W.keepIn K (.ref f_check_factor) = true)
    (a_enlarged : PySem.W.nsIn K mainGlobals "enlarged" = some (some (.ref f_enlarged)))
    (l_enlarged : K.lookup f_enlarged = some ⟨oc_enlarged, od_enlarged, .func (PySem.W.fnOf "enlarged" "enlarged" (defArgs s_enlarged) (defBody s_enlarged) (defScope s_enlarged) .none kV_enlarged dc_enlarged pm_enlarged an_enlarged cd_enlarged ct_enlarged), sl_enlarged⟩)
    (c_enlarged : PySem.W.codeIn K cd_enlarged "enlarged" = true)
    (k_enlarged : PySem.W.keepIn K (.ref f_enlarged) = true)
    (a_enlarged_ball : PySem.W.nsIn K mainGlobals "enlarged_ball" = some (some (.ref f_enlarged_ball)))
    (l_enlarged_ball : K.lookup f_enlarged_ball = some ⟨oc_enlarged_ball, od_enlarged_ball, .func (PySem.W.fnOf "enlarged_ball" "enlarged_ball" (defArgs s_enlarged_ball) (defBody s_enlarged_ball) (defScope s_enlarged_ball) .none kV_enlarged_ball dc_enlarged_ball pm_enlarged_ball an_enlarged_ball cd_enlarged_ball ct_enlarged_ball), sl_enlarged_ball⟩)
    (c_enlarged_ball : PySem.W.codeIn K cd_enlarged_ball "enlarged_ball" = true)
    (k_enlarged_ball : PySem.W.keepIn K (.ref f_enlarged_ball) = true)
    (a_factor_of : PySem.W.nsIn K mainGlobals "factor_of" = some (some (.ref f_factor_of)))
    (l_factor_of : K.lookup f_factor_of = some ⟨oc_factor_of, od_factor_of, .func (PySem.W.fnOf "factor_of" "factor_of" (defArgs s_factor_of) (defBody s_factor_of) (defScope s_factor_of) .none kV_factor_of dc_factor_of pm_factor_of an_factor_of cd_factor_of ct_factor_of), sl_factor_of⟩)
    (c_factor_of : PySem.W.codeIn K cd_factor_of "factor_of" = true)
    (k_factor_of : PySem.W.keepIn K (.ref f_factor_of) = true)
    (a_greatest_factor : PySem.W.nsIn K mainGlobals "greatest_factor" = some (some (.ref f_greatest_factor)))
    (l_greatest_factor : K.lookup f_greatest_factor = some ⟨oc_greatest_factor, od_greatest_factor, .func (PySem.W.fnOf "greatest_factor" "greatest_factor" (defArgs s_greatest_factor) (defBody s_greatest_factor) (defScope s_greatest_factor) .none kV_greatest_factor dc_greatest_factor pm_greatest_factor an_greatest_factor cd_greatest_factor ct_greatest_factor), sl_greatest_factor⟩)
    (c_greatest_factor : PySem.W.codeIn K cd_greatest_factor "greatest_factor" = true)
    (k_greatest_factor : PySem.W.keepIn K (.ref f_greatest_factor) = true)
    (a_reduced : PySem.W.nsIn K mainGlobals "reduced" = some (some (.ref f_reduced)))
    (l_reduced : K.lookup f_reduced = some ⟨oc_reduced, od_reduced, .func (PySem.W.fnOf "reduced" "reduced" (defArgs s_reduced) (defBody s_reduced) (defScope s_reduced) .none kV_reduced dc_reduced pm_reduced an_reduced cd_reduced ct_reduced), sl_reduced⟩)
    (c_reduced : PySem.W.codeIn K cd_reduced "reduced" = true)
    (k_reduced : PySem.W.keepIn K (.ref f_reduced) = true)
    (a__law_factor : PySem.W.nsIn K mainGlobals "_law_factor" = some (some (.ref f__law_factor)))
    (l__law_factor : K.lookup f__law_factor = some ⟨oc__law_factor, od__law_factor, .func (PySem.W.fnOf "_law_factor" "_law_factor" (defArgs s__law_factor) (defBody s__law_factor) (defScope s__law_factor) .none kV__law_factor dc__law_factor pm__law_factor an__law_factor cd__law_factor ct__law_factor), sl__law_factor⟩)
    (c__law_factor : PySem.W.codeIn K cd__law_factor "_law_factor" = true)
    (k__law_factor : PySem.W.keepIn K (.ref f__law_factor) = true)
    (a__law_common : PySem.W.nsIn K mainGlobals "_law_common" = some (some (.ref f__law_common)))
    (l__law_common : K.lookup f__law_common = some ⟨oc__law_common, od__law_common, .func (PySem.W.fnOf "_law_common" "_law_common" (defArgs s__law_common) (defBody s__law_common) (defScope s__law_common) .none kV__law_common dc__law_common pm__law_common an__law_common cd__law_common ct__law_common), sl__law_common⟩)
    (c__law_common : PySem.W.codeIn K cd__law_common "_law_common" = true)
    (k__law_common : PySem.W.keepIn K (.ref f__law_common) = true)
    (a__law_other : PySem.W.nsIn K mainGlobals "_law_other" = some (some (.ref f__law_other)))
    (l__law_other : K.lookup f__law_other = some ⟨oc__law_other, od__law_other, .func (PySem.W.fnOf "_law_other" "_law_other" (defArgs s__law_other) (defBody s__law_other) (defScope s__law_other) .none kV__law_other dc__law_other pm__law_other an__law_other cd__law_other ct__law_other), sl__law_other⟩)
    (c__law_other : PySem.W.codeIn K cd__law_other "_law_other" = true)
    (k__law_other : PySem.W.keepIn K (.ref f__law_other) = true)
    (a_law : PySem.W.nsIn K mainGlobals "law" = some (some (.ref f_law)))
    (l_law : K.lookup f_law = some ⟨oc_law, od_law, .func (PySem.W.fnOf "law" "law" (defArgs s_law) (defBody s_law) (defScope s_law) .none kV_law dc_law pm_law an_law cd_law ct_law), sl_law⟩)
    (c_law : PySem.W.codeIn K cd_law "law" = true)
    (k_law : PySem.W.keepIn K (.ref f_law) = true)
    (z_len : PySem.W.nsIn K mainGlobals "len" = some none)
    (z_abs : PySem.W.nsIn K mainGlobals "abs" = some none)
    (z_int : PySem.W.nsIn K mainGlobals "int" = some none)
    (z_max : PySem.W.nsIn K mainGlobals "max" = some none)
    (z_min : PySem.W.nsIn K mainGlobals "min" = some none)
    (z_list : PySem.W.nsIn K mainGlobals "list" = some none)
    (z_tuple : PySem.W.nsIn K mainGlobals "tuple" = some none)
    (z_all : PySem.W.nsIn K mainGlobals "all" = some none)
    (z_any : PySem.W.nsIn K mainGlobals "any" = some none)
    (z_str : PySem.W.nsIn K mainGlobals "str" = some none)
    (z_range : PySem.W.nsIn K mainGlobals "range" = some none)
    (z_enumerate : PySem.W.nsIn K mainGlobals "enumerate" = some none)
    (z_zip : PySem.W.nsIn K mainGlobals "zip" = some none)
    (z_sorted : PySem.W.nsIn K mainGlobals "sorted" = some none)
    (z_sum : PySem.W.nsIn K mainGlobals "sum" = some none)
    (z_isinstance : PySem.W.nsIn K mainGlobals "isinstance" = some none)
    (z_repr : PySem.W.nsIn K mainGlobals "repr" = some none)
    (v_NAME_CHARS : PySem.W.nsIn K mainGlobals "NAME_CHARS" = some (some (.str "abcdefghijklmnopqrstuvwxyz0123456789" t_NAME_CHARS)))
    (v_MOST_NAME_CHARS : PySem.W.nsIn K mainGlobals "MOST_NAME_CHARS" = some (some (.int 12 t_MOST_NAME_CHARS)))
    (cn_InvalidTable : PySem.W.nsIn K mainGlobals "InvalidTable" = some (some (.ref C_InvalidTable)))
    (xe_InvalidTable : PySem.W.excIn K C_InvalidTable [.type "ValueError", .type "Exception", .type "BaseException", .type "object"] "ValueError.__new__" = true)
    (xk_InvalidTable : PySem.W.keepIn K (.ref C_InvalidTable) = true)
    (xb_InvalidTable : PySem.W.subIn K (.ref C_InvalidTable) (.type "BaseException") = some true)
    (xt_InvalidTable : PySem.W.typeIn K (.ref C_InvalidTable) = some (.type "type"))
    (pg_Table : PySem.W.plainGet K C_Table Str.empty = true)
    (hd_Table : PySem.W.hasDictIn K C_Table = true)
    (po_Table : PySem.W.plainOver K C_Table = true)
    (sa_Table : PySem.W.findIn K (.ref C_Table) "__setattr__" = some (some (.builtin "object.__setattr__")))
    (n_Table_width : PySem.W.findIn K (.ref C_Table) "width" = some none)
    (n_Table_height : PySem.W.findIn K (.ref C_Table) "height" = some none)
    (n_Table_pockets : PySem.W.findIn K (.ref C_Table) "pockets" = some none)
    (v_MOST : PySem.W.nsIn K mainGlobals "MOST" = some (some (.int 1000000000000000000000000000000 t_MOST)))
    (v_MOST_POCKETS : PySem.W.nsIn K mainGlobals "MOST_POCKETS" = some (some (.int 12 t_MOST_POCKETS)))
    (mk_Table : PySem.W.makesIn K C_Table = true)
    (xk_Table : PySem.W.keepIn K (.ref C_Table) = true)
    (cn_InvalidBall : PySem.W.nsIn K mainGlobals "InvalidBall" = some (some (.ref C_InvalidBall)))
    (xe_InvalidBall : PySem.W.excIn K C_InvalidBall [.type "ValueError", .type "Exception", .type "BaseException", .type "object"] "ValueError.__new__" = true)
    (xk_InvalidBall : PySem.W.keepIn K (.ref C_InvalidBall) = true)
    (xb_InvalidBall : PySem.W.subIn K (.ref C_InvalidBall) (.type "BaseException") = some true)
    (xt_InvalidBall : PySem.W.typeIn K (.ref C_InvalidBall) = some (.type "type"))
    (v_MOST_BALLS : PySem.W.nsIn K mainGlobals "MOST_BALLS" = some (some (.int 12 t_MOST_BALLS)))
    (b_gcd : PySem.W.nsIn K mainGlobals "gcd" = some (some (.builtin "math.gcd")))
    (eg_InvalidBall : PySem.W.findIn K (.ref C_InvalidBall) "__getattribute__" = some (some (.builtin "BaseException.__getattribute__")))
    (ek_InvalidBall : PySem.W.findIn K (.ref C_InvalidBall) "__getattr__" = some none)
    (hd_InvalidBall : PySem.W.hasDictIn K C_InvalidBall = true)
    (ha_InvalidBall : PySem.W.findIn K (.ref C_InvalidBall) "__class__" = some (some (.builtin "object.__class__")))
    (hn_ : PySem.W.specialIn K (.builtin "object.__class__") "__get__" = some (some (.builtin "getset_descriptor.__get__")))
    (ht_ : PySem.W.takesIn K (.builtin "object.__class__") = some true)
    (hm_InvalidBall : PySem.W.mroIn K C_InvalidBall (.type "object") = some true)
    (g_subIn_K_ref_C_InvalidBall_ref_C_InvalidBall_some_true : PySem.W.subIn K (.ref C_InvalidBall) (.ref C_InvalidBall) = some true)
    (g_subIn_K_ref_C_InvalidBall_type_ValueError_some_true : PySem.W.subIn K (.ref C_InvalidBall) (.type "ValueError") = some true)
    (z_ValueError : PySem.W.nsIn K mainGlobals "ValueError" = some none)
    : ∃ fd : FuncData, (∀ (s : Shared) (v : Value), BindsTo s fd ⟨[v], []⟩ [("_law_script", v)]) ∧ ∀ base : Heap, K.In base → base.Ns mainGlobals mg → FnOk l.prog w K mg base (L2.CX l.prog w) 7 fa fd ["_law_script"] (spD K SLaw) := by
  have e := hfa.symm.trans (PySem.W.mg_of X G a_law)
  cases e
  have F__law_row := fun_mk (st := s__law_row) l__law_row c__law_row k__law_row
  have b__law_row := binds_mk (K := K) (x := "_law_row") (qual := "_law_row") (st := s__law_row) (kV := kV__law_row) (doc := dc__law_row) (pm := pm__law_row) (an := an__law_row) (cdv := cd__law_row) (ct := ct__law_row) (ps := ["_law_cell", "_law_many"]) fun us hl => match us, hl with | [_, _], _ => rfl
  have F__law_numbers := fun_mk (st := s__law_numbers) l__law_numbers c__law_numbers k__law_numbers
  have b__law_numbers := binds_mk (K := K) (x := "_law_numbers") (qual := "_law_numbers") (st := s__law_numbers) (kV := kV__law_numbers) (doc := dc__law_numbers) (pm := pm__law_numbers) (an := an__law_numbers) (cdv := cd__law_numbers) (ct := ct__law_numbers) (ps := ["_law_script", "_law_many"]) fun us hl => match us, hl with | [_, _], _ => rfl
  have F_is_name := fun_mk (st := s_is_name) l_is_name c_is_name k_is_name
  have b_is_name := binds_mk (K := K) (x := "is_name") (qual := "is_name") (st := s_is_name) (kV := kV_is_name) (doc := dc_is_name) (pm := pm_is_name) (an := an_is_name) (cdv := cd_is_name) (ct := ct_is_name) (ps := ["text"]) fun us hl => match us, hl with | [_], _ => rfl
  have F_require := fun_mk (st := s_require) l_require c_require k_require
  have b_require := binds_mk (K := K) (x := "require") (qual := "require") (st := s_require) (kV := kV_require) (doc := dc_require) (pm := pm_require) (an := an_require) (cdv := cd_require) (ct := ct_require) (ps := ["holds"]) fun us hl => match us, hl with | [_], _ => rfl
  have F_Table_is_point := fun_mk (st := s_Table_is_point) l_Table_is_point c_Table_is_point k_Table_is_point
  have b_Table_is_point := binds_mk (K := K) (x := "is_point") (qual := "Table.is_point") (st := s_Table_is_point) (kV := kV_Table_is_point) (doc := dc_Table_is_point) (pm := pm_Table_is_point) (an := an_Table_is_point) (cdv := cd_Table_is_point) (ct := ct_Table_is_point) (ps := ["self", "point"]) fun us hl => match us, hl with | [_, _], _ => rfl
  have F_Table___init__ := fun_mk (st := s_Table___init__) l_Table___init__ c_Table___init__ k_Table___init__
  have b_Table___init__ := binds_dfl (K := K) (x := "__init__") (qual := "Table.__init__") (st := s_Table___init__) (kV := kV_Table___init__) (doc := dc_Table___init__) (pm := pm_Table___init__) (an := an_Table___init__) (cdv := cd_Table___init__) (ct := ct_Table___init__) (ps := ["self", "width", "height", "pockets"]) (ds := []) lt_Table___init__ rfl fun us hl => match us, hl with | [_, _, _, _], _ => ⟨_, rfl, rfl⟩
  have F_is_ball := fun_mk (st := s_is_ball) l_is_ball c_is_ball k_is_ball
  have b_is_ball := binds_mk (K := K) (x := "is_ball") (qual := "is_ball") (st := s_is_ball) (kV := kV_is_ball) (doc := dc_is_ball) (pm := pm_is_ball) (an := an_is_ball) (cdv := cd_is_ball) (ct := ct_is_ball) (ps := ["table", "ball"]) fun us hl => match us, hl with | [_, _], _ => rfl
  have F_check_ball := fun_mk (st := s_check_ball) l_check_ball c_check_ball k_check_ball
  have b_check_ball := binds_mk (K := K) (x := "check_ball") (qual := "check_ball") (st := s_check_ball) (kV := kV_check_ball) (doc := dc_check_ball) (pm := pm_check_ball) (an := an_check_ball) (cdv := cd_check_ball) (ct := ct_check_ball) (ps := ["table", "ball"]) fun us hl => match us, hl with | [_, _], _ => rfl
  have F__law_table := fun_mk (st := s__law_table) l__law_table c__law_table k__law_table
  have b__law_table := binds_mk (K := K) (x := "_law_table") (qual := "_law_table") (st := s__law_table) (kV := kV__law_table) (doc := dc__law_table) (pm := pm__law_table) (an := an__law_table) (cdv := cd__law_table) (ct := ct__law_table) (ps := ["_law_numbers_here", "_law_at"]) fun us hl => match us, hl with | [_, _], _ => rfl
  have F__law_ball := fun_mk (st := s__law_ball) l__law_ball c__law_ball k__law_ball
  have b__law_ball := binds_mk (K := K) (x := "_law_ball") (qual := "_law_ball") (st := s__law_ball) (kV := kV__law_ball) (doc := dc__law_ball) (pm := pm__law_ball) (an := an__law_ball) (cdv := cd__law_ball) (ct := ct__law_ball) (ps := ["_law_numbers_here", "_law_at", "_law_name", "_law_width", "_law_height"]) fun us hl => match us, hl with | [_, _, _, _, _], _ => rfl
  have F_check_balls := fun_mk (st := s_check_balls) l_check_balls c_check_balls k_check_balls
  have b_check_balls := binds_mk (K := K) (x := "check_balls") (qual := "check_balls") (st := s_check_balls) (kV := kV_check_balls) (doc := dc_check_balls) (pm := pm_check_balls) (an := an_check_balls) (cdv := cd_check_balls) (ct := ct_check_balls) (ps := ["table", "balls"]) fun us hl => match us, hl with | [_, _], _ => rfl
  have F_check_factor := fun_mk (st := s_check_factor) l_check_factor c_check_factor k_check_factor
  have b_check_factor := binds_mk (K := K) (x := "check_factor") (qual := "check_factor") (st := s_check_factor) (kV := kV_check_factor) (doc := dc_check_factor) (pm := pm_check_factor) (an := an_check_factor) (cdv := cd_check_factor) (ct := ct_check_factor) (ps := ["factor"]) fun us hl => match us, hl with | [_], _ => rfl
  have F_enlarged := fun_mk (st := s_enlarged) l_enlarged c_enlarged k_enlarged
  have b_enlarged := binds_mk (K := K) (x := "enlarged") (qual := "enlarged") (st := s_enlarged) (kV := kV_enlarged) (doc := dc_enlarged) (pm := pm_enlarged) (an := an_enlarged) (cdv := cd_enlarged) (ct := ct_enlarged) (ps := ["table", "factor"]) fun us hl => match us, hl with | [_, _], _ => rfl
  have F_enlarged_ball := fun_mk (st := s_enlarged_ball) l_enlarged_ball c_enlarged_ball k_enlarged_ball
  have b_enlarged_ball := binds_mk (K := K) (x := "enlarged_ball") (qual := "enlarged_ball") (st := s_enlarged_ball) (kV := kV_enlarged_ball) (doc := dc_enlarged_ball) (pm := pm_enlarged_ball) (an := an_enlarged_ball) (cdv := cd_enlarged_ball) (ct := ct_enlarged_ball) (ps := ["table", "ball", "factor"]) fun us hl => match us, hl with | [_, _, _], _ => rfl
  have F_factor_of := fun_mk (st := s_factor_of) l_factor_of c_factor_of k_factor_of
  have b_factor_of := binds_mk (K := K) (x := "factor_of") (qual := "factor_of") (st := s_factor_of) (kV := kV_factor_of) (doc := dc_factor_of) (pm := pm_factor_of) (an := an_factor_of) (cdv := cd_factor_of) (ct := ct_factor_of) (ps := ["table", "other"]) fun us hl => match us, hl with | [_, _], _ => rfl
  have F_greatest_factor := fun_mk (st := s_greatest_factor) l_greatest_factor c_greatest_factor k_greatest_factor
  have b_greatest_factor := binds_mk (K := K) (x := "greatest_factor") (qual := "greatest_factor") (st := s_greatest_factor) (kV := kV_greatest_factor) (doc := dc_greatest_factor) (pm := pm_greatest_factor) (an := an_greatest_factor) (cdv := cd_greatest_factor) (ct := ct_greatest_factor) (ps := ["table", "balls"]) fun us hl => match us, hl with | [_, _], _ => rfl
  have F_reduced := fun_mk (st := s_reduced) l_reduced c_reduced k_reduced
  have b_reduced := binds_mk (K := K) (x := "reduced") (qual := "reduced") (st := s_reduced) (kV := kV_reduced) (doc := dc_reduced) (pm := pm_reduced) (an := an_reduced) (cdv := cd_reduced) (ct := ct_reduced) (ps := ["table", "balls"]) fun us hl => match us, hl with | [_, _], _ => rfl
  have F__law_factor := fun_mk (st := s__law_factor) l__law_factor c__law_factor k__law_factor
  have b__law_factor := binds_mk (K := K) (x := "_law_factor") (qual := "_law_factor") (st := s__law_factor) (kV := kV__law_factor) (doc := dc__law_factor) (pm := pm__law_factor) (an := an__law_factor) (cdv := cd__law_factor) (ct := ct__law_factor) (ps := ["_law_numbers_here"]) fun us hl => match us, hl with | [_], _ => rfl
  have F__law_common := fun_mk (st := s__law_common) l__law_common c__law_common k__law_common
  have b__law_common := binds_mk (K := K) (x := "_law_common") (qual := "_law_common") (st := s__law_common) (kV := kV__law_common) (doc := dc__law_common) (pm := pm__law_common) (an := an__law_common) (cdv := cd__law_common) (ct := ct__law_common) (ps := ["_law_figures"]) fun us hl => match us, hl with | [_], _ => rfl
  have F__law_other := fun_mk (st := s__law_other) l__law_other c__law_other k__law_other
  have b__law_other := binds_mk (K := K) (x := "_law_other") (qual := "_law_other") (st := s__law_other) (kV := kV__law_other) (doc := dc__law_other) (pm := pm__law_other) (an := an__law_other) (cdv := cd__law_other) (ct := ct__law_other) (ps := ["_law_parts", "_law_factor_here", "_law_numbers_here"]) fun us hl => match us, hl with | [_, _, _], _ => rfl
  have F_law := fun_mk (st := s_law) l_law c_law k_law
  refine ⟨PySem.W.fnOf "law" "law" (defArgs s_law) (defBody s_law) (defScope s_law) .none kV_law dc_law pm_law an_law cd_law ct_law, fun s v => .of_eq rfl, fun base _ _ => ?_⟩
  have bi : Bis mg := ⟨PySem.W.mg_none_of X G z_len, PySem.W.mg_none_of X G z_abs, PySem.W.mg_none_of X G z_int, PySem.W.mg_none_of X G z_max, PySem.W.mg_none_of X G z_min, PySem.W.mg_none_of X G z_list, PySem.W.mg_none_of X G z_tuple, PySem.W.mg_none_of X G z_all, PySem.W.mg_none_of X G z_any, PySem.W.mg_none_of X G z_str, PySem.W.mg_none_of X G z_range, PySem.W.mg_none_of X G z_enumerate, PySem.W.mg_none_of X G z_zip, PySem.W.mg_none_of X G z_sorted, PySem.W.mg_none_of X G z_sum, PySem.W.mg_none_of X G z_isinstance, PySem.W.mg_none_of X G z_repr⟩
  have d__law_row : Defn l.prog w K mg base 1 "_law_row" [] S__law_row := defn_mk F__law_row (ok__law_row bi F__law_row) (PySem.W.mg_of X G a__law_row) b__law_row
  have d__law_numbers : Defn l.prog w K mg base 2 "_law_numbers" [] S__law_numbers := defn_mk F__law_numbers (ok__law_numbers bi d__law_row F__law_numbers) (PySem.W.mg_of X G a__law_numbers) b__law_numbers
  have d_is_name : Defn l.prog w K mg base 1 "is_name" [] S_is_name := defn_mk F_is_name (ok_is_name bi (gv_str (PySem.W.mg_of X G v_NAME_CHARS)) (gv_int (PySem.W.mg_of X G v_MOST_NAME_CHARS)) F_is_name) (PySem.W.mg_of X G a_is_name) b_is_name
  have d_require : Defn l.prog w K mg base 1 "require" [] (S_require C_InvalidTable) := defn_mk F_require (ok_require ⟨PySem.W.mg_of X G cn_InvalidTable, xe_InvalidTable, xk_InvalidTable, xb_InvalidTable, xt_InvalidTable⟩ F_require) (PySem.W.mg_of X G a_require) b_require
  have d_Table_is_point : Mth l.prog w K mg base 1 C_Table "is_point" [] (S_Table_is_point C_Table) := ⟨⟨pg_Table, hd_Table, po_Table, sa_Table⟩, _, _, _, [], [], ok_Table_is_point ⟨⟨pg_Table, hd_Table, po_Table, sa_Table⟩, n_Table_width, n_Table_height, n_Table_pockets⟩ F_Table_is_point, ⟨a_Table_is_point, i_Table_is_point, k_Table_is_point⟩, b_Table_is_point, .nil, fun _ => .nil⟩
  have d_Table : Mkr l.prog w K mg base 2 "Table" C_Table [] (S_Table C_Table C_InvalidTable) := ⟨_, _, _, [], [], ok_Table___init__ bi ⟨⟨pg_Table, hd_Table, po_Table, sa_Table⟩, n_Table_width, n_Table_height, n_Table_pockets⟩ (gv_int (PySem.W.mg_of X G v_MOST)) (gv_int (PySem.W.mg_of X G v_MOST_POCKETS)) d_require d_Table_is_point F_Table___init__, ⟨mk_Table, a_Table___init__, i_Table___init__, xk_Table⟩, PySem.W.mg_of X G cn_Table, b_Table___init__, .nil, fun _ => .nil⟩
  have d_is_ball : Defn l.prog w K mg base 2 "is_ball" [] (S_is_ball C_Table) := defn_mk F_is_ball (ok_is_ball bi ⟨⟨pg_Table, hd_Table, po_Table, sa_Table⟩, n_Table_width, n_Table_height, n_Table_pockets⟩ (gv_int (PySem.W.mg_of X G v_MOST)) d_is_name d_Table_is_point F_is_ball) (PySem.W.mg_of X G a_is_ball) b_is_ball
  have d_check_ball : Defn l.prog w K mg base 3 "check_ball" [] (S_check_ball C_Table C_InvalidBall) := defn_mk F_check_ball (ok_check_ball ⟨PySem.W.mg_of X G cn_InvalidBall, xe_InvalidBall, xk_InvalidBall, xb_InvalidBall, xt_InvalidBall⟩ d_is_ball F_check_ball) (PySem.W.mg_of X G a_check_ball) b_check_ball
  have d__law_table : Defn l.prog w K mg base 1 "_law_table" [] S__law_table := defn_mk F__law_table (ok__law_table bi F__law_table) (PySem.W.mg_of X G a__law_table) b__law_table
  have d__law_ball : Defn l.prog w K mg base 1 "_law_ball" [] S__law_ball := defn_mk F__law_ball (ok__law_ball bi F__law_ball) (PySem.W.mg_of X G a__law_ball) b__law_ball
  have d_check_balls : Defn l.prog w K mg base 4 "check_balls" [] (S_check_balls C_Table C_InvalidBall) := defn_mk F_check_balls (ok_check_balls bi ⟨PySem.W.mg_of X G cn_InvalidBall, xe_InvalidBall, xk_InvalidBall, xb_InvalidBall, xt_InvalidBall⟩ (gv_int (PySem.W.mg_of X G v_MOST_BALLS)) d_check_ball F_check_balls) (PySem.W.mg_of X G a_check_balls) b_check_balls
  have d_check_factor : Defn l.prog w K mg base 1 "check_factor" [] S_check_factor := defn_mk F_check_factor (ok_check_factor (gv_int (PySem.W.mg_of X G v_MOST)) F_check_factor) (PySem.W.mg_of X G a_check_factor) b_check_factor
  have d_enlarged : Defn l.prog w K mg base 4 "enlarged" [] (S_enlarged C_Table) := defn_mk F_enlarged (ok_enlarged ⟨⟨pg_Table, hd_Table, po_Table, sa_Table⟩, n_Table_width, n_Table_height, n_Table_pockets⟩ d_check_factor d_Table F_enlarged) (PySem.W.mg_of X G a_enlarged) b_enlarged
  have d_enlarged_ball : Defn l.prog w K mg base 5 "enlarged_ball" [] (S_enlarged_ball C_Table) := defn_mk F_enlarged_ball (ok_enlarged_ball d_check_ball d_enlarged F_enlarged_ball) (PySem.W.mg_of X G a_enlarged_ball) b_enlarged_ball
  have d_factor_of : Defn l.prog w K mg base 1 "factor_of" [] (S_factor_of C_Table) := defn_mk F_factor_of (ok_factor_of bi ⟨⟨pg_Table, hd_Table, po_Table, sa_Table⟩, n_Table_width, n_Table_height, n_Table_pockets⟩ F_factor_of) (PySem.W.mg_of X G a_factor_of) b_factor_of
  have d_greatest_factor : Defn l.prog w K mg base 5 "greatest_factor" [] (S_greatest_factor C_Table C_InvalidBall) := defn_mk F_greatest_factor (ok_greatest_factor ⟨⟨pg_Table, hd_Table, po_Table, sa_Table⟩, n_Table_width, n_Table_height, n_Table_pockets⟩ (PySem.W.mg_of X G b_gcd) d_check_balls F_greatest_factor) (PySem.W.mg_of X G a_greatest_factor) b_greatest_factor
  have d_reduced : Defn l.prog w K mg base 6 "reduced" [] (S_reduced C_Table C_InvalidBall) := defn_mk F_reduced (ok_reduced ⟨⟨pg_Table, hd_Table, po_Table, sa_Table⟩, n_Table_width, n_Table_height, n_Table_pockets⟩ d_Table d_greatest_factor F_reduced) (PySem.W.mg_of X G a_reduced) b_reduced
  have d__law_factor : Defn l.prog w K mg base 1 "_law_factor" [] S__law_factor := defn_mk F__law_factor (ok__law_factor bi F__law_factor) (PySem.W.mg_of X G a__law_factor) b__law_factor
  have d__law_common : Defn l.prog w K mg base 1 "_law_common" [] S__law_common := defn_mk F__law_common (ok__law_common bi F__law_common) (PySem.W.mg_of X G a__law_common) b__law_common
  have d__law_other : Defn l.prog w K mg base 4 "_law_other" [] (S__law_other C_Table) := defn_mk F__law_other (ok__law_other bi ⟨⟨pg_Table, hd_Table, po_Table, sa_Table⟩, n_Table_width, n_Table_height, n_Table_pockets⟩ d_Table F__law_other) (PySem.W.mg_of X G a__law_other) b__law_other
  exact ok_law bi ⟨⟨pg_Table, hd_Table, po_Table, sa_Table⟩, n_Table_width, n_Table_height, n_Table_pockets⟩ ⟨PySem.W.mg_of X G cn_InvalidBall, xe_InvalidBall, xk_InvalidBall, xb_InvalidBall, xt_InvalidBall⟩ ⟨eg_InvalidBall, ek_InvalidBall, xb_InvalidBall, hd_InvalidBall, ha_InvalidBall, hn_, ht_, hm_InvalidBall⟩ g_subIn_K_ref_C_InvalidBall_ref_C_InvalidBall_some_true g_subIn_K_ref_C_InvalidBall_type_ValueError_some_true (PySem.W.mg_none_of X G z_tuple) (PySem.W.mg_none_of X G z_ValueError) d__law_numbers d__law_table d__law_ball d__law_factor d__law_common d__law_other d_Table d_enlarged d_enlarged_ball d_greatest_factor d_reduced d_factor_of F_law
end DL
open PySem PySem.W PyProof.Rows
set_option maxHeartbeats 0 in
theorem PySem.Challenge.cw_cushioned_k63_reduced_tables_holds : PySem.Challenge.rw_cushioned_k63_reduced_tables.Holds := by
  w_on; o_law; k_head; (case hw => w_witness2)
  k_fill
  refine L2.walk_of (l := PySem.Challenge.rw_cushioned_k63_reduced_tables) (n := 63) (k := 7) (x := "_law_script") (CX := fun w => L2.CX PySem.Challenge.rw_cushioned_k63_reduced_tables.prog w) (sp := fun w => DL.spD _ DL.SLaw) rfl (by decide) rfl ⟨rfl, by decide, by decide⟩ (fun w h Y => PySem.W.kIn_of Y) ?F (fun _ _ a ns hl _ hS => DL.law_sp hl hS) (fun _ _ _ _ _ h => DL.law_cx h)
  case F =>
    intro w mg fa h KX G hmg
    refine' DL.all_mk KX G hmg ?a__law_row ?l__law_row ?c__law_row ?k__law_row ?a__law_numbers ?l__law_numbers ?c__law_numbers ?k__law_numbers ?a_is_name ?l_is_name ?c_is_name ?k_is_name ?a_require ?l_require ?c_require ?k_require ?cn_Table ?a_Table_is_point ?i_Table_is_point ?l_Table_is_point ?c_Table_is_point ?k_Table_is_point ?a_Table___init__ ?i_Table___init__ ?l_Table___init__ ?lt_Table___init__ ?c_Table___init__ ?k_Table___init__ ?a_is_ball ?l_is_ball ?c_is_ball ?k_is_ball ?a_check_ball ?l_check_ball ?c_check_ball ?k_check_ball ?a__law_table ?l__law_table ?c__law_table ?k__law_table ?a__law_ball ?l__law_ball ?c__law_ball ?k__law_ball ?a_check_balls ?l_check_balls ?c_check_balls ?k_check_balls ?a_check_factor ?l_check_factor ?c_check_factor ?k_check_factor ?a_enlarged ?l_enlarged ?c_enlarged ?k_enlarged ?a_enlarged_ball ?l_enlarged_ball ?c_enlarged_ball ?k_enlarged_ball ?a_factor_of ?l_factor_of ?c_factor_of ?k_factor_of ?a_greatest_factor ?l_greatest_factor ?c_greatest_factor ?k_greatest_factor ?a_reduced ?l_reduced ?c_reduced ?k_reduced ?a__law_factor ?l__law_factor ?c__law_factor ?k__law_factor ?a__law_common ?l__law_common ?c__law_common ?k__law_common ?a__law_other ?l__law_other ?c__law_other ?k__law_other ?a_law ?l_law ?c_law ?k_law ?z_len ?z_abs ?z_int ?z_max ?z_min ?z_list ?z_tuple ?z_all ?z_any ?z_str ?z_range ?z_enumerate ?z_zip ?z_sorted ?z_sum ?z_isinstance ?z_repr ?v_NAME_CHARS ?v_MOST_NAME_CHARS ?cn_InvalidTable ?xe_InvalidTable ?xk_InvalidTable ?xb_InvalidTable ?xt_InvalidTable ?pg_Table ?hd_Table ?po_Table ?sa_Table ?n_Table_width ?n_Table_height ?n_Table_pockets ?v_MOST ?v_MOST_POCKETS ?mk_Table ?xk_Table ?cn_InvalidBall ?xe_InvalidBall ?xk_InvalidBall ?xb_InvalidBall ?xt_InvalidBall ?v_MOST_BALLS ?b_gcd ?eg_InvalidBall ?ek_InvalidBall ?hd_InvalidBall ?ha_InvalidBall ?hn_ ?ht_ ?hm_InvalidBall ?g_subIn_K_ref_C_InvalidBall_ref_C_InvalidBall_some_true ?g_subIn_K_ref_C_InvalidBall_type_ValueError_some_true ?z_ValueError
    (case a__law_row => k_is); (case l__law_row => k_is); (case c__law_row => k_is); (case k__law_row => k_is); (case a__law_numbers => k_is); (case l__law_numbers => k_is); (case c__law_numbers => k_is); (case k__law_numbers => k_is); (case a_is_name => k_is); (case l_is_name => k_is); (case c_is_name => k_is); (case k_is_name => k_is); (case a_require => k_is); (case l_require => k_is); (case c_require => k_is); (case k_require => k_is); (case cn_Table => k_is); (case a_Table_is_point => k_is); (case i_Table_is_point => k_is); (case l_Table_is_point => k_is); (case c_Table_is_point => k_is); (case k_Table_is_point => k_is); (case a_Table___init__ => k_is); (case i_Table___init__ => k_is); (case l_Table___init__ => k_is); (case lt_Table___init__ => k_is); (case c_Table___init__ => k_is); (case k_Table___init__ => k_is); (case a_is_ball => k_is); (case l_is_ball => k_is); (case c_is_ball => k_is); (case k_is_ball => k_is); (case a_check_ball => k_is); (case l_check_ball => k_is); (case c_check_ball => k_is); (case k_check_ball => k_is); (case a__law_table => k_is); (case l__law_table => k_is); (case c__law_table => k_is); (case k__law_table => k_is); (case a__law_ball => k_is); (case l__law_ball => k_is); (case c__law_ball => k_is); (case k__law_ball => k_is); (case a_check_balls => k_is); (case l_check_balls => k_is); (case c_check_balls => k_is); (case k_check_balls => k_is); (case a_check_factor => k_is); (case l_check_factor => k_is); (case c_check_factor => k_is); (case k_check_factor => k_is); (case a_enlarged => k_is); (case l_enlarged => k_is); (case c_enlarged => k_is); (case k_enlarged => k_is); (case a_enlarged_ball => k_is); (case l_enlarged_ball => k_is); (case c_enlarged_ball => k_is); (case k_enlarged_ball => k_is); (case a_factor_of => k_is); (case l_factor_of => k_is); (case c_factor_of => k_is); (case k_factor_of => k_is); (case a_greatest_factor => k_is); (case l_greatest_factor => k_is); (case c_greatest_factor => k_is); (case k_greatest_factor => k_is); (case a_reduced => k_is); (case l_reduced => k_is); (case c_reduced => k_is); (case k_reduced => k_is); (case a__law_factor => k_is); (case l__law_factor => k_is); (case c__law_factor => k_is); (case k__law_factor => k_is); (case a__law_common => k_is); (case l__law_common => k_is); (case c__law_common => k_is); (case k__law_common => k_is); (case a__law_other => k_is); (case l__law_other => k_is); (case c__law_other => k_is); (case k__law_other => k_is); (case a_law => k_is); (case l_law => k_is); (case c_law => k_is); (case k_law => k_is); (case z_len => k_is); (case z_abs => k_is); (case z_int => k_is); (case z_max => k_is); (case z_min => k_is); (case z_list => k_is); (case z_tuple => k_is); (case z_all => k_is); (case z_any => k_is); (case z_str => k_is); (case z_range => k_is); (case z_enumerate => k_is); (case z_zip => k_is); (case z_sorted => k_is); (case z_sum => k_is); (case z_isinstance => k_is); (case z_repr => k_is); (case v_NAME_CHARS => k_is); (case v_MOST_NAME_CHARS => k_is); (case cn_InvalidTable => k_is); (case xe_InvalidTable => k_exc); (case xk_InvalidTable => k_is); (case xb_InvalidTable => k_is); (case xt_InvalidTable => k_is); (case pg_Table => k_is); (case hd_Table => k_is); (case po_Table => k_is); (case sa_Table => k_is); (case n_Table_width => k_is); (case n_Table_height => k_is); (case n_Table_pockets => k_is); (case v_MOST => k_is); (case v_MOST_POCKETS => k_is); (case mk_Table => k_is); (case xk_Table => k_is); (case cn_InvalidBall => k_is); (case xe_InvalidBall => k_exc); (case xk_InvalidBall => k_is); (case xb_InvalidBall => k_is); (case xt_InvalidBall => k_is); (case v_MOST_BALLS => k_is); (case b_gcd => k_is); (case eg_InvalidBall => k_is); (case ek_InvalidBall => k_is); (case hd_InvalidBall => k_is); (case ha_InvalidBall => k_is); (case hn_ => k_is); (case ht_ => k_is); (case hm_InvalidBall => k_is); (case g_subIn_K_ref_C_InvalidBall_ref_C_InvalidBall_some_true => k_is); (case g_subIn_K_ref_C_InvalidBall_type_ValueError_some_true => k_is); (case z_ValueError => k_is)
