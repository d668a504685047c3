import PyProof.Rows.All
import Wide.All
import OpenK.AllK
import Wide.FinOn
import HandS.ForMost
import HandS.HeadHook1
import HandS.Defaults
import HandS.Wide
import HandS.WideBits
import HandS.TupAny
import HandS.TupLe
import HandS.IsInst
import HandS.StrMore
import HandS.Text
import HandS.ListEq
import HandS.Flow
import HandS.Style
import PyProof.NeKinds
import HandS.Steps
import HandS.Gcd
import HandS.Zip
import HandS.MakeKw
import HandS.MakeKwOnly
import KE.KStateDown
import HandS.Base
import HandS.Call
import HandS.Exc
import HandS.Head0
import HandS.Head1
import HandS.Head2
import HandS.Head3
import HandS.HeadEnd
import HandS.HeadHook2
import Lean
import HandS.Ends
import HandS.More
import HandS.Words
import HandS.WordsExc
import PySem.Challenge.RW_proofplans_k11_powers_and_roots
set_option Elab.async false
set_option linter.all false
set_option maxRecDepth 100000
/-! Pure data over the hand layer: what a value stands for, slots of a frame, steps. -/
namespace Pd
open PySem PySem.Spec PyProof.Rows L2

inductive D where
  | non | bl (b : Bool) | int (i : Int) | str (x : Str) | ty (n : String)
  | lst (xs : List D) | tup (xs : List D) | dct (ks vs : List D) | obj (C : Str) (ns : List Str) (vs : List D) | rol (xs : List D) | cls (C : Str)
instance : Inhabited D := ⟨.non⟩

abbrev St := L2.St
def dK : Key → D
  | .inl i => .int i
  | .inr x => .str x
def DctAt (F : Hp) (a : Addr) (ks : List D) (vs : List V) : Prop :=
  ks.length = vs.length ∧ ((∃ kk : List Key, ks = kk.map dK ∧ F a = some (.dK (kk.zip vs))) ∨ (∃ kk : List (List Key), ks = kk.map (fun k => .tup (k.map dK)) ∧ F a = some (.dT (kk.zip vs))))
def ObjAt (K : PySem.W.Frag) (F : Hp) (a : Addr) (C : Str) (ns : List Str) (vs : List V) : Prop :=
  ns.length = vs.length ∧ ∃ dx, F a = some (.ins (He.ga K C) dx (ns.zip vs))

mutual
/-- the value v stands for d, by what is frozen -/
def Rep (K : PySem.W.Frag) (F : Hp) : D → V → Prop
  | .non, v => v = .non
  | .bl b, v => v = .bl b
  | .int i, v => v = .int i
  | .str x, v => v = .str x
  | .ty n, v => v = .ty n
  | .cls C, v => v = .ref (He.ga K C)
  | .lst ds, v => ∃ a vs, v = .ref a ∧ F a = some (.lst vs) ∧ Reps K F ds vs
  | .rol ds, v => ∃ a vs, v = .ref a ∧ SqL K F a vs ∧ Reps K F ds vs
  | .tup ds, v => ∃ a vs, v = .ref a ∧ SqT K F a vs ∧ Reps K F ds vs
  | .dct ks ds, v => ∃ a vs, v = .ref a ∧ DctAt F a ks vs ∧ Reps K F ds vs
  | .obj C ns ds, v => ∃ a vs, v = .ref a ∧ ObjAt K F a C ns vs ∧ Reps K F ds vs
def Reps (K : PySem.W.Frag) (F : Hp) : List D → List V → Prop
  | [], vs => vs = []
  | d :: ds, vs => ∃ v r, vs = v :: r ∧ Rep K F d v ∧ Reps K F ds r
end

theorem Same.seqT {K : PySem.W.Frag} {H H' : Hp} {a : Addr} {xs : List V} (e : Same H H') (h : SqT K H a xs) : SqT K H' a xs := by
  rcases h with (h | ⟨o, h⟩) | h
  · exact .inl (.inl (e _ _ h))
  · exact .inl (.inr ⟨o, e _ _ h⟩)
  · exact .inr h
theorem DctAt.mono {F F' : Hp} {a : Addr} {ks : List D} {vs : List V} (s : Same F F') (h : DctAt F a ks vs) : DctAt F' a ks vs := by
  obtain ⟨hl, ⟨kk, e1, e2⟩ | ⟨kk, e1, e2⟩⟩ := h
  · exact ⟨hl, .inl ⟨kk, e1, s _ _ e2⟩⟩
  · exact ⟨hl, .inr ⟨kk, e1, s _ _ e2⟩⟩
theorem ObjAt.mono {K : PySem.W.Frag} {F F' : Hp} {a : Addr} {C : Str} {ns : List Str} {vs : List V} (s : Same F F') (h : ObjAt K F a C ns vs) : ObjAt K F' a C ns vs := by
  obtain ⟨hl, dx, e⟩ := h
  exact ⟨hl, dx, s _ _ e⟩
mutual
theorem Rep.mono {K : PySem.W.Frag} {F F' : Hp} (s : Same F F') : ∀ {d : D} {v : V}, Rep K F d v → Rep K F' d v
  | .non, _, h => h
  | .bl _, _, h => h
  | .int _, _, h => h
  | .str _, _, h => h
  | .ty _, _, h => h
  | .cls _, _, h => h
  | .lst ds, v, h => by
    unfold Rep at h ⊢
    obtain ⟨a, vs, e, h1, h2⟩ := h
    exact ⟨a, vs, e, s _ _ h1, Reps.mono s h2⟩
  | .rol ds, v, h => by
    unfold Rep at h ⊢
    obtain ⟨a, vs, e, h1, h2⟩ := h
    exact ⟨a, vs, e, s.seq h1, Reps.mono s h2⟩
  | .tup ds, v, h => by
    unfold Rep at h ⊢
    obtain ⟨a, vs, e, h1, h2⟩ := h
    exact ⟨a, vs, e, Same.seqT s h1, Reps.mono s h2⟩
  | .dct ks ds, v, h => by
    unfold Rep at h ⊢
    obtain ⟨a, vs, e, h1, h2⟩ := h
    exact ⟨a, vs, e, h1.mono s, Reps.mono s h2⟩
  | .obj C ns ds, v, h => by
    unfold Rep at h ⊢
    obtain ⟨a, vs, e, h1, h2⟩ := h
    exact ⟨a, vs, e, h1.mono s, Reps.mono s h2⟩
theorem Reps.mono {K : PySem.W.Frag} {F F' : Hp} (s : Same F F') : ∀ {ds : List D} {vs : List V}, Reps K F ds vs → Reps K F' ds vs
  | [], _, h => h
  | d :: ds, vs, h => by
    unfold Reps at h ⊢
    obtain ⟨v, r, e, h1, h2⟩ := h
    exact ⟨v, r, e, Rep.mono s h1, Reps.mono s h2⟩
end
section
variable {K : PySem.W.Frag} {F F' H H' : Hp}
theorem reps_nil {vs : List V} : Reps K F [] vs ↔ vs = [] := by unfold Reps; exact Iff.rfl
theorem reps_cons {d : D} {ds : List D} {vs : List V} : Reps K F (d :: ds) vs ↔ ∃ v r, vs = v :: r ∧ Rep K F d v ∧ Reps K F ds r := by
  constructor
  · intro h
    unfold Reps at h
    exact h
  · intro h
    unfold Reps
    exact h
theorem Reps.length : ∀ {ds : List D} {vs : List V}, Reps K F ds vs → vs.length = ds.length
  | [], vs, h => by rw [reps_nil.mp h]; rfl
  | d :: ds, vs, h => by
    obtain ⟨v, r, rfl, _, h2⟩ := reps_cons.mp h
    rw [List.length_cons, List.length_cons, Reps.length h2]
theorem Reps.get : ∀ {ds : List D} {vs : List V} {i : Nat} {d : D}, Reps K F ds vs → ds[i]? = some d → ∃ v, vs[i]? = some v ∧ Rep K F d v
  | [], _, _, _, _, e => by cases e
  | x :: ds, vs, 0, d, h, e => by
    obtain ⟨v, r, rfl, h1, h2⟩ := reps_cons.mp h
    cases e
    exact ⟨v, rfl, h1⟩
  | x :: ds, vs, i + 1, d, h, e => by
    obtain ⟨v, r, rfl, h1, h2⟩ := reps_cons.mp h
    obtain ⟨u, e1, e2⟩ := Reps.get (i := i) h2 (by simpa using e)
    exact ⟨u, by simpa using e1, e2⟩
theorem Reps.getV : ∀ {ds : List D} {vs : List V} {i : Nat} {v : V}, Reps K F ds vs → vs[i]? = some v → ∃ d, ds[i]? = some d ∧ Rep K F d v
  | [], vs, i, v, h, e => by rw [reps_nil.mp h] at e; cases e
  | x :: ds, vs, 0, v, h, e => by
    obtain ⟨v, r, rfl, h1, h2⟩ := reps_cons.mp h
    cases e
    exact ⟨x, rfl, h1⟩
  | x :: ds, vs, i + 1, v, h, e => by
    obtain ⟨w, r, rfl, h1, h2⟩ := reps_cons.mp h
    obtain ⟨u, e1, e2⟩ := Reps.getV (i := i) h2 (by simpa using e)
    exact ⟨u, by simpa using e1, e2⟩
theorem Reps.append : ∀ {ds es : List D} {vs us : List V}, Reps K F ds vs → Reps K F es us → Reps K F (ds ++ es) (vs ++ us)
  | [], es, vs, us, h, q => by rw [reps_nil.mp h]; exact q
  | x :: ds, es, vs, us, h, q => by
    obtain ⟨v, r, rfl, h1, h2⟩ := reps_cons.mp h
    exact reps_cons.mpr ⟨v, r ++ us, rfl, h1, Reps.append h2 q⟩
theorem Reps.one {d : D} {v : V} (h : Rep K F d v) : Reps K F [d] [v] := reps_cons.mpr ⟨v, [], rfl, h, reps_nil.mpr rfl⟩
theorem Reps.take : ∀ {ds : List D} {vs : List V} (n : Nat), Reps K F ds vs → Reps K F (ds.take n) (vs.take n)
  | ds, vs, 0, h => by rw [List.take_zero, List.take_zero]; exact reps_nil.mpr rfl
  | [], vs, n + 1, h => by rw [reps_nil.mp h]; exact reps_nil.mpr rfl
  | x :: ds, vs, n + 1, h => by
    obtain ⟨v, r, rfl, h1, h2⟩ := reps_cons.mp h
    exact reps_cons.mpr ⟨v, r.take n, rfl, h1, Reps.take n h2⟩
theorem Reps.drop : ∀ {ds : List D} {vs : List V} (n : Nat), Reps K F ds vs → Reps K F (ds.drop n) (vs.drop n)
  | ds, vs, 0, h => h
  | [], vs, n + 1, h => by rw [reps_nil.mp h]; exact reps_nil.mpr rfl
  | x :: ds, vs, n + 1, h => by
    obtain ⟨v, r, rfl, h1, h2⟩ := reps_cons.mp h
    exact Reps.drop n h2
theorem Reps.set : ∀ {ds : List D} {vs : List V} (n : Nat) {d : D} {v : V}, Reps K F ds vs → Rep K F d v → Reps K F (ds.set n d) (vs.set n v)
  | [], vs, n, d, v, h, q => by rw [reps_nil.mp h]; exact reps_nil.mpr rfl
  | x :: ds, vs, 0, d, v, h, q => by
    obtain ⟨u, r, rfl, h1, h2⟩ := reps_cons.mp h
    exact reps_cons.mpr ⟨v, r, rfl, q, h2⟩
  | x :: ds, vs, n + 1, d, v, h, q => by
    obtain ⟨u, r, rfl, h1, h2⟩ := reps_cons.mp h
    exact reps_cons.mpr ⟨u, r.set n v, rfl, h1, Reps.set n h2 q⟩
theorem Reps.reverse : ∀ {ds : List D} {vs : List V}, Reps K F ds vs → Reps K F ds.reverse vs.reverse
  | [], vs, h => by rw [reps_nil.mp h]; exact reps_nil.mpr rfl
  | x :: ds, vs, h => by
    obtain ⟨u, r, rfl, h1, h2⟩ := reps_cons.mp h
    rw [List.reverse_cons, List.reverse_cons]
    exact Reps.append (Reps.reverse h2) (Reps.one h1)
theorem Reps.of_forall : ∀ {ds : List D} {vs : List V}, ds.length = vs.length → (∀ (i : Nat) d v, ds[i]? = some d → vs[i]? = some v → Rep K F d v) → Reps K F ds vs
  | [], [], _, _ => reps_nil.mpr rfl
  | [], _ :: _, h, _ => by cases h
  | _ :: _, [], h, _ => by cases h
  | d :: ds, v :: vs, h, q => reps_cons.mpr ⟨v, vs, rfl, q 0 d v rfl rfl, Reps.of_forall (by simpa using h) fun i d v h1 h2 => q (i + 1) d v (by simpa using h1) (by simpa using h2)⟩
theorem rep_int {i : Int} {v : V} : Rep K F (.int i) v ↔ v = .int i := by unfold Rep; exact Iff.rfl
theorem rep_str {i : Str} {v : V} : Rep K F (.str i) v ↔ v = .str i := by unfold Rep; exact Iff.rfl
theorem rep_bl {i : Bool} {v : V} : Rep K F (.bl i) v ↔ v = .bl i := by unfold Rep; exact Iff.rfl
theorem rep_ty {i : String} {v : V} : Rep K F (.ty i) v ↔ v = .ty i := by unfold Rep; exact Iff.rfl
theorem rep_cls {C : Str} {v : V} : Rep K F (.cls C) v ↔ v = .ref (He.ga K C) := by unfold Rep; exact Iff.rfl
theorem rep_non {v : V} : Rep K F .non v ↔ v = .non := by unfold Rep; exact Iff.rfl
theorem rep_tup {ds : List D} {v : V} : Rep K F (.tup ds) v ↔ ∃ a vs, v = .ref a ∧ SqT K F a vs ∧ Reps K F ds vs := by
  constructor
  · intro h; unfold Rep at h; exact h
  · intro h; unfold Rep; exact h
theorem rep_rol {ds : List D} {v : V} : Rep K F (.rol ds) v ↔ ∃ a vs, v = .ref a ∧ SqL K F a vs ∧ Reps K F ds vs := by
  constructor
  · intro h; unfold Rep at h; exact h
  · intro h; unfold Rep; exact h
theorem rep_lst {ds : List D} {v : V} : Rep K F (.lst ds) v ↔ ∃ a vs, v = .ref a ∧ F a = some (.lst vs) ∧ Reps K F ds vs := by
  constructor
  · intro h; unfold Rep at h; exact h
  · intro h; unfold Rep; exact h
theorem rep_dct {ks ds : List D} {v : V} : Rep K F (.dct ks ds) v ↔ ∃ a vs, v = .ref a ∧ DctAt F a ks vs ∧ Reps K F ds vs := by
  constructor
  · intro h; unfold Rep at h; exact h
  · intro h; unfold Rep; exact h
theorem rep_obj {C : Str} {ns : List Str} {ds : List D} {v : V} : Rep K F (.obj C ns ds) v ↔ ∃ a vs, v = .ref a ∧ ObjAt K F a C ns vs ∧ Reps K F ds vs := by
  constructor
  · intro h; unfold Rep at h; exact h
  · intro h; unfold Rep; exact h
end

/-! ### cells that are owned -/
def ORep (K : PySem.W.Frag) (F H : Hp) : D → Addr → Prop
  | .lst ds, a => ∃ vs, H a = some (.lst vs) ∧ Reps K F ds vs
  | .dct ks ds, a => ∃ vs, DctAt H a ks vs ∧ Reps K F ds vs
  | .obj C ns ds, a => ∃ vs, ObjAt K H a C ns vs ∧ Reps K F ds vs
  | _, _ => False
theorem ORep.mono {K : PySem.W.Frag} {F F' H H' : Hp} {d : D} {a : Addr} (s : Same F F') (e : ∀ o, H a = some o → H' a = some o) (h : ORep K F H d a) : ORep K F' H' d a := by
  cases d with
  | lst ds => obtain ⟨vs, h1, h2⟩ := h; exact ⟨vs, e _ h1, h2.mono s⟩
  | dct ks ds =>
    obtain ⟨vs, ⟨hl, h1⟩, h2⟩ := h
    refine ⟨vs, ⟨hl, ?_⟩, h2.mono s⟩
    rcases h1 with ⟨kk, e1, e2⟩ | ⟨kk, e1, e2⟩
    · exact .inl ⟨kk, e1, e _ e2⟩
    · exact .inr ⟨kk, e1, e _ e2⟩
  | obj C ns ds =>
    obtain ⟨vs, ⟨hl, dx, h1⟩, h2⟩ := h
    exact ⟨vs, ⟨hl, dx, e _ h1⟩, h2.mono s⟩
  | _ => exact h.elim
theorem ORep.there {K : PySem.W.Frag} {F H : Hp} {d : D} {a : Addr} (h : ORep K F H d a) : ∃ o, H a = some o := by
  cases d with
  | lst ds => obtain ⟨vs, h1, h2⟩ := h; exact ⟨_, h1⟩
  | dct ks ds =>
    obtain ⟨vs, ⟨hl, ⟨kk, e1, e2⟩ | ⟨kk, e1, e2⟩⟩, h2⟩ := h
    · exact ⟨_, e2⟩
    · exact ⟨_, e2⟩
  | obj C ns ds =>
    obtain ⟨vs, ⟨hl, dx, h1⟩, h2⟩ := h
    exact ⟨_, h1⟩
  | _ => exact h.elim
/-- frozen as it stands -/
theorem ORep.frozen {K : PySem.W.Frag} {F H : Hp} {d : D} {a : Addr} {o : HO} (h : ORep K F H d a) (e : H a = some o) (n : F a = none) : Rep K (upd F a o) d (.ref a) := by
  have s : Same F (upd F a o) := fun b u z => by rw [upd_ne (ne_of_none z n)]; exact z
  have s2 : ∀ u, H a = some u → (upd F a o) a = some u := fun u z => by rw [upd_same, ← e, z]
  cases d with
  | lst ds => obtain ⟨vs, h1, h2⟩ := h; exact rep_lst.mpr ⟨a, vs, rfl, s2 _ h1, h2.mono s⟩
  | dct ks ds =>
    obtain ⟨vs, ⟨hl, h1⟩, h2⟩ := h
    refine rep_dct.mpr ⟨a, vs, rfl, ⟨hl, ?_⟩, h2.mono s⟩
    rcases h1 with ⟨kk, e1, e2⟩ | ⟨kk, e1, e2⟩
    · exact .inl ⟨kk, e1, s2 _ e2⟩
    · exact .inr ⟨kk, e1, s2 _ e2⟩
  | obj C ns ds =>
    obtain ⟨vs, ⟨hl, dx, h1⟩, h2⟩ := h
    exact rep_obj.mpr ⟨a, vs, rfl, ⟨hl, dx, s2 _ h1⟩, h2.mono s⟩
  | _ => exact h.elim

/-- readable now: frozen, or a cell -/
def PRep (K : PySem.W.Frag) (F H : Hp) (d : D) (v : V) : Prop := Rep K F d v ∨ ∃ a, v = .ref a ∧ ORep K F H d a

inductive Sl where
  | un | val (d : D) | own (d : D) | io (d : D) | br (d : D)
instance : Inhabited Sl := ⟨.un⟩
abbrev Env := List Sl
def Sl.d : Sl → Option D
  | .un => none
  | .val d => some d
  | .own d => some d
  | .io d => some d
  | .br d => some d
/-- its cell is this frame's to change -/
def Sl.mine : Sl → Bool
  | .own _ => true
  | .io _ => true
  | _ => false
def Sl.loc : Sl → Bool
  | .own _ => true
  | _ => false

def OwnA (env : Env) (σ : St) (a : Addr) : Prop := ∃ (i : Nat) (s : Sl), env[i]? = some s ∧ s.mine = true ∧ σ[i]? = some (some (.ref a))
def LocA (env : Env) (σ : St) (a : Addr) : Prop := ∃ (i : Nat) (s : Sl), env[i]? = some s ∧ s.loc = true ∧ σ[i]? = some (some (.ref a))
theorem LocA.own {env : Env} {σ : St} {a : Addr} (h : LocA env σ a) : OwnA env σ a := by
  obtain ⟨i, s, h1, h2, h3⟩ := h
  refine ⟨i, s, h1, ?_, h3⟩
  cases s <;> simp_all [Sl.loc, Sl.mine]

def SlOk (K : PySem.W.Frag) (F H : Hp) (O : Addr → Prop) : Sl → Option V → Prop
  | .un, _ => True
  | .val d, ov => ∃ v, ov = some v ∧ Rep K F d v
  | .own d, ov => ∃ a, ov = some (.ref a) ∧ F a = none ∧ ORep K F H d a
  | .io d, ov => ∃ a, ov = some (.ref a) ∧ F a = none ∧ ORep K F H d a
  | .br d, ov => ∃ v, ov = some v ∧ (Rep K F d v ∨ ∃ a, v = .ref a ∧ ¬ O a ∧ ORep K F H d a)

structure SR (K : PySem.W.Frag) (F H : Hp) (σ : St) (env : Env) : Prop where
  sub : Same F H
  len : env.length = σ.length
  sl : ∀ (i : Nat) (s : Sl), env[i]? = some s → ∃ ov, σ[i]? = some ov ∧ SlOk K F H (OwnA env σ) s ov
  inj : ∀ (i j : Nat) (s t : Sl) (a : Addr), env[i]? = some s → env[j]? = some t → s.mine = true → t.mine = true → σ[i]? = some (some (.ref a)) → σ[j]? = some (some (.ref a)) → i = j

structure Step (F H : Hp) (σ : St) (env : Env) (F' H' : Hp) (σ' : St) (env' : Env) : Prop where
  fr : Same F F'
  keep : ∀ a o, H a = some o → ¬ OwnA env σ a → H' a = some o
  new : ∀ a, F' a ≠ none → F a ≠ none ∨ H a = none ∨ LocA env σ a
  own : ∀ a, OwnA env' σ' a → OwnA env σ a ∨ H a = none
  loc : ∀ a, LocA env' σ' a → LocA env σ a ∨ H a = none
  io : ∀ (i : Nat) (d : D), env[i]? = some (.io d) → σ'[i]? = σ[i]? ∧ ∃ d', env'[i]? = some (.io d')
  dom : ∀ a, H' a = none → H a = none
  br : ∀ (i : Nat) (d : D), env'[i]? = some (.br d) → env[i]? = some (.br d) ∧ σ'[i]? = σ[i]?

theorem Step.refl {F H : Hp} {σ : St} {env : Env} : Step F H σ env F H σ env :=
  ⟨Same.refl _, fun _ _ h _ => h, fun _ h => .inl h, fun _ h => .inl h, fun _ h => .inl h, fun _ d h => ⟨rfl, d, h⟩, fun _ h => h, fun _ _ h => ⟨h, rfl⟩⟩
theorem Step.trans {F H F1 H1 F2 H2 : Hp} {σ σ1 σ2 : St} {env env1 env2 : Env} (a : Step F H σ env F1 H1 σ1 env1) (b : Step F1 H1 σ1 env1 F2 H2 σ2 env2) : Step F H σ env F2 H2 σ2 env2 where
  fr := a.fr.trans b.fr
  keep := fun x o h n => b.keep x o (a.keep x o h n) fun q => (a.own x q).elim n fun z => by rw [z] at h; cases h
  new := fun x h => (b.new x h).elim (fun z => a.new x z) fun z => z.elim (fun z => .inr (.inl (a.dom x z))) fun z => (a.loc x z).elim (fun z => .inr (.inr z)) fun z => .inr (.inl z)
  own := fun x h => (b.own x h).elim (fun z => a.own x z) fun z => .inr (a.dom x z)
  loc := fun x h => (b.loc x h).elim (fun z => a.loc x z) fun z => .inr (a.dom x z)
  io := fun i d h => by
    obtain ⟨e1, d1, h1⟩ := a.io i d h
    obtain ⟨e2, d2, h2⟩ := b.io i d1 h1
    exact ⟨e2.trans e1, d2, h2⟩
  dom := fun x h => a.dom x (b.dom x h)
  br := fun i d h => by
    obtain ⟨h1, e1⟩ := b.br i d h
    obtain ⟨h2, e2⟩ := a.br i d h1
    exact ⟨h2, e1.trans e2⟩

/-! ### results of expressions -/
inductive R where
  | val (d : D) | al (i : Nat) | new (d : D)
def slotD (env : Env) (i : Nat) : Option D := match env[i]? with
  | some s => s.d
  | none => none
def content (env : Env) : R → Option D
  | .val d => some d
  | .al i => slotD env i
  | .new d => some d
def RR (K : PySem.W.Frag) (H0 F H : Hp) (σ : St) (env : Env) : R → V → Prop
  | .val d, v => Rep K F d v
  | .al i, v => σ[i]? = some (some v)
  | .new d, v => ∃ a, v = .ref a ∧ F a = none ∧ H0 a = none ∧ ¬ OwnA env σ a ∧ ORep K F H d a

theorem slot_prep {K : PySem.W.Frag} {F H : Hp} {σ : St} {env : Env} (S : SR K F H σ env) {i : Nat} {d : D} (h : slotD env i = some d) : ∃ v, σ[i]? = some (some v) ∧ PRep K F H d v := by
  unfold slotD at h
  cases e : env[i]? with
  | none => rw [e] at h; cases h
  | some s =>
    rw [e] at h
    obtain ⟨ov, e1, q⟩ := S.sl i s e
    cases s with
    | un => cases h
    | val d' => cases h; obtain ⟨v, rfl, r⟩ := q; exact ⟨v, e1, .inl r⟩
    | own d' => cases h; obtain ⟨a, rfl, _, r⟩ := q; exact ⟨_, e1, .inr ⟨a, rfl, r⟩⟩
    | io d' => cases h; obtain ⟨a, rfl, _, r⟩ := q; exact ⟨_, e1, .inr ⟨a, rfl, r⟩⟩
    | br d' =>
      cases h; obtain ⟨v, rfl, r⟩ := q
      rcases r with r | ⟨a, rfl, _, r⟩
      · exact ⟨v, e1, .inl r⟩
      · exact ⟨_, e1, .inr ⟨a, rfl, r⟩⟩
theorem RR.prep {K : PySem.W.Frag} {H0 F H : Hp} {σ : St} {env : Env} (S : SR K F H σ env) {r : R} {v : V} {d : D} (h : RR K H0 F H σ env r v) (c : content env r = some d) : PRep K F H d v := by
  cases r with
  | val d' => cases c; exact .inl h
  | al i =>
    obtain ⟨u, e, q⟩ := slot_prep S c
    have h2 : σ[i]? = some (some v) := h
    rw [h2] at e
    cases e
    exact q
  | new d' => cases c; obtain ⟨a, rfl, _, _, _, q⟩ := h; exact .inr ⟨a, rfl, q⟩

/-- got o k: o gives a value, of which k -/
def got {α : Type} (o : Option α) (k : α → Prop) : Prop := ∃ a, o = some a ∧ k a
@[simp] theorem got_some {α : Type} {a : α} {k : α → Prop} : got (some a) k ↔ k a := ⟨fun ⟨_, e, h⟩ => by cases e; exact h, fun h => ⟨a, rfl, h⟩⟩
@[simp] theorem got_none {α : Type} {k : α → Prop} : got (none : Option α) k ↔ False := ⟨fun ⟨_, e, _⟩ => (nomatch e), fun h => h.elim⟩

/-! ### laying, freezing, storing -/
section
variable {K : PySem.W.Frag} {F H F' H' : Hp} {σ σ' : St} {env env' : Env} {a p : Addr} {o : HO}
theorem same_new (h : H p = none) : Same H (upd H p o) := fun b u e => by rw [upd_ne (ne_of_none e h)]; exact e
theorem SR.fnone (S : SR K F H σ env) (h : H p = none) : F p = none := S.sub.free h
theorem SlOk.mono {O O' : Addr → Prop} {s : Sl} {ov : Option V} (f : Same F F') (k : ∀ a u, H a = some u → H' a = some u) (n : ∀ a, O a → F a = none → F' a = none) (hO : ∀ a, (s = .own (s.d.getD .non) ∨ s = .io (s.d.getD .non)) → ov = some (.ref a) → O a) (oo : ∀ a, O' a → O a ∨ H a = none)
    (h : SlOk K F H O s ov) : SlOk K F' H' O' s ov := by
  cases s with
  | un => trivial
  | val d => obtain ⟨v, e, r⟩ := h; exact ⟨v, e, r.mono f⟩
  | own d => obtain ⟨a, e, z, r⟩ := h; exact ⟨a, e, n a (hO a (.inl rfl) e) z, r.mono f (k a)⟩
  | io d => obtain ⟨a, e, z, r⟩ := h; exact ⟨a, e, n a (hO a (.inr rfl) e) z, r.mono f (k a)⟩
  | br d =>
    obtain ⟨v, e, r⟩ := h
    refine ⟨v, e, ?_⟩
    rcases r with r | ⟨a, e2, z, r⟩
    · exact .inl (r.mono f)
    · refine .inr ⟨a, e2, fun q => ?_, r.mono f (k a)⟩
      rcases oo a q with y | y
      · exact z y
      · obtain ⟨u, y2⟩ := r.there
        rw [y] at y2; cases y2
theorem mine_own {s : Sl} {i : Nat} {x : Addr} (e : env[i]? = some s) (q : s = .own (s.d.getD .non) ∨ s = .io (s.d.getD .non)) (e2 : σ[i]? = some (some (.ref x))) : OwnA env σ x :=
  ⟨i, s, e, by rcases q with q | q <;> (rw [q]; rfl), e2⟩
/-- more is frozen, more is laid; the frame's cells stand -/
theorem SR.more (S : SR K F H σ env) (f : Same F F') (k : Same H H') (s : Same F' H') (n : ∀ a, OwnA env σ a → F a = none → F' a = none) : SR K F' H' σ env := by
  refine ⟨s, S.len, fun i s e => ?_, S.inj⟩
  obtain ⟨ov, e1, q⟩ := S.sl i s e
  exact ⟨ov, e1, q.mono f k n (fun a z e2 => mine_own e z (e1.trans (congrArg some e2))) fun a z => .inl z⟩
/-- a new cell, not frozen -/
theorem SR.laid (S : SR K F H σ env) (h : H p = none) : SR K F (upd H p o) σ env :=
  S.more (Same.refl _) (same_new h) (S.sub.trans (same_new h)) fun _ _ z => z
theorem OwnA.there (S : SR K F H σ env) (h : OwnA env σ a) : (∃ u, H a = some u) ∧ F a = none := by
  obtain ⟨i, s, e, m, e2⟩ := h
  obtain ⟨ov, e1, q⟩ := S.sl i s e
  rw [e2] at e1; cases e1
  cases s with
  | own d => obtain ⟨b, e3, z, r⟩ := q; cases e3; exact ⟨r.there, z⟩
  | io d => obtain ⟨b, e3, z, r⟩ := q; cases e3; exact ⟨r.there, z⟩
  | _ => cases m
theorem Step.laid (S : SR K F H σ env) (h : H p = none) : Step F H σ env F (upd H p o) σ env :=
  ⟨Same.refl _, fun b u e _ => same_new h b u e, fun _ z => .inl z, fun _ z => .inl z, fun _ z => .inl z, fun _ d z => ⟨rfl, d, z⟩, fun b z => (same_new (o := o) h).free z, fun _ _ z => ⟨z, rfl⟩⟩
/-- a new cell, frozen -/
theorem SR.laidF (S : SR K F H σ env) (h : H p = none) : SR K (upd F p o) (upd H p o) σ env :=
  S.more (same_new (S.fnone h)) (same_new h) (fun b u e => by
    by_cases hb : b = p
    · subst hb; rw [upd_same] at e ⊢; exact e
    · rw [upd_ne hb] at e ⊢; exact S.sub b u e) fun b q z => by
    obtain ⟨⟨u, e⟩, _⟩ := OwnA.there S q
    rw [upd_ne (ne_of_none e h)]; exact z
theorem Step.laidF (S : SR K F H σ env) (h : H p = none) : Step F H σ env (upd F p o) (upd H p o) σ env :=
  ⟨same_new (S.fnone h), fun b u e _ => same_new h b u e, fun b z => by
    by_cases hb : b = p
    · exact .inr (.inl (hb ▸ h))
    · rw [upd_ne hb] at z; exact .inl z, fun _ z => .inl z, fun _ z => .inl z, fun _ d z => ⟨rfl, d, z⟩, fun b z => (same_new (o := o) h).free z, fun _ _ z => ⟨z, rfl⟩⟩
theorem getElem?_set_any {α : Type} {l : List α} {i j : Nat} {x y : α} (h : (l.set i x)[j]? = some y) : (j = i ∧ y = x ∧ i < l.length) ∨ (j ≠ i ∧ l[j]? = some y) := by
  by_cases e : j = i
  · subst e
    by_cases hl : j < l.length
    · rw [List.getElem?_set_self hl] at h; cases h; exact .inl ⟨rfl, rfl, hl⟩
    · rw [List.getElem?_eq_none (by simpa using hl)] at h; cases h
  · rw [List.getElem?_set_ne (Ne.symm e)] at h; exact .inr ⟨e, h⟩
/-- the frame's set behind a store: less, or the stored cell -/
theorem own_set {i : Nat} {s : Sl} {v : V} (h : OwnA (env.set i s) (σ.set i (some v)) a) : (s.mine = true ∧ v = .ref a) ∨ OwnA env σ a := by
  obtain ⟨j, t, e, m, e2⟩ := h
  rcases getElem?_set_any e with ⟨rfl, rfl, _⟩ | ⟨hj, e⟩
  · rcases getElem?_set_any e2 with ⟨_, e3, _⟩ | ⟨hj, _⟩
    · cases e3; exact .inl ⟨m, rfl⟩
    · exact absurd rfl hj
  · rcases getElem?_set_any e2 with ⟨e3, _⟩ | ⟨_, e3⟩
    · exact absurd e3 hj
    · exact .inr ⟨j, t, e, m, e3⟩
theorem loc_set {i : Nat} {s : Sl} {v : V} (h : LocA (env.set i s) (σ.set i (some v)) a) : (s.loc = true ∧ v = .ref a) ∨ LocA env σ a := by
  obtain ⟨j, t, e, m, e2⟩ := h
  rcases getElem?_set_any e with ⟨rfl, rfl, _⟩ | ⟨hj, e⟩
  · rcases getElem?_set_any e2 with ⟨_, e3, _⟩ | ⟨hj, _⟩
    · cases e3; exact .inl ⟨m, rfl⟩
    · exact absurd rfl hj
  · rcases getElem?_set_any e2 with ⟨e3, _⟩ | ⟨_, e3⟩
    · exact absurd e3 hj
    · exact .inr ⟨j, t, e, m, e3⟩
def notIo (env : Env) (i : Nat) : Prop := ∀ d, env[i]? ≠ some (.io d)
def Sl.isBr : Sl → Bool
  | .br _ => true
  | _ => false
theorem step_set {i : Nat} {s : Sl} {v : V} (n : notIo env i) (nb : s.isBr = false) (hs : s.mine = true → s.loc = true ∧ (∀ a, v = .ref a → H a = none ∨ LocA env σ a)) : Step F H σ env F H (σ.set i (some v)) (env.set i s) :=
  ⟨Same.refl _, fun _ _ e _ => e, fun _ z => .inl z, fun a z => by
    rcases own_set z with ⟨m, e⟩ | z
    · exact ((hs m).2 a e).elim .inr fun z => .inl z.own
    · exact .inl z, fun a z => by
    rcases loc_set z with ⟨m, e⟩ | z
    · have m' : s.mine = true := by cases s <;> simp_all [Sl.loc, Sl.mine]
      exact ((hs m').2 a e).elim .inr .inl
    · exact .inl z, fun j d e => by
    have hj : j ≠ i := fun q => n d (q ▸ e)
    rw [List.getElem?_set_ne (Ne.symm hj), List.getElem?_set_ne (Ne.symm hj)]
    exact ⟨rfl, d, e⟩, fun _ z => z, fun j d e => by
    rcases getElem?_set_any e with ⟨_, rfl, _⟩ | ⟨hj, e⟩
    · cases nb
    · exact ⟨e, List.getElem?_set_ne (Ne.symm hj)⟩⟩
/-- x = a frozen value -/
theorem SR.setVal (S : SR K F H σ env) {i : Nat} {d : D} {v : V} (r : Rep K F d v) : SR K F H (σ.set i (some v)) (env.set i (.val d)) := by
  have oo : ∀ a, OwnA (env.set i (.val d)) (σ.set i (some v)) a → OwnA env σ a := fun a z => by
    rcases own_set z with ⟨m, _⟩ | z
    · cases m
    · exact z
  refine ⟨S.sub, by rw [List.length_set, List.length_set, S.len], fun j s e => ?_, fun j k s t a e1 e2 m1 m2 q1 q2 => ?_⟩
  · rcases getElem?_set_any e with ⟨rfl, rfl, hl⟩ | ⟨hj, e⟩
    · exact ⟨some v, List.getElem?_set_self (by rw [← S.len]; exact hl), v, rfl, r⟩
    · obtain ⟨ov, e1, q⟩ := S.sl j s e
      exact ⟨ov, by rw [List.getElem?_set_ne (Ne.symm hj)]; exact e1, q.mono (Same.refl _) (fun _ _ z => z) (fun _ _ z => z) (fun a z e2 => mine_own e z (e1.trans (congrArg some e2))) fun a z => .inl (oo a z)⟩
  · rcases getElem?_set_any e1 with ⟨_, rfl, _⟩ | ⟨h1, e1⟩
    · cases m1
    · rcases getElem?_set_any e2 with ⟨_, rfl, _⟩ | ⟨h2, e2⟩
      · cases m2
      · rw [List.getElem?_set_ne (Ne.symm h1)] at q1
        rw [List.getElem?_set_ne (Ne.symm h2)] at q2
        exact S.inj j k s t a e1 e2 m1 m2 q1 q2
/-- x = a new cell -/
theorem SR.setOwn (S : SR K F H σ env) {i : Nat} {d : D} (n : F a = none) (no : ¬ OwnA env σ a) (nb : ∀ (j : Nat) (e : D) (b : Addr), env[j]? = some (.br e) → σ[j]? = some (some (.ref b)) → ORep K F H e b → Rep K F e (.ref b) ∨ b ≠ a) (r : ORep K F H d a) : SR K F H (σ.set i (some (.ref a))) (env.set i (.own d)) := by
  have oo : ∀ b, OwnA (env.set i (.own d)) (σ.set i (some (.ref a))) b → b = a ∨ OwnA env σ b := fun b z => by
    rcases own_set z with ⟨_, e⟩ | z
    · cases e; exact .inl rfl
    · exact .inr z
  refine ⟨S.sub, by rw [List.length_set, List.length_set, S.len], fun j s e => ?_, fun j k s t b e1 e2 m1 m2 q1 q2 => ?_⟩
  · rcases getElem?_set_any e with ⟨rfl, rfl, hl⟩ | ⟨hj, e⟩
    · exact ⟨some (.ref a), List.getElem?_set_self (by rw [← S.len]; exact hl), a, rfl, n, r⟩
    · obtain ⟨ov, e1, q⟩ := S.sl j s e
      refine ⟨ov, by rw [List.getElem?_set_ne (Ne.symm hj)]; exact e1, ?_⟩
      cases s with
      | un => trivial
      | val d => exact q
      | own d => exact q
      | io d => exact q
      | br d' =>
        obtain ⟨v, e3, q⟩ := q
        refine ⟨v, e3, ?_⟩
        rcases q with q | ⟨b, e4, z, q⟩
        · exact .inl q
        · subst e4; subst e3
          rcases nb j d' b e e1 q with y | y
          · exact .inl y
          · exact .inr ⟨b, rfl, fun q2 => (oo b q2).elim y z, q⟩
  · have key : ∀ j (s : Sl), (env.set i (.own d))[j]? = some s → s.mine = true → (σ.set i (some (.ref a)))[j]? = some (some (.ref b)) → (j = i ∧ b = a) ∨ (j ≠ i ∧ env[j]? = some s ∧ σ[j]? = some (some (.ref b)) ∧ b ≠ a) := fun j s e m q => by
      rcases getElem?_set_any e with ⟨rfl, rfl, hl⟩ | ⟨hj, e⟩
      · rcases getElem?_set_any q with ⟨_, e3, _⟩ | ⟨h, _⟩
        · cases e3; exact .inl ⟨rfl, rfl⟩
        · exact absurd rfl h
      · rw [List.getElem?_set_ne (Ne.symm hj)] at q
        exact .inr ⟨hj, e, q, fun z => no (z ▸ ⟨j, s, e, m, q⟩)⟩
    rcases key j s e1 m1 q1 with ⟨rfl, hb⟩ | ⟨h1, e1, q1, hb⟩
    · rcases key k t e2 m2 q2 with ⟨rfl, _⟩ | ⟨_, _, _, hb2⟩
      · rfl
      · exact absurd hb hb2
    · rcases key k t e2 m2 q2 with ⟨rfl, hb2⟩ | ⟨h2, e2, q2, _⟩
      · exact absurd hb2 hb
      · exact S.inj j k s t b e1 e2 m1 m2 q1 q2
end
end Pd

set_option Elab.async false
set_option linter.all false
set_option maxRecDepth 100000
/-! Judgements over pure data; names, constants, stores, blocks. -/
namespace Pd
open PySem PySem.Spec PyProof.Rows L2

section
variable {K : PySem.W.Frag} {F H F0 H0 F' H' : Hp} {σ σ0 σ' : St} {env env0 env' : Env} {a p : Addr} {o : HO}
/-- a new cell becomes frozen -/
theorem freeze_new {d : D} (T : Step F0 H0 σ0 env0 F H σ env) (S : SR K F H σ env) (n : F a = none) (n0 : H0 a = none) (no : ¬ OwnA env σ a) (r : ORep K F H d a) :
    ∃ F', SR K F' H σ env ∧ Step F0 H0 σ0 env0 F' H σ env ∧ Rep K F' d (.ref a) := by
  obtain ⟨o, e⟩ := r.there
  have f : Same F (upd F a o) := same_new n
  refine ⟨upd F a o, S.more f (Same.refl _) (fun b u z => ?_) (fun b q z => ?_), ⟨T.fr.trans f, T.keep, fun b z => ?_, T.own, T.loc, T.io, T.dom, T.br⟩, r.frozen e n⟩
  · by_cases hb : b = a
    · subst hb; rw [upd_same] at z; rw [e]; exact z
    · rw [upd_ne hb] at z; exact S.sub b u z
  · have hb : b ≠ a := fun y => no (y ▸ q)
    rw [upd_ne hb]; exact z
  · by_cases hb : b = a
    · exact .inr (.inl (hb ▸ n0))
    · rw [upd_ne hb] at z; exact T.new b z
theorem getElem?_set_self' {α : Type} {l : List α} {i : Nat} {x y : α} (h : l[i]? = some y) : (l.set i x)[i]? = some x := List.getElem?_set_self (List.getElem?_eq_some_iff.mp h).1
/-- a local's cell becomes frozen -/
theorem freeze_own {d : D} {i : Nat} (T : Step F0 H0 σ0 env0 F H σ env) (S : SR K F H σ env) (e : env[i]? = some (.own d)) :
    ∃ F' a, σ[i]? = some (some (.ref a)) ∧ SR K F' H σ (env.set i (.val d)) ∧ Step F0 H0 σ0 env0 F' H σ (env.set i (.val d)) ∧ Rep K F' d (.ref a) := by
  obtain ⟨ov, e1, a, rfl, n, r⟩ := S.sl i _ e
  obtain ⟨o, eo⟩ := r.there
  have f : Same F (upd F a o) := same_new n
  have hl : LocA env σ a := ⟨i, _, e, rfl, e1⟩
  have ow : ∀ b, OwnA (env.set i (.val d)) σ b → OwnA env σ b := fun b ⟨j, s, h1, h2, h3⟩ => by
    rcases getElem?_set_any h1 with ⟨_, rfl, _⟩ | ⟨_, h1⟩
    · cases h2
    · exact ⟨j, s, h1, h2, h3⟩
  have lo : ∀ b, LocA (env.set i (.val d)) σ b → LocA env σ b := fun b ⟨j, s, h1, h2, h3⟩ => by
    rcases getElem?_set_any h1 with ⟨_, rfl, _⟩ | ⟨_, h1⟩
    · cases h2
    · exact ⟨j, s, h1, h2, h3⟩
  have na : ¬ OwnA (env.set i (.val d)) σ a := fun ⟨j, s, h1, h2, h3⟩ => by
    rcases getElem?_set_any h1 with ⟨_, rfl, _⟩ | ⟨hj, h1⟩
    · cases h2
    · exact hj (S.inj j i s _ a h1 e h2 rfl h3 e1)
  have rd := r.frozen eo n
  refine ⟨upd F a o, a, e1, ⟨fun b u z => ?_, by rw [List.length_set, S.len], fun j s h => ?_, fun j k s t b h1 h2 m1 m2 q1 q2 => ?_⟩, ⟨T.fr.trans f, T.keep, fun b z => ?_, fun b z => T.own b (ow b z), fun b z => T.loc b (lo b z), fun j d' h => ?_, T.dom, fun j d' h => ?_⟩, rd⟩
  · by_cases hb : b = a
    · subst hb; rw [upd_same] at z; rw [eo]; exact z
    · rw [upd_ne hb] at z; exact S.sub b u z
  · rcases getElem?_set_any h with ⟨rfl, rfl, _⟩ | ⟨hj, h⟩
    · exact ⟨_, e1, .ref a, rfl, rd⟩
    · obtain ⟨ov, e2, q⟩ := S.sl j s h
      refine ⟨ov, e2, ?_⟩
      have ne : ∀ b, (s = .own (s.d.getD .non) ∨ s = .io (s.d.getD .non)) → ov = some (.ref b) → b ≠ a := fun b z y hb => by
        subst hb; subst y
        have m : s.mine = true := by rcases z with z | z <;> (rw [z]; rfl)
        exact hj (S.inj j i s _ b h e m rfl e2 e1)
      cases s with
      | un => trivial
      | val d' => obtain ⟨v, e3, r'⟩ := q; exact ⟨v, e3, r'.mono f⟩
      | own d' =>
        obtain ⟨b, e3, z, r'⟩ := q
        refine ⟨b, e3, ?_, r'.mono f fun _ z => z⟩
        rw [upd_ne (ne b (.inl rfl) e3)]; exact z
      | io d' =>
        obtain ⟨b, e3, z, r'⟩ := q
        refine ⟨b, e3, ?_, r'.mono f fun _ z => z⟩
        rw [upd_ne (ne b (.inr rfl) e3)]; exact z
      | br d' =>
        obtain ⟨v, e3, q⟩ := q
        refine ⟨v, e3, ?_⟩
        rcases q with q | ⟨b, e4, z, q⟩
        · exact .inl (q.mono f)
        · exact .inr ⟨b, e4, fun y => z (ow b y), q.mono f fun _ z => z⟩
  · rcases getElem?_set_any h1 with ⟨_, rfl, _⟩ | ⟨_, h1⟩
    · cases m1
    · rcases getElem?_set_any h2 with ⟨_, rfl, _⟩ | ⟨_, h2⟩
      · cases m2
      · exact S.inj j k s t b h1 h2 m1 m2 q1 q2
  · by_cases hb : b = a
    · subst hb
      exact (T.loc b hl).elim (fun z => .inr (.inr z)) fun z => .inr (.inl z)
    · rw [upd_ne hb] at z; exact T.new b z
  · obtain ⟨h1, d2, h2⟩ := T.io j d' h
    refine ⟨h1, d2, ?_⟩
    have hj : j ≠ i := fun y => by subst y; rw [h2] at e; cases e
    rw [List.getElem?_set_ne (Ne.symm hj)]; exact h2
  · rcases getElem?_set_any h with ⟨_, q, _⟩ | ⟨_, h⟩
    · cases q
    · exact T.br j d' h
end

def imm : D → Bool
  | .lst _ => false
  | .dct _ _ => false
  | .obj _ _ _ => false
  | _ => true
/-- a result that is kept in a structure, or behind another name: frozen -/
def escape (env : Env) : R → Option (Env × D)
  | .val d => some (env, d)
  | .new d => some (env, d)
  | .al i => match env[i]? with
    | some (.val d) => some (env, d)
    | some (.own d) => some (env.set i (.val d), d)
    | some (.br d) => if imm d = true then some (env, d) else none
    | _ => none
theorem escape_ok {K : PySem.W.Frag} {F H F0 H0 : Hp} {σ σ0 : St} {env env0 env' : Env} {r : R} {v : V} {d : D} (T : Step F0 H0 σ0 env0 F H σ env) (S : SR K F H σ env) (h : RR K H0 F H σ env r v) (e : escape env r = some (env', d)) :
    ∃ F', SR K F' H σ env' ∧ Step F0 H0 σ0 env0 F' H σ env' ∧ Rep K F' d v := by
  cases r with
  | val d' => cases e; exact ⟨F, S, T, h⟩
  | new d' =>
    cases e
    obtain ⟨a, rfl, n, n0, no, r⟩ := h
    exact freeze_new T S n n0 no r
  | al i =>
    have h : σ[i]? = some (some v) := h
    unfold escape at e
    simp only at e
    split at e
    · rename_i d' q
      cases e
      obtain ⟨ov, e1, u, rfl, r⟩ := S.sl i _ q
      rw [h] at e1; cases e1
      exact ⟨F, S, T, r⟩
    · rename_i d' q
      cases e
      obtain ⟨F', a, e1, h1, h2, h3⟩ := freeze_own T S q
      rw [h] at e1; cases e1
      exact ⟨F', h1, h2, h3⟩
    · rename_i d' q
      split at e
      · rename_i hi
        cases e
        obtain ⟨ov, e1, u, rfl, r⟩ := S.sl i _ q
        rw [h] at e1; cases e1
        rcases r with r | ⟨a, _, _, r⟩
        · exact ⟨F, S, T, r⟩
        · cases d <;> first | (cases hi; done) | exact r.elim
      · cases e
    · cases e

/-! ### judgements -/
abbrev TD := Env → (Env → R → Prop) → Prop
abbrev TTD := Env → (Env → Bool → Prop) → Prop
abbrev TAD := Env → (Env → List R → Prop) → Prop
/-- a reading over data as one over the heap -/
def up (K : PySem.W.Frag) (t : TD) : TE := fun σ H Q => ∃ F env k, SR K F H σ env ∧ t env k ∧ ∀ env' r, k env' r → ∀ F' H' v, SR K F' H' σ env' → Step F H σ env F' H' σ env' → RR K H F' H' σ env' r v → Q v H'
def upT (K : PySem.W.Frag) (t : TTD) : TT := fun σ H Q => ∃ F env k, SR K F H σ env ∧ t env k ∧ ∀ env' b, k env' b → ∀ F' H', SR K F' H' σ env' → Step F H σ env F' H' σ env' → Q b H'
/-- an argument: frozen, or a slot's -/
def RA (K : PySem.W.Frag) (F : Hp) (σ : St) : R → V → Prop
  | .val d, v => Rep K F d v
  | .al i, v => σ[i]? = some (some v)
  | .new _, _ => False
abbrev RAs (K : PySem.W.Frag) (F : Hp) (σ : St) : List R → List V → Prop := Paired (RA K F σ)
def R.seal : R → R
  | .new d => .val d
  | r => r
def upA (K : PySem.W.Frag) (t : TAD) : TA := fun σ H Q => ∃ F env k, SR K F H σ env ∧ t env k ∧ ∀ env' rs, k env' rs → ∀ F' H' vs, SR K F' H' σ env' → Step F H σ env F' H' σ env' → RAs K F' σ rs vs → Q vs H'
structure PX (X : Cx) (e : Expr) (t : TD) : Prop where
  run : PE X e (up X.K t)
structure PXT (X : Cx) (e : Expr) (t : TTD) : Prop where
  run : PT X e (upT X.K t)
structure PXW (X : Cx) (e : Expr) (t : TTD) : Prop where
  run : PW X e (upT X.K t)
structure PXA (X : Cx) (es : List Expr) (t : TAD) : Prop where
  run : PA X es (upA X.K t)

theorem _root_.L2.PE.imp {X : Cx} {e : Expr} {t t' : TE} (h : PE X e t) (i : ∀ σ H Q, t' σ H Q → t σ H Q) : PE X e t' := ⟨fun pins s σ H Q I q => h.run pins s σ H Q I (i σ H Q q)⟩
theorem _root_.L2.PT.imp {X : Cx} {e : Expr} {t t' : TT} (h : PT X e t) (i : ∀ σ H Q, t' σ H Q → t σ H Q) : PT X e t' := ⟨fun pins s σ H Q I q => h.run pins s σ H Q I (i σ H Q q)⟩
theorem _root_.L2.PW.imp {X : Cx} {e : Expr} {t t' : TT} (h : PW X e t) (i : ∀ σ H Q, t' σ H Q → t σ H Q) : PW X e t' := ⟨fun whole pins s σ H Q I q => h.run whole pins s σ H Q I (i σ H Q q)⟩
theorem _root_.L2.PA.imp {X : Cx} {e : List Expr} {t t' : TA} (h : PA X e t) (i : ∀ σ H Q, t' σ H Q → t σ H Q) : PA X e t' := ⟨fun pos pins s σ H Q I q => h.run pos pins s σ H Q I (i σ H Q q)⟩
theorem _root_.L2.PS.imp {X : Cx} {e : Stmt} {t t' : TS} (h : PS X e t) (i : ∀ D σ H, t' D σ H → t D σ H) : PS X e t' := ⟨fun pins s σ H D I q => h.run pins s σ H D I (i D σ H q)⟩
theorem _root_.L2.PSs.imp {X : Cx} {e : List Stmt} {t t' : TS} (h : PSs X e t) (i : ∀ D σ H, t' D σ H → t D σ H) : PSs X e t' := ⟨fun pins s σ H D I q => h.run pins s σ H D I (i D σ H q)⟩

section
variable {K : PySem.W.Frag} {F H F0 H0 F' H' F1 H1 : Hp} {σ σ0 σ1 : St} {env env0 env' env1 : Env}
theorem rr_bl {b : Bool} : RR K H0 F H σ env (.val (.bl b)) (.bl b) := (show Rep K F (.bl b) (.bl b) from rep_bl.mpr rfl)
theorem rr_non : RR K H0 F H σ env (.val .non) .non := (show Rep K F .non .non from rep_non.mpr rfl)
theorem RR.back {r : R} {v : V} (h : RR K H1 F' H' σ env' r v) (dom : ∀ a, H1 a = none → H0 a = none) : RR K H0 F' H' σ env' r v := by
  cases r with
  | val d => exact h
  | al i => exact h
  | new d => obtain ⟨a, e, n, n0, no, r⟩ := h; exact ⟨a, e, n, dom a n0, no, r⟩
/-- after one expression the next: what is wanted of both -/
theorem seal_ok {r : R} {v : V} (T : Step F0 H0 σ0 env0 F H σ env) (S : SR K F H σ env) (h : RR K H0 F H σ env r v) : ∃ F', SR K F' H σ env ∧ Step F0 H0 σ0 env0 F' H σ env ∧ RA K F' σ r.seal v := by
  cases r with
  | val d => exact ⟨F, S, T, h⟩
  | al i => exact ⟨F, S, T, h⟩
  | new d =>
    obtain ⟨a, rfl, n, n0, no, r⟩ := h
    exact freeze_new T S n n0 no r
theorem RA.mono {r : R} {v : V} (h : RA K F σ r v) (s : Same F F') : RA K F' σ r v := by
  cases r with
  | val d => exact Rep.mono s h
  | al i => exact h
  | new d => exact h
theorem RA.rr {r : R} {v : V} (h : RA K F σ r v) : RR K H0 F H σ env r v := by
  cases r with
  | val d => exact h
  | al i => exact h
  | new d => exact h.elim
theorem RAs.mono {rs : List R} {vs : List V} (h : RAs K F σ rs vs) (s : Same F F') : RAs K F' σ rs vs := Paired.mapP h fun _ _ r => RA.mono r s
end

section
variable {X : Cx} {a b : Expr} {ta tb : TD} {pos : Pos}
/-- two expressions in a row -/
theorem up_bin {K : PySem.W.Frag} {σ : St} {H : Hp} {k : Env → R → Env → R → Prop} {F : Hp} {env : Env} {Q : V → V → Hp → Prop} (S : SR K F H σ env) (h : ta env fun e1 r1 => tb e1 fun e2 r2 => k e1 r1 e2 r2)
    (hk : ∀ e1 r1 e2 r2, k e1 r1 e2 r2 → ∀ F2 H2 v1 v2, SR K F2 H2 σ e2 → Step F H σ env F2 H2 σ e2 → RA K F2 σ r1.seal v1 → RR K H F2 H2 σ e2 r2 v2 → Q v1 v2 H2) :
    up K ta σ H fun x H1 => up K tb σ H1 fun y H2 => Q x y H2 := by
  refine ⟨F, env, _, S, h, fun e1 r1 q1 F1 H1 v1 S1 T1 rr1 => ?_⟩
  obtain ⟨F1', S1', T1', ra1⟩ := seal_ok T1 S1 rr1
  refine ⟨F1', e1, _, S1', q1, fun e2 r2 q2 F2 H2 v2 S2 T2 rr2 => ?_⟩
  exact hk e1 r1 e2 r2 q2 F2 H2 v1 v2 S2 (T1'.trans T2) (ra1.mono T2.fr) (rr2.back T1'.dom)
end

/-! ### operations by values -/
inductive Out where
  | v (d : D) | l (ds : List D) | t (ds : List D) | dc (ks vs : List D)
def Out.r : Out → R
  | .v d => .val d
  | .l ds => .new (.lst ds)
  | .t ds => .val (.tup ds)
  | .dc ks vs => .new (.dct ks vs)
def OutOk (K : PySem.W.Frag) (F H : Hp) : Out → V → Hp → Prop
  | .v d, v, H' => H' = H ∧ Rep K F d v
  | .l ds, v, H' => ∃ p vs, v = .ref p ∧ H p = none ∧ H' = upd H p (.lst vs) ∧ Reps K F ds vs
  | .t ds, v, H' => (∃ p vs, v = .ref p ∧ H p = none ∧ H' = upd H p (.tup vs) ∧ Reps K F ds vs) ∨ (H' = H ∧ Rep K F (.tup ds) v)
  | .dc ks ds, v, H' => ∃ p o vs, v = .ref p ∧ H p = none ∧ H' = upd H p o ∧ DctAt (upd H p o) p ks vs ∧ Reps K F ds vs
theorem out_ok {K : PySem.W.Frag} {F H H' : Hp} {σ : St} {env : Env} {o : Out} {v : V} (S : SR K F H σ env) (h : OutOk K F H o v H') : ∃ F', SR K F' H' σ env ∧ Step F H σ env F' H' σ env ∧ RR K H F' H' σ env o.r v := by
  have nO : ∀ p, H p = none → ¬ OwnA env σ p := fun p n z => by
    obtain ⟨⟨u, e⟩, _⟩ := OwnA.there S z
    rw [n] at e; cases e
  cases o with
  | v d => obtain ⟨rfl, r⟩ := h; exact ⟨F, S, Step.refl, r⟩
  | l ds =>
    obtain ⟨p, vs, rfl, n, rfl, r⟩ := h
    exact ⟨F, S.laid n, Step.laid S n, p, rfl, S.fnone n, n, nO p n, vs, upd_same, r⟩
  | t ds =>
    rcases h with ⟨p, vs, rfl, n, rfl, r⟩ | ⟨rfl, r⟩
    · exact ⟨upd F p (.tup vs), S.laidF n, Step.laidF S n, rep_tup.mpr ⟨p, vs, rfl, .inl (.inl upd_same), r.mono (same_new (S.fnone n))⟩⟩
    · exact ⟨F, S, Step.refl, r⟩
  | dc ks ds =>
    obtain ⟨p, o, vs, rfl, n, rfl, hd, r⟩ := h
    exact ⟨F, S.laid n, Step.laid S n, p, rfl, S.fnone n, n, nO p n, vs, hd, r⟩
/-- an answer: what is asked, and the result -/
abbrev Ans := Option (Prop × Out)
def ans (env : Env) (o : Ans) (k : Env → R → Prop) : Prop := got o fun z => z.1 ∧ k env z.2.r
def two (f : D → D → Ans) (env : Env) (r1 r2 : R) (k : Env → R → Prop) : Prop := got (content env r1.seal) fun d1 => got (content env r2) fun d2 => ans env (f d1 d2) k
def one (f : D → Ans) (env : Env) (r : R) (k : Env → R → Prop) : Prop := got (content env r) fun d => ans env (f d) k
/-- f tells what r asks -/
def Op2 (K : PySem.W.Frag) (r : R2) (f : D → D → Ans) : Prop := ∀ F H d1 d2 v1 v2 (z : Prop × Out) (Q : VK), Same F H → PRep K F H d1 v1 → PRep K F H d2 v2 → f d1 d2 = some z → z.1 → (∀ v H', OutOk K F H z.2 v H' → Q v H') → r v1 v2 H Q
def Op1 (K : PySem.W.Frag) (r : V → Hp → VK → Prop) (f : D → Ans) : Prop := ∀ F H d v1 (z : Prop × Out) (Q : VK), Same F H → PRep K F H d v1 → f d = some z → z.1 → (∀ v H', OutOk K F H z.2 v H' → Q v H') → r v1 H Q
section
variable {X : Cx} {a b : Expr} {ta tb : TD} {pos : Pos} {r : R2} {f : D → D → Ans}
def tOp2 (f : D → D → Ans) (ta tb : TD) : TD := fun env k => ta env fun e1 r1 => tb e1 fun e2 r2 => two f e2 r1 r2 k
def tOp1 (f : D → Ans) (ta : TD) : TD := fun env k => ta env fun e1 r1 => one f e1 r1 k
theorem two_ok {K : PySem.W.Frag} {H0 F0 F H : Hp} {σ : St} {env0 env : Env} {r1 r2 : R} {v1 v2 : V} {k : Env → R → Prop} {Q : VK} (ho : Op2 K r f) (T : Step F0 H0 σ env0 F H σ env) (S : SR K F H σ env) (h1 : RA K F σ r1.seal v1) (h2 : RR K H0 F H σ env r2 v2) (h : two f env r1 r2 k)
    (hk : ∀ env' r, k env' r → ∀ F' H' v, SR K F' H' σ env' → Step F0 H0 σ env0 F' H' σ env' → RR K H0 F' H' σ env' r v → Q v H') : r v1 v2 H Q := by
  obtain ⟨d1, c1, d2, c2, z, e, z1, z2⟩ := h
  refine ho F H d1 d2 v1 v2 z Q S.sub (RR.prep S (RA.rr (H0 := H0) (H := H) (env := env) h1) c1) (RR.prep S h2 c2) e z1 fun v H' oo => ?_
  obtain ⟨F', S', T', rr⟩ := out_ok S oo
  exact hk _ _ z2 F' H' v S' (T.trans T') (rr.back T.dom)
theorem one_ok {K : PySem.W.Frag} {H0 F0 F H : Hp} {σ : St} {env0 env : Env} {r1 : R} {v1 : V} {k : Env → R → Prop} {Q : VK} {r : V → Hp → VK → Prop} {f : D → Ans} (ho : Op1 K r f) (T : Step F0 H0 σ env0 F H σ env) (S : SR K F H σ env) (h1 : RR K H0 F H σ env r1 v1) (h : one f env r1 k)
    (hk : ∀ env' r, k env' r → ∀ F' H' v, SR K F' H' σ env' → Step F0 H0 σ env0 F' H' σ env' → RR K H0 F' H' σ env' r v → Q v H') : r v1 H Q := by
  obtain ⟨d1, c1, z, e, z1, z2⟩ := h
  refine ho F H d1 v1 z Q S.sub (RR.prep S h1 c1) e z1 fun v H' oo => ?_
  obtain ⟨F', S', T', rr⟩ := out_ok S oo
  exact hk _ _ z2 F' H' v S' (T.trans T') (rr.back T.dom)
theorem up_op {K : PySem.W.Frag} (hd : Op2 K r f) {σ : St} {H : Hp} {Q : VK} (h : up K (tOp2 f ta tb) σ H Q) : tOp r (up K ta) (up K tb) σ H Q := by
  obtain ⟨F, env, k, S, h, hk⟩ := h
  exact up_bin (k := fun _ r1 e2 r2 => two f e2 r1 r2 k) S h fun e1 r1 e2 r2 q F2 H2 v1 v2 S2 T2 h1 h2 => two_ok hd T2 S2 h1 h2 q hk
theorem px_op {op : Operator} (ho : OpR X (binaryOp op) r) (hd : Op2 X.K r f) (ha : PX X a ta) (hb : PX X b tb) : PX X (.BinOp a op b pos) (tOp2 f ta tb) :=
  ⟨(pe_op ho ha.run hb.run).imp fun _ _ _ h => up_op hd h⟩
theorem px_cmp {op : CmpOp} (ho : OpR X (compareOp op) r) (hd : Op2 X.K r f) (ha : PX X a ta) (hb : PX X b tb) (hm : behindInMarks op b = false := by first | exact nomark _ | rfl) : PX X (.Compare a [op] [b] pos) (tOp2 f ta tb) :=
  ⟨(pe_cmpR ho ha.run hb.run hm).imp fun _ _ _ h => up_op hd h⟩
theorem px_un {op : UnaryOp} {r : V → Hp → VK → Prop} {f : D → Ans} (ho : UnR X (unaryOp op) r) (hd : Op1 X.K r f) (ha : PX X a ta) : PX X (.UnaryOp op a pos) (tOp1 f ta) :=
  ⟨(pe_un ho ha.run).imp fun _ _ _ ⟨F, env, k, S, h, hk⟩ => ⟨F, env, _, S, h, fun e1 r1 q F1 H1 v1 S1 T1 rr => one_ok hd T1 S1 rr q hk⟩⟩

/-! ### names, constants -/
def tV (i : Nat) : TD := fun env k => match env[i]? with
  | some .un => False
  | some (.val d) => k env (.val d)
  | some _ => k env (.al i)
  | none => False
theorem up_var {K : PySem.W.Frag} {i : Nat} {σ : St} {H : Hp} {Q : VK} (h : up K (tV i) σ H Q) : tVar i σ H Q := by
  obtain ⟨F, env, k, S, h, hk⟩ := h
  unfold tV at h
  split at h
  · exact h.elim
  · rename_i d e
    obtain ⟨ov, e1, v, rfl, r⟩ := S.sl i _ e
    exact ⟨v, e1, hk _ _ h F H v S Step.refl r⟩
  · rename_i s n1 n2 e
    have : ∃ v, σ[i]? = some (some v) := by
      obtain ⟨ov, e1, q⟩ := S.sl i s e
      cases s with
      | un => exact (n1 rfl).elim
      | val d => exact (n2 d rfl).elim
      | own d => obtain ⟨a, rfl, _⟩ := q; exact ⟨_, e1⟩
      | io d => obtain ⟨a, rfl, _⟩ := q; exact ⟨_, e1⟩
      | br d => obtain ⟨v, rfl, _⟩ := q; exact ⟨_, e1⟩
    obtain ⟨v, e1⟩ := this
    exact ⟨v, e1, hk _ _ h F H v S Step.refl e1⟩
  · exact h.elim
theorem xv (i : Nat) {x : Str} {pos : Pos} (hN : X.N[i]? = some x := by rfl) (hv : Vis X.env.scope x := by first | exact Or.inl rfl | exact Or.inr (Or.inl rfl) | exact Or.inr (Or.inr rfl)) (hd : (x == ("__debug__" : Str)) = false := by decide)
    (hcd : (x == ("__classdict__" : Str)) = false := by decide) : PX X (.Name x pos) (tV i) := ⟨(pe_var hN hv hd hcd).imp fun _ _ _ h => up_var h⟩
def tK (d : D) : TD := fun env k => k env (.val d)
theorem up_con {K : PySem.W.Frag} {d : D} {v : V} (r : ∀ F, Rep K F d v) {σ : St} {H : Hp} {Q : VK} (h : up K (tK d) σ H Q) : tC v σ H Q := by
  obtain ⟨F, env, k, S, h, hk⟩ := h
  exact hk _ _ h F H v S Step.refl (r F)
theorem x_int {i : Int} {j pos} : PX X (.Constant (.int i) j pos) (tK (.int i)) := ⟨pe_int.imp fun _ _ _ h => up_con (fun _ => rep_int.mpr rfl) h⟩
theorem x_bl {b : Bool} {j pos} : PX X (.Constant (.bool b) j pos) (tK (.bl b)) := ⟨pe_bl.imp fun _ _ _ h => up_con (fun _ => rep_bl.mpr rfl) h⟩
theorem x_non {j pos} : PX X (.Constant .none j pos) (tK .non) := ⟨pe_non.imp fun _ _ _ h => up_con (fun _ => rep_non.mpr rfl) h⟩
theorem x_str {x : Str} {j pos} : PX X (.Constant (.str x) j pos) (tK (.str x)) := ⟨pe_str.imp fun _ _ _ h => up_con (fun _ => rep_str.mpr rfl) h⟩
theorem x_globI {x : Str} {i : Int} {pos : Pos} (hg : Gl X x) (hm : ∃ t, X.mg x = some (.int i t)) (hd : (x == ("__debug__" : Str)) = false := by decide) : PX X (.Name x pos) (tK (.int i)) := by
  obtain ⟨t, e⟩ := hm
  exact ⟨(pe_glob (v := .int i) hg e ⟨t, rfl⟩ hd).imp fun _ _ _ h => up_con (fun _ => rep_int.mpr rfl) h⟩
theorem x_globS {x z : Str} {pos : Pos} (hg : Gl X x) (hm : ∃ t, X.mg x = some (.str z t)) (hd : (x == ("__debug__" : Str)) = false := by decide) : PX X (.Name x pos) (tK (.str z)) := by
  obtain ⟨t, e⟩ := hm
  exact ⟨(pe_glob (v := .str z) hg e ⟨t, rfl⟩ hd).imp fun _ _ _ h => up_con (fun _ => rep_str.mpr rfl) h⟩
theorem x_ty {x : Str} {n : String} {pos : Pos} (hg : Gl X x) (hm : X.mg x = none) (hv : bootBuiltins x = some (.type n)) (hn : x ≠ "__name__" := by decide) (hd : (x == ("__debug__" : Str)) = false := by decide) : PX X (.Name x pos) (tK (.ty n)) :=
  ⟨(pe_bltn (v := .ty n) hg hm hv rfl hn hd).imp fun _ _ _ h => up_con (fun _ => rep_ty.mpr rfl) h⟩

/-! ### argument lists, displays -/
def tN : TAD := fun env k => k env []
def tCo (ta : TD) (tr : TAD) : TAD := fun env k => ta env fun e1 r => tr e1 fun e2 rs => k e2 (r.seal :: rs)
theorem xa_nil : PXA X [] tN := ⟨pa_nil.imp fun _ _ _ ⟨F, env, k, S, h, hk⟩ => hk _ _ h F _ [] S Step.refl .nil⟩
theorem xa_cons {e : Expr} {es : List Expr} {te : TD} {t : TAD} (ha : PX X e te) (hr : PXA X es t) (hs : starEach (e :: es) X.env = (false, eval e X.env) :: starEach es X.env := by rfl) : PXA X (e :: es) (tCo te t) := by
  refine ⟨(pa_cons ha.run hr.run hs).imp fun σ H Q ⟨F, env, k, S, h, hk⟩ => ?_⟩
  refine ⟨F, env, _, S, h, fun e1 r1 q1 F1 H1 v1 S1 T1 rr1 => ?_⟩
  obtain ⟨F1', S1', T1', ra1⟩ := seal_ok T1 S1 rr1
  refine ⟨F1', e1, _, S1', q1, fun e2 rs q2 F2 H2 vs S2 T2 ras => ?_⟩
  exact hk _ _ q2 F2 H2 (v1 :: vs) S2 (T1'.trans T2) (.cons (ra1.mono T2.fr) ras)
/-- all of them frozen -/
def escapes : Env → List R → Option (Env × List D)
  | env, [] => some (env, [])
  | env, r :: rs => (escape env r).bind fun z => (escapes z.1 rs).map fun y => (y.1, z.2 :: y.2)
theorem escapes_ok {K : PySem.W.Frag} {F0 H0 H : Hp} {σ : St} {env0 : Env} : ∀ {rs : List R} {F : Hp} {env env' : Env} {vs : List V} {ds : List D}, Step F0 H0 σ env0 F H σ env → SR K F H σ env → RAs K F σ rs vs → escapes env rs = some (env', ds) →
    ∃ F', SR K F' H σ env' ∧ Step F0 H0 σ env0 F' H σ env' ∧ Reps K F' ds vs ∧ Same F F'
  | [], F, env, env', vs, ds, T, S, h, e => by
    cases h; cases e
    exact ⟨F, S, T, reps_nil.mpr rfl, Same.refl _⟩
  | r :: rs, F, env, env', vs, ds, T, S, h, e => by
    cases h with
    | cons h1 h2 =>
      rename_i v vs
      unfold escapes at e
      obtain ⟨z, e1, e2⟩ := Option.bind_eq_some_iff.mp e
      obtain ⟨y, e3, e4⟩ := Option.map_eq_some_iff.mp e2
      obtain ⟨env1, d⟩ := z
      obtain ⟨env2, ds2⟩ := y
      cases e4
      have hr : RR K H F H σ env r v := RA.rr h1
      obtain ⟨F1, S1, T1, r1⟩ := escape_ok Step.refl S hr e1
      have T1' := T.trans T1
      obtain ⟨F2, S2, T2, r2, f2⟩ := escapes_ok T1' S1 (RAs.mono h2 T1.fr) e3
      exact ⟨F2, S2, T2, reps_cons.mpr ⟨v, vs, rfl, r1.mono f2, r2⟩, T1.fr.trans f2⟩
def tL (t : TAD) : TD := fun env k => t env fun e1 rs => got (escapes e1 rs) fun z => z.2.length ≤ sizeLine ∧ k z.1 (.new (.lst z.2))
def tT (t : TAD) : TD := fun env k => t env fun e1 rs => got (escapes e1 rs) fun z => z.2.length ≤ sizeLine ∧ k z.1 (.val (.tup z.2))
theorem x_lst {es : List Expr} {t : TAD} (h : PXA X es t) : PX X (.List es pos) (tL t) := by
  refine ⟨(pe_lst h.run).imp fun σ H Q ⟨F, env, k, S, h, hk⟩ => ?_⟩
  refine ⟨F, env, _, S, h, fun e1 rs ⟨z, e, hz, q⟩ F1 H1 vs S1 T1 ras => ?_⟩
  obtain ⟨F2, S2, T2, rd, _⟩ := escapes_ok T1 S1 ras e
  refine ⟨by rw [rd.length]; exact hz, fun p n => ?_⟩
  obtain ⟨F3, S3, T3, rr⟩ := out_ok (o := .l z.2) S2 ⟨p, vs, rfl, n, rfl, rd⟩
  exact hk _ _ q F3 _ _ S3 (T2.trans T3) (rr.back T2.dom)
theorem x_tup {es : List Expr} {t : TAD} {x1} (h : PXA X es t) : PX X (.Tuple es x1 pos) (tT t) := by
  refine ⟨(pe_tup h.run).imp fun σ H Q ⟨F, env, k, S, h, hk⟩ => ?_⟩
  refine ⟨F, env, _, S, h, fun e1 rs ⟨z, e, hz, q⟩ F1 H1 vs S1 T1 ras => ?_⟩
  obtain ⟨F2, S2, T2, rd, _⟩ := escapes_ok T1 S1 ras e
  refine ⟨by rw [rd.length]; exact hz, fun p n => ?_⟩
  obtain ⟨F3, S3, T3, rr⟩ := out_ok (o := .t z.2) S2 (.inl ⟨p, vs, rfl, n, rfl, rd⟩)
  exact hk _ _ q F3 _ _ S3 (T2.trans T3) (rr.back T2.dom)

/-! ### tests -/
/-- a value that is True or False -/
def tBo (t : TD) : TTD := fun env k => t env fun e1 r => got (content e1 r) fun d => match d with
  | .bl b => k e1 b
  | _ => False
theorem xt_val {e : Expr} {t : TD} (h : PX X e t) (he : ∀ whole, isTrue e X.env whole = (do let v ← whole; standAt e.pos; holding [v] (truthy v)) := by intro _; rfl) : PXT X e (tBo t) := by
  refine ⟨(pt_val h.run he).imp fun σ H Q ⟨F, env, k, S, h, hk⟩ => ?_⟩
  refine ⟨F, env, _, S, h, fun e1 r q F1 H1 v S1 T1 rr => ?_⟩
  obtain ⟨d, c, q⟩ := q
  have pr := RR.prep S1 rr c
  cases d with
  | bl b =>
    rcases pr with pr | ⟨_, _, pr⟩
    · exact ⟨b, rep_bl.mp pr, hk _ _ q F1 H1 S1 T1⟩
    · exact pr.elim
  | _ => exact q.elim
def tAn (t u : TTD) : TTD := fun env k => t env fun e1 c => if c = true then u e1 k else k e1 false
def tOr_ (t u : TTD) : TTD := fun env k => t env fun e1 c => if c = true then k e1 true else u e1 k
def tNo (t : TTD) : TTD := fun env k => t env fun e1 c => k e1 (!c)
variable {t u : TTD} {rest : List Expr}
theorem up_if {K : PySem.W.Frag} {σ : St} {H : Hp} {F : Hp} {env : Env} {P : Bool → Hp → Prop} {k : Env → Bool → Prop} (S : SR K F H σ env) (h : t env k)
    (hk : ∀ e1 c, k e1 c → ∀ F1 H1, SR K F1 H1 σ e1 → Step F H σ env F1 H1 σ e1 → P c H1) : upT K t σ H P := ⟨F, env, k, S, h, hk⟩
theorem xw_and1 (ha : PXT X a t) : PXW X (.BoolOp .And [a] pos) t := ⟨pw_and1 ha.run⟩
theorem xw_or1 (ha : PXT X a t) : PXW X (.BoolOp .Or [a] pos) t := ⟨pw_or1 ha.run⟩
theorem upT_and {K : PySem.W.Frag} {σ : St} {H : Hp} {Q : Bool → Hp → Prop} (h : upT K (tAn t u) σ H Q) : tAnd (upT K t) (upT K u) σ H Q := by
  obtain ⟨F, env, k, S, h, hk⟩ := h
  refine ⟨F, env, _, S, h, fun e1 c q F1 H1 S1 T1 => ?_⟩
  cases c with
  | true =>
    rw [if_pos rfl] at q ⊢
    exact ⟨F1, e1, k, S1, q, fun e2 b q2 F2 H2 S2 T2 => hk e2 b q2 F2 H2 S2 (T1.trans T2)⟩
  | false =>
    rw [if_neg Bool.false_ne_true] at q ⊢
    exact hk _ _ q F1 H1 S1 T1
theorem upT_or {K : PySem.W.Frag} {σ : St} {H : Hp} {Q : Bool → Hp → Prop} (h : upT K (tOr_ t u) σ H Q) : tOr (upT K t) (upT K u) σ H Q := by
  obtain ⟨F, env, k, S, h, hk⟩ := h
  refine ⟨F, env, _, S, h, fun e1 c q F1 H1 S1 T1 => ?_⟩
  cases c with
  | true =>
    rw [if_pos rfl] at q ⊢
    exact hk _ _ q F1 H1 S1 T1
  | false =>
    rw [if_neg Bool.false_ne_true] at q ⊢
    exact ⟨F1, e1, k, S1, q, fun e2 b q2 F2 H2 S2 T2 => hk e2 b q2 F2 H2 S2 (T1.trans T2)⟩
theorem xw_and (ha : PXT X a t) (hb : PXW X (.BoolOp .And (b :: rest) pos) u) : PXW X (.BoolOp .And (a :: b :: rest) pos) (tAn t u) := ⟨(pw_and ha.run hb.run).imp fun _ _ _ h => upT_and h⟩
theorem xw_or (ha : PXT X a t) (hb : PXW X (.BoolOp .Or (b :: rest) pos) u) : PXW X (.BoolOp .Or (a :: b :: rest) pos) (tOr_ t u) := ⟨(pw_or ha.run hb.run).imp fun _ _ _ h => upT_or h⟩
theorem xt_w {e : Expr} (h : PXW X e t) : PXT X e t := ⟨h.run.pt⟩
theorem xt_not (ha : PXT X a t) : PXT X (.UnaryOp .Not a pos) (tNo t) :=
  ⟨(pt_not ha.run).imp fun _ _ _ ⟨F, env, k, S, h, hk⟩ => ⟨F, env, _, S, h, fun e1 c q F1 H1 S1 T1 => hk _ _ q F1 H1 S1 T1⟩⟩
/-- and, or, not as values (True or False) -/
def bOf (k : Env → R → Prop) : Env → R → Bool → Prop := fun _ _ _ => True
def tAnV (ta tb : TD) : TD := fun env k => ta env fun e1 r => got (content e1 r) fun d => match d with
  | .bl c => if c = true then tb e1 k else k e1 (.val (.bl false))
  | _ => False
def tOrV (ta tb : TD) : TD := fun env k => ta env fun e1 r => got (content e1 r) fun d => match d with
  | .bl c => if c = true then k e1 (.val (.bl true)) else tb e1 k
  | _ => False
def tNoV (ta : TD) : TD := fun env k => ta env fun e1 r => got (content e1 r) fun d => match d with
  | .bl c => k e1 (.val (.bl (!c)))
  | _ => False
theorem prep_bl {K : PySem.W.Frag} {F H : Hp} {b : Bool} {v : V} (h : PRep K F H (.bl b) v) : v = .bl b := by
  rcases h with h | ⟨_, _, h⟩
  · exact rep_bl.mp h
  · exact h.elim
theorem x_one {op} {t : TD} (h : PX X a t) : PX X (.BoolOp op [a] pos) t := ⟨pe_one h.run⟩
theorem x_and (ha : PX X a ta) (hb : PX X (.BoolOp .And (b :: rest) pos) tb) : PX X (.BoolOp .And (a :: b :: rest) pos) (tAnV ta tb) := by
  refine ⟨(pe_and ha.run hb.run).imp fun σ H Q ⟨F, env, k, S, h, hk⟩ => ?_⟩
  refine ⟨F, env, _, S, h, fun e1 r q F1 H1 v S1 T1 rr => ?_⟩
  obtain ⟨d, c, q⟩ := q
  have pr := RR.prep S1 rr c
  cases d with
  | bl b =>
    refine ⟨b, prep_bl pr, ?_⟩
    cases b with
    | true =>
      simp only [if_true] at q ⊢
      exact ⟨F1, e1, k, S1, q, fun e2 r2 q2 F2 H2 v2 S2 T2 rr2 => hk e2 r2 q2 F2 H2 v2 S2 (T1.trans T2) (rr2.back T1.dom)⟩
    | false =>
      simp only [Bool.false_eq_true, if_false] at q ⊢
      exact hk _ _ q F1 H1 _ S1 T1 rr_bl
  | _ => exact q.elim
theorem x_or (ha : PX X a ta) (hb : PX X (.BoolOp .Or (b :: rest) pos) tb) : PX X (.BoolOp .Or (a :: b :: rest) pos) (tOrV ta tb) := by
  refine ⟨(pe_or ha.run hb.run).imp fun σ H Q ⟨F, env, k, S, h, hk⟩ => ?_⟩
  refine ⟨F, env, _, S, h, fun e1 r q F1 H1 v S1 T1 rr => ?_⟩
  obtain ⟨d, c, q⟩ := q
  have pr := RR.prep S1 rr c
  cases d with
  | bl b =>
    refine ⟨b, prep_bl pr, ?_⟩
    cases b with
    | true =>
      simp only [if_true] at q ⊢
      exact hk _ _ q F1 H1 _ S1 T1 rr_bl
    | false =>
      simp only [Bool.false_eq_true, if_false] at q ⊢
      exact ⟨F1, e1, k, S1, q, fun e2 r2 q2 F2 H2 v2 S2 T2 rr2 => hk e2 r2 q2 F2 H2 v2 S2 (T1.trans T2) (rr2.back T1.dom)⟩
  | _ => exact q.elim
theorem x_not (ha : PX X a ta) : PX X (.UnaryOp .Not a pos) (tNoV ta) := by
  refine ⟨(pe_not ha.run).imp fun σ H Q ⟨F, env, k, S, h, hk⟩ => ?_⟩
  refine ⟨F, env, _, S, h, fun e1 r q F1 H1 v S1 T1 rr => ?_⟩
  obtain ⟨d, c, q⟩ := q
  have pr := RR.prep S1 rr c
  cases d with
  | bl b => exact ⟨b, prep_bl pr, hk _ _ q F1 H1 _ S1 T1 rr_bl⟩
  | _ => exact q.elim
def tIfE (t : TTD) (ta tb : TD) : TD := fun env k => t env fun e1 c => if c = true then ta e1 k else tb e1 k
theorem x_ifE {c : Expr} (hc : PXT X c t) (ha : PX X a ta) (hb : PX X b tb) : PX X (.IfExp c a b pos) (tIfE t ta tb) := by
  refine ⟨(pe_ifExp hc.run ha.run hb.run).imp fun σ H Q ⟨F, env, k, S, h, hk⟩ => ?_⟩
  refine ⟨F, env, _, S, h, fun e1 c q F1 H1 S1 T1 => ?_⟩
  have go : ∀ {t : TD}, t e1 k → up X.K t σ H1 Q := fun q => ⟨F1, e1, k, S1, q, fun e2 r2 q2 F2 H2 v2 S2 T2 rr2 => hk e2 r2 q2 F2 H2 v2 S2 (T1.trans T2) (rr2.back T1.dom)⟩
  cases c with
  | true => simp only [if_true] at q ⊢; exact go q
  | false => simp only [Bool.false_eq_true, if_false] at q ⊢; exact go q
end

/-! ### statements -/
structure EndsD where
  nx : Env → Prop
  rt : Env → R → Prop
  bk : Env → Prop := fun _ => False
  ct : Env → Prop := fun _ => False
abbrev TSD := EndsD → Env → Prop
structure EndsOk (K : PySem.W.Frag) (F H : Hp) (σ : St) (env : Env) (E : EndsD) (D : Ends) : Prop where
  nx : ∀ env', E.nx env' → ∀ F' H' σ', SR K F' H' σ' env' → Step F H σ env F' H' σ' env' → D.nx σ' H'
  rt : ∀ env' r, E.rt env' r → ∀ F' H' σ' v, SR K F' H' σ' env' → Step F H σ env F' H' σ' env' → RR K H F' H' σ' env' r v → D.rt v H'
  bk : ∀ env', E.bk env' → ∀ F' H' σ', SR K F' H' σ' env' → Step F H σ env F' H' σ' env' → D.bk σ' H'
  ct : ∀ env', E.ct env' → ∀ F' H' σ', SR K F' H' σ' env' → Step F H σ env F' H' σ' env' → D.ct σ' H'
theorem EndsOk.step {K : PySem.W.Frag} {F H F1 H1 : Hp} {σ σ1 : St} {env env1 : Env} {E : EndsD} {D : Ends} (o : EndsOk K F H σ env E D) (T : Step F H σ env F1 H1 σ1 env1) : EndsOk K F1 H1 σ1 env1 E D :=
  ⟨fun e q F' H' σ' S T' => o.nx e q F' H' σ' S (T.trans T'), fun e r q F' H' σ' v S T' rr => o.rt e r q F' H' σ' v S (T.trans T') (rr.back T.dom), fun e q F' H' σ' S T' => o.bk e q F' H' σ' S (T.trans T'), fun e q F' H' σ' S T' => o.ct e q F' H' σ' S (T.trans T')⟩
def upS (K : PySem.W.Frag) (t : TSD) : TS := fun D σ H => ∃ F env E, SR K F H σ env ∧ t E env ∧ EndsOk K F H σ env E D
structure PY (X : Cx) (st : Stmt) (t : TSD) : Prop where
  run : PS X st (upS X.K t)
structure PYs (X : Cx) (st : List Stmt) (t : TSD) : Prop where
  run : PSs X st (upS X.K t)
section
variable {X : Cx} {st : Stmt} {sts : List Stmt} {t u : TSD} {pos : Pos} {e : Expr} {te : TD}
def tNx : TSD := fun E env => E.nx env
def tSq (t u : TSD) : TSD := fun E env => t { E with nx := u E } env
theorem ys_nil : PYs X [] tNx := ⟨pss_nil.imp fun D σ H ⟨F, env, E, S, h, o⟩ => o.nx _ h F H σ S Step.refl⟩
theorem ys_cons (h1 : PY X st t) (h2 : PYs X sts u) : PYs X (st :: sts) (tSq t u) :=
  ⟨(pss_cons h1.run h2.run).imp fun D σ H ⟨F, env, E, S, h, o⟩ => ⟨F, env, _, S, h, fun e q F' H' σ' S' T' => ⟨F', e, E, S', q, o.step T'⟩, o.rt, o.bk, o.ct⟩⟩
theorem ys_one (h : PY X st t) : PYs X [st] t := ⟨pss_one h.run⟩
/-- as tSq, with a word between -/
def tSqW (t u : TSD) : TSD := fun E env => ∃ P : Env → Prop, t { E with nx := P } env ∧ ∀ e, P e → u E e
theorem ys_word (h1 : PY X st t) (h2 : PYs X sts u) : PYs X (st :: sts) (tSqW t u) :=
  ⟨(pss_cons h1.run h2.run).imp fun D σ H ⟨F, env, E, S, ⟨P, h, w⟩, o⟩ => ⟨F, env, _, S, h, fun e q F' H' σ' S' T' => ⟨F', e, E, S', w e q, o.step T'⟩, o.rt, o.bk, o.ct⟩⟩
def tBk : TSD := fun E env => E.bk env
def tCt : TSD := fun E env => E.ct env
theorem y_pass : PY X (.Pass pos) tNx := ⟨ps_pass.imp fun D σ H ⟨F, env, E, S, h, o⟩ => o.nx _ h F H σ S Step.refl⟩
theorem y_break : PY X (.Break pos) tBk := ⟨ps_break.imp fun D σ H ⟨F, env, E, S, h, o⟩ => o.bk _ h F H σ S Step.refl⟩
theorem y_continue : PY X (.Continue pos) tCt := ⟨ps_continue.imp fun D σ H ⟨F, env, E, S, h, o⟩ => o.ct _ h F H σ S Step.refl⟩
def tDr (te : TD) : TSD := fun E env => te env fun e1 _ => E.nx e1
theorem y_expr (he : PX X e te) (hs : swapsWith e none pos.line X.env = pure false := by rfl) : PY X (.Expr e pos) (tDr te) :=
  ⟨(ps_expr he.run hs).imp fun D σ H ⟨F, env, E, S, h, o⟩ => ⟨F, env, _, S, h, fun e1 r q F' H' v S' T' _ => o.nx e1 q F' H' σ S' T'⟩⟩
def tRt (te : TD) : TSD := fun E env => te env E.rt
theorem y_ret (he : PX X e te) : PY X (.Return (some e) pos) (tRt te) :=
  ⟨(ps_ret he.run).imp fun D σ H ⟨F, env, E, S, h, o⟩ => ⟨F, env, _, S, h, fun e1 r q F' H' v S' T' rr => o.rt e1 r q F' H' σ v S' T' rr⟩⟩
def tRtN : TSD := fun E env => E.rt env (.val .non)
theorem y_retN : PY X (.Return none pos) tRtN := ⟨ps_retN.imp fun D σ H ⟨F, env, E, S, h, o⟩ => o.rt _ _ h F H σ .non S Step.refl rr_non⟩
def tIfD (c : TTD) (t u : TSD) : TSD := fun E env => c env fun e1 b => if b = true then t E e1 else u E e1
theorem y_if {c : Expr} {a b : List Stmt} {tc : TTD} (hc : PXT X c tc) (ha : PYs X a t) (hb : PYs X b u) : PY X (.If c a b pos) (tIfD tc t u) := by
  refine ⟨(ps_if hc.run ha.run hb.run).imp fun D σ H ⟨F, env, E, S, h, o⟩ => ?_⟩
  refine ⟨F, env, _, S, h, fun e1 c q F1 H1 S1 T1 => ?_⟩
  cases c with
  | true => simp only [if_true] at q ⊢; exact ⟨F1, e1, E, S1, q, o.step T1⟩
  | false => simp only [Bool.false_eq_true, if_false] at q ⊢; exact ⟨F1, e1, E, S1, q, o.step T1⟩
def tNv : TSD := fun _ _ => False
theorem y_never : PY X st tNv := ⟨ps_never.imp fun D σ H ⟨F, env, E, S, h, o⟩ => h⟩
theorem ys_never : PYs X sts tNv := ⟨pss_never.imp fun D σ H ⟨F, env, E, S, h, o⟩ => h⟩

/-! ### stores to names -/
theorem step_setT {F H F0 H0 : Hp} {σ σ0 : St} {env env0 : Env} {i : Nat} {s : Sl} {v : V} (T : Step F0 H0 σ0 env0 F H σ env) (n : notIo env i) (nb : s.isBr = false) (hs : s.mine = true → s.loc = true ∧ (∀ a, v = .ref a → H0 a = none ∨ LocA env σ a)) : Step F0 H0 σ0 env0 F H (σ.set i (some v)) (env.set i s) :=
  ⟨T.fr, T.keep, T.new, fun a z => by
    rcases own_set z with ⟨m, e⟩ | z
    · exact ((hs m).2 a e).elim .inr fun z => T.own a z.own
    · exact T.own a z, fun a z => by
    rcases loc_set z with ⟨m, e⟩ | z
    · have m' : s.mine = true := by cases s <;> simp_all [Sl.loc, Sl.mine]
      exact ((hs m').2 a e).elim .inr fun z => T.loc a z
    · exact T.loc a z, fun j d e => by
    obtain ⟨e1, d1, e2⟩ := T.io j d e
    have hj : j ≠ i := fun q => n d1 (q ▸ e2)
    rw [List.getElem?_set_ne (Ne.symm hj), List.getElem?_set_ne (Ne.symm hj)]
    exact ⟨e1, d1, e2⟩, T.dom, fun j d e => by
    rcases getElem?_set_any e with ⟨_, rfl, _⟩ | ⟨hj, e⟩
    · cases nb
    · rw [List.getElem?_set_ne (Ne.symm hj)]; exact T.br j d e⟩
/-- name i holds the result r from now on -/
def asg (env : Env) (i : Nat) (r : R) : Option Env := match env[i]? with
  | some (.io _) => none
  | none => none
  | _ => match r with
    | .new d => some (env.set i (.own d))
    | r => (escape env r).map fun z => z.1.set i (.val z.2)
theorem asg_ok {K : PySem.W.Frag} {F0 H0 F H : Hp} {σ : St} {env0 env env' : Env} {i : Nat} {r : R} {v : V} (S0 : SR K F0 H0 σ env0) (T : Step F0 H0 σ env0 F H σ env) (S : SR K F H σ env) (h : RR K H0 F H σ env r v) (e : asg env i r = some env') :
    ∃ F', SR K F' H (σ.set i (some v)) env' ∧ Step F0 H0 σ env0 F' H (σ.set i (some v)) env' := by
  have ni : notIo env i := fun d z => by
    unfold asg at e
    rw [z] at e
    cases e
  have key : ∀ {r}, RR K H0 F H σ env r v → (escape env r).map (fun z => z.1.set i (.val z.2)) = some env' → ∃ F', SR K F' H (σ.set i (some v)) env' ∧ Step F0 H0 σ env0 F' H (σ.set i (some v)) env' := fun {r} h e => by
    obtain ⟨z, e1, rfl⟩ := Option.map_eq_some_iff.mp e
    obtain ⟨env1, d⟩ := z
    obtain ⟨F', S', T', rd⟩ := escape_ok T S h e1
    have ni' : notIo env1 i := fun d' z => by
      cases r with
      | val _ => cases e1; exact ni d' z
      | new _ => cases e1; exact ni d' z
      | al j =>
        unfold escape at e1
        simp only at e1
        split at e1
        · cases e1; exact ni d' z
        · cases e1
          rcases getElem?_set_any z with ⟨_, q, _⟩ | ⟨_, z⟩
          · cases q
          · exact ni d' z
        · split at e1
          · cases e1; exact ni d' z
          · cases e1
        · cases e1
    exact ⟨F', S'.setVal rd, T'.trans (step_set ni' rfl fun m => by cases m)⟩
  unfold asg at e
  split at e
  · cases e
  · cases e
  · rename_i n1 n2
    cases r with
    | val d => exact key h e
    | al j => exact key h e
    | new d =>
      cases e
      obtain ⟨a, rfl, n, n0, no, r⟩ := h
      refine ⟨F, S.setOwn n no (fun j d' b h1 h2 h3 => ?_) r, step_setT T ni rfl fun _ => ⟨rfl, fun x hx => ?_⟩⟩
      · obtain ⟨h4, h5⟩ := T.br j d' h1
        obtain ⟨ov, e1, v, rfl, q⟩ := S0.sl j _ h4
        rw [h2] at e1
        cases e1
        rcases q with q | ⟨c, e2, _, q⟩
        · exact .inl (q.mono T.fr)
        · cases e2
          obtain ⟨u, e3⟩ := q.there
          exact .inr fun z => by subst z; rw [n0] at e3; cases e3
      · cases hx
        exact .inl n0
end
end Pd

set_option Elab.async false
set_option linter.all false
set_option maxRecDepth 100000
/-! Loops and comprehensions over pure data. -/
namespace Pd
open PySem PySem.Spec PyProof.Rows L2

/-! ### what is walked -/
def signD (z : Str) : List D := z.cps.toList.map fun c => .str ⟨#[c]⟩
def items : D → Option (List D)
  | .lst ds => some ds
  | .tup ds => some ds
  | .rol ds => some ds
  | .str z => some (signD z)
  | _ => none
/-- what r gives to a loop; a local's list is frozen -/
def iterD (env : Env) : R → Option (Env × List D)
  | .val d => (items d).map (env, ·)
  | .new d => (items d).map (env, ·)
  | .al i => match env[i]? with
    | some (.val d) => (items d).map (env, ·)
    | some (.br d) => (items d).map (env, ·)
    | some (.own d) => (items d).map (env.set i (.val d), ·)
    | _ => none
/-- the iterator yields the items, from the state where the loop begins -/
structure Yields (K : PySem.W.Frag) (J : It) (ds : List D) (F1 H1 : Hp) (σ1 : St) (env1 : Env) : Prop where
  go : ∀ (i : Nat) d F H σ env, SR K F H σ env → Step F1 H1 σ1 env1 F H σ env → ds[i]? = some d → J.go i H ∧ ∀ x H', J.yld i H x H' → ∃ F', SR K F' H' σ env ∧ Step F H σ env F' H' σ env ∧ Rep K F' d x
  stop : ∀ F H σ env, SR K F H σ env → Step F1 H1 σ1 env1 F H σ env → J.stop ds.length H
abbrev TID := Env → (Env → List D → Prop) → Prop
def upI (K : PySem.W.Frag) (w : TID) : TI := fun σ H R => ∃ F env k, SR K F H σ env ∧ w env k ∧ ∀ env' ds, k env' ds → ∀ F' H' J, SR K F' H' σ env' → Step F H σ env F' H' σ env' → Yields K J ds F' H' σ env' → R J H'
structure PXI (X : Cx) (tg iter : Expr) (w : TID) : Prop where
  run : PI X tg iter (upI X.K w)
theorem _root_.L2.PI.imp {X : Cx} {tg iter : Expr} {t t' : TI} (h : PI X tg iter t) (i : ∀ σ H Q, t' σ H Q → t σ H Q) : PI X tg iter t' := ⟨fun pins s σ H Q I q => h.run pins s σ H Q I (i σ H Q q)⟩

section
variable {K : PySem.W.Frag} {F H F1 H1 : Hp} {σ σ1 : St} {env env1 : Env} {a : Addr} {vs : List V} {ds : List D}
theorem Yields.list (hS : ∀ F H σ env, SR K F H σ env → Step F1 H1 σ1 env1 F H σ env → SqL K H a vs) (r : Reps K F1 ds vs) : Yields K (Itl K a) ds F1 H1 σ1 env1 where
  go := fun i d F H σ env S T e => by
    obtain ⟨v, e1, r1⟩ := r.get e
    have q := hS F H σ env S T
    refine ⟨⟨vs, v, q, e1⟩, fun x H' y => ?_⟩
    obtain ⟨rfl, f⟩ := y
    have e2 := f vs q
    rw [e1] at e2; cases e2
    exact ⟨F, S, Step.refl, r1.mono T.fr⟩
  stop := fun F H σ env S T => ⟨vs, hS F H σ env S T, Nat.le_of_eq r.length⟩
theorem Yields.tup (hS : ∀ F H σ env, SR K F H σ env → Step F1 H1 σ1 env1 F H σ env → SqT K H a vs) (r : Reps K F1 ds vs) : Yields K (Itt K a) ds F1 H1 σ1 env1 where
  go := fun i d F H σ env S T e => by
    obtain ⟨v, e1, r1⟩ := r.get e
    have q := hS F H σ env S T
    refine ⟨⟨vs, v, q, e1⟩, fun x H' y => ?_⟩
    obtain ⟨rfl, f⟩ := y
    have e2 := f vs q
    rw [e1] at e2; cases e2
    exact ⟨F, S, Step.refl, r1.mono T.fr⟩
  stop := fun F H σ env S T => ⟨vs, hS F H σ env S T, Nat.le_of_eq r.length⟩
theorem Yields.str (z : Str) : Yields K (Its z) (signD z) F1 H1 σ1 env1 where
  go := fun i d F H σ env S T e => by
    unfold signD at e
    rw [List.getElem?_map] at e
    obtain ⟨c, e1, rfl⟩ := Option.map_eq_some_iff.mp e
    have e2 : z.cps[i]? = some c := by rw [← e1, Array.getElem?_toList]
    refine ⟨(Array.getElem?_eq_some_iff.mp e2).1, fun x H' y => ?_⟩
    obtain ⟨rfl, c', e3, rfl⟩ := y
    rw [e2] at e3; cases e3
    exact ⟨F, S, Step.refl, rep_str.mpr rfl⟩
  stop := fun F H σ env S T => by
    show z.cps.size ≤ (signD z).length
    unfold signD
    rw [List.length_map, Array.length_toList]
    exact Nat.le_refl _
/-- an iterator for frozen data -/
def ItOk (K : PySem.W.Frag) (H : Hp) (x : V) (J : It) : Prop := (∃ a, x = .ref a ∧ (∃ xs, SqL K H a xs) ∧ J = Itl K a) ∨ (∃ a, x = .ref a ∧ (∃ xs, SqT K H a xs) ∧ J = Itt K a) ∨ ∃ z, x = .str z ∧ J = Its z
theorem yields_rep {d : D} {v : V} (S1 : SR K F1 H1 σ1 env1) (r : Rep K F1 d v) (e : items d = some ds) : ∃ J, ItOk K H1 v J ∧ Yields K J ds F1 H1 σ1 env1 := by
  cases d with
  | lst xs =>
    cases e
    obtain ⟨a, vs, rfl, h, r⟩ := rep_lst.mp r
    exact ⟨Itl K a, .inl ⟨a, rfl, ⟨vs, .inl (.inl (S1.sub _ _ h))⟩, rfl⟩, Yields.list (fun F H σ env S T => .inl (.inl (S.sub _ _ (T.fr _ _ h)))) r⟩
  | rol xs =>
    cases e
    obtain ⟨a, vs, rfl, h, r⟩ := rep_rol.mp r
    exact ⟨Itl K a, .inl ⟨a, rfl, ⟨vs, S1.sub.seq h⟩, rfl⟩, Yields.list (fun F H σ env S T => S.sub.seq (T.fr.seq h)) r⟩
  | tup xs =>
    cases e
    obtain ⟨a, vs, rfl, h, r⟩ := rep_tup.mp r
    exact ⟨Itt K a, .inr (.inl ⟨a, rfl, ⟨vs, Same.seqT S1.sub h⟩, rfl⟩), Yields.tup (fun F H σ env S T => Same.seqT S.sub (Same.seqT T.fr h)) r⟩
  | str z =>
    cases e
    cases rep_str.mp r
    exact ⟨Its z, .inr (.inr ⟨z, rfl, rfl⟩), Yields.str z⟩
  | _ => cases e
theorem iterD_ok {F0 H0 : Hp} {σ0 : St} {env0 env' : Env} {r : R} {v : V} (T : Step F0 H0 σ0 env0 F H σ env) (S : SR K F H σ env) (h : RR K H0 F H σ env r v) (e : iterD env r = some (env', ds)) :
    ∃ F' J, SR K F' H σ env' ∧ Step F0 H0 σ0 env0 F' H σ env' ∧ ItOk K H v J ∧ Yields K J ds F' H σ env' := by
  cases r with
  | val d =>
    obtain ⟨_, e1, e2⟩ := Option.map_eq_some_iff.mp e
    cases e2
    obtain ⟨J, h1, h2⟩ := yields_rep S h e1
    exact ⟨F, J, S, T, h1, h2⟩
  | new d =>
    obtain ⟨_, e1, e2⟩ := Option.map_eq_some_iff.mp e
    cases e2
    obtain ⟨a, rfl, n, n0, no, r⟩ := h
    obtain ⟨F', S', T', r'⟩ := freeze_new T S n n0 no r
    obtain ⟨J, h1, h2⟩ := yields_rep S' r' e1
    exact ⟨F', J, S', T', h1, h2⟩
  | al i =>
    have h : σ[i]? = some (some v) := h
    unfold iterD at e
    simp only at e
    split at e
    · rename_i d q
      obtain ⟨_, e1, e2⟩ := Option.map_eq_some_iff.mp e
      cases e2
      obtain ⟨ov, e3, u, rfl, r⟩ := S.sl i _ q
      rw [h] at e3; cases e3
      obtain ⟨J, h1, h2⟩ := yields_rep S r e1
      exact ⟨F, J, S, T, h1, h2⟩
    · rename_i d q
      obtain ⟨_, e1, e2⟩ := Option.map_eq_some_iff.mp e
      cases e2
      obtain ⟨ov, e3, u, rfl, r⟩ := S.sl i _ q
      rw [h] at e3; cases e3
      rcases r with r | ⟨a, rfl, no, r⟩
      · obtain ⟨J, h1, h2⟩ := yields_rep S r e1
        exact ⟨F, J, S, T, h1, h2⟩
      · cases d with
        | lst xs =>
          cases e1
          obtain ⟨vs, h1, r⟩ := r
          exact ⟨F, Itl K a, S, T, .inl ⟨a, rfl, ⟨vs, .inl (.inl h1)⟩, rfl⟩, Yields.list (fun F2 H2 σ2 env2 S2 T2 => .inl (.inl (T2.keep _ _ h1 no))) r⟩
        | _ => first | cases e1; done | exact r.elim
    · rename_i d q
      obtain ⟨_, e1, e2⟩ := Option.map_eq_some_iff.mp e
      cases e2
      obtain ⟨F', a, e3, S', T', r⟩ := freeze_own T S q
      rw [h] at e3; cases e3
      obtain ⟨J, h1, h2⟩ := yields_rep S' r e1
      exact ⟨F', J, S', T', h1, h2⟩
    · cases e
end
theorem pi_it {X : Cx} {tg l : Expr} {tl : TE} (hl : PE X l tl) : PI X tg l (fun σ H R => tl σ H fun x H1 => ∃ J, ItOk X.K H1 x J ∧ R J H1) := by
  refine ⟨fun pins s σ H R I h => ?_⟩
  refine thn (hl.run pins s σ H _ I h) fun v s1 ⟨x, H1, I1, r1, J, q1, q⟩ => ?_
  rcases q1 with ⟨a, e, ⟨xs, hq⟩, rfl⟩ | ⟨a, e, ⟨xs, hq⟩, rfl⟩ | ⟨z, e, rfl⟩
  · subst e
    cases r1
    obtain ⟨its, rv, p, hz⟩ := I1.list hq
    refine wpAny_pyIter_list p.isList ?_
    refine ⟨s1.heap.objs.size, [s1.heap.objs.size], _, _, H1, rfl, I1.kept (t' := s1.toks) fun b o e => Heap.get?_push_of_some _ e, turn_list a _, ⟨_, Heap.get?_push_size _ rfl, rfl, rfl⟩, fun b hb => ?_, q⟩
    have e : b = s1.heap.objs.size := by simpa using hb
    subst e
    exact I1.fpOk (Nat.le_refl _) (I1.hok.fresh (Nat.le_refl _))
  · subst e
    cases r1
    obtain ⟨its, rv, p, hz⟩ := I1.tuple hq
    refine wpAny_pyIter_tuple (show s1.heap.IsTuple a its.toArray from p) ?_
    refine ⟨s1.heap.objs.size, [s1.heap.objs.size], _, _, H1, rfl, I1.kept (t' := s1.toks) fun b o e => Heap.get?_push_of_some _ e, turn_tuple a _, ⟨_, Heap.get?_push_size _ rfl, rfl, rfl⟩, fun b hb => ?_, q⟩
    have e : b = s1.heap.objs.size := by simpa using hb
    subst e
    exact I1.fpOk (Nat.le_refl _) (I1.hok.fresh (Nat.le_refl _))
  · subst e
    obtain ⟨t, rfl⟩ := r1
    cases ha : z.cps.all (· < 128)
    · exact wpAny_pyIter_wide ha (pi_one (tk := s1.toks) I1 _ (turn_str _ z t "str_iterator" (.inr rfl)) ⟨_, Heap.get?_push_size _ rfl, rfl, rfl⟩ q)
    · exact wpAny_pyIter_ascii ha (pi_one (tk := s1.toks) I1 _ (turn_str _ z t "str_ascii_iterator" (.inl rfl)) ⟨_, Heap.get?_push_size _ rfl, rfl, rfl⟩ q)

section
variable {X : Cx} {tg l : Expr} {tl : TD}
def iSeq (tl : TD) : TID := fun env k => tl env fun e1 r => got (iterD e1 r) fun z => k z.1 z.2
theorem xi_seq (hl : PX X l tl) : PXI X tg l (iSeq tl) :=
  ⟨(pi_it hl.run).imp fun σ H R ⟨F, env, k, S, h, hk⟩ => ⟨F, env, _, S, h, fun e1 r ⟨z, e, q⟩ F1 H1 v S1 T1 rr => by
    obtain ⟨F', J, S', T', h1, h2⟩ := iterD_ok T1 S1 rr e
    exact ⟨J, h1, hk _ _ q F' H1 J S' T' h2⟩⟩⟩
/-- lo, lo + 1, .. n of them -/
def rangeD (lo : Int) (n : Nat) : List D := (List.range n).map fun (i : Nat) => .int (lo + (i : Int))
theorem Yields.range {K : PySem.W.Frag} {F1 H1 : Hp} {σ1 : St} {env1 : Env} {lo : Int} {n : Nat} : Yields K (Itr lo n) (rangeD lo n) F1 H1 σ1 env1 where
  go := fun i d F H σ env S T e => by
    unfold rangeD at e
    rw [List.getElem?_map] at e
    obtain ⟨c, e1, rfl⟩ := Option.map_eq_some_iff.mp e
    obtain ⟨hi, e2⟩ := List.getElem?_eq_some_iff.mp e1
    rw [List.length_range] at hi
    rw [List.getElem_range] at e2
    subst e2
    refine ⟨hi, fun x H' y => ?_⟩
    obtain ⟨rfl, rfl⟩ := y
    exact ⟨F, S, Step.refl, rep_int.mpr rfl⟩
  stop := fun F H σ env S T => by
    show n ≤ (rangeD lo n).length
    unfold rangeD
    rw [List.length_map, List.length_range]
    exact Nat.le_refl _
def BigOk (i : Int) : Prop := -(2 ^ 62) ≤ i ∧ i < 2 ^ 62
def iR1 (ta : TAD) : TID := fun env k => ta env fun e1 rs => ∃ j : Int, rs.map (content e1) = [some (.int j)] ∧ BigOk j ∧ k e1 (rangeD 0 j.toNat)
def iR2 (ta : TAD) : TID := fun env k => ta env fun e1 rs => ∃ i j : Int, rs.map (content e1) = [some (.int i), some (.int j)] ∧ BigOk i ∧ BigOk j ∧ k e1 (rangeD i (j - i).toNat)
theorem prep_int {K : PySem.W.Frag} {F H : Hp} {b : Int} {v : V} (h : PRep K F H (.int b) v) : v = .int b := by
  rcases h with h | ⟨_, _, h⟩
  · exact rep_int.mp h
  · exact h.elim
theorem prep_str {K : PySem.W.Frag} {F H : Hp} {b : Str} {v : V} (h : PRep K F H (.str b) v) : v = .str b := by
  rcases h with h | ⟨_, _, h⟩
  · exact rep_str.mp h
  · exact h.elim
theorem ras_prep {K : PySem.W.Frag} {F H : Hp} {σ : St} {env : Env} (S : SR K F H σ env) : ∀ {rs : List R} {vs : List V} {ds : List D}, RAs K F σ rs vs → rs.map (content env) = ds.map some → Paired (fun d v => PRep K F H d v) ds vs
  | [], vs, ds, h, e => by
    cases h
    cases ds with
    | nil => exact .nil
    | cons _ _ => cases e
  | r :: rs, vs, ds, h, e => by
    cases h with
    | cons h1 h2 =>
      cases ds with
      | nil => cases e
      | cons d ds =>
        rw [List.map_cons, List.map_cons] at e
        injection e with e1 e2
        exact .cons (RR.prep S (RA.rr (H0 := H) h1) e1) (ras_prep S h2 e2)
theorem xi_range1 {a : Expr} {ta : TAD} {p pos : Pos} (hg : Gl X "range") (hm : X.mg "range" = none) (ha : PXA X [a] ta) (hs : starEach [a] X.env = [(false, eval a X.env)] := by rfl) : PXI X tg (.Call (.Name "range" p) [a] [] pos) (iR1 ta) :=
  ⟨(pi_range1 hg hm ha.run hs).imp fun σ H R ⟨F, env, k, S, h, hk⟩ => ⟨F, env, _, S, h, fun e1 rs ⟨j, e, ⟨b1, b2⟩, q⟩ F1 H1 vs S1 T1 ras => by
    have pr := ras_prep (ds := [.int j]) S1 ras e
    cases pr with
    | cons p1 p2 =>
      cases p2
      cases prep_int p1
      exact ⟨j, rfl, b1, b2, hk _ _ q F1 H1 _ S1 T1 Yields.range⟩⟩⟩
theorem xi_range2 {a b : Expr} {ta : TAD} {p pos : Pos} (hg : Gl X "range") (hm : X.mg "range" = none) (ha : PXA X [a, b] ta) (hs : starEach [a, b] X.env = [(false, eval a X.env), (false, eval b X.env)] := by rfl) (hs2 : starEach [b] X.env = [(false, eval b X.env)] := by rfl) : PXI X tg (.Call (.Name "range" p) [a, b] [] pos) (iR2 ta) :=
  ⟨(pi_range2 hg hm ha.run hs hs2).imp fun σ H R ⟨F, env, k, S, h, hk⟩ => ⟨F, env, _, S, h, fun e1 rs ⟨i, j, e, ⟨b1, b2⟩, ⟨b3, b4⟩, q⟩ F1 H1 vs S1 T1 ras => by
    have pr := ras_prep (ds := [.int i, .int j]) S1 ras e
    cases pr with
    | cons p1 p2 =>
      cases p2 with
      | cons p2 p3 =>
        cases p3
        cases prep_int p1
        cases prep_int p2
        exact ⟨i, j, rfl, ⟨b1, b2, b3, b4⟩, hk _ _ q F1 H1 _ S1 T1 Yields.range⟩⟩⟩
end

/-! ### targets -/
abbrev TGD := D → Env → (Env → Prop) → Prop
abbrev TGsD := List D → Env → (Env → Prop) → Prop
/-- a frozen value is stored, in the slots ws at most -/
def upG (K : PySem.W.Frag) (g : TGD) (ws : List Nat) : TG := fun v σ H Q => ∃ F env d k, SR K F H σ env ∧ Rep K F d v ∧ g d env k ∧ ∀ env', k env' → ∀ σ', (∀ j, j ∉ ws → σ'[j]? = σ[j]?) → σ'.length = σ.length → SR K F H σ' env' → Step F H σ env F H σ' env' → Q σ' H
def upGs (K : PySem.W.Frag) (g : TGsD) (ws : List Nat) : TGs := fun vs σ H Q => ∃ F env ds k, SR K F H σ env ∧ Reps K F ds vs ∧ g ds env k ∧ ∀ env', k env' → ∀ σ', (∀ j, j ∉ ws → σ'[j]? = σ[j]?) → σ'.length = σ.length → SR K F H σ' env' → Step F H σ env F H σ' env' → Q σ' H
structure PXG (X : Cx) (tg : Expr) (g : TGD) (ws : List Nat) : Prop where
  run : PG X tg (upG X.K g ws)
structure PXGs (X : Cx) (tg : List Expr) (g : TGsD) (ws : List Nat) : Prop where
  run : PGs X tg (upGs X.K g ws)
theorem _root_.L2.PG.imp {X : Cx} {tg : Expr} {t t' : TG} (h : PG X tg t) (i : ∀ v σ H Q, t' v σ H Q → t v σ H Q) : PG X tg t' := ⟨fun pins s σ H v u Q I r q => h.run pins s σ H v u Q I r (i v σ H Q q)⟩
theorem _root_.L2.PGs.imp {X : Cx} {tg : List Expr} {t t' : TGs} (h : PGs X tg t) (i : ∀ v σ H Q, t' v σ H Q → t v σ H Q) : PGs X tg t' := ⟨fun pins s σ H vs us Q I r q => h.run pins s σ H vs us Q I r (i vs σ H Q q)⟩
def settable (env : Env) (i : Nat) : Prop := match env[i]? with
  | some (.io _) => False
  | none => False
  | _ => True
theorem settable.ni {env : Env} {i : Nat} (h : settable env i) : notIo env i := fun d z => by
  unfold settable at h
  rw [z] at h
  exact h
def gN (i : Nat) : TGD := fun d env k => settable env i ∧ k (env.set i (.val d))
theorem upG_name {K : PySem.W.Frag} {i : Nat} {v : V} {σ : St} {H : Hp} {Q : St → Hp → Prop} (h : upG K (gN i) [i] v σ H Q) : gName i v σ H Q := by
  obtain ⟨F, env, d, k, S, r, ⟨n, q⟩, hk⟩ := h
  exact hk _ q _ (fun j hj => List.getElem?_set_ne (fun e => hj (by rw [e]; exact List.mem_singleton.mpr rfl))) (List.length_set ..) (S.setVal r) (step_set n.ni rfl fun m => by cases m)
section
variable {X : Cx} {pos : Pos} {e : Expr} {es : List Expr}
theorem g_name {i : Nat} {x : Str} (hN : X.N.Nodup) (hi : X.N[i]? = some x := by rfl) (hx : Loc X.env.scope x := by first | exact .inl rfl | exact .inr rfl) (hf : X.fn x = true ∨ X.env.scope.names.lookup x = some .local := by first | exact .inl rfl | exact .inr rfl | assumption) : PXG X (.Name x pos) (gN i) [i] :=
  ⟨(pg_name hN hi hx hf).imp fun _ _ _ _ h => upG_name h⟩
def gNi : TGsD := fun ds env k => ds = [] ∧ k env
def gCo (t : TGD) (u : TGsD) : TGsD := fun ds env k => match ds with
  | d :: r => t d env fun e1 => u r e1 k
  | [] => False
theorem gs_nil : PXGs X [] gNi [] := ⟨pgs_nil.imp fun vs σ H Q ⟨F, env, ds, k, S, r, ⟨e, q⟩, hk⟩ => by
  subst e
  exact ⟨reps_nil.mp r, hk _ q σ (fun _ _ => rfl) rfl S Step.refl⟩⟩
theorem gs_cons {t : TGD} {u : TGsD} {w1 w2 : List Nat} (h1 : PXG X e t w1) (h2 : PXGs X es u w2) (hs : (assignEach (e :: es) X.env).map (·.2) = assign e X.env :: (assignEach es X.env).map (·.2) := by rfl) : PXGs X (e :: es) (gCo t u) (w1 ++ w2) := ⟨(pgs_cons h1.run h2.run hs).imp fun vs σ H Q ⟨F, env, ds, k, S, r, q, hk⟩ => by
  cases ds with
  | nil => exact q.elim
  | cons d ds =>
    obtain ⟨v, w, rfl, r1, r2⟩ := reps_cons.mp r
    exact ⟨v, w, rfl, F, env, d, _, S, r1, q, fun e1 q1 σ1 k1 l1 S1 T1 => ⟨F, e1, ds, k, S1, r2, q1, fun e2 q2 σ2 k2 l2 S2 T2 => hk e2 q2 σ2 (fun j hj => (k2 j fun z => hj (List.mem_append_right _ z)).trans (k1 j fun z => hj (List.mem_append_left _ z))) (l2.trans l1) S2 (T1.trans T2)⟩⟩⟩
def gT (u : TGsD) (n : Nat) : TGD := fun d env k => match d with
  | .tup ds => ds.length = n ∧ u ds env k
  | _ => False
theorem g_tup {k : Nat} {t : TGsD} {n : Nat} {ws : List Nat} (hc : X.calm = true) (h : PXGs X es t ws) (hn : (assignEach es X.env).length = n := by rfl) (hst : (assignEach es X.env).findIdx? (·.1) = none := by rfl) : PXG X (.Tuple es k pos) (gT t n) ws := ⟨(pg_tup (n := n) hc h.run hn hst).imp fun v σ H Q ⟨F, env, d, k, S, r, q, hk⟩ => by
  cases d with
  | tup ds =>
    obtain ⟨a, vs, rfl, h1, h2⟩ := rep_tup.mp r
    exact ⟨a, vs, rfl, Same.seqT S.sub h1, by rw [h2.length]; exact q.1, F, env, ds, k, S, h2, q.2, hk⟩
  | _ => exact q.elim⟩
end

/-! ### for -/
def tFo (wi : TID) (g : TGD) (tb : TSD) : TSD := fun E env => wi env fun env1 ds => ∃ P : Nat → Env → Prop, P 0 env1 ∧
  (∀ (i : Nat) d env, ds[i]? = some d → P i env → g d env fun e2 => tb { E with nx := P (i + 1), ct := P (i + 1), bk := E.nx } e2) ∧ ∀ env, P ds.length env → E.nx env
section
variable {X : Cx} {tg iter : Expr} {body : List Stmt} {wi : TID} {g : TGD} {tb : TSD} {pos : Pos}
theorem for_up {K : PySem.W.Frag} {D : Ends} {σ1 : St} {H1 F1 F0 H0 : Hp} {env1 env0 : Env} {σ0 : St} {E : EndsD} {J : It} {ds : List Pd.D} {ws : List Nat} {P : Nat → Env → Prop} (o : EndsOk K F1 H1 σ1 env1 E D) (S1 : SR K F1 H1 σ1 env1) (Y : Yields K J ds F1 H1 σ1 env1) (h0 : P 0 env1)
    (hs : ∀ (i : Nat) d env, ds[i]? = some d → P i env → g d env fun e2 => tb { E with nx := P (i + 1), ct := P (i + 1), bk := E.nx } e2) (hd : ∀ env, P ds.length env → E.nx env) :
    ∃ W : Nat → Nat → St → Hp → Prop, (∃ m, W 0 m σ1 H1) ∧ ∀ i m σ H, W i m σ H →
      (J.stop i H ∧ D.nx σ H) ∨ (J.go i H ∧ ∃ N : St → Hp → Prop, (∀ σ' H', N σ' H' → ∃ m', m' < m ∧ W (i + 1) m' σ' H') ∧ ∀ x H', J.yld i H x H' → upG K g ws x σ H' fun σ2 H2 => upS K tb { D with nx := N, ct := N, bk := D.nx } σ2 H2) := by
  refine ⟨fun i m σ H => i + m = ds.length ∧ ∃ F env, SR K F H σ env ∧ Step F1 H1 σ1 env1 F H σ env ∧ P i env, ⟨ds.length, by omega, F1, env1, S1, Step.refl, h0⟩, ?_⟩
  rintro i m σ H ⟨hm, F, env, S, T, p⟩
  by_cases hlt : i < ds.length
  · obtain ⟨go, yl⟩ := Y.go i ds[i] F H σ env S T (List.getElem?_eq_getElem hlt)
    refine .inr ⟨go, fun σ' H' => ∃ F' env', SR K F' H' σ' env' ∧ Step F1 H1 σ1 env1 F' H' σ' env' ∧ P (i + 1) env', fun σ' H' ⟨F', env', S', T', p'⟩ => ⟨m - 1, by omega, by omega, F', env', S', T', p'⟩, fun x H' y => ?_⟩
    obtain ⟨F', S', T', r⟩ := yl x H' y
    have T1 := T.trans T'
    refine ⟨F', env, ds[i], _, S', r, hs i _ env (List.getElem?_eq_getElem hlt) p, fun e2 q σ2 _ _ S2 T2 => ?_⟩
    have T3 := T1.trans T2
    exact ⟨F', e2, _, S2, q, fun e q F4 H4 σ4 S4 T4 => ⟨F4, e, S4, T3.trans T4, q⟩, (o.step T3).rt, fun e q F4 H4 σ4 S4 T4 => o.nx e q F4 H4 σ4 S4 (T3.trans T4), fun e q F4 H4 σ4 S4 T4 => ⟨F4, e, S4, T3.trans T4, q⟩⟩
  · have hi : i = ds.length := by omega
    subst hi
    exact .inl ⟨Y.stop F H σ env S T, o.nx env (hd env p) F H σ S T⟩
theorem y_for (hp : PassesOwn (model X.prog X.w) X.A X.env X.xe) (hc : X.calm = true) (hi : PXI X tg iter wi) {ws : List Nat} (hg : PXG X tg g ws) (hb : PYs X body tb) (hs : ∀ x, foldedSetIterable iter X.env x = pure x := by intro _; rfl) : PY X (.For tg iter body [] pos) (tFo wi g tb) :=
  ⟨(ps_for hp hc hi.run hg.run hb.run hs).imp fun D σ H ⟨F, env, E, S, h, o⟩ => ⟨F, env, _, S, h, fun e1 ds ⟨P, h0, hs, hd⟩ F1 H1 J S1 T1 Y =>
    for_up (F0 := F) (H0 := H) (env0 := env) (σ0 := σ) (o.step T1) S1 Y h0 hs hd⟩⟩
/-- while -/
def tWh (c : TTD) (tb : TSD) : TSD := fun E env => ∃ (P : Env → Prop) (μ : Env → Nat), P env ∧ ∀ env, P env → c env fun e1 b => if b = true then tb { E with nx := fun e => P e ∧ μ e < μ env, ct := fun e => P e ∧ μ e < μ env, bk := E.nx } e1 else E.nx e1
theorem y_while {c : Expr} {tc : TTD} (hp : PassesOwn (model X.prog X.w) X.A X.env X.xe) (hc : PXT X c tc) (hb : PYs X body tb) : PY X (.While c body [] pos) (tWh tc tb) := by
  refine ⟨(ps_while hp hc.run hb.run).imp fun D σ H ⟨F, env, E, S, ⟨P, μ, p0, turn⟩, o⟩ => ?_⟩
  refine ⟨fun m σ' H' => ∃ F' env', m = μ env' ∧ SR X.K F' H' σ' env' ∧ Step F H σ env F' H' σ' env' ∧ P env', ⟨_, F, env, rfl, S, Step.refl, p0⟩, ?_⟩
  rintro m σ1 H1 ⟨F1, env1, rfl, S1, T1, p1⟩
  refine ⟨F1, env1, _, S1, turn env1 p1, fun e2 b q F2 H2 S2 T2 => ?_⟩
  have T3 := T1.trans T2
  cases b with
  | true =>
    simp only [if_true] at q ⊢
    refine ⟨fun σ' H' => ∃ F' env', SR X.K F' H' σ' env' ∧ Step F H σ env F' H' σ' env' ∧ P env' ∧ μ env' < μ env1, fun σ' H' ⟨F', env', S', T', p', l⟩ => ⟨μ env', l, F', env', rfl, S', T', p'⟩, F2, e2, _, S2, q, ?_⟩
    exact ⟨fun e q F4 H4 σ4 S4 T4 => ⟨F4, e, S4, T3.trans T4, q.1, q.2⟩, (o.step T3).rt, fun e q F4 H4 σ4 S4 T4 => o.nx e q F4 H4 σ4 S4 (T3.trans T4), fun e q F4 H4 σ4 S4 T4 => ⟨F4, e, S4, T3.trans T4, q.1, q.2⟩⟩
  | false =>
    simp only [Bool.false_eq_true, if_false] at q ⊢
    exact o.nx e2 q F2 H2 σ1 S2 T3
end

/-! ### comprehensions -/
def wipeD (env : Env) : List Nat → Env
  | [] => env
  | v :: vs => (wipeD env vs).set v .un
theorem wipeD_length (env : Env) : ∀ vs : List Nat, (wipeD env vs).length = env.length
  | [] => rfl
  | v :: vs => by unfold wipeD; rw [List.length_set, wipeD_length env vs]
theorem wipe_out {σ : St} {j : Nat} : ∀ {vs : List Nat}, j ∉ vs → (wipe σ vs)[j]? = σ[j]?
  | [], _ => rfl
  | v :: vs, h => by
    unfold wipe
    rw [List.getElem?_set_ne (fun e => h (by rw [e]; exact List.mem_cons_self)), wipe_out fun z => h (List.mem_cons_of_mem _ z)]
theorem wipeD_out {env : Env} {j : Nat} : ∀ {vs : List Nat}, j ∉ vs → (wipeD env vs)[j]? = env[j]?
  | [], _ => rfl
  | v :: vs, h => by
    unfold wipeD
    rw [List.getElem?_set_ne (fun e => h (by rw [e]; exact List.mem_cons_self)), wipeD_out fun z => h (List.mem_cons_of_mem _ z)]
theorem wipeD_in {env : Env} {j : Nat} {s : Sl} : ∀ {vs : List Nat}, j ∈ vs → (wipeD env vs)[j]? = some s → s = .un
  | v :: vs, h, e => by
    unfold wipeD at e
    rcases getElem?_set_any e with ⟨_, rfl, _⟩ | ⟨hj, e⟩
    · rfl
    · rcases List.mem_cons.mp h with z | z
      · exact absurd z hj
      · exact wipeD_in z e
theorem wipeD_some {env : Env} {j : Nat} {s : Sl} {vs : List Nat} (e : (wipeD env vs)[j]? = some s) (n : s ≠ .un) : j ∉ vs ∧ env[j]? = some s := by
  have h : j ∉ vs := fun z => n (wipeD_in z e)
  exact ⟨h, (wipeD_out h) ▸ e⟩
theorem lt_of_some {α : Type} {l : List α} {i : Nat} {x : α} (h : l[i]? = some x) : i < l.length := (List.getElem?_eq_some_iff.mp h).1
theorem SR.wipe {K : PySem.W.Frag} {F H : Hp} {σ : St} {env : Env} (S : SR K F H σ env) (vs : List Nat) : SR K F H (wipe σ vs) (wipeD env vs) ∧ (∀ a, OwnA (wipeD env vs) (wipe σ vs) a → OwnA env σ a) ∧ (∀ a, LocA (wipeD env vs) (wipe σ vs) a → LocA env σ a) := by
  have back : ∀ (j : Nat) (s : Sl) (a : Addr), (wipeD env vs)[j]? = some s → s ≠ .un → (L2.wipe σ vs)[j]? = some (some (.ref a)) → env[j]? = some s ∧ σ[j]? = some (some (.ref a)) := fun j s a h1 h2 h3 => by
    obtain ⟨h4, h5⟩ := wipeD_some h1 h2
    rw [wipe_out h4] at h3
    exact ⟨h5, h3⟩
  have nu : ∀ {s : Sl}, s.mine = true → s ≠ .un := fun m e => by rw [e] at m; cases m
  have nl : ∀ {s : Sl}, s.loc = true → s ≠ .un := fun m e => by rw [e] at m; cases m
  have oo : ∀ a, OwnA (wipeD env vs) (L2.wipe σ vs) a → OwnA env σ a := fun a ⟨j, s, h1, h2, h3⟩ => by
    obtain ⟨h4, h5⟩ := back j s a h1 (nu h2) h3
    exact ⟨j, s, h4, h2, h5⟩
  refine ⟨⟨S.sub, by rw [wipeD_length, L2.wipe_length, S.len], fun j s e => ?_, fun j k s t a e1 e2 m1 m2 q1 q2 => ?_⟩, oo, fun a ⟨j, s, h1, h2, h3⟩ => ?_⟩
  · have hj : j < (L2.wipe σ vs).length := by
      rw [L2.wipe_length, ← S.len, ← wipeD_length env vs]
      exact lt_of_some e
    by_cases hu : s = .un
    · subst hu
      exact ⟨_, List.getElem?_eq_getElem hj, trivial⟩
    · obtain ⟨h1, h2⟩ := wipeD_some e hu
      obtain ⟨ov, e1, q⟩ := S.sl j s h2
      exact ⟨ov, by rw [wipe_out h1]; exact e1, q.mono (Same.refl _) (fun _ _ z => z) (fun _ _ z => z) (fun a z e2 => mine_own h2 z (e1.trans (congrArg some e2))) fun a z => .inl (oo a z)⟩
  · obtain ⟨h1, h2⟩ := back j s a e1 (nu m1) q1
    obtain ⟨h3, h4⟩ := back k t a e2 (nu m2) q2
    exact S.inj j k s t a h1 h3 m1 m2 h2 h4
  · obtain ⟨h4, h5⟩ := back j s a h1 (nl h2) h3
    exact ⟨j, s, h4, h2, h5⟩
/-- the slots vs come back as they were, where they held frozen data -/
def back1 (env0 : Env) (i : Nat) : Sl := match env0[i]? with
  | some (.val d) => .val d
  | _ => .un
def backD (env0 env : Env) : List Nat → Env
  | [] => env
  | v :: vs => (backD env0 env vs).set v (back1 env0 v)
theorem backD_length (env0 env : Env) : ∀ vs : List Nat, (backD env0 env vs).length = env.length
  | [] => rfl
  | v :: vs => by unfold backD; rw [List.length_set, backD_length env0 env vs]
theorem backD_out {env0 env : Env} {j : Nat} : ∀ {vs : List Nat}, j ∉ vs → (backD env0 env vs)[j]? = env[j]?
  | [], _ => rfl
  | v :: vs, h => by
    unfold backD
    rw [List.getElem?_set_ne (fun e => h (by rw [e]; exact List.mem_cons_self)), backD_out fun z => h (List.mem_cons_of_mem _ z)]
theorem backD_in {env0 env : Env} {j : Nat} {s : Sl} : ∀ {vs : List Nat}, j ∈ vs → (backD env0 env vs)[j]? = some s → s = back1 env0 j
  | v :: vs, h, e => by
    unfold backD at e
    rcases getElem?_set_any e with ⟨rfl, rfl, _⟩ | ⟨hj, e⟩
    · rfl
    · rcases List.mem_cons.mp h with z | z
      · exact absurd z hj
      · exact backD_in z e
theorem back1_val {env0 : Env} {i : Nat} : (back1 env0 i = .un) ∨ ∃ d, back1 env0 i = .val d ∧ env0[i]? = some (.val d) := by
  unfold back1
  split
  · rename_i d e; exact .inr ⟨d, rfl, e⟩
  · exact .inl rfl
/-- no slot of vs is an inout parameter's -/
def freeOf (env : Env) (vs : List Nat) : Prop := ∀ i ∈ vs, settable env i
section
variable {K : PySem.W.Frag} {F H F1 H1 : Hp} {σ : St} {env env1 : Env} {vs : List Nat}
theorem step_wipe (T : Step F1 H1 (wipe σ vs) (wipeD env1 vs) F H (wipe σ vs) env) (S1 : SR K F1 H1 σ env1) (fo : freeOf env1 vs) : Step F1 H1 σ env1 F H σ (backD env1 env vs) := by
  obtain ⟨_, oo, ll⟩ := S1.wipe vs
  have back : ∀ (j : Nat) (s : Sl), (backD env1 env vs)[j]? = some s → s ≠ .un → (∀ d, s ≠ .val d) → j ∉ vs ∧ env[j]? = some s := fun j s e n1 n2 => by
    have h : j ∉ vs := fun z => by
      have e2 := backD_in z e
      rcases back1_val (env0 := env1) (i := j) with q | ⟨d, q, _⟩
      · exact n1 (e2.trans q)
      · exact n2 d (e2.trans q)
    exact ⟨h, (backD_out h) ▸ e⟩
  have mn : ∀ {s : Sl}, s.mine = true → s ≠ .un ∧ ∀ d, s ≠ .val d := fun m => ⟨fun e => (by rw [e] at m; cases m), fun d e => (by rw [e] at m; cases m)⟩
  have ln : ∀ {s : Sl}, s.loc = true → s ≠ .un ∧ ∀ d, s ≠ .val d := fun m => ⟨fun e => (by rw [e] at m; cases m), fun d e => (by rw [e] at m; cases m)⟩
  refine ⟨T.fr, fun a o e n => T.keep a o e fun z => n (oo a z), fun a z => (T.new a z).imp_right fun z => z.imp_right (ll a), fun a ⟨j, s, h1, h2, h3⟩ => ?_, fun a ⟨j, s, h1, h2, h3⟩ => ?_, fun i d e => ?_, T.dom, fun i d e => ?_⟩
  · obtain ⟨h4, h5⟩ := back j s h1 (mn h2).1 (mn h2).2
    exact (T.own a ⟨j, s, h5, h2, by rw [wipe_out h4]; exact h3⟩).imp_left (oo a)
  · obtain ⟨h4, h5⟩ := back j s h1 (ln h2).1 (ln h2).2
    exact (T.loc a ⟨j, s, h5, h2, by rw [wipe_out h4]; exact h3⟩).imp_left (ll a)
  · have hi : i ∉ vs := fun z => (fo i z).ni d e
    obtain ⟨_, d', e'⟩ := T.io i d (by rw [wipeD_out hi]; exact e)
    exact ⟨rfl, d', by rw [backD_out hi]; exact e'⟩
  · obtain ⟨h4, h5⟩ := back i _ e (by simp) (by simp)
    obtain ⟨h6, _⟩ := T.br i d h5
    rw [wipeD_out h4] at h6
    exact ⟨h6, rfl⟩
theorem sr_back (S : SR K F H (wipe σ vs) env) (S1 : SR K F1 H1 σ env1) (f : Same F1 F) : SR K F H σ (backD env1 env vs) ∧ (∀ a, OwnA (backD env1 env vs) σ a → OwnA env (wipe σ vs) a) ∧ (∀ a, LocA (backD env1 env vs) σ a → LocA env (wipe σ vs) a) := by
  have back : ∀ (j : Nat) (s : Sl), (backD env1 env vs)[j]? = some s → s.mine = true → j ∉ vs ∧ env[j]? = some s := fun j s e m => by
    have h : j ∉ vs := fun z => by
      have e2 := backD_in z e
      rcases back1_val (env0 := env1) (i := j) with q | ⟨d, q, _⟩
      · rw [e2, q] at m; cases m
      · rw [e2, q] at m; cases m
    exact ⟨h, (backD_out h) ▸ e⟩
  have oo : ∀ a, OwnA (backD env1 env vs) σ a → OwnA env (L2.wipe σ vs) a := fun a ⟨j, s, h1, h2, h3⟩ => by
    obtain ⟨h4, h5⟩ := back j s h1 h2
    exact ⟨j, s, h5, h2, by rw [wipe_out h4]; exact h3⟩
  have lo : ∀ a, LocA (backD env1 env vs) σ a → LocA env (L2.wipe σ vs) a := fun a ⟨j, s, h1, h2, h3⟩ => by
    have m : s.mine = true := by cases s <;> simp_all [Sl.loc, Sl.mine]
    obtain ⟨h4, h5⟩ := back j s h1 m
    exact ⟨j, s, h5, h2, by rw [wipe_out h4]; exact h3⟩
  have hl : env.length = σ.length := by rw [S.len, L2.wipe_length]
  refine ⟨⟨S.sub, by rw [backD_length, hl], fun j s e => ?_, fun j k s t a e1 e2 m1 m2 q1 q2 => ?_⟩, oo, lo⟩
  · by_cases hj : j ∈ vs
    · have e2 := backD_in hj e
      rcases back1_val (env0 := env1) (i := j) with q | ⟨d, q, e3⟩
      · rw [e2, q]
        have : j < σ.length := by
          rw [← hl, ← backD_length env1 env vs]
          exact lt_of_some e
        exact ⟨_, List.getElem?_eq_getElem this, trivial⟩
      · rw [e2, q]
        obtain ⟨ov, e4, v, rfl, r⟩ := S1.sl j _ e3
        exact ⟨_, e4, v, rfl, r.mono f⟩
    · rw [backD_out hj] at e
      obtain ⟨ov, e1, q⟩ := S.sl j s e
      rw [wipe_out hj] at e1
      exact ⟨ov, e1, q.mono (Same.refl _) (fun _ _ z => z) (fun _ _ z => z) (fun a z e2 => mine_own e z (by rw [wipe_out hj]; exact e1.trans (congrArg some e2))) fun a z => .inl (oo a z)⟩
  · obtain ⟨h1, h2⟩ := back j s e1 m1
    obtain ⟨h3, h4⟩ := back k t e2 m2
    exact S.inj j k s t a h2 h4 m1 m2 (by rw [wipe_out h1]; exact q1) (by rw [wipe_out h3]; exact q2)
end
theorem wipeD_back {env1 env : Env} {vs : List Nat} (h : wipeD env vs = env) : wipeD (backD env1 env vs) vs = env := by
  refine List.ext_getElem? fun j => ?_
  by_cases hj : j ∈ vs
  · by_cases hl : j < env.length
    · obtain ⟨x, e1⟩ : ∃ x, (wipeD (backD env1 env vs) vs)[j]? = some x := ⟨_, List.getElem?_eq_getElem (by rw [wipeD_length, backD_length]; exact hl)⟩
      obtain ⟨y, e2⟩ : ∃ y, (wipeD env vs)[j]? = some y := ⟨_, List.getElem?_eq_getElem (by rw [wipeD_length]; exact hl)⟩
      rw [e1, wipeD_in hj e1, ← h, e2, wipeD_in hj e2]
    · rw [List.getElem?_eq_none (by rw [wipeD_length, backD_length]; omega), List.getElem?_eq_none (by omega)]
  · rw [wipeD_out hj, backD_out hj]
theorem wipeD_twice {env : Env} {vs : List Nat} : wipeD (wipeD env vs) vs = wipeD env vs := by
  refine List.ext_getElem? fun j => ?_
  by_cases hj : j ∈ vs
  · by_cases hl : j < env.length
    · obtain ⟨x, e1⟩ : ∃ x, (wipeD (wipeD env vs) vs)[j]? = some x := ⟨_, List.getElem?_eq_getElem (by rw [wipeD_length, wipeD_length]; exact hl)⟩
      obtain ⟨y, e2⟩ : ∃ y, (wipeD env vs)[j]? = some y := ⟨_, List.getElem?_eq_getElem (by rw [wipeD_length]; exact hl)⟩
      rw [e1, wipeD_in hj e1, e2, wipeD_in hj e2]
    · rw [List.getElem?_eq_none (by rw [wipeD_length, wipeD_length]; omega), List.getElem?_eq_none (by rw [wipeD_length]; omega)]
  · rw [wipeD_out hj]
/-- a cell of nobody's stays as it is -/
theorem Step.cell {F H F' H' : Hp} {σ σ' : St} {env env' : Env} {L : Addr} {o : HO} (T : Step F H σ env F' H' σ' env') (h : H L = some o) (f : F L = none) (n : ¬ OwnA env σ L) : H' L = some o ∧ F' L = none ∧ ¬ OwnA env' σ' L := by
  refine ⟨T.keep L o h n, ?_, fun z => (T.own L z).elim n fun z => by rw [z] at h; cases h⟩
  cases e : F' L with
  | none => rfl
  | some u =>
    rcases T.new L (by rw [e]; simp) with z | z | z
    · exact absurd f z
    · rw [z] at h; cases h
    · exact absurd z.own n
/-- such a cell is changed -/
theorem SR.updL {K : PySem.W.Frag} {F H F0 H0 : Hp} {σ σ0 : St} {env env0 : Env} {L : Addr} {o : HO} (S : SR K F H σ env) (S0 : SR K F0 H0 σ0 env0) (T : Step F0 H0 σ0 env0 F H σ env) (n0 : H0 L = none) (f : F L = none) (n : ¬ OwnA env σ L) : SR K F (upd H L o) σ env := by
  refine ⟨fun b u e => ?_, S.len, fun i s e => ?_, S.inj⟩
  · have hb : b ≠ L := fun z => by rw [z, f] at e; cases e
    rw [upd_ne hb]; exact S.sub b u e
  · obtain ⟨ov, e1, q⟩ := S.sl i s e
    refine ⟨ov, e1, ?_⟩
    cases s with
    | un => trivial
    | val d => exact q
    | own d =>
      obtain ⟨a, e2, z, r⟩ := q
      have ha : a ≠ L := fun y => n ⟨i, _, e, rfl, by rw [e1, e2, y]⟩
      exact ⟨a, e2, z, r.mono (Same.refl _) fun u y => by rw [upd_ne ha]; exact y⟩
    | io d =>
      obtain ⟨a, e2, z, r⟩ := q
      have ha : a ≠ L := fun y => n ⟨i, _, e, rfl, by rw [e1, e2, y]⟩
      exact ⟨a, e2, z, r.mono (Same.refl _) fun u y => by rw [upd_ne ha]; exact y⟩
    | br d =>
      obtain ⟨v, e2, q⟩ := q
      refine ⟨v, e2, ?_⟩
      rcases q with q | ⟨a, e3, z, r⟩
      · exact .inl q
      · obtain ⟨h1, h2⟩ := T.br i d e
        obtain ⟨ov', e4, v', e5, q'⟩ := S0.sl i _ h1
        rw [← h2, e1] at e4
        cases e4
        rw [e2] at e5
        cases e5
        rcases q' with q' | ⟨a', e6, _, r'⟩
        · exact .inl (q'.mono T.fr)
        · rw [e3] at e6
          cases e6
          obtain ⟨u, e7⟩ := r'.there
          have ha : a ≠ L := fun y => by rw [y, n0] at e7; cases e7
          exact .inr ⟨a, e3, z, r.mono (Same.refl _) fun u y => by rw [upd_ne ha]; exact y⟩
theorem Step.endW {K : PySem.W.Frag} {F H F0 H0 H' : Hp} {σ σ0 : St} {env env0 : Env} {vs : List Nat} (T : Step F0 H0 σ0 env0 F H σ env) (S : SR K F H σ env) (w0 : wipeD env0 vs = env0) (k : ∀ a o, H a = some o → (∃ u, H0 a = some u) → H' a = some o) (d : ∀ a, H' a = none → H a = none) : Step F0 H0 σ0 env0 F H' (wipe σ vs) (wipeD env vs) := by
  obtain ⟨_, oo, ll⟩ := S.wipe vs
  refine ⟨T.fr, fun a o e n => k a o (T.keep a o e n) ⟨_, e⟩, T.new, fun a z => T.own a (oo a z), fun a z => T.loc a (ll a z), fun i d e => ?_, fun a z => T.dom a (d a z), fun i d e => ?_⟩
  · have hi : i ∉ vs := (wipeD_some (vs := vs) (by rw [w0]; exact e) (by simp)).1
    obtain ⟨h1, d', h2⟩ := T.io i d e
    exact ⟨by rw [wipe_out hi]; exact h1, d', by rw [wipeD_out hi]; exact h2⟩
  · obtain ⟨hi, h1⟩ := wipeD_some e (by simp)
    obtain ⟨h2, h3⟩ := T.br i d h1
    exact ⟨h2, by rw [wipe_out hi]; exact h3⟩
structure PXTs (X : Cx) (ifs : List Expr) (t : TTD) : Prop where
  run : PTs X ifs (upT X.K t)
theorem _root_.L2.PTs.imp {X : Cx} {tg : List Expr} {t t' : TT} (h : PTs X tg t) (i : ∀ σ H Q, t' σ H Q → t σ H Q) : PTs X tg t' := ⟨fun pins s σ H Q I q => h.run pins s σ H Q I (i σ H Q q)⟩
def tYs : TTD := fun env k => k env true
theorem xts_nil {X : Cx} : PXTs X [] tYs := ⟨pts_nil.imp fun σ H Q ⟨F, env, k, S, h, hk⟩ => hk _ _ h F H S Step.refl⟩
theorem xts_one {X : Cx} {c : Expr} {t : TTD} (h : PXT X c t) : PXTs X [c] t := ⟨pts_one h.run⟩
/-- [e for target in it if ..]: P by the turn, the slots, what is made so far -/
def tLC (wi : TID) (g : TGD) (tt : TTD) (te : TD) (vs : List Nat) : TD := fun env k => wi env fun env1 ds => freeOf env1 vs ∧ ∃ P : Nat → Env → List D → Prop, P 0 (wipeD env1 vs) [] ∧
  (∀ (i : Nat) d env acc, ds[i]? = some d → P i env acc → g d env fun e2 => tt e2 fun e3 b => if b = true then te e3 fun e4 r => got (escape e4 r) fun z => acc.length < sizeLine ∧ P (i + 1) (wipeD z.1 vs) (acc ++ [z.2]) else P (i + 1) (wipeD e3 vs) acc) ∧
  ∀ env acc, P ds.length env acc → k (backD env1 env vs) (.new (.lst acc))
theorem wipe_at (τ : St) {j : Nat} : ∀ {us : List Nat}, j ∈ us → (wipe τ us)[j]? = if j < τ.length then some none else none
  | u :: us, z => by
    unfold wipe
    by_cases e : j = u
    · subst e
      by_cases hl : j < τ.length
      · rw [List.getElem?_set_self (by rw [wipe_length]; exact hl), if_pos hl]
      · rw [List.getElem?_eq_none (by rw [List.length_set, wipe_length]; omega), if_neg hl]
    · rw [List.getElem?_set_ne (Ne.symm e)]
      exact wipe_at τ ((List.mem_cons.mp z).resolve_left e)
theorem wipe_eq {σ σ' : St} {ws vs : List Nat} (h : ∀ j, j ∉ ws → σ'[j]? = (wipe σ vs)[j]?) (hl : σ'.length = (wipe σ vs).length) (hw : ∀ j ∈ ws, j ∈ vs) : wipe σ' vs = wipe σ vs := by
  apply List.ext_getElem?
  intro j
  by_cases hj : j ∈ vs
  · rw [wipe_at σ' hj, wipe_at σ hj, hl, wipe_length]
  · rw [wipe_out hj, h j fun z => hj (hw j z)]
theorem comp_up {K : PySem.W.Frag} {wi : TID} {g : TGD} {tt : TTD} {te : TD} {vs ws : List Nat} {wiH : TI} (hws : ∀ j ∈ ws, j ∈ vs) {σ : St} {H : Hp} {Q : VK} (hw : ∀ R, upI K wi σ H R → wiH σ H R) (h : up K (tLC wi g tt te vs) σ H Q) : tLc wiH (upG K g ws) (upT K tt) (up K te) vs σ H Q := by
  obtain ⟨F, env, k, S, h, hk⟩ := h
  refine hw _ ⟨F, env, _, S, h, fun env1 ds ⟨fo, P, h0, hs, hd⟩ F1 H1 J S1 T1 Y L nL => ?_⟩
  obtain ⟨Sw, oow, llw⟩ := S1.wipe vs
  have nLF : F1 L = none := S1.fnone nL
  -- from the start to a turn, in the slots that are not wiped
  have out : ∀ {F' H' : Hp} {env' : Env}, Step F1 H1 (wipe σ vs) (wipeD env1 vs) F' H' (wipe σ vs) env' → Step F1 H1 σ env1 F' H' σ (backD env1 env' vs) := fun T => step_wipe T S1 fo
  refine ⟨fun i m H' => i + m = ds.length ∧ ∃ F' env' acc accV, wipeD env' vs = env' ∧ SR K F' H' (wipe σ vs) env' ∧ Step F1 H1 (wipe σ vs) (wipeD env1 vs) F' H' (wipe σ vs) env' ∧ H' L = some (.lst accV) ∧ F' L = none ∧ ¬ OwnA env' (wipe σ vs) L ∧ Reps K F' acc accV ∧ P i env' acc,
    ⟨ds.length, by omega, F1, wipeD env1 vs, [], [], wipeD_twice, Sw.laid nL, Step.laid Sw nL, upd_same, nLF, fun z => ?_, reps_nil.mpr rfl, h0⟩, ?_⟩
  · obtain ⟨⟨u, e⟩, _⟩ := OwnA.there Sw z
    rw [nL] at e; cases e
  rintro i m H2 ⟨hm, F2, env2, acc, accV, w2, S2, T2, hL, fL, oL, rA, p⟩
  -- the loop's steps as the iterator sees them
  have S2b := sr_back S2 S1 T2.fr
  by_cases hlt : i < ds.length
  · obtain ⟨go, yl⟩ := Y.go i ds[i] F2 H2 σ _ S2b.1 (out T2) (List.getElem?_eq_getElem hlt)
    refine .inr ⟨go, fun H' => ∃ F' env' acc accV, wipeD env' vs = env' ∧ SR K F' H' (wipe σ vs) env' ∧ Step F1 H1 (wipe σ vs) (wipeD env1 vs) F' H' (wipe σ vs) env' ∧ H' L = some (.lst accV) ∧ F' L = none ∧ ¬ OwnA env' (wipe σ vs) L ∧ Reps K F' acc accV ∧ P (i + 1) env' acc,
      fun H' z => ⟨m - 1, by omega, by omega, z⟩, fun x H3 y => ?_⟩
    obtain ⟨F3, S3b, T3b, rx⟩ := yl x H3 y
    have S3 : SR K F3 H3 (wipe σ vs) env2 := by
      have z := (S3b.wipe vs).1
      rw [wipeD_back w2] at z
      exact z
    have T3 : Step F2 H2 (wipe σ vs) env2 F3 H3 (wipe σ vs) env2 :=
      ⟨T3b.fr, fun a o e n => T3b.keep a o e fun z => n (S2b.2.1 a z), fun a z => (T3b.new a z).imp_right fun z => z.imp_right (S2b.2.2 a), fun _ z => .inl z, fun _ z => .inl z, fun _ d e => ⟨rfl, d, e⟩, T3b.dom, fun _ _ e => ⟨e, rfl⟩⟩
    refine ⟨F3, env2, ds[i], _, S3, rx, hs i _ env2 acc (List.getElem?_eq_getElem hlt) p, fun e2 q σ2 kk ll S4 T4 => ?_⟩
    have ew : wipe σ2 vs = wipe σ vs := wipe_eq kk ll hws
    refine ⟨ew, F3, e2, _, S4, q, fun e3 b q2 F5 H5 S5 T5 => ?_⟩
    have T25 : Step F2 H2 (wipe σ vs) env2 F5 H5 σ2 e3 := (T3.trans T4).trans T5
    have T15 := T2.trans T25
    obtain ⟨hL5, fL5, oL5⟩ := T25.cell hL fL oL
    cases b with
    | false =>
      simp only [Bool.false_eq_true, if_false] at q2 ⊢
      have Sz := (S5.wipe vs).1
      rw [ew] at Sz
      have Tz := T15.endW (vs := vs) (H' := H5) S5 wipeD_twice (fun _ _ e _ => e) (fun _ e => e)
      rw [ew] at Tz
      refine ⟨F5, wipeD e3 vs, acc, accV, wipeD_twice, Sz, Tz, hL5, fL5, fun z => oL5 ((S5.wipe vs).2.1 L (by rw [ew]; exact z)), rA.mono T25.fr, q2⟩
    | true =>
      simp only [if_true] at q2 ⊢
      refine ⟨F5, e3, _, S5, q2, fun e4 r ⟨z, ez, hz, pz⟩ F6 H6 y S6 T6 rr => ?_⟩
      obtain ⟨F7, S7, T7, rd⟩ := escape_ok T6 S6 rr ez
      have T17 := T15.trans T7
      obtain ⟨hL7, fL7, oL7⟩ := T7.cell hL5 fL5 oL5
      refine ⟨accV, hL7, by rw [rA.length]; exact hz, ?_⟩
      have Su := S7.updL (o := .lst (accV ++ [y])) Sw T17 nL fL7 oL7
      have Sz := (Su.wipe vs).1
      rw [ew] at Sz
      have Tz := T17.endW (vs := vs) (H' := upd H6 L (.lst (accV ++ [y]))) S7 wipeD_twice (fun a o e ⟨u, e0⟩ => by
        rw [upd_ne (fun z => by rw [z, nL] at e0; cases e0)]; exact e) (fun a e => by
        by_cases ha : a = L
        · rw [ha, upd_same] at e; cases e
        · rw [upd_ne ha] at e; exact e)
      rw [ew] at Tz
      refine ⟨F7, wipeD z.1 vs, acc ++ [z.2], accV ++ [y], wipeD_twice, Sz, Tz, upd_same, fL7, fun q3 => oL7 ((S7.wipe vs).2.1 L (by rw [ew]; exact q3)), Reps.append (rA.mono (T25.fr.trans T7.fr)) (Reps.one rd), pz⟩
  · have hi : i = ds.length := by omega
    subst hi
    exact .inl ⟨Y.stop F2 H2 σ _ S2b.1 (out T2), hk _ _ (hd env2 acc p) F2 H2 _ S2b.1 (T1.trans (out T2)) ⟨L, rfl, fL, T1.dom L nL, fun z => oL (S2b.2.1 L z), accV, hL, rA⟩⟩
section
variable {X : Cx} {elt tg iter : Expr} {ifs : List Expr} {scope : Scope} {own : List (Str × Nat)} {pos : Pos} {wi : TID} {g : TGD} {tt : TTD} {te : TD} {ws : List Nat}
theorem x_lc (hc : X.calm = true) (hN : X.N.Nodup) (hi : PXI X tg iter wi) (ok : BlkOk X.N X.env.scope scope own) (hws : ∀ j ∈ ws, j ∈ own.map (·.2))
    (hg : ∀ (s : Shared) (H : Hp) (C : Addr) (cl : List (Str × Addr)) (fp : List Addr), PXG (X.blk s H scope (compEnvC scope cl C X.env) fp) tg g ws) (ht : ∀ (s : Shared) (H : Hp) (C : Addr) (cl : List (Str × Addr)) (fp : List Addr), PXTs (X.blk s H scope (compEnvC scope cl C X.env) fp) ifs tt)
    (he : ∀ (s : Shared) (H : Hp) (C : Addr) (cl : List (Str × Addr)) (fp : List Addr), PX (X.blk s H scope (compEnvC scope cl C X.env) fp) elt te) (hs : ∀ x, foldedSetIterable iter X.env x = pure x := by intro _; rfl) :
    PX X (.ListComp elt [⟨tg, iter, ifs, 0⟩] scope pos) (tLC wi g tt te (own.map (·.2))) :=
  ⟨(pe_lc hc hN hi.run ok (fun s H C cl fp => (hg s H C cl fp).run) (fun s H C cl fp => (ht s H C cl fp).run) (fun s H C cl fp => (he s H C cl fp).run) hs).imp fun σ H Q h => comp_up hws (fun _ z => z) h⟩
/-- name i = e -/
def tSt (i : Nat) (te : TD) : TSD := fun E env => te env fun e1 r => got (asg e1 i r) E.nx
theorem up_set {K : PySem.W.Frag} {i : Nat} {D : Ends} {σ : St} {H : Hp} (h : upS K (tSt i te) D σ H) : up K te σ H fun x H1 => D.nx (σ.set i (some x)) H1 := by
  obtain ⟨F, env, E, S, h, o⟩ := h
  refine ⟨F, env, _, S, h, fun e1 r ⟨e2, ea, q⟩ F1 H1 v S1 T1 rr => ?_⟩
  obtain ⟨F2, S2, T2⟩ := asg_ok S T1 S1 rr ea
  exact o.nx e2 q F2 H1 _ S2 T2
theorem y_set {i : Nat} {x : Str} {e : Expr} {pos' : Pos} (hN : X.N.Nodup) (he : PX X e te) (hi : X.N[i]? = some x := by rfl) (hx : Loc X.env.scope x := by first | exact .inl rfl | exact .inr rfl) (hs : swapsWith e (some (.Name x pos')) pos.line X.env = pure false := by rfl) (hf : X.fn x = true ∨ X.env.scope.names.lookup x = some .local := by first | exact .inl rfl | exact .inr rfl | assumption) :
    PY X (.Assign [.Name x pos'] e pos) (tSt i te) :=
  ⟨(ps_set hN hi hx he.run hs hf).imp fun D σ H h => up_set h⟩
theorem y_setLc {i : Nat} {y : Str} {py spos : Pos} (hc : X.calm = true) (hN : X.N.Nodup) (hi : PXI X tg iter wi) (ok : BlkOk X.N X.env.scope scope own) (hws : ∀ j ∈ ws, j ∈ own.map (·.2))
    (hg : ∀ (s : Shared) (H : Hp) (C : Addr) (cl : List (Str × Addr)) (fp : List Addr), PXG (X.blk s H scope (compEnvC scope cl C X.env) fp) tg g ws) (ht : ∀ (s : Shared) (H : Hp) (C : Addr) (cl : List (Str × Addr)) (fp : List Addr), PXTs (X.blk s H scope (compEnvC scope cl C X.env) fp) ifs tt)
    (he : ∀ (s : Shared) (H : Hp) (C : Addr) (cl : List (Str × Addr)) (fp : List Addr), PX (X.blk s H scope (compEnvC scope cl C X.env) fp) elt te) (hy : X.N[i]? = some y := by rfl) (hyl : X.env.scope.names.lookup y = some .local := by rfl)
    (hsw : swapsWith (.ListComp elt [⟨tg, iter, ifs, 0⟩] scope pos) (some (.Name y py)) spos.line X.env = pure true := by exact sw_true rfl rfl rfl (by decide +kernel)) (hs : ∀ x, foldedSetIterable iter X.env x = pure x := by intro _; rfl) :
    PY X (.Assign [.Name y py] (.ListComp elt [⟨tg, iter, ifs, 0⟩] scope pos) spos) (tSt i (tLC wi g tt te (own.map (·.2)))) :=
  ⟨(ps_setLc hc hN hy hyl hsw hi.run ok (fun s H C cl fp => (hg s H C cl fp).run) (fun s H C cl fp => (ht s H C cl fp).run) (fun s H C cl fp => (he s H C cl fp).run) hs).imp fun D σ H h => comp_up hws (fun _ z => z) (up_set h)⟩
end
end Pd

set_option Elab.async false
set_option linter.all false
set_option maxRecDepth 100000
/-! Defs and calls over pure data. -/
namespace Pd
open PySem PySem.Spec PyProof.Rows L2

inductive Mode where
  | v | io | br
  deriving DecidableEq
def Mode.sl : Mode → D → Sl
  | .v, d => .val d
  | .io, d => .io d
  | .br, d => .br d
def argSl : List Mode → List D → Env
  | m :: ms, d :: ds => m.sl d :: argSl ms ds
  | _, _ => []
theorem argSl_length : ∀ {ms : List Mode} {ds : List D}, ms.length = ds.length → (argSl ms ds).length = ds.length
  | [], [], _ => rfl
  | m :: ms, d :: ds, h => by
    show (argSl ms ds).length + 1 = ds.length + 1
    rw [argSl_length (by simpa using h)]
theorem argSl_get : ∀ {ms : List Mode} {ds : List D} {i : Nat} {s : Sl}, (argSl ms ds)[i]? = some s → ∃ m d, ms[i]? = some m ∧ ds[i]? = some d ∧ s = m.sl d
  | [], _, _, _, h => by simp [argSl] at h
  | _ :: _, [], _, _, h => by simp [argSl] at h
  | m :: ms, d :: ds, 0, s, h => by
    cases h
    exact ⟨m, d, rfl, rfl, rfl⟩
  | m :: ms, d :: ds, i + 1, s, h => argSl_get (ms := ms) (ds := ds) (i := i) h
theorem argSl_of : ∀ {ms : List Mode} {ds : List D} {i : Nat} {m : Mode} {d : D}, ms[i]? = some m → ds[i]? = some d → (argSl ms ds)[i]? = some (m.sl d)
  | [], _, _, _, _, h, _ => by cases h
  | _ :: _, [], _, _, _, _, h => by cases h
  | m :: ms, d :: ds, 0, _, _, h1, h2 => by cases h1; cases h2; rfl
  | m :: ms, d :: ds, i + 1, _, _, h1, h2 => argSl_of (ms := ms) (ds := ds) (i := i) h1 h2
/-- a def's promise over data: the arguments, what is wanted of the inout arguments' new contents (in order) and of the result -/
abbrev SpD := List D → (List D → R → Prop) → Prop
/-- the inout arguments in order -/
def outsAt (env : Env) : List Mode → Nat → Option (List D)
  | [], _ => some []
  | .io :: ms, i => (slotD env i).bind fun d => (outsAt env ms (i + 1)).map (d :: ·)
  | _ :: ms, i => outsAt env ms (i + 1)
/-- the contents os lie at the inout arguments -/
def OutsOk (K : PySem.W.Frag) (F H : Hp) : List Mode → List V → List D → Prop
  | [], _, os => os = []
  | .io :: ms, v :: vs, os => ∃ o r a, os = o :: r ∧ v = .ref a ∧ F a = none ∧ ORep K F H o a ∧ OutsOk K F H ms vs r
  | _ :: ms, _ :: vs, os => OutsOk K F H ms vs os
  | _ :: _, [], _ => False
structure Post (K : PySem.W.Frag) (ms : List Mode) (vs : List V) (ds : List D) (F H F' H' : Hp) (os : List D) : Prop where
  fr : Same F F'
  sub : Same F' H'
  keep : ∀ a o, H a = some o → ¬ OwnA (argSl ms ds) (vs.map some) a → H' a = some o
  new : ∀ a, F' a ≠ none → F a ≠ none ∨ H a = none
  dom : ∀ a, H' a = none → H a = none
  outs : OutsOk K F' H' ms vs os
/-- a result: frozen, or a new cell -/
def RRet (K : PySem.W.Frag) (H F' H' : Hp) : R → V → Prop
  | .val d, v => Rep K F' d v
  | .new d, v => ∃ a, v = .ref a ∧ F' a = none ∧ H a = none ∧ ORep K F' H' d a
  | .al _, _ => False
def liftSp (K : PySem.W.Frag) (ms : List Mode) (sp : SpD) : Sp := fun vs H Q _ => ∃ F ds k, ms.length = ds.length ∧ SR K F H (vs.map some) (argSl ms ds) ∧ sp ds k ∧ ∀ os r, k os r → ∀ F' H' v, Post K ms vs ds F H F' H' os → RRet K H F' H' r v → Q v H'
/-- what a def hands back -/
def retR (env : Env) : R → Option R
  | .val d => some (.val d)
  | .new d => some (.new d)
  | .al i => match env[i]? with
    | some (.val d) => some (.val d)
    | some (.own d) => some (.new d)
    | some (.br d) => if imm d = true then some (.val d) else none
    | _ => none
def fin (ms : List Mode) (k : List D → R → Prop) (env : Env) (r : R) : Prop := got (retR env r) fun r' => got (outsAt env ms 0) fun os => k os r'
/-- the slots at a def's entry -/
def entry (ms : List Mode) (ds : List D) (n : Nat) : Env := argSl ms ds ++ List.replicate n .un

section
variable {K : PySem.W.Frag} {F H F' H' : Hp} {vs : List V} {ds : List D} {ms : List Mode}
theorem own_start {N : List Str} {a : Addr} (hl : ms.length = ds.length) (hv : vs.length = ds.length) (h : OwnA (entry ms ds (N.length - vs.length)) (start N vs) a) : OwnA (argSl ms ds) (vs.map some) a := by
  obtain ⟨i, s, h1, h2, h3⟩ := h
  have al := argSl_length hl
  unfold entry at h1
  by_cases hi : i < (argSl ms ds).length
  · rw [List.getElem?_append_left hi] at h1
    unfold L2.start at h3
    rw [List.getElem?_append_left (by rw [List.length_map]; omega)] at h3
    exact ⟨i, s, h1, h2, h3⟩
  · rw [List.getElem?_append_right (by omega), List.getElem?_replicate] at h1
    split at h1
    · cases h1; cases h2
    · cases h1
theorem entry_sr {N : List Str} (hN : vs.length ≤ N.length) (hl : ms.length = ds.length) (S : SR K F H (vs.map some) (argSl ms ds)) : SR K F H (start N vs) (entry ms ds (N.length - vs.length)) := by
  have al := argSl_length hl
  have hv : vs.length = ds.length := by
    have := S.len
    rw [List.length_map] at this
    omega
  refine ⟨S.sub, ?_, fun i s e => ?_, fun i j s t a e1 e2 m1 m2 q1 q2 => ?_⟩
  · unfold entry L2.start
    rw [List.length_append, List.length_append, List.length_map, List.length_replicate, List.length_replicate]
    omega
  · unfold entry at e
    by_cases hi : i < (argSl ms ds).length
    · rw [List.getElem?_append_left hi] at e
      obtain ⟨ov, e1, q⟩ := S.sl i s e
      refine ⟨ov, ?_, ?_⟩
      · unfold L2.start
        rw [List.getElem?_append_left (by rw [List.length_map]; omega)]
        exact e1
      · exact q.mono (Same.refl _) (fun _ _ z => z) (fun _ _ z => z) (fun a z e2 => mine_own e z (e1.trans (congrArg some e2))) fun a z => .inl (own_start hl hv z)
    · rw [List.getElem?_append_right (by omega), List.getElem?_replicate] at e
      split at e
      · cases e
        refine ⟨none, ?_, trivial⟩
        unfold L2.start
        rw [List.getElem?_append_right (by rw [List.length_map]; omega), List.getElem?_replicate, List.length_map, if_pos (by omega)]
      · cases e
  · have key : ∀ (i : Nat) (s : Sl), (entry ms ds (N.length - vs.length))[i]? = some s → s.mine = true → (start N vs)[i]? = some (some (.ref a)) → (argSl ms ds)[i]? = some s ∧ (vs.map some)[i]? = some (some (.ref a)) := fun i s e m q => by
      unfold entry at e
      by_cases hi : i < (argSl ms ds).length
      · rw [List.getElem?_append_left hi] at e
        unfold L2.start at q
        rw [List.getElem?_append_left (by rw [List.length_map]; omega)] at q
        exact ⟨e, q⟩
      · rw [List.getElem?_append_right (by omega), List.getElem?_replicate] at e
        split at e
        · cases e; cases m
        · cases e
    obtain ⟨h1, h2⟩ := key i s e1 m1 q1
    obtain ⟨h3, h4⟩ := key j t e2 m2 q2
    exact S.inj i j s t a h1 h3 m1 m2 h2 h4
theorem outs_at {σ' : St} {env' : Env} (S' : SR K F' H' σ' env') : ∀ {ms : List Mode} {vs : List V} {i : Nat} {os : List D}, vs.length = ms.length → (∀ j v, vs[j]? = some v → ms[j]? = some .io → σ'[i + j]? = some (some v) ∧ ∃ d, env'[i + j]? = some (.io d)) → outsAt env' ms i = some os → OutsOk K F' H' ms vs os
  | [], vs, i, os, hl, h, e => by cases e; rfl
  | m :: ms, [], i, os, hl, h, e => by cases hl
  | m :: ms, v :: vs, i, os, hl, h, e => by
    have hl' : vs.length = ms.length := by simpa using hl
    have h' : ∀ j w, vs[j]? = some w → ms[j]? = some .io → σ'[i + 1 + j]? = some (some w) ∧ ∃ d, env'[i + 1 + j]? = some (.io d) := fun j w e1 e2 => by
      have := h (j + 1) w (by simpa using e1) (by simpa using e2)
      rw [show i + 1 + j = i + (j + 1) by omega]
      exact this
    cases m with
    | v =>
      have e : outsAt env' ms (i + 1) = some os := e
      show OutsOk K F' H' ms vs os
      exact outs_at S' hl' h' e
    | br =>
      have e : outsAt env' ms (i + 1) = some os := e
      show OutsOk K F' H' ms vs os
      exact outs_at S' hl' h' e
    | io =>
      obtain ⟨d, e1, e2⟩ := Option.bind_eq_some_iff.mp e
      obtain ⟨r, e3, e4⟩ := Option.map_eq_some_iff.mp e2
      cases e4
      obtain ⟨h1, d', h2⟩ := h 0 v rfl rfl
      obtain ⟨ov, e5, a, rfl, n, o⟩ := S'.sl _ _ h2
      rw [Nat.add_zero] at h1 h2 e5
      rw [h1] at e5
      cases e5
      unfold slotD at e1
      rw [h2] at e1
      cases e1
      exact ⟨d, r, a, rfl, rfl, n, o, outs_at S' hl' h' e3⟩
end
section
variable {P : Program} {w : World} {K : PySem.W.Frag} {mg : Str → Option Value} {base : Heap}
theorem fin_ok {K : PySem.W.Frag} {F H F' H' : Hp} {N : List Str} {ms : List Mode} {vs : List V} {ds : List D} {σ' : St} {env' : Env} {r : R} {v : V} {k : List D → R → Prop} {Q : VK} (hN : vs.length ≤ N.length) (hl : ms.length = ds.length) (S : SR K F H (vs.map some) (argSl ms ds))
    (hk : ∀ os r, k os r → ∀ F' H' v, Post K ms vs ds F H F' H' os → RRet K H F' H' r v → Q v H') (q : fin ms k env' r) (S' : SR K F' H' σ' env') (T : Step F H (start N vs) (entry ms ds (N.length - vs.length)) F' H' σ' env') (rr : RR K H F' H' σ' env' r v) : Q v H' := by
  have al := argSl_length hl
  have hv : vs.length = ds.length := by
    have := S.len
    rw [List.length_map] at this
    omega
  have noloc : ∀ a, ¬ LocA (entry ms ds (N.length - vs.length)) (start N vs) a := fun a ⟨i, s, h1, h2, h3⟩ => by
    unfold entry at h1
    by_cases hi : i < (argSl ms ds).length
    · rw [List.getElem?_append_left hi] at h1
      obtain ⟨m, d, _, _, rfl⟩ := argSl_get h1
      cases m <;> cases h2
    · rw [List.getElem?_append_right (by omega), List.getElem?_replicate] at h1
      split at h1
      · cases h1; cases h2
      · cases h1
  obtain ⟨r', e1, os, e2, q⟩ := q
  refine hk os r' q F' H' v ⟨T.fr, S'.sub, fun a o e n => T.keep a o e fun z => n (own_start hl hv z), fun a z => (T.new a z).imp_right fun z => z.elim id fun z => absurd z (noloc a), T.dom, ?_⟩ ?_
  · refine outs_at S' (i := 0) (by omega) (fun j v hj hm => ?_) e2
    obtain ⟨d, hd⟩ : ∃ d, ds[j]? = some d := by
      have : j < ds.length := by rw [← hv]; exact lt_of_some hj
      exact ⟨_, List.getElem?_eq_getElem this⟩
    have ha := argSl_of hm hd
    have hj2 : j < (argSl ms ds).length := lt_of_some ha
    have e3 : (entry ms ds (N.length - vs.length))[j]? = some (.io d) := by
      unfold entry
      rw [List.getElem?_append_left hj2]
      exact ha
    obtain ⟨h1, d', h2⟩ := T.io j d e3
    rw [Nat.zero_add]
    refine ⟨?_, d', h2⟩
    rw [h1]
    unfold L2.start
    rw [List.getElem?_append_left (by rw [List.length_map]; omega), List.getElem?_map, hj]
    rfl
  · cases r with
    | val d => cases e1; exact rr
    | new d => cases e1; obtain ⟨a, e, n, n0, _, o⟩ := rr; exact ⟨a, e, n, n0, o⟩
    | al i =>
      have rr : σ'[i]? = some (some v) := rr
      unfold retR at e1
      simp only at e1
      split at e1
      · rename_i d z
        cases e1
        obtain ⟨ov, e3, u, rfl, o⟩ := S'.sl i _ z
        rw [rr] at e3; cases e3
        exact o
      · rename_i d z
        cases e1
        obtain ⟨ov, e3, a, rfl, n, o⟩ := S'.sl i _ z
        rw [rr] at e3; cases e3
        exact ⟨a, rfl, n, (T.loc a ⟨i, _, z, rfl, rr⟩).elim (fun z => absurd z (noloc a)) id, o⟩
      · rename_i d z
        split at e1
        · rename_i hi
          cases e1
          obtain ⟨ov, e3, u, rfl, o⟩ := S'.sl i _ z
          rw [rr] at e3; cases e3
          rcases o with o | ⟨a, _, _, o⟩
          · exact o
          · cases d <;> first | (cases hi; done) | exact o.elim
        · cases e1
      · cases e1
/-- THE RULE for a def: its body's derivation, and its reading over data -/
theorem fn_ok {x qual : Str} {params : Arguments} {body : List Stmt} {scope : Scope} {dvs : List V} {kws : List (Str × V)} {f : Addr} {fd : FuncData} {N ps : List Str} {k : Nat} {ms : List Mode} {sp : SpD} (F : FunD K x qual params body scope dvs kws f fd) (S : FnScope N ps scope) (hm : ms.length = ps.length)
    (hN : ps.length ≤ N.length) (hbody : ∀ (cdv : Value) (A : Around) (outer : List PySem.Env) (s : Shared) (H : Hp) (E : XK), Room k (A.deeper (envOfC qual scope s.heap.objs.size f cdv)) →
      ∃ t, PYs (cxOf CX0 P w K mg base N qual scope f cdv A outer s H E).nox body t ∧ ∀ ds q, ms.length = ds.length → sp ds q → t { nx := fun env' => fin ms q env' (.val .non), rt := fun env' r => fin ms q env' r } (entry ms ds (N.length - ps.length))) : FnOk P w K mg base CX0 (k + 1) f fd ps (liftSp K ms sp) := by
  have lens : ∀ {vs H Q E}, liftSp K ms sp vs H Q E → vs.length = ps.length := fun {vs H Q E} ⟨F, ds, q, hl, Sr, _⟩ => by
    have := Sr.len
    rw [List.length_map, argSl_length hl] at this
    omega
  refine F.ok S (fun vs H Q E h => lens h) fun cdv A outer s H vs Q E hr h => ?_
  obtain ⟨t, ht, rd⟩ := hbody cdv A outer s H E hr
  refine ⟨_, ht.run.nox, ?_⟩
  have hv := lens h
  obtain ⟨F0, ds, q, hl, Sr, hsp, hk⟩ := h
  have hv2 : vs.length ≤ N.length := by omega
  refine ⟨F0, entry ms ds (N.length - vs.length), { nx := fun env' => fin ms q env' (.val .non), rt := fun env' r => fin ms q env' r }, entry_sr hv2 hl Sr, by rw [hv]; exact rd ds q hl hsp, ⟨fun env' z F' H' σ' S' T' => ?_, fun env' r z F' H' σ' v S' T' rr => ?_, fun _ z => z.elim, fun _ z => z.elim⟩⟩
  · exact fin_ok hv2 hl Sr hk z S' T' rr_non
  · exact fin_ok hv2 hl Sr hk z S' T' rr
end

/-! ### calls -/
/-- the slots of the inout arguments -/
def ioS : List Mode → List R → List Nat
  | .io :: ms, .al i :: rs => i :: ioS ms rs
  | _ :: ms, _ :: rs => ioS ms rs
  | _, _ => []
/-- no other argument lies in such a slot, and each is there once -/
def apart (ios : List Nat) : List Mode → List R → Bool
  | .io :: ms, .al _ :: rs => apart ios ms rs
  | .io :: _, _ :: _ => false
  | _ :: ms, .al j :: rs => !ios.contains j && apart ios ms rs
  | _ :: ms, _ :: rs => apart ios ms rs
  | [], [] => true
  | _, _ => false
def passOk (ms : List Mode) (rs : List R) : Bool := apart (ioS ms rs) ms rs && decide (ioS ms rs).Nodup
def pass1 (m : Mode) (env : Env) (r : R) : Option (Env × D) := match m with
  | .v => escape env r
  | .br => (content env r).map (env, ·)
  | .io => match r with
    | .al i => (match env[i]? with
      | some (.own d) => some (env, d)
      | some (.io d) => some (env, d)
      | _ => none)
    | _ => none
def pass : Env → List Mode → List R → Option (Env × List D)
  | env, m :: ms, r :: rs => (pass1 m env r).bind fun z => (pass z.1 ms rs).map fun y => (y.1, z.2 :: y.2)
  | env, [], [] => some (env, [])
  | _, _, _ => none
def Sl.put (s : Sl) (d : D) : Sl := match s with
  | .own _ => .own d
  | .io _ => .io d
  | s => s
def putO : Env → List Nat → List D → Env
  | env, i :: is, d :: ds => putO (env.set i ((env.getD i .un).put d)) is ds
  | env, _, _ => env
def tCl (ms : List Mode) (sp : SpD) (dds : List D) (t : TAD) : TD := fun env k => t env fun e1 rs => passOk ms (rs ++ dds.map .val) = true ∧ got (pass e1 ms (rs ++ dds.map .val)) fun z => sp z.2 fun os r => k (putO z.1 (ioS ms (rs ++ dds.map .val)) os) r
/-- how the passed arguments lie -/
def PassRel (K : PySem.W.Frag) (F : Hp) (σ : St) (env : Env) : List Mode → List R → List D → List V → Prop
  | m :: ms, r :: rs, d :: ds, v :: vs => (match m, r with
    | .v, _ => Rep K F d v
    | .br, .al j => slotD env j = some d ∧ σ[j]? = some (some v)
    | .br, _ => Rep K F d v
    | .io, .al i => σ[i]? = some (some v) ∧ (env[i]? = some (.own d) ∨ env[i]? = some (.io d))
    | .io, _ => False) ∧ PassRel K F σ env ms rs ds vs
  | [], [], [], [] => True
  | _, _, _, _ => False
theorem escape_slot {env env' : Env} {r : R} {d : D} (h : escape env r = some (env', d)) : (∀ j e, slotD env j = some e → slotD env' j = some e) ∧ (∀ i, (∀ j, r = .al j → i ≠ j) → env'[i]? = env[i]?) := by
  cases r with
  | val _ => cases h; exact ⟨fun _ _ z => z, fun _ _ => rfl⟩
  | new _ => cases h; exact ⟨fun _ _ z => z, fun _ _ => rfl⟩
  | al k =>
    unfold escape at h
    simp only at h
    split at h
    · cases h; exact ⟨fun _ _ z => z, fun _ _ => rfl⟩
    · rename_i d' q
      cases h
      refine ⟨fun j e z => ?_, fun i hi => List.getElem?_set_ne (Ne.symm (hi k rfl))⟩
      unfold slotD at z ⊢
      by_cases hj : j = k
      · subst hj
        rw [q] at z
        cases z
        rw [getElem?_set_self' q]
        rfl
      · rw [List.getElem?_set_ne (Ne.symm hj)]; exact z
    · split at h
      · cases h; exact ⟨fun _ _ z => z, fun _ _ => rfl⟩
      · cases h
    · cases h
section
variable {K : PySem.W.Frag} {F0 H0 H : Hp} {σ σ0 : St} {env0 : Env}
theorem RA.content {F : Hp} {env : Env} {r : R} {v : V} {d : D} (h : RA K F σ r v) (c : Pd.content env r = some d) : match r with
    | .al j => slotD env j = some d ∧ σ[j]? = some (some v)
    | _ => Rep K F d v := by
  cases r with
  | val _ => cases c; exact h
  | al j => exact ⟨c, h⟩
  | new _ => exact h.elim
theorem pass_ok {ios : List Nat} : ∀ {ms : List Mode} {rs : List R} {F : Hp} {env env' : Env} {vs : List V} {ds : List D}, Step F0 H0 σ0 env0 F H σ env → SR K F H σ env → RAs K F σ rs vs → apart ios ms rs = true → (∀ i ∈ ioS ms rs, i ∈ ios) → pass env ms rs = some (env', ds) →
    ∃ F', SR K F' H σ env' ∧ Step F0 H0 σ0 env0 F' H σ env' ∧ Same F F' ∧ PassRel K F' σ env' ms rs ds vs ∧ (∀ j e, slotD env j = some e → slotD env' j = some e) ∧ (∀ i ∈ ios, env'[i]? = env[i]?)
  | [], [], F, env, env', vs, ds, T, S, h, ap, hi, e => by
    cases h; cases e
    exact ⟨F, S, T, Same.refl _, trivial, fun _ _ z => z, fun _ _ => rfl⟩
  | [], _ :: _, F, env, env', vs, ds, T, S, h, ap, hi, e => by cases e
  | _ :: _, [], F, env, env', vs, ds, T, S, h, ap, hi, e => by cases e
  | m :: ms, r :: rs, F, env, env', vs, ds, T, S, h, ap, hi, e => by
    cases h with
    | cons h1 h2 =>
      rename_i v vs
      obtain ⟨z, e1, e2⟩ := Option.bind_eq_some_iff.mp (show (pass1 m env r).bind (fun z => (pass z.1 ms rs).map fun y => (y.1, z.2 :: y.2)) = some (env', ds) from e)
      obtain ⟨y, e3, e4⟩ := Option.map_eq_some_iff.mp e2
      obtain ⟨env1, d⟩ := z
      obtain ⟨env2, ds2⟩ := y
      cases e4
      cases m with
      | v =>
        have ap' : apart ios ms rs = true ∧ ∀ j, r = .al j → j ∉ ios := by
          cases r with
          | val _ => exact ⟨ap, fun j z => by cases z⟩
          | new _ => exact ⟨ap, fun j z => by cases z⟩
          | al j =>
            obtain ⟨p1, p2⟩ := Bool.and_eq_true_iff.mp (show (!ios.contains j && apart ios ms rs) = true from ap)
            refine ⟨p2, fun j' z hj => ?_⟩
            cases z
            rw [List.contains_iff_mem.mpr hj] at p1
            cases p1
        have hi' : ∀ i ∈ ioS ms rs, i ∈ ios := by
          cases r <;> exact hi
        obtain ⟨F1, S1, T1, r1⟩ := escape_ok Step.refl S (RA.rr (H0 := H) h1) e1
        obtain ⟨q1, q2⟩ := escape_slot e1
        obtain ⟨F2, S2, T2, s2, r2, k2, k3⟩ := pass_ok (T.trans T1) S1 (RAs.mono h2 T1.fr) ap'.1 hi' e3
        refine ⟨F2, S2, T2, T1.fr.trans s2, ⟨?_, r2⟩, fun j e z => k2 j e (q1 j e z), fun i z => (k3 i z).trans (q2 i fun j hj hij => ap'.2 j hj (hij ▸ z))⟩
        cases r <;> exact r1.mono s2
      | br =>
        have ap' : apart ios ms rs = true := by
          cases r with
          | val _ => exact ap
          | new _ => exact ap
          | al j => exact (Bool.and_eq_true_iff.mp (show (!ios.contains j && apart ios ms rs) = true from ap)).2
        have hi' : ∀ i ∈ ioS ms rs, i ∈ ios := by
          cases r <;> exact hi
        obtain ⟨d', e5, e6⟩ := Option.map_eq_some_iff.mp (show (content env r).map (env, ·) = some (env1, d) from e1)
        cases e6
        have c1 := RA.content h1 e5
        obtain ⟨F2, S2, T2, s2, r2, k2, k3⟩ := pass_ok T S h2 ap' hi' e3
        refine ⟨F2, S2, T2, s2, ⟨?_, r2⟩, k2, k3⟩
        cases r with
        | val _ => exact Rep.mono s2 c1
        | new _ => exact h1.elim
        | al j => exact ⟨k2 j _ c1.1, c1.2⟩
      | io =>
        cases r with
        | val _ => cases e1
        | new _ => cases e1
        | al i =>
          have ap' : apart ios ms rs = true := ap
          have hii : i ∈ ios := hi i List.mem_cons_self
          have hi' : ∀ i ∈ ioS ms rs, i ∈ ios := fun j hj => hi j (List.mem_cons_of_mem _ hj)
          have e5 : env1 = env ∧ (env[i]? = some (.own d) ∨ env[i]? = some (.io d)) := by
            unfold pass1 at e1
            simp only at e1
            split at e1
            · rename_i q; cases e1; exact ⟨rfl, .inl q⟩
            · rename_i q; cases e1; exact ⟨rfl, .inr q⟩
            · cases e1
          obtain ⟨rfl, e6⟩ := e5
          obtain ⟨F2, S2, T2, s2, r2, k2, k3⟩ := pass_ok T S h2 ap' hi' e3
          exact ⟨F2, S2, T2, s2, ⟨⟨h1, by rw [k3 i hii]; exact e6⟩, r2⟩, k2, k3⟩
end
theorem PassRel.len {K : PySem.W.Frag} {F : Hp} {σ : St} {env : Env} : ∀ {ms : List Mode} {rs : List R} {ds : List D} {vs : List V}, PassRel K F σ env ms rs ds vs → ms.length = ds.length ∧ vs.length = ds.length ∧ rs.length = ds.length
  | [], [], [], [], _ => ⟨rfl, rfl, rfl⟩
  | m :: ms, r :: rs, d :: ds, v :: vs, h => by
    obtain ⟨h1, h2, h3⟩ := PassRel.len h.2
    simp only [List.length_cons]
    omega
  | [], [], [], _ :: _, h => h.elim
  | [], [], _ :: _, _, h => by cases ‹List V› <;> exact h.elim
  | [], _ :: _, _, _, h => by cases ‹List V› <;> cases ‹List D› <;> exact h.elim
  | _ :: _, [], _, _, h => by cases ‹List V› <;> cases ‹List D› <;> exact h.elim
  | _ :: _, _ :: _, [], _, h => by cases ‹List V› <;> exact h.elim
  | _ :: _, _ :: _, _ :: _, [], h => h.elim
def PassAt (K : PySem.W.Frag) (F : Hp) (σ : St) (env : Env) (m : Mode) (r : R) (d : D) (v : V) : Prop := match m, r with
    | .v, _ => Rep K F d v
    | .br, .al j => slotD env j = some d ∧ σ[j]? = some (some v)
    | .br, _ => Rep K F d v
    | .io, .al i => σ[i]? = some (some v) ∧ (env[i]? = some (.own d) ∨ env[i]? = some (.io d))
    | .io, _ => False
theorem PassRel.get {K : PySem.W.Frag} {F : Hp} {σ : St} {env : Env} : ∀ {ms : List Mode} {rs : List R} {ds : List D} {vs : List V} {p : Nat} {m : Mode} {d : D}, PassRel K F σ env ms rs ds vs → ms[p]? = some m → ds[p]? = some d → ∃ r v, rs[p]? = some r ∧ vs[p]? = some v ∧ PassAt K F σ env m r d v
  | m :: ms, r :: rs, d :: ds, v :: vs, 0, _, _, h, e1, e2 => by
    cases e1; cases e2
    exact ⟨r, v, rfl, rfl, h.1⟩
  | m :: ms, r :: rs, d :: ds, v :: vs, p + 1, _, _, h, e1, e2 => PassRel.get (p := p) h.2 e1 e2
  | [], _, _, _, _, _, _, h, e1, e2 => by cases e1
  | _ :: _, _, [], _, _, _, _, h, e1, e2 => by cases e2
  | _ :: _, [], _ :: _, _, _, _, _, h, e1, e2 => by cases ‹List V› <;> exact h.elim
  | _ :: _, _ :: _, _ :: _, [], _, _, _, h, e1, e2 => h.elim
theorem ioS_mem : ∀ {ms : List Mode} {rs : List R} {p i : Nat}, ms[p]? = some .io → rs[p]? = some (.al i) → i ∈ ioS ms rs
  | m :: ms, r :: rs, 0, i, e1, e2 => by cases e1; cases e2; exact List.mem_cons_self
  | m :: ms, r :: rs, p + 1, i, e1, e2 => by
    have z := ioS_mem (ms := ms) (rs := rs) (p := p) e1 e2
    cases m with
    | v => cases r <;> exact z
    | br => cases r <;> exact z
    | io => cases r with
      | al j => exact List.mem_cons_of_mem _ z
      | val _ => exact z
      | new _ => exact z
  | [], _, _, _, e1, _ => by cases e1
  | _ :: _, [], _, _, _, e2 => by cases e2
theorem ioS_at : ∀ {ms : List Mode} {rs : List R} {j : Nat}, j ∈ ioS ms rs → ∃ p : Nat, ms[p]? = some Mode.io ∧ rs[p]? = some (R.al j)
  | [], rs, j, h => by simp [ioS] at h
  | m :: ms, [], j, h => by cases m <;> simp [ioS] at h
  | m :: ms, r :: rs, j, h => by
    have step : j ∈ ioS ms rs → ∃ p : Nat, (m :: ms)[p]? = some Mode.io ∧ (r :: rs)[p]? = some (R.al j) := fun z => by
      obtain ⟨p, h1, h2⟩ := ioS_at z
      exact ⟨p + 1, h1, h2⟩
    cases m with
    | io => cases r with
      | al i =>
        rcases List.mem_cons.mp (show j ∈ i :: ioS ms rs from h) with rfl | z
        · exact ⟨0, rfl, rfl⟩
        · exact step z
      | val _ => exact step h
      | new _ => exact step h
    | v => exact step (by cases r <;> exact h)
    | br => exact step (by cases r <;> exact h)
theorem ioS_inj : ∀ {ms : List Mode} {rs : List R} {p q i : Nat}, (ioS ms rs).Nodup → ms[p]? = some .io → rs[p]? = some (.al i) → ms[q]? = some .io → rs[q]? = some (.al i) → p = q
  | m :: ms, r :: rs, 0, 0, i, nd, _, _, _, _ => rfl
  | m :: ms, r :: rs, 0, q + 1, i, nd, e1, e2, e3, e4 => by
    cases e1; cases e2
    have z := ioS_mem (ms := ms) (rs := rs) (p := q) e3 e4
    exact absurd z (List.nodup_cons.mp (show (i :: ioS ms rs).Nodup from nd)).1
  | m :: ms, r :: rs, p + 1, 0, i, nd, e1, e2, e3, e4 => by
    cases e3; cases e4
    have z := ioS_mem (ms := ms) (rs := rs) (p := p) e1 e2
    exact absurd z (List.nodup_cons.mp (show (i :: ioS ms rs).Nodup from nd)).1
  | m :: ms, r :: rs, p + 1, q + 1, i, nd, e1, e2, e3, e4 => by
    have nd' : (ioS ms rs).Nodup := by
      cases m with
      | v => cases r <;> exact nd
      | br => cases r <;> exact nd
      | io => cases r with
        | al j => exact (List.nodup_cons.mp (show (j :: ioS ms rs).Nodup from nd)).2
        | val _ => exact nd
        | new _ => exact nd
    exact congrArg Nat.succ (ioS_inj (ms := ms) (rs := rs) (p := p) (q := q) nd' e1 e2 e3 e4)
  | [], _, _, _, _, _, e1, _, _, _ => by cases e1
  | _ :: _, [], _, _, _, _, _, e2, _, _ => by cases e2
theorem apart_br {ios : List Nat} : ∀ {ms : List Mode} {rs : List R} {p j : Nat} {m : Mode}, apart ios ms rs = true → ms[p]? = some m → m ≠ .io → rs[p]? = some (.al j) → j ∉ ios
  | m :: ms, r :: rs, 0, j, _, ap, e1, n, e2 => by
    cases e1; cases e2
    have z : (!ios.contains j && apart ios ms rs) = true := by
      cases m with
      | v => exact ap
      | br => exact ap
      | io => exact absurd rfl n
    intro hj
    obtain ⟨p1, _⟩ := Bool.and_eq_true_iff.mp z
    rw [List.contains_iff_mem.mpr hj] at p1
    cases p1
  | m :: ms, r :: rs, p + 1, j, _, ap, e1, n, e2 => by
    have ap' : apart ios ms rs = true := by
      cases m with
      | io => cases r with
        | al _ => exact ap
        | val _ => cases ap
        | new _ => cases ap
      | v => cases r with
        | al k => exact (Bool.and_eq_true_iff.mp (show (!ios.contains k && apart ios ms rs) = true from ap)).2
        | val _ => exact ap
        | new _ => exact ap
      | br => cases r with
        | al k => exact (Bool.and_eq_true_iff.mp (show (!ios.contains k && apart ios ms rs) = true from ap)).2
        | val _ => exact ap
        | new _ => exact ap
    exact apart_br (ms := ms) (rs := rs) (p := p) ap' e1 n e2
  | [], _, _, _, _, _, e1, _, _ => by cases e1
  | _ :: _, [], _, _, _, _, _, _, e2 => by cases e2
section
variable {K : PySem.W.Frag} {F H F' H' : Hp} {σ : St} {env : Env} {ms : List Mode} {rs : List R} {ds : List D} {vs : List V}
/-- an address of the callee's inout arguments is one of the caller's own -/
theorem callee_own {a : Addr} (h : PassRel K F σ env ms rs ds vs) (o : OwnA (argSl ms ds) (vs.map some) a) : ∃ (p i : Nat) (d : D), ms[p]? = some Mode.io ∧ rs[p]? = some (.al i) ∧ ds[p]? = some d ∧ σ[i]? = some (some (.ref a)) ∧ (env[i]? = some (.own d) ∨ env[i]? = some (.io d)) := by
  obtain ⟨p, s, e1, m, e2⟩ := o
  obtain ⟨md, d, e3, e4, rfl⟩ := argSl_get e1
  obtain ⟨r, v, e5, e6, q⟩ := h.get e3 e4
  rw [List.getElem?_map, e6] at e2
  cases e2
  cases md with
  | v => cases m
  | br => cases m
  | io =>
    cases r with
    | val _ => exact q.elim
    | new _ => exact q.elim
    | al i => exact ⟨p, i, d, e3, e5, e4, q.1, q.2⟩
theorem mine_of {s : Sl} {d : D} {i : Nat} (h : env[i]? = some (.own d) ∨ env[i]? = some (.io d)) : ∃ s, env[i]? = some s ∧ s.mine = true := h.elim (fun e => ⟨_, e, rfl⟩) fun e => ⟨_, e, rfl⟩
theorem callee_sr (S : SR K F H σ env) (h : PassRel K F σ env ms rs ds vs) (nd : (ioS ms rs).Nodup) (ap : apart (ioS ms rs) ms rs = true) : SR K F H (vs.map some) (argSl ms ds) := by
  obtain ⟨l1, l2, l3⟩ := h.len
  refine ⟨S.sub, by rw [argSl_length l1, List.length_map, l2], fun p s e => ?_, fun p q s t a e1 e2 m1 m2 q1 q2 => ?_⟩
  · obtain ⟨m, d, e1, e2, rfl⟩ := argSl_get e
    obtain ⟨r, v, e3, e4, q⟩ := h.get e1 e2
    refine ⟨some v, by rw [List.getElem?_map, e4]; rfl, ?_⟩
    cases m with
    | v => exact ⟨v, rfl, q⟩
    | io =>
      cases r with
      | val _ => exact q.elim
      | new _ => exact q.elim
      | al i =>
        obtain ⟨q1, q2⟩ := q
        rcases q2 with q2 | q2
        · obtain ⟨ov, e5, a, rfl, n, o⟩ := S.sl i _ q2
          rw [q1] at e5; cases e5
          exact ⟨a, rfl, n, o⟩
        · obtain ⟨ov, e5, a, rfl, n, o⟩ := S.sl i _ q2
          rw [q1] at e5; cases e5
          exact ⟨a, rfl, n, o⟩
    | br =>
      cases r with
      | val _ => exact ⟨v, rfl, .inl q⟩
      | new _ => exact ⟨v, rfl, .inl q⟩
      | al j =>
        obtain ⟨q1, q2⟩ := q
        refine ⟨v, rfl, ?_⟩
        have hj : j ∉ ioS ms rs := apart_br ap e1 (by simp) e3
        obtain ⟨u, e5, pr⟩ := slot_prep S q1
        rw [q2] at e5; cases e5
        rcases pr with pr | ⟨a, rfl, o⟩
        · exact .inl pr
        · -- the cell is no inout argument's, or the data is frozen
          unfold slotD at q1
          cases e6 : env[j]? with
          | none => rw [e6] at q1; cases q1
          | some s =>
            rw [e6] at q1
            obtain ⟨ov, e7, z⟩ := S.sl j s e6
            rw [q2] at e7; cases e7
            cases s with
            | un => cases q1
            | val d' => cases q1; obtain ⟨u, e8, z⟩ := z; cases e8; exact .inl z
            | own d' =>
              refine .inr ⟨a, rfl, fun y => ?_, o⟩
              obtain ⟨p', i, d2, g1, g2, g3, g4, g5⟩ := callee_own h y
              obtain ⟨s2, g6, g7⟩ := mine_of (s := .un) g5
              have e := S.inj j i _ _ a e6 g6 rfl g7 q2 g4
              exact hj (e ▸ ioS_mem g1 g2)
            | io d' =>
              refine .inr ⟨a, rfl, fun y => ?_, o⟩
              obtain ⟨p', i, d2, g1, g2, g3, g4, g5⟩ := callee_own h y
              obtain ⟨s2, g6, g7⟩ := mine_of (s := .un) g5
              have e := S.inj j i _ _ a e6 g6 rfl g7 q2 g4
              exact hj (e ▸ ioS_mem g1 g2)
            | br d' =>
              cases q1
              obtain ⟨u, e8, z⟩ := z
              cases e8
              rcases z with z | ⟨b, e9, z, _⟩
              · exact .inl z
              · cases e9
                refine .inr ⟨a, rfl, fun y => ?_, o⟩
                obtain ⟨p', i, d2, g1, g2, g3, g4, g5⟩ := callee_own h y
                obtain ⟨s2, g6, g7⟩ := mine_of (s := .un) g5
                exact z ⟨i, s2, g6, g7, g4⟩
  · obtain ⟨p', i, d1, g1, g2, g3, g4, g5⟩ : ∃ (p' i : Nat) (d : D), p' = p ∧ ms[p]? = some .io ∧ rs[p]? = some (.al i) ∧ σ[i]? = some (some (.ref a)) ∧ (env[i]? = some (.own d) ∨ env[i]? = some (.io d)) := by
      obtain ⟨m, d, x1, x2, rfl⟩ := argSl_get e1
      obtain ⟨r, v, x3, x4, z⟩ := h.get x1 x2
      rw [List.getElem?_map, x4] at q1
      cases q1
      cases m with
      | v => cases m1
      | br => cases m1
      | io => cases r with
        | val _ => exact z.elim
        | new _ => exact z.elim
        | al i => exact ⟨p, i, d, rfl, x1, x3, z.1, z.2⟩
    obtain ⟨q', j, d2, y1, y2, y3, y4, y5⟩ : ∃ (p' i : Nat) (d : D), p' = q ∧ ms[q]? = some .io ∧ rs[q]? = some (.al i) ∧ σ[i]? = some (some (.ref a)) ∧ (env[i]? = some (.own d) ∨ env[i]? = some (.io d)) := by
      obtain ⟨m, d, x1, x2, rfl⟩ := argSl_get e2
      obtain ⟨r, v, x3, x4, z⟩ := h.get x1 x2
      rw [List.getElem?_map, x4] at q2
      cases q2
      cases m with
      | v => cases m2
      | br => cases m2
      | io => cases r with
        | val _ => exact z.elim
        | new _ => exact z.elim
        | al i => exact ⟨q, i, d, rfl, x1, x3, z.1, z.2⟩
    obtain ⟨s1, k1, k2⟩ := mine_of (s := .un) g5
    obtain ⟨s2, k3, k4⟩ := mine_of (s := .un) y5
    have e := S.inj i j _ _ a k1 k3 k2 k4 g4 y4
    subst e
    exact ioS_inj nd g2 g3 y2 y3
/-- the inout arguments behind a call, by their slots -/
theorem outs_slots {F' H' : Hp} : ∀ {ms : List Mode} {rs : List R} {ds : List D} {vs : List V} {os : List D}, PassRel K F σ env ms rs ds vs → OutsOk K F' H' ms vs os → os.length = (ioS ms rs).length ∧ ∀ (t i : Nat) o, (ioS ms rs)[t]? = some i → os[t]? = some o → ∃ a, σ[i]? = some (some (.ref a)) ∧ F' a = none ∧ ORep K F' H' o a
  | [], [], [], [], os, h, o => by cases o; exact ⟨rfl, fun t i o h => by cases h⟩
  | m :: ms, r :: rs, d :: ds, v :: vs, os, h, o => by
    cases m with
    | v =>
      have z := outs_slots (ms := ms) h.2 (show OutsOk K F' H' ms vs os from o)
      cases r <;> exact z
    | br =>
      have z := outs_slots (ms := ms) h.2 (show OutsOk K F' H' ms vs os from o)
      cases r <;> exact z
    | io =>
      obtain ⟨o1, o2, a, rfl, rfl, n, g, z⟩ := o
      have y := outs_slots (ms := ms) h.2 z
      have h1 := h.1
      cases r with
      | val _ => exact h1.elim
      | new _ => exact h1.elim
      | al i =>
        refine ⟨congrArg Nat.succ y.1, fun t j o e1 e2 => ?_⟩
        cases t with
        | zero => cases e1; cases e2; exact ⟨a, h1.1, n, g⟩
        | succ t => exact y.2 t j o e1 e2
  | [], [], [], _ :: _, os, h, _ => h.elim
  | [], [], _ :: _, _, os, h, _ => by cases ‹List V› <;> exact h.elim
  | [], _ :: _, _, _, os, h, _ => by cases ‹List V› <;> cases ‹List D› <;> exact h.elim
  | _ :: _, [], _, _, os, h, _ => by cases ‹List V› <;> cases ‹List D› <;> exact h.elim
  | _ :: _, _ :: _, [], _, os, h, _ => by cases ‹List V› <;> exact h.elim
  | _ :: _, _ :: _, _ :: _, [], os, h, _ => h.elim
end
theorem putO_length : ∀ {is : List Nat} {env : Env} {os : List D}, (putO env is os).length = env.length
  | [], env, os => rfl
  | i :: is, env, [] => rfl
  | i :: is, env, o :: os => by
    show (putO (env.set i _) is os).length = _
    rw [putO_length, List.length_set]
theorem putO_get : ∀ {is : List Nat} {env : Env} {os : List D} {j : Nat} {s : Sl}, is.Nodup → is.length = os.length → (putO env is os)[j]? = some s → (j ∉ is ∧ env[j]? = some s) ∨ ∃ (t : Nat) (s0 : Sl) (o : D), is[t]? = some j ∧ os[t]? = some o ∧ env[j]? = some s0 ∧ s = s0.put o
  | [], env, os, j, s, nd, hl, e => .inl ⟨by simp, e⟩
  | i :: is, env, [], j, s, nd, hl, e => by cases hl
  | i :: is, env, o :: os, j, s, nd, hl, e => by
    obtain ⟨n1, n2⟩ := List.nodup_cons.mp nd
    rcases putO_get (env := env.set i ((env.getD i .un).put o)) n2 (by simpa using hl) e with ⟨h1, h2⟩ | ⟨t, s0, o', h1, h2, h3, h4⟩
    · rcases getElem?_set_any h2 with ⟨rfl, rfl, hj⟩ | ⟨hj, h2⟩
      · refine .inr ⟨0, env[j], o, rfl, rfl, List.getElem?_eq_getElem hj, ?_⟩
        rw [List.getD_eq_getElem?_getD, List.getElem?_eq_getElem hj]
        rfl
      · exact .inl ⟨fun z => (List.mem_cons.mp z).elim hj h1, h2⟩
    · have hj : j ≠ i := fun z => n1 (z ▸ List.mem_of_getElem? h1)
      rw [List.getElem?_set_ne (Ne.symm hj)] at h3
      exact .inr ⟨t + 1, s0, o', h1, h2, h3, h4⟩
theorem put_mine (s : Sl) (d : D) : (s.put d).mine = s.mine := by cases s <;> rfl
theorem put_loc (s : Sl) (d : D) : (s.put d).loc = s.loc := by cases s <;> rfl
section
variable {K : PySem.W.Frag} {F H F' H' : Hp} {σ : St} {env : Env} {ms : List Mode} {rs : List R} {ds os : List D} {vs : List V}
/-- the caller's state behind a call -/
theorem call_after (S : SR K F H σ env) (h : PassRel K F σ env ms rs ds vs) (nd : (ioS ms rs).Nodup) (P : Post K ms vs ds F H F' H' os) : SR K F' H' σ (putO env (ioS ms rs) os) ∧ Step F H σ env F' H' σ (putO env (ioS ms rs) os) := by
  obtain ⟨hl, ho⟩ := outs_slots h P.outs
  have hl' := hl.symm
  have nown : ∀ a, ¬ OwnA env σ a → ¬ OwnA (argSl ms ds) (vs.map some) a := fun a n z => by
    obtain ⟨p, i, d, g1, g2, g3, g4, g5⟩ := callee_own h z
    obtain ⟨s, g6, g7⟩ := mine_of (s := .un) g5
    exact n ⟨i, s, g6, g7, g4⟩
  -- another cell of the frame is kept
  have kept : ∀ (j : Nat) (s : Sl) (a : Addr) o, j ∉ ioS ms rs → env[j]? = some s → s.mine = true → σ[j]? = some (some (.ref a)) → H a = some o → H' a = some o := fun j s a o hj e m e2 e3 => P.keep a o e3 fun z => by
    obtain ⟨p, i, d, g1, g2, g3, g4, g5⟩ := callee_own h z
    obtain ⟨s2, g6, g7⟩ := mine_of (s := .un) g5
    exact hj (S.inj j i _ _ a e g6 m g7 e2 g4 ▸ ioS_mem g1 g2)
  have fnone : ∀ a, OwnA env σ a → F' a = none := fun a z => by
    obtain ⟨⟨u, e⟩, n⟩ := OwnA.there S z
    cases q : F' a with
    | none => rfl
    | some o =>
      rcases P.new a (by rw [q]; simp) with y | y
      · exact absurd n y
      · rw [y] at e; cases e
  have same : ∀ (j : Nat) s, (putO env (ioS ms rs) os)[j]? = some s → ∃ s0, env[j]? = some s0 ∧ s.mine = s0.mine ∧ s.loc = s0.loc := fun j s e => by
    rcases putO_get nd hl' e with ⟨_, e⟩ | ⟨t, s0, o, h1, h2, h3, h4⟩
    · exact ⟨s, e, rfl, rfl⟩
    · exact ⟨s0, h3, by rw [h4, put_mine], by rw [h4, put_loc]⟩
  have oo : ∀ a, OwnA (putO env (ioS ms rs) os) σ a → OwnA env σ a := fun a ⟨j, s, h1, h2, h3⟩ => by
    obtain ⟨s0, e1, e2, e3⟩ := same j s h1
    exact ⟨j, s0, e1, by rw [← e2]; exact h2, h3⟩
  have ll : ∀ a, LocA (putO env (ioS ms rs) os) σ a → LocA env σ a := fun a ⟨j, s, h1, h2, h3⟩ => by
    obtain ⟨s0, e1, e2, e3⟩ := same j s h1
    exact ⟨j, s0, e1, by rw [← e3]; exact h2, h3⟩
  -- the slots of the inout arguments are the frame's own cells
  have isCell : ∀ (j : Nat) s, j ∈ ioS ms rs → env[j]? = some s → (∃ d, s = .own d) ∨ ∃ d, s = .io d := fun j s hj e => by
    obtain ⟨p, e1, e2⟩ := ioS_at hj
    obtain ⟨l1, l2, l3⟩ := h.len
    obtain ⟨d, e3⟩ : ∃ d, ds[p]? = some d := ⟨_, List.getElem?_eq_getElem (by rw [← l3]; exact lt_of_some e2)⟩
    obtain ⟨r, v, e4, e5, z⟩ := h.get e1 e3
    rw [e2] at e4; cases e4
    rcases z.2 with z | z
    · rw [e] at z; cases z; exact .inl ⟨d, rfl⟩
    · rw [e] at z; cases z; exact .inr ⟨d, rfl⟩
  refine ⟨⟨P.sub, by rw [putO_length, S.len], fun j s e => ?_, fun i j s t a e1 e2 m1 m2 q1 q2 => ?_⟩, ⟨P.fr, fun a o e n => P.keep a o e (nown a n), fun a z => (P.new a z).imp_right .inl, fun a z => .inl (oo a z), fun a z => .inl (ll a z), fun i d e => ⟨rfl, ?_⟩, P.dom, fun i d e => ⟨?_, rfl⟩⟩⟩
  · rcases putO_get nd hl' e with ⟨hj, e⟩ | ⟨t, s0, o, h1, h2, h3, h4⟩
    · obtain ⟨ov, e1, q⟩ := S.sl j s e
      refine ⟨ov, e1, ?_⟩
      cases s with
      | un => trivial
      | val d => obtain ⟨v, e2, r⟩ := q; exact ⟨v, e2, r.mono P.fr⟩
      | own d =>
        obtain ⟨a, rfl, n, r⟩ := q
        exact ⟨a, rfl, fnone a ⟨j, _, e, rfl, e1⟩, r.mono P.fr fun o z => kept j _ a o hj e rfl e1 z⟩
      | io d =>
        obtain ⟨a, rfl, n, r⟩ := q
        exact ⟨a, rfl, fnone a ⟨j, _, e, rfl, e1⟩, r.mono P.fr fun o z => kept j _ a o hj e rfl e1 z⟩
      | br d =>
        obtain ⟨v, e2, r⟩ := q
        refine ⟨v, e2, ?_⟩
        rcases r with r | ⟨a, e3, n, r⟩
        · exact .inl (r.mono P.fr)
        · exact .inr ⟨a, e3, fun z => n (oo a z), r.mono P.fr fun o z => P.keep a o z (nown a n)⟩
    · obtain ⟨a, g1, g2, g3⟩ := ho t j o h1 h2
      refine ⟨_, g1, ?_⟩
      rcases isCell j s0 (List.mem_of_getElem? h1) h3 with ⟨d, rfl⟩ | ⟨d, rfl⟩
      · rw [h4]; exact ⟨a, rfl, g2, g3⟩
      · rw [h4]; exact ⟨a, rfl, g2, g3⟩
  · obtain ⟨s0, e3, e4, _⟩ := same i s e1
    obtain ⟨t0, e5, e6, _⟩ := same j t e2
    exact S.inj i j s0 t0 a e3 e5 (e4 ▸ m1) (e6 ▸ m2) q1 q2
  · have hi : i < (putO env (ioS ms rs) os).length := by rw [putO_length]; exact lt_of_some e
    have e1 := List.getElem?_eq_getElem hi
    rcases putO_get nd hl' e1 with ⟨_, e2⟩ | ⟨t, s0, o, h1, h2, h3, h4⟩
    · rw [e] at e2
      exact ⟨d, by rw [e1, ← Option.some.inj e2]⟩
    · rw [e] at h3; cases h3
      exact ⟨o, by rw [e1, h4]; rfl⟩
  · rcases putO_get nd hl' e with ⟨_, e2⟩ | ⟨t, s0, o, h1, h2, h3, h4⟩
    · exact e2
    · rcases isCell i s0 (List.mem_of_getElem? h1) h3 with ⟨d', rfl⟩ | ⟨d', rfl⟩
      · cases h4
      · cases h4
end
theorem paired_append {α β : Type} {f : α → β → Prop} : ∀ {xs ys : List α} {us ws : List β}, Paired f xs us → Paired f ys ws → Paired f (xs ++ ys) (us ++ ws)
  | _, _, _, _, .nil, s => s
  | _, _, _, _, .cons r t, s => .cons r (paired_append t s)
/-- a call of a def that keeps its promise over data -/
theorem call_ok {K : PySem.W.Frag} {F0 H0 F H : Hp} {σ : St} {env0 env : Env} {ms : List Mode} {sp : SpD} {rs : List R} {vs : List V} {k : Env → R → Prop} {Q : VK} {E : XK} (T : Step F0 H0 σ env0 F H σ env) (S : SR K F H σ env) (ra : RAs K F σ rs vs)
    (h : passOk ms rs = true ∧ got (pass env ms rs) fun z => sp z.2 fun os r => k (putO z.1 (ioS ms rs) os) r)
    (hk : ∀ env' r, k env' r → ∀ F' H' v, SR K F' H' σ env' → Step F0 H0 σ env0 F' H' σ env' → RR K H0 F' H' σ env' r v → Q v H') : liftSp K ms sp vs H Q E := by
  obtain ⟨ok, ⟨env1, ds⟩, e, q⟩ := h
  obtain ⟨ap, nd⟩ := Bool.and_eq_true_iff.mp ok
  have nd := of_decide_eq_true nd
  obtain ⟨F1, S1, T1, s1, pr, _, _⟩ := pass_ok T S ra ap (fun _ z => z) e
  refine ⟨F1, ds, _, pr.len.1, callee_sr S1 pr nd ap, q, fun os r q F' H' v P rr => ?_⟩
  obtain ⟨S2, T2⟩ := call_after S1 pr nd P
  refine hk _ _ q F' H' v S2 (T1.trans T2) ?_
  cases r with
  | val d => exact rr
  | new d =>
    obtain ⟨a, rfl, n, n0, o⟩ := rr
    refine ⟨a, rfl, n, T1.dom a n0, fun z => ?_, o⟩
    rcases T2.own a z with z | z
    · obtain ⟨⟨u, e⟩, _⟩ := OwnA.there S1 z
      rw [n0] at e; cases e
    · obtain ⟨i, s, g1, g2, g3⟩ := ‹OwnA (putO env1 (ioS ms rs) os) σ a›
      have : OwnA env1 σ a := by
        obtain ⟨hl, _⟩ := outs_slots pr P.outs
        rcases putO_get nd hl.symm g1 with ⟨_, e2⟩ | ⟨t, s0, o2, h1, h2, h3, h4⟩
        · exact ⟨i, s, e2, g2, g3⟩
        · exact ⟨i, s0, h3, by rw [← put_mine s0 o2, ← h4]; exact g2, g3⟩
      obtain ⟨⟨u, e⟩, _⟩ := OwnA.there S1 this
      rw [n0] at e; cases e
  | al i => exact rr.elim
section
variable {X : Cx} {k : Nat} {f : Addr} {fd : FuncData} {ps : List Str} {ms : List Mode} {sp : SpD} {dds : List D} {dvs : List V} {dvals : List Value} {x : Str} {p pos : Pos} {e : Expr} {es : List Expr} {t : TAD}
theorem x_call (G : FnOk X.prog X.w X.K X.mg X.base CX0 k f fd ps (liftSp X.K ms sp)) (hr : Room k X.A) (hg : Gl X x) (hm : X.mg x = some (.ref f)) (hk : PySem.W.keepIn X.K (.ref f) = true) (hb : Binds X.K fd ps dvals) (hd : Vals dvs dvals) (hR : ∀ F σ, RAs X.K F σ (dds.map .val) dvs) (ha : PXA X (e :: es) t)
    (hdb : (x == ("__debug__" : Str)) = false := by decide) (he : starEach (e :: es) X.env = (false, eval e X.env) :: starEach es X.env := by rfl) (hpl : (backTo pos (starEach es X.env)).any (·.1) = false := by rfl) : PX X (.Call (.Name x p) (e :: es) [] pos) (tCl ms sp dds t) :=
  ⟨(pe_call G hr hg hm hk hb hd pass0 ha.run hdb he hpl).imp fun σ H Q ⟨F, env, k, S, h, hk⟩ => ⟨F, env, _, S, h, fun e1 rs q F1 H1 vs S1 T1 ras => call_ok (E := E0) T1 S1 (paired_append ras (hR F1 σ)) q hk⟩⟩
theorem x_call0 (G : FnOk X.prog X.w X.K X.mg X.base CX0 k f fd ps (liftSp X.K ms sp)) (hr : Room k X.A) (hg : Gl X x) (hm : X.mg x = some (.ref f)) (hk : PySem.W.keepIn X.K (.ref f) = true) (hb : Binds X.K fd ps dvals) (hd : Vals dvs dvals) (hR : ∀ F σ, RAs X.K F σ (dds.map .val) dvs)
    (hdb : (x == ("__debug__" : Str)) = false := by decide) : PX X (.Call (.Name x p) [] [] pos) (tCl ms sp dds tN) :=
  ⟨(pe_call0 G hr hg hm hk hb hd pass0 hdb).imp fun σ H Q ⟨F, env, k, S, h, hk⟩ => call_ok (E := E0) Step.refl S (hR F σ) h hk⟩
end
end Pd

set_option Elab.async false
set_option linter.all false
set_option maxRecDepth 100000
/-! Operations over pure data. -/
namespace Pd
open PySem PySem.Spec PyProof.Rows L2

theorem opr_or {X : Cx} {f : Value → Value → Sem Value} {r r' : R2} (h : OpR X f r) (h' : OpR X f r') : OpR X f (fun x y H Q => r x y H Q ∨ r' x y H Q) := by
  intro pins s σ H x y v u Q I rx ry q
  rcases q with q | q
  · exact h pins s σ H x y v u Q I rx ry q
  · exact h' pins s σ H x y v u Q I rx ry q
section
variable {K : PySem.W.Frag} {F H : Hp} {v : V}
theorem prep_lst {ds : List D} (s : Same F H) (h : PRep K F H (.lst ds) v) : ∃ a vs, v = .ref a ∧ H a = some (.lst vs) ∧ Reps K F ds vs := by
  rcases h with h | ⟨a, rfl, vs, h1, h2⟩
  · obtain ⟨a, vs, rfl, h1, h2⟩ := rep_lst.mp h
    exact ⟨a, vs, rfl, s _ _ h1, h2⟩
  · exact ⟨a, vs, rfl, h1, h2⟩
theorem prep_tup {ds : List D} (s : Same F H) (h : PRep K F H (.tup ds) v) : ∃ a vs, v = .ref a ∧ SqT K H a vs ∧ Reps K F ds vs := by
  rcases h with h | ⟨a, rfl, h⟩
  · obtain ⟨a, vs, rfl, h1, h2⟩ := rep_tup.mp h
    exact ⟨a, vs, rfl, Same.seqT s h1, h2⟩
  · exact h.elim
theorem prep_rol {ds : List D} (s : Same F H) (h : PRep K F H (.rol ds) v) : ∃ a vs, v = .ref a ∧ SqL K H a vs ∧ Reps K F ds vs := by
  rcases h with h | ⟨a, rfl, h⟩
  · obtain ⟨a, vs, rfl, h1, h2⟩ := rep_rol.mp h
    exact ⟨a, vs, rfl, s.seq h1, h2⟩
  · exact h.elim
theorem prep_non (h : PRep K F H .non v) : v = .non := by
  rcases h with h | ⟨_, _, h⟩
  · exact rep_non.mp h
  · exact h.elim
theorem prep_ty {n : String} (h : PRep K F H (.ty n) v) : v = .ty n := by
  rcases h with h | ⟨_, _, h⟩
  · exact rep_ty.mp h
  · exact h.elim
/-- a list or tuple, read -/
theorem prep_seq {d : D} {ds : List D} (s : Same F H) (h : PRep K F H d v) (e : d = .lst ds ∨ d = .tup ds ∨ d = .rol ds) : ∃ a vs, v = .ref a ∧ (SqL K H a vs ∨ SqT K H a vs) ∧ Reps K F ds vs := by
  rcases e with rfl | rfl | rfl
  · obtain ⟨a, vs, e, h1, h2⟩ := prep_lst s h
    exact ⟨a, vs, e, .inl (.inl (.inl h1)), h2⟩
  · obtain ⟨a, vs, e, h1, h2⟩ := prep_tup s h
    exact ⟨a, vs, e, .inr h1, h2⟩
  · obtain ⟨a, vs, e, h1, h2⟩ := prep_rol s h
    exact ⟨a, vs, e, .inl h1, h2⟩
theorem out_v {d : D} {u : V} (r : Rep K F d u) : OutOk K F H (.v d) u H := ⟨rfl, r⟩
theorem out_int {i : Int} : OutOk K F H (.v (.int i)) (.int i) H := ⟨rfl, rep_int.mpr rfl⟩
theorem out_bl {i : Bool} : OutOk K F H (.v (.bl i)) (.bl i) H := ⟨rfl, rep_bl.mpr rfl⟩
theorem out_str {i : Str} : OutOk K F H (.v (.str i)) (.str i) H := ⟨rfl, rep_str.mpr rfl⟩
end

/-! ### arithmetic -/
def addD : D → D → Ans
  | .int i, .int j => some (True, .v (.int (i + j)))
  | .str a, .str b => some (a.length + b.length ≤ sizeLine, .v (.str (a ++ b)))
  | .lst a, .lst b => some (a.length + b.length ≤ sizeLine, .l (a ++ b))
  | .tup a, .tup b => some (a.length + b.length ≤ sizeLine, .t (a ++ b))
  | _, _ => none
def rAddA (K : PySem.W.Frag) : R2 := fun x y H Q => (rI0 (fun i j => .int (i + j))) x y H Q ∨ ((∃ i j, x = .str i ∧ y = .str j ∧ i.length + j.length ≤ sizeLine ∧ Q (.str (i ++ j)) H) ∨ (rCat x y H Q ∨ rCatA K x y H Q))
theorem opr_add {X : Cx} : OpR X (binaryOp .Add) (rAddA X.K) := opr_or op_add (opr_or op_add_str (opr_or op_cat op_catA))
theorem reps_nil_iff {K : PySem.W.Frag} {F : Hp} {ds : List D} {vs : List V} (r : Reps K F ds vs) : vs = [] ↔ ds = [] := by
  have := r.length
  constructor
  · intro e; subst e; exact List.length_eq_zero_iff.mp this.symm
  · intro e; subst e; exact List.length_eq_zero_iff.mp this
theorem op2_add {K : PySem.W.Frag} : Op2 K (rAddA K) addD := by
  intro F H d1 d2 v1 v2 z Q s p1 p2 e hz hQ
  cases d1 <;> cases d2 <;> first | (cases e; done) | skip
  · cases e
    cases prep_int p1; cases prep_int p2
    exact .inl ⟨_, _, rfl, rfl, hQ _ _ out_int⟩
  · cases e
    cases prep_str p1; cases prep_str p2
    exact .inr (.inl ⟨_, _, rfl, rfl, hz, hQ _ _ out_str⟩)
  · cases e
    obtain ⟨a, vs, rfl, h1, r1⟩ := prep_lst s p1
    obtain ⟨b, us, rfl, h2, r2⟩ := prep_lst s p2
    exact .inr (.inr (.inl ⟨a, b, vs, us, rfl, rfl, h1, h2, by rw [r1.length, r2.length]; exact hz, fun p n => hQ _ _ ⟨p, _, rfl, n, rfl, r1.append r2⟩⟩))
  · cases e
    obtain ⟨a, vs, e1, h1, r1⟩ := prep_tup s p1
    obtain ⟨b, us, e2, h2, r2⟩ := prep_tup s p2
    refine .inr (.inr (.inr ⟨a, b, vs, us, e1, e2, h1, h2, by rw [r1.length, r2.length]; exact hz, fun n => ?_, fun n1 n2 => ?_, fun n1 n2 p n => hQ _ _ (.inl ⟨p, _, rfl, n, rfl, r1.append r2⟩)⟩))
    · have n' := (reps_nil_iff r1).mp n
      subst n'
      rcases p2 with p2 | ⟨_, _, p2⟩
      · exact hQ _ _ (.inr ⟨rfl, by rw [List.nil_append, ← e2]; exact p2⟩)
      · exact p2.elim
    · have n' := (reps_nil_iff r2).mp n2
      subst n'
      rcases p1 with p1 | ⟨_, _, p1⟩
      · exact hQ _ _ (.inr ⟨rfl, by rw [List.append_nil, ← e1]; exact p1⟩)
      · exact p1.elim
def intOp (c : Int → Int → Prop) (g : Int → Int → Int) : D → D → Ans
  | .int i, .int j => some (c i j, .v (.int (g i j)))
  | _, _ => none
theorem op2_int {K : PySem.W.Frag} {c : Int → Int → Prop} {g : Int → Int → Int} {r : R2} (h : ∀ i j H (Q : VK), c i j → Q (.int (g i j)) H → r (.int i) (.int j) H Q) : Op2 K r (intOp c g) := by
  intro F H d1 d2 v1 v2 z Q s p1 p2 e hz hQ
  cases d1 <;> cases d2 <;> first | (cases e; done) | skip
  cases e
  cases prep_int p1; cases prep_int p2
  exact h _ _ _ _ hz (hQ _ _ out_int)
abbrev subD := intOp (fun _ _ => True) fun i j => i - j
theorem op2_sub {K : PySem.W.Frag} : Op2 K (rI0 fun i j => .int (i - j)) subD := op2_int fun i j H Q _ q => ⟨i, j, rfl, rfl, q⟩
def mulD : D → D → Ans
  | .int i, .int j => some (CMulX i j, .v (.int (i * j)))
  | .lst xs, .int k => some (-(2 ^ 63) ≤ k ∧ k < 2 ^ 63 ∧ xs.length * k.toNat ≤ sizeLine, .l (List.replicate k.toNat xs).flatten)
  | _, _ => none
theorem reps_rep {K : PySem.W.Frag} {F : Hp} {ds : List D} {vs : List V} (r : Reps K F ds vs) : ∀ n, Reps K F (List.replicate n ds).flatten (List.replicate n vs).flatten
  | 0 => reps_nil.mpr rfl
  | n + 1 => by
    rw [List.replicate_succ, List.replicate_succ, List.flatten_cons, List.flatten_cons]
    exact r.append (reps_rep r n)
def rMulA : R2 := fun x y H Q => rI CMulX (fun i j => .int (i * j)) x y H Q ∨ rRep x y H Q
theorem opr_mul {X : Cx} : OpR X (binaryOp .Mult) rMulA := opr_or op_mulX op_rep
theorem op2_mul {K : PySem.W.Frag} : Op2 K rMulA mulD := by
  intro F H d1 d2 v1 v2 z Q s p1 p2 e hz hQ
  cases d1 <;> cases d2 <;> first | (cases e; done) | skip
  · cases e
    cases prep_int p1; cases prep_int p2
    exact .inl ⟨_, _, rfl, rfl, hz, hQ _ _ out_int⟩
  · cases e
    obtain ⟨a, vs, rfl, h1, r1⟩ := prep_lst s p1
    cases prep_int p2
    exact .inr ⟨a, _, vs, rfl, rfl, h1, hz.1, hz.2.1, by rw [r1.length]; exact hz.2.2, fun p n => hQ _ _ ⟨p, _, rfl, n, rfl, reps_rep r1 _⟩⟩
def CDivA (i j : Int) : Prop := (j ≠ 0 ∧ j.natAbs < 1073741824) ∨ (0 < j ∧ j.natAbs.log2 < 9000)
abbrev fdivD := intOp CDivA fun i j => i.fdiv j
def rDivA : R2 := fun x y H Q => rI CDivN (fun i j => .int (i.fdiv j)) x y H Q ∨ rI CDivW (fun i j => .int (i / j)) x y H Q
theorem opr_fdiv {X : Cx} : OpR X (binaryOp .FloorDiv) rDivA := opr_or op_fdivN op_fdivW
theorem op2_fdiv {K : PySem.W.Frag} : Op2 K rDivA fdivD := op2_int fun i j H Q c q => by
  rcases c with c | c
  · exact .inl ⟨i, j, rfl, rfl, c, q⟩
  · exact .inr ⟨i, j, rfl, rfl, c, by show Q (.int (i / j)) H; rw [← Int.fdiv_eq_ediv_of_nonneg _ (Int.le_of_lt c.1)]; exact q⟩
abbrev modD := intOp (fun _ j => j ≠ 0) fun i j => i.fmod j
theorem op2_mod {K : PySem.W.Frag} : Op2 K (rI (fun _ j => j ≠ 0) fun i j => .int (i.fmod j)) modD := op2_int fun i j H Q c q => ⟨i, j, rfl, rfl, c, q⟩
abbrev powD := intOp CPow fun i j => i ^ j.toNat
theorem op2_pow {K : PySem.W.Frag} : Op2 K (rI CPow fun i j => .int (i ^ j.toNat)) powD := op2_int fun i j H Q c q => ⟨i, j, rfl, rfl, c, q⟩
abbrev shlD := intOp CShl fun i j => i * 2 ^ j.toNat
theorem op2_shl {K : PySem.W.Frag} : Op2 K (rI CShl fun i j => .int (i * 2 ^ j.toNat)) shlD := op2_int fun i j H Q c q => ⟨i, j, rfl, rfl, c, q⟩
abbrev shrD := intOp (fun _ j => 0 ≤ j) fun i j => i / 2 ^ j.toNat
theorem op2_shr {K : PySem.W.Frag} : Op2 K (rI (fun _ j => 0 ≤ j) fun i j => .int (i / 2 ^ j.toNat)) shrD := op2_int fun i j H Q c q => ⟨i, j, rfl, rfl, c, q⟩
abbrev andD := intOp (fun _ _ => True) Builtin.bitAnd
theorem op2_and {K : PySem.W.Frag} : Op2 K (rI0 fun i j => .int (Builtin.bitAnd i j)) andD := op2_int fun i j H Q c q => ⟨i, j, rfl, rfl, q⟩
abbrev borD := intOp (fun _ _ => True) Builtin.bitOr
theorem op2_bor {K : PySem.W.Frag} : Op2 K (rI0 fun i j => .int (Builtin.bitOr i j)) borD := op2_int fun i j H Q c q => ⟨i, j, rfl, rfl, q⟩
def negD : D → Ans
  | .int i => some (True, .v (.int (-i)))
  | _ => none
theorem op1_neg {K : PySem.W.Frag} : Op1 K (rU fun i => .int (-i)) negD := by
  intro F H d v1 z Q s p e hz hQ
  cases d <;> first | (cases e; done) | skip
  cases e
  cases prep_int p
  exact ⟨_, rfl, hQ _ _ out_int⟩

/-! ### order of ints and texts -/
def strLt (a b : Str) : Bool := decide (a.cps.toList < b.cps.toList)
def isD : D → D → Ans
  | .non, .non => some (True, .v (.bl true))
  | .obj _ _ _, .non => some (True, .v (.bl false))
  | .bl _, .non => some (True, .v (.bl false))
  | .int _, .non => some (True, .v (.bl false))
  | .str _, .non => some (True, .v (.bl false))
  | .lst _, .non => some (True, .v (.bl false))
  | .tup _, .non => some (True, .v (.bl false))
  | .dct _ _, .non => some (True, .v (.bl false))
  | _, _ => none
def isNotD : D → D → Ans
  | .non, .non => some (True, .v (.bl false))
  | .obj _ _ _, .non => some (True, .v (.bl true))
  | .bl _, .non => some (True, .v (.bl true))
  | .int _, .non => some (True, .v (.bl true))
  | .str _, .non => some (True, .v (.bl true))
  | .lst _, .non => some (True, .v (.bl true))
  | .tup _, .non => some (True, .v (.bl true))
  | .dct _ _, .non => some (True, .v (.bl true))
  | _, _ => none
theorem prep_ref {K : PySem.W.Frag} {F H : Hp} {d : D} {v : V} (h : PRep K F H d v) : (∃ a, v = .ref a) ∨ (d = .non ∨ (∃ b, d = .bl b) ∨ (∃ i, d = .int i) ∨ (∃ x, d = .str x) ∨ ∃ n, d = .ty n) := by
  rcases h with h | ⟨a, rfl, _⟩
  · cases d with
    | non => exact .inr (.inl rfl)
    | bl b => exact .inr (.inr (.inl ⟨b, rfl⟩))
    | int i => exact .inr (.inr (.inr (.inl ⟨i, rfl⟩)))
    | str x => exact .inr (.inr (.inr (.inr (.inl ⟨x, rfl⟩))))
    | ty n => exact .inr (.inr (.inr (.inr (.inr ⟨n, rfl⟩))))
    | lst ds => obtain ⟨a, _, rfl, _⟩ := rep_lst.mp h; exact .inl ⟨a, rfl⟩
    | tup ds => obtain ⟨a, _, rfl, _⟩ := rep_tup.mp h; exact .inl ⟨a, rfl⟩
    | rol ds => obtain ⟨a, _, rfl, _⟩ := rep_rol.mp h; exact .inl ⟨a, rfl⟩
    | dct ks ds => obtain ⟨a, _, rfl, _⟩ := rep_dct.mp h; exact .inl ⟨a, rfl⟩
    | obj C ns ds => obtain ⟨a, _, rfl, _⟩ := rep_obj.mp h; exact .inl ⟨a, rfl⟩
    | cls C => exact .inl ⟨_, rep_cls.mp h⟩
  · exact .inl ⟨a, rfl⟩
theorem op2_is {K : PySem.W.Frag} : Op2 K (fun x y H Q => y = .non ∧ Q (.bl (decide (x = .non))) H) isD := by
  intro F H d1 d2 v1 v2 z Q s p1 p2 e hz hQ
  cases d2 <;> first | (cases d1 <;> cases e <;> done) | skip
  cases prep_non p2
  refine ⟨rfl, ?_⟩
  have key : ∀ {b : Bool}, z = (True, .v (.bl b)) → decide (v1 = V.non) = b → Q (.bl (decide (v1 = .non))) H := fun e1 e2 => by
    rw [e2]
    refine hQ _ _ ?_
    rw [e1]
    exact out_bl
  cases d1 with
  | non => cases prep_non p1; exact key (Option.some.inj e).symm rfl
  | bl b => cases prep_bl p1; exact key (Option.some.inj e).symm rfl
  | int b => cases prep_int p1; exact key (Option.some.inj e).symm rfl
  | str b => cases prep_str p1; exact key (Option.some.inj e).symm rfl
  | lst b => obtain ⟨a, _, rfl, _⟩ := prep_lst s p1; exact key (Option.some.inj e).symm rfl
  | tup b => obtain ⟨a, _, rfl, _⟩ := prep_tup s p1; exact key (Option.some.inj e).symm rfl
  | dct b c =>
    rcases prep_ref p1 with ⟨a, rfl⟩ | h
    · exact key (Option.some.inj e).symm rfl
    · simp at h
  | obj C b c =>
    rcases prep_ref p1 with ⟨a, rfl⟩ | h
    · exact key (Option.some.inj e).symm rfl
    · simp at h
  | _ => cases e
theorem op2_isNot {K : PySem.W.Frag} : Op2 K (fun x y H Q => y = .non ∧ Q (.bl (!decide (x = .non))) H) isNotD := by
  intro F H d1 d2 v1 v2 z Q s p1 p2 e hz hQ
  cases d2 <;> first | (cases d1 <;> cases e <;> done) | skip
  cases prep_non p2
  refine ⟨rfl, ?_⟩
  have key : ∀ {b : Bool}, z = (True, .v (.bl b)) → (!decide (v1 = V.non)) = b → Q (.bl (!decide (v1 = .non))) H := fun e1 e2 => by
    rw [e2]
    refine hQ _ _ ?_
    rw [e1]
    exact out_bl
  cases d1 with
  | non => cases prep_non p1; exact key (Option.some.inj e).symm rfl
  | bl b => cases prep_bl p1; exact key (Option.some.inj e).symm rfl
  | int b => cases prep_int p1; exact key (Option.some.inj e).symm rfl
  | str b => cases prep_str p1; exact key (Option.some.inj e).symm rfl
  | lst b => obtain ⟨a, _, rfl, _⟩ := prep_lst s p1; exact key (Option.some.inj e).symm rfl
  | tup b => obtain ⟨a, _, rfl, _⟩ := prep_tup s p1; exact key (Option.some.inj e).symm rfl
  | dct b c =>
    rcases prep_ref p1 with ⟨a, rfl⟩ | h
    · exact key (Option.some.inj e).symm rfl
    · simp at h
  | obj C b c =>
    rcases prep_ref p1 with ⟨a, rfl⟩ | h
    · exact key (Option.some.inj e).symm rfl
    · simp at h
  | _ => cases e

/-! ### places -/
def ixD : D → D → Ans
  | .lst ds, .int i => (atI ds i).map fun d => (True, .v d)
  | .tup ds, .int i => (atI ds i).map fun d => (True, .v d)
  | .rol ds, .int i => (atI ds i).map fun d => (True, .v d)
  | .str z, .int i => (atI z.cps.toList i).map fun c => (z.length ≤ sizeLine, .v (.str ⟨#[c]⟩))
  | _, _ => none
theorem reps_atI {K : PySem.W.Frag} {F : Hp} {ds : List D} {vs : List V} {i : Int} {d : D} (r : Reps K F ds vs) (e : atI ds i = some d) : ∃ v, atI vs i = some v ∧ Rep K F d v := by
  unfold atI at e ⊢
  rw [r.length]
  obtain ⟨j, e1, e2⟩ := Option.bind_eq_some_iff.mp e
  obtain ⟨v, e3, r2⟩ := r.get e2
  exact ⟨v, by rw [e1]; exact e3, r2⟩
theorem op2_ix {K : PySem.W.Frag} : Op2 K (rIx K) ixD := by
  intro F H d1 d2 v1 v2 z Q s p1 p2 e hz hQ
  cases d1 <;> cases d2 <;> first | (cases e; done) | skip
  all_goals
    obtain ⟨d, e1, e2⟩ := Option.map_eq_some_iff.mp e
    cases e2
    cases prep_int p2
  · cases prep_str p1
    exact .inr (.inr ⟨_, _, d, rfl, rfl, hz, e1, hQ _ _ out_str⟩)
  · obtain ⟨a, vs, rfl, h1, r1⟩ := prep_lst s p1
    obtain ⟨v, e3, r2⟩ := reps_atI r1 e1
    exact .inl ⟨a, vs, _, v, rfl, rfl, .inl (.inl h1), e3, hQ _ _ (out_v r2)⟩
  · obtain ⟨a, vs, rfl, h1, r1⟩ := prep_tup s p1
    obtain ⟨v, e3, r2⟩ := reps_atI r1 e1
    exact .inr (.inl ⟨a, vs, _, v, rfl, rfl, h1, e3, hQ _ _ (out_v r2)⟩)
  · obtain ⟨a, vs, rfl, h1, r1⟩ := prep_rol s p1
    obtain ⟨v, e3, r2⟩ := reps_atI r1 e1
    exact .inl ⟨a, vs, _, v, rfl, rfl, h1, e3, hQ _ _ (out_v r2)⟩
section
variable {X : Cx} {a b : Expr} {ta tb : TD} {pos : Pos}
theorem x_ix (ha : PX X a ta) (hb : PX X b tb) (hs : PlainIx b := by exact fun _ _ => rfl) : PX X (.Subscript a b pos) (tOp2 ixD ta tb) := ⟨(pe_ix ix_seq ha.run hb.run hs).imp fun _ _ _ h => up_op op2_ix h⟩
theorem x_add (ha : PX X a ta) (hb : PX X b tb) : PX X (.BinOp a .Add b pos) (tOp2 addD ta tb) := px_op opr_add op2_add ha hb
theorem x_sub (ha : PX X a ta) (hb : PX X b tb) : PX X (.BinOp a .Sub b pos) (tOp2 subD ta tb) := px_op op_sub op2_sub ha hb
theorem x_mul (ha : PX X a ta) (hb : PX X b tb) : PX X (.BinOp a .Mult b pos) (tOp2 mulD ta tb) := px_op opr_mul op2_mul ha hb
theorem x_fdiv (ha : PX X a ta) (hb : PX X b tb) : PX X (.BinOp a .FloorDiv b pos) (tOp2 fdivD ta tb) := px_op opr_fdiv op2_fdiv ha hb
theorem x_mod (ha : PX X a ta) (hb : PX X b tb) : PX X (.BinOp a .Mod b pos) (tOp2 modD ta tb) := px_op op_modN op2_mod ha hb
theorem x_pow (ha : PX X a ta) (hb : PX X b tb) : PX X (.BinOp a .Pow b pos) (tOp2 powD ta tb) := px_op op_pow op2_pow ha hb
theorem x_shl (ha : PX X a ta) (hb : PX X b tb) : PX X (.BinOp a .LShift b pos) (tOp2 shlD ta tb) := px_op op_shlW op2_shl ha hb
theorem x_shr (ha : PX X a ta) (hb : PX X b tb) : PX X (.BinOp a .RShift b pos) (tOp2 shrD ta tb) := px_op op_shr op2_shr ha hb
theorem x_band (ha : PX X a ta) (hb : PX X b tb) : PX X (.BinOp a .BitAnd b pos) (tOp2 andD ta tb) := px_op op_and op2_and ha hb
theorem x_bor (ha : PX X a ta) (hb : PX X b tb) : PX X (.BinOp a .BitOr b pos) (tOp2 borD ta tb) := px_op op_or op2_bor ha hb
theorem x_neg (ha : PX X a ta) : PX X (.UnaryOp .USub a pos) (tOp1 negD ta) := px_un un_neg op1_neg ha
theorem x_is (ha : PX X a ta) (hb : PX X b tb) (hm : behindInMarks .Is b = false := by first | exact nomark _ | rfl) : PX X (.Compare a [.Is] [b] pos) (tOp2 isD ta tb) := px_cmp op_isN op2_is ha hb hm
theorem x_isNot (ha : PX X a ta) (hb : PX X b tb) (hm : behindInMarks .IsNot b = false := by first | exact nomark _ | rfl) : PX X (.Compare a [.IsNot] [b] pos) (tOp2 isNotD ta tb) := px_cmp op_notN op2_isNot ha hb hm
end

/-! ### built-ins -/
def CallD (K : PySem.W.Frag) (r : List V → Hp → VK → Prop) (f : List D → Ans) : Prop := ∀ F H ds vs (z : Prop × Out) (Q : VK), Same F H → Paired (fun d v => PRep K F H d v) ds vs → f ds = some z → z.1 → (∀ v H', OutOk K F H z.2 v H' → Q v H') → r vs H Q
def contents (env : Env) : List R → Option (List D)
  | [] => some []
  | r :: rs => (content env r).bind fun d => (contents env rs).map (d :: ·)
theorem contents_prep {K : PySem.W.Frag} {F H : Hp} {σ : St} {env : Env} (S : SR K F H σ env) : ∀ {rs : List R} {vs : List V} {ds : List D}, RAs K F σ rs vs → contents env rs = some ds → Paired (fun d v => PRep K F H d v) ds vs
  | [], vs, ds, h, e => by
    cases h; cases e
    exact .nil
  | r :: rs, vs, ds, h, e => by
    cases h with
    | cons h1 h2 =>
      obtain ⟨d, e1, e2⟩ := Option.bind_eq_some_iff.mp (show (content env r).bind (fun d => (contents env rs).map (d :: ·)) = some ds from e)
      obtain ⟨ds', e3, e4⟩ := Option.map_eq_some_iff.mp e2
      cases e4
      exact .cons (RR.prep S (RA.rr (H0 := H) h1) e1) (contents_prep S h2 e3)
def many (f : List D → Ans) (env : Env) (rs : List R) (k : Env → R → Prop) : Prop := got (contents env rs) fun ds => ans env (f ds) k
def tBu (f : List D → Ans) (t : TAD) : TD := fun env k => t env fun e1 rs => many f e1 rs k
theorem many_ok {K : PySem.W.Frag} {H0 F0 F H : Hp} {σ : St} {env0 env : Env} {rs : List R} {vs : List V} {k : Env → R → Prop} {Q : VK} {r : List V → Hp → VK → Prop} {f : List D → Ans} (ho : CallD K r f) (T : Step F0 H0 σ env0 F H σ env) (S : SR K F H σ env) (h1 : RAs K F σ rs vs) (h : many f env rs k)
    (hk : ∀ env' r, k env' r → ∀ F' H' v, SR K F' H' σ env' → Step F0 H0 σ env0 F' H' σ env' → RR K H0 F' H' σ env' r v → Q v H') : r vs H Q := by
  obtain ⟨ds, c1, z, e, z1, z2⟩ := h
  refine ho F H ds vs z Q S.sub (contents_prep S h1 c1) e z1 fun v H' oo => ?_
  obtain ⟨F', S', T', rr⟩ := out_ok S oo
  exact hk _ _ z2 F' H' v S' (T.trans T') (rr.back T.dom)
theorem up_many {K : PySem.W.Frag} {r : List V → Hp → VK → Prop} {f : List D → Ans} {t : TAD} (ho : CallD K r f) {σ : St} {H : Hp} {Q : VK} (h : up K (tBu f t) σ H Q) : tCB r (upA K t) σ H Q := by
  obtain ⟨F, env, k, S, h, hk⟩ := h
  exact ⟨F, env, _, S, h, fun e1 rs q F1 H1 vs S1 T1 ras => many_ok ho T1 S1 ras q hk⟩
theorem callr_or {X : Cx} {f : Value} {r r' : List V → Hp → VK → Prop} (h : CallR X f r) (h' : CallR X f r') : CallR X f (fun xs H Q => r xs H Q ∨ r' xs H Q) := by
  intro pins s σ H xs us Q I rv q
  rcases q with q | q
  · exact h pins s σ H xs us Q I rv q
  · exact h' pins s σ H xs us Q I rv q
section
variable {X : Cx} {x : Str} {p pos : Pos} {e : Expr} {es : List Expr} {t : TAD} {id T : String} {r : List V → Hp → VK → Prop} {f : List D → Ans}
theorem x_bu (hc : CallR X (.builtin id) r) (ho : CallD X.K r f) (hg : Gl X x) (hm : X.mg x = none) (hv : bootBuiltins x = some (.builtin id)) (ha : PXA X (e :: es) t) (hn : x ≠ "__name__" := by decide) (hdb : (x == ("__debug__" : Str)) = false := by decide)
    (he : starEach (e :: es) X.env = (false, eval e X.env) :: starEach es X.env := by rfl) (hpl : (backTo pos (starEach es X.env)).any (·.1) = false := by rfl) : PX X (.Call (.Name x p) (e :: es) [] pos) (tBu f t) :=
  ⟨(pe_callB hc hg hm hv ha.run hn hdb he hpl).imp fun _ _ _ h => up_many ho h⟩
theorem x_bt (hc : CallR X (.type T) r) (ho : CallD X.K r f) (hg : Gl X x) (hm : X.mg x = none) (hv : bootBuiltins x = some (.type T)) (ha : PXA X (e :: es) t) (hn : x ≠ "__name__" := by decide) (hdb : (x == ("__debug__" : Str)) = false := by decide)
    (he : starEach (e :: es) X.env = (false, eval e X.env) :: starEach es X.env := by rfl) (hpl : (backTo pos (starEach es X.env)).any (·.1) = false := by rfl) : PX X (.Call (.Name x p) (e :: es) [] pos) (tBu f t) :=
  ⟨(pe_callTy hc hg hm hv ha.run hn hdb he hpl).imp fun _ _ _ h => up_many ho h⟩
end
def lenD : List D → Ans
  | [.lst ds] => some (True, .v (.int ds.length))
  | [.tup ds] => some (True, .v (.int ds.length))
  | [.rol ds] => some (True, .v (.int ds.length))
  | [.str z] => some (z.length ≤ sizeLine, .v (.int z.length))
  | _ => none
theorem paired1 {α β : Type} {F : α → β → Prop} {a : α} {vs : List β} (h : Paired F [a] vs) : ∃ v, vs = [v] ∧ F a v := by
  cases h with
  | cons h1 h2 => cases h2; exact ⟨_, rfl, h1⟩
theorem paired2 {α β : Type} {F : α → β → Prop} {a b : α} {vs : List β} (h : Paired F [a, b] vs) : ∃ v w, vs = [v, w] ∧ F a v ∧ F b w := by
  cases h with
  | cons h1 h2 =>
    obtain ⟨w, rfl, h3⟩ := paired1 h2
    exact ⟨_, _, rfl, h1, h3⟩
theorem cd_len {K : PySem.W.Frag} : CallD K (fun xs H Q => ∃ x n, xs = [x] ∧ LenV K x H n ∧ Q (.int n) H) lenD := by
  intro F H ds vs z Q s p e hz hQ
  match ds, p, e with
  | [.lst ds], p, e =>
    cases e
    obtain ⟨v, rfl, q⟩ := paired1 p
    obtain ⟨a, ws, rfl, h1, r⟩ := prep_lst s q
    exact ⟨_, _, rfl, .inl ⟨ws, .inl (.inl h1), rfl⟩, by rw [r.length]; exact hQ _ _ out_int⟩
  | [.tup ds], p, e =>
    cases e
    obtain ⟨v, rfl, q⟩ := paired1 p
    obtain ⟨a, ws, rfl, h1, r⟩ := prep_tup s q
    exact ⟨_, _, rfl, .inr ⟨ws, h1, rfl⟩, by rw [r.length]; exact hQ _ _ out_int⟩
  | [.rol ds], p, e =>
    cases e
    obtain ⟨v, rfl, q⟩ := paired1 p
    obtain ⟨a, ws, rfl, h1, r⟩ := prep_rol s q
    exact ⟨_, _, rfl, .inl ⟨ws, h1, rfl⟩, by rw [r.length]; exact hQ _ _ out_int⟩
  | [.str x], p, e =>
    cases e
    obtain ⟨v, rfl, q⟩ := paired1 p
    cases prep_str q
    exact ⟨_, _, rfl, ⟨hz, rfl⟩, hQ _ _ out_int⟩
def intD : List D → Ans
  | [.int i] => some (True, .v (.int i))
  | [.bl b] => some (True, .v (.int (if b = true then 1 else 0)))
  | _ => none
theorem cd_int {K : PySem.W.Frag} : CallD K (fun xs H Q => (∃ i, xs = [.int i] ∧ Q (.int i) H) ∨ ∃ k, xs = [.bl k] ∧ Q (.int (if k then 1 else 0)) H) intD := by
  intro F H ds vs z Q s p e hz hQ
  match ds, p, e with
  | [.int i], p, e =>
    cases e
    obtain ⟨v, rfl, q⟩ := paired1 p
    cases prep_int q
    exact .inl ⟨_, rfl, hQ _ _ out_int⟩
  | [.bl i], p, e =>
    cases e
    obtain ⟨v, rfl, q⟩ := paired1 p
    cases prep_bl q
    exact .inr ⟨_, rfl, hQ _ _ out_int⟩
def boolD : List D → Ans
  | [.int i] => some (True, .v (.bl (i != 0)))
  | [.bl b] => some (True, .v (.bl b))
  | _ => none
theorem cd_bool {K : PySem.W.Frag} : CallD K (fun xs H Q => (∃ i, xs = [.int i] ∧ Q (.bl (i != 0)) H) ∨ ∃ k, xs = [.bl k] ∧ Q (.bl k) H) boolD := by
  intro F H ds vs z Q s p e hz hQ
  match ds, p, e with
  | [.int i], p, e =>
    cases e
    obtain ⟨v, rfl, q⟩ := paired1 p
    cases prep_int q
    exact .inl ⟨_, rfl, hQ _ _ out_bl⟩
  | [.bl i], p, e =>
    cases e
    obtain ⟨v, rfl, q⟩ := paired1 p
    cases prep_bl q
    exact .inr ⟨_, rfl, hQ _ _ out_bl⟩
def absD : List D → Ans
  | [.int i] => some (True, .v (.int (if i < 0 then -i else i)))
  | _ => none
theorem cd_abs {K : PySem.W.Frag} : CallD K (fun xs H Q => ∃ i, xs = [.int i] ∧ Q (.int (if i < 0 then -i else i)) H) absD := by
  intro F H ds vs z Q s p e hz hQ
  match ds, p, e with
  | [.int i], p, e =>
    cases e
    obtain ⟨v, rfl, q⟩ := paired1 p
    cases prep_int q
    exact ⟨_, rfl, hQ _ _ out_int⟩
/-- list(x), tuple(x) -/
def listD : List D → Ans
  | [.lst ds] => some (True, .l ds)
  | [.tup ds] => some (True, .l ds)
  | [.rol ds] => some (True, .l ds)
  | _ => none
def tupleD : List D → Ans
  | [.lst ds] => some (True, .t ds)
  | [.tup ds] => some (True, .t ds)
  | [.rol ds] => some (True, .t ds)
  | _ => none
theorem cd_list {K : PySem.W.Frag} : CallD K (fun xs H Q => ∃ p ys, xs = [.ref p] ∧ (SqL K H p ys ∨ SqT K H p ys) ∧ ∀ l, H l = none → Q (.ref l) (upd H l (.lst ys))) listD := by
  intro F H ds vs z Q s p e hz hQ
  have go : ∀ {d : D} {xs : List D} {vs : List V} {z : Prop × Out}, (∀ v H', OutOk K F H z.2 v H' → Q v H') → Paired (fun d v => PRep K F H d v) [d] vs → z = (True, .l xs) → (d = .lst xs ∨ d = .tup xs ∨ d = .rol xs) → ∃ p ys, vs = [.ref p] ∧ (SqL K H p ys ∨ SqT K H p ys) ∧ ∀ l, H l = none → Q (.ref l) (upd H l (.lst ys)) := fun hQ p e2 e3 => by
    subst e2
    obtain ⟨v, rfl, q⟩ := paired1 p
    obtain ⟨a, ws, rfl, h1, r⟩ := prep_seq s q e3
    exact ⟨a, ws, rfl, h1, fun l n => hQ _ _ ⟨l, ws, rfl, n, rfl, r⟩⟩
  match ds, p, e with
  | [.lst xs], p, e => exact go hQ p (Option.some.inj e).symm (.inl rfl)
  | [.tup xs], p, e => exact go hQ p (Option.some.inj e).symm (.inr (.inl rfl))
  | [.rol xs], p, e => exact go hQ p (Option.some.inj e).symm (.inr (.inr rfl))
theorem cd_tuple {K : PySem.W.Frag} : CallD K (fun xs H Q => ∃ p ys, xs = [.ref p] ∧ ((SqL K H p ys ∧ ∀ l, H l = none → Q (.ref l) (upd H l (.tup ys))) ∨ (SqT K H p ys ∧ Q (.ref p) H))) tupleD := by
  intro F H ds vs z Q s p e hz hQ
  match ds, p, e with
  | [.lst xs], p, e =>
    cases e
    obtain ⟨v, rfl, q⟩ := paired1 p
    obtain ⟨a, ws, rfl, h1, r⟩ := prep_lst s q
    exact ⟨a, ws, rfl, .inl ⟨.inl (.inl h1), fun l n => hQ _ _ (.inl ⟨l, ws, rfl, n, rfl, r⟩)⟩⟩
  | [.rol xs], p, e =>
    cases e
    obtain ⟨v, rfl, q⟩ := paired1 p
    obtain ⟨a, ws, rfl, h1, r⟩ := prep_rol s q
    exact ⟨a, ws, rfl, .inl ⟨h1, fun l n => hQ _ _ (.inl ⟨l, ws, rfl, n, rfl, r⟩)⟩⟩
  | [.tup xs], p, e =>
    cases e
    obtain ⟨v, rfl, q⟩ := paired1 p
    have q2 := q
    obtain ⟨a, ws, rfl, h1, r⟩ := prep_tup s q
    rcases q2 with q2 | ⟨_, _, q2⟩
    · exact ⟨a, ws, rfl, .inr ⟨h1, hQ _ _ (.inr ⟨rfl, q2⟩)⟩⟩
    · exact q2.elim

/-! ### isinstance -/
def tyName : D → Option String
  | .non => some "NoneType"
  | .bl _ => some "bool"
  | .int _ => some "int"
  | .str _ => some "str"
  | .lst _ => some "list"
  | .rol _ => some "list"
  | .tup _ => some "tuple"
  | .dct _ _ => some "dict"
  | _ => none
def isiT (a b : String) : Bool := a == b || (a == "bool" && b == "int")
def tyNames : List String := ["NoneType", "bool", "int", "str", "list", "tuple", "dict"]
theorem kit_all : (tyNames.all fun a => tyNames.all fun b => decide (kitB a b = some (isiT a b))) = true := by decide +kernel
theorem kit_of_names {a b : String} (ha : a ∈ tyNames) (hb : b ∈ tyNames) : kitB a b = some (isiT a b) :=
  of_decide_eq_true (List.all_eq_true.mp (List.all_eq_true.mp kit_all a ha) b hb)
theorem tyX_of {K : PySem.W.Frag} {F H : Hp} {d : D} {v : V} {n : String} (s : Same F H) (p : PRep K F H d v) (e : tyName d = some n) : TyX K H v (.type n) ∧ n ∈ tyNames := by
  cases d <;> first | (cases e; done) | skip
  all_goals cases e
  · cases prep_non p; exact ⟨.base .non, by decide⟩
  · cases prep_bl p; exact ⟨.base (.bl _), by decide⟩
  · cases prep_int p; exact ⟨.base (.int _), by decide⟩
  · cases prep_str p; exact ⟨.base (.str _), by decide⟩
  · obtain ⟨a, vs, rfl, h, _⟩ := prep_lst s p
    exact ⟨.base (.lst h), by decide⟩
  · obtain ⟨a, vs, rfl, h, _⟩ := prep_tup s p
    rcases h with (h | ⟨o, h⟩) | ⟨o, its, k, h1, h2, _⟩
    · exact ⟨.base (.tup h), by decide⟩
    · exact ⟨.fTuple h, by decide⟩
    · exact ⟨.kTuple h1 h2, by decide⟩
  · have q : ∃ a, v = .ref a ∧ ((∃ kvs, H a = some (.dK kvs)) ∨ ∃ kvs, H a = some (.dT kvs)) := by
      rcases p with p | ⟨a, rfl, vs, ⟨_, ⟨kk, _, h⟩ | ⟨kk, _, h⟩⟩, _⟩
      · obtain ⟨a, vs, rfl, ⟨_, ⟨kk, _, h⟩ | ⟨kk, _, h⟩⟩, _⟩ := rep_dct.mp p
        · exact ⟨a, rfl, .inl ⟨_, s _ _ h⟩⟩
        · exact ⟨a, rfl, .inr ⟨_, s _ _ h⟩⟩
      · exact ⟨a, rfl, .inl ⟨_, h⟩⟩
      · exact ⟨a, rfl, .inr ⟨_, h⟩⟩
    obtain ⟨a, rfl, ⟨kvs, h⟩ | ⟨kvs, h⟩⟩ := q
    · exact ⟨.base (.dK h), by decide⟩
    · exact ⟨.base (.dT h), by decide⟩
  · obtain ⟨a, vs, rfl, h, _⟩ := prep_rol s p
    rcases h with (h | ⟨o, h⟩) | ⟨o, its, k, h1, h2, _⟩
    · exact ⟨.base (.lst h), by decide⟩
    · exact ⟨.base (.frz h), by decide⟩
    · exact ⟨.kList h1 h2, by decide⟩
def isinD : List D → Ans
  | [d, .ty n] => (tyName d).map fun a => (n ∈ tyNames, .v (.bl (isiT a n)))
  | _ => none
theorem cd_isin {K : PySem.W.Frag} : CallD K (rIsi K) isinD := by
  intro F H ds vs z Q s p e hz hQ
  match ds, p, e with
  | [d, .ty n], p, e =>
    obtain ⟨a, e1, e2⟩ := Option.map_eq_some_iff.mp e
    cases e2
    obtain ⟨v, w, rfl, q1, q2⟩ := paired2 p
    cases prep_ty q2
    obtain ⟨t1, t2⟩ := tyX_of s q1 e1
    exact ⟨v, .ty n, _, _, _, rfl, .ty n, t1, kit_ty (kit_of_names t2 hz), hQ _ _ out_bl⟩
/-- isinstance(e, (T1, T2, ..)) with written built-in classes -/
def tIsiT (ns : List String) (te : TD) : TD := fun env k => te env fun e1 r => got (content e1 r) fun d => got (tyName d) fun a => (∀ n ∈ ns, n ∈ tyNames) ∧ k e1 (.val (.bl (ns.any (isiT a))))
structure PTyL (X : Cx) (es : List Expr) (ns : List String) : Prop where
  run : PA X es (fun _ H Q => Q (ns.map V.ty) H)
theorem pty_nil {X : Cx} : PTyL X [] [] := ⟨pa_nil⟩
theorem pty_cons {X : Cx} {x : Str} {n : String} {pos : Pos} {es : List Expr} {ns : List String} (hg : Gl X x) (hm : X.mg x = none) (hv : bootBuiltins x = some (.type n)) (h : PTyL X es ns) (hn : x ≠ "__name__" := by decide) (hd : (x == ("__debug__" : Str)) = false := by decide)
    (hs : starEach (.Name x pos :: es) X.env = (false, eval (.Name x pos) X.env) :: starEach es X.env := by rfl) : PTyL X (.Name x pos :: es) (n :: ns) := ⟨pa_cons (pe_bltn (v := .ty n) hg hm hv rfl hn hd) h.run hs⟩
theorem kitAny_names {K : PySem.W.Frag} {a : String} (ha : a ∈ tyNames) : ∀ {ns : List String}, (∀ n ∈ ns, n ∈ tyNames) → PySem.W.kitAny K (.type a) (ns.map Value.type) = some (ns.any (isiT a))
  | [], _ => rfl
  | n :: ns, h => by
    have h1 := kit_ty (K := K) (kit_of_names ha (h n List.mem_cons_self))
    have h2 := kitAny_names (K := K) ha (ns := ns) fun m hm => h m (List.mem_cons_of_mem _ hm)
    show PySem.W.kitAny K (.type a) (.type n :: ns.map Value.type) = some (isiT a n || ns.any (isiT a))
    cases e : isiT a n with
    | true => exact kitAny_cons (h1.trans (by rw [e])) (fun z => by cases z) fun _ => rfl
    | false => exact kitAny_cons (h1.trans (by rw [e])) (fun _ => by rw [Bool.false_or]; exact h2) fun z => by cases z
theorem clsV_names : ∀ ns : List String, Paired ClsV (ns.map V.ty) (ns.map Value.type)
  | [] => .nil
  | n :: ns => .cons (.ty n) (clsV_names ns)
theorem x_isiT {X : Cx} {x : Str} {p pos pt : Pos} {k : Nat} {e : Expr} {es : List Expr} {ns : List String} {te : TD} (hg : Gl X "isinstance") (hm : X.mg "isinstance" = none) (he : PX X e te) (ht : PTyL X es ns) (hl : ns.length ≤ sizeLine := by decide)
    (he1 : starEach [e, .Tuple es k pt] X.env = (false, eval e X.env) :: starEach [.Tuple es k pt] X.env := by rfl) (he2 : starEach [.Tuple es k pt] X.env = (false, eval (.Tuple es k pt) X.env) :: starEach [] X.env := by rfl) (hpl : (backTo pos (starEach [.Tuple es k pt] X.env)).any (·.1) = false := by rfl) :
    PX X (.Call (.Name "isinstance" p) [e, .Tuple es k pt] [] pos) (tIsiT ns te) := by
  refine ⟨(pe_callB call_isiT hg hm (by decide +kernel) (pa_cons he.run (pa_cons (pe_tup ht.run) pa_nil he2) he1) (by decide) (by decide) he1 hpl).imp fun σ H Q ⟨F, env, k, S, h, hk⟩ => ?_⟩
  refine ⟨F, env, _, S, h, fun e1 r ⟨d, c, a, ea, hns, q⟩ F1 H1 v S1 T1 rr => ?_⟩
  refine ⟨by rw [List.length_map]; exact hl, fun pT n => ?_⟩
  obtain ⟨F1', S1', T1', ra⟩ := seal_ok T1 S1 rr
  have S2 := S1'.laid (o := .tup (ns.map V.ty)) n
  have T2 := T1'.trans (Step.laid (o := .tup (ns.map V.ty)) S1' n)
  have pr : PRep X.K F1' (upd H1 pT (.tup (ns.map V.ty))) d v := by
    have c' : content e1 r.seal = some d := by cases r <;> exact c
    exact RR.prep S2 (RA.rr (H0 := H) ra) c'
  obtain ⟨t1, t2⟩ := tyX_of S2.sub pr ea
  exact ⟨v, pT, ns.map V.ty, _, ns.map Value.type, _, rfl, upd_same, clsV_names ns, t1, kitAny_names t2 hns, hk _ _ q F1' _ _ S2 T2 rr_bl⟩
end Pd

set_option Elab.async false
set_option linter.all false
set_option maxRecDepth 100000
/-! Equality and order of data at any depth. -/
namespace Pd
open PySem PySem.Spec PyProof.Rows L2

mutual
def dEq : D → D → Bool
  | .non, .non => true
  | .bl a, .bl b => a == b
  | .bl a, .int b => (if a then 1 else 0) == b
  | .int a, .bl b => a == (if b then 1 else 0)
  | .int a, .int b => a == b
  | .str a, .str b => a == b
  | .lst xs, .lst ys => dEqs xs ys
  | .tup xs, .tup ys => dEqs xs ys
  | _, _ => false
def dEqs : List D → List D → Bool
  | [], [] => true
  | x :: xs, y :: ys => dEq x y && dEqs xs ys
  | _, _ => false
end
/-- data that == reads: nested at most n deep -/
def EqOk : Nat → D → Prop
  | _, .non => True
  | _, .bl _ => True
  | _, .int _ => True
  | _, .str _ => True
  | n + 1, .lst ds => ∀ d ∈ ds, EqOk n d
  | n + 1, .tup ds => ∀ d ∈ ds, EqOk n d
  | _, _ => False
theorem EqOk.up : ∀ {n m : Nat} {d : D}, EqOk n d → n ≤ m → EqOk m d
  | n, m, .non, _, _ => by cases m <;> trivial
  | n, m, .bl _, _, _ => by cases m <;> trivial
  | n, m, .int _, _, _ => by cases m <;> trivial
  | n, m, .str _, _, _ => by cases m <;> trivial
  | n + 1, m + 1, .lst ds, h, l => fun d hd => EqOk.up (h d hd) (by omega)
  | n + 1, m + 1, .tup ds, h, l => fun d hd => EqOk.up (h d hd) (by omega)
  | n + 1, 0, .lst ds, h, l => by omega
  | n + 1, 0, .tup ds, h, l => by omega
  | 0, _, .lst ds, h, _ => h.elim
  | 0, _, .tup ds, h, _ => h.elim
  | 0, _, .rol ds, h, _ => h.elim
  | n + 1, _, .rol ds, h, _ => h.elim
  | 0, _, .dct _ _, h, _ => h.elim
  | n + 1, _, .dct _ _, h, _ => h.elim
  | 0, _, .obj _ _ _, h, _ => h.elim
  | n + 1, _, .obj _ _ _, h, _ => h.elim
  | 0, _, .cls _, h, _ => h.elim
  | n + 1, _, .cls _, h, _ => h.elim
  | 0, _, .ty _, h, _ => h.elim
  | n + 1, _, .ty _, h, _ => h.elim
/-- the data as it stands in the model's heap -/
def Sees (h : Heap) : Nat → D → Value → Prop
  | _, .non, u => u = Value.none
  | _, .bl b, u => u = Value.bool b
  | _, .int i, u => ∃ t, u = Value.int i t
  | _, .str x, u => ∃ t, u = Value.str x t
  | n + 1, .lst ds, u => ∃ (a : Addr) (its : List Value), u = Value.ref a ∧ h.IsList a its.toArray ∧ Paired (fun d u => Sees h n d u) ds its
  | n + 1, .tup ds, u => ∃ (a : Addr) (its : List Value), u = Value.ref a ∧ h.IsTuple a its.toArray ∧ Paired (fun d u => Sees h n d u) ds its
  | _, _, _ => False
section
variable {X : Cx} {pins : List (Addr × Obj)} {σ : St} {F H : Hp} {s : Shared}
theorem reps_sees {K : PySem.W.Frag} {P : D → Value → Prop} : ∀ {ds : List D} {vs : List V} {us : List Value}, Reps K F ds vs → Vals vs us → (∀ d ∈ ds, ∀ v u, Rep K F d v → RelV v u → P d u) → Paired P ds us
  | [], vs, us, r, rv, h => by
    cases reps_nil.mp r
    cases rv
    exact .nil
  | d :: ds, vs, us, r, rv, h => by
    obtain ⟨v, vs', rfl, r1, r2⟩ := reps_cons.mp r
    cases rv with
    | cons q1 q2 => exact .cons (h d List.mem_cons_self v _ r1 q1) (reps_sees r2 q2 fun d' hd => h d' (List.mem_cons_of_mem _ hd))
theorem sees_of (I : Inv X pins σ H s) (sub : Same F H) : ∀ (n : Nat) (d : D) (v : V) (u : Value), EqOk n d → PRep X.K F H d v → RelV v u → Sees s.heap n d u
  | n, .non, v, u, _, p, r => by
    cases prep_non p; cases r
    cases n <;> rfl
  | n, .bl b, v, u, _, p, r => by
    cases prep_bl p; cases r
    cases n <;> rfl
  | n, .int i, v, u, _, p, r => by
    cases prep_int p; obtain ⟨t, rfl⟩ := r
    cases n <;> exact ⟨t, rfl⟩
  | n, .str x, v, u, _, p, r => by
    cases prep_str p; obtain ⟨t, rfl⟩ := r
    cases n <;> exact ⟨t, rfl⟩
  | n + 1, .lst ds, v, u, ok, p, r => by
    obtain ⟨a, vs, rfl, h1, r1⟩ := prep_lst sub p
    cases r
    obtain ⟨its, rv, pl, _⟩ := I.list (a := a) (xs := vs) (.inl (.inl h1))
    exact ⟨a, its, rfl, pl.isList, reps_sees r1 rv fun d hd v u r q => sees_of I sub n d v u (ok d hd) (.inl r) q⟩
  | n + 1, .tup ds, v, u, ok, p, r => by
    obtain ⟨a, vs, rfl, h1, r1⟩ := prep_tup sub p
    cases r
    obtain ⟨its, rv, pl, _⟩ := I.tuple h1
    exact ⟨a, its, rfl, pl, reps_sees r1 rv fun d hd v u r q => sees_of I sub n d v u (ok d hd) (.inl r) q⟩
  | 0, .lst ds, _, _, h, _, _ => h.elim
  | 0, .tup ds, _, _, h, _, _ => h.elim
  | 0, .rol ds, _, _, h, _, _ => h.elim
  | n + 1, .rol ds, _, _, h, _, _ => h.elim
  | 0, .dct _ _, _, _, h, _, _ => h.elim
  | n + 1, .dct _ _, _, _, h, _, _ => h.elim
  | 0, .obj _ _ _, _, _, h, _, _ => h.elim
  | n + 1, .obj _ _ _, _, _, h, _, _ => h.elim
  | 0, .cls _, _, _, h, _, _ => h.elim
  | n + 1, .cls _, _, _, h, _, _ => h.elim
  | 0, .ty _, _, _, h, _, _ => h.elim
  | n + 1, .ty _, _, _, h, _, _ => h.elim
end
theorem isl_inj {h : Heap} {a : Addr} {xs ys : List Value} (p : h.IsList a xs.toArray) (q : h.IsList a ys.toArray) : xs = ys := by
  obtain ⟨o, e1, _, n, d1⟩ := p
  obtain ⟨o', e2, _, m, d2⟩ := q
  rw [e1] at e2; cases e2
  rw [d1] at d2
  injection d2 with h1 _
  simpa using congrArg Array.toList h1
theorem ist_inj {h : Heap} {a : Addr} {xs ys : List Value} (p : h.IsTuple a xs.toArray) (q : h.IsTuple a ys.toArray) : xs = ys := by
  obtain ⟨o, e1, _, n, d1⟩ := p
  obtain ⟨o', e2, _, m, d2⟩ := q
  rw [e1] at e2; cases e2
  rw [d1] at d2
  injection d2 with h1 _
  simpa using congrArg Array.toList h1
theorem ilt_ne {h : Heap} {a : Addr} {xs ys : List Value} (p : h.IsList a xs.toArray) (q : h.IsTuple a ys.toArray) : False := by
  obtain ⟨o, e1, c1, _⟩ := p
  obtain ⟨o', e2, c2, _⟩ := q
  rw [e1] at e2; cases e2
  rw [c1] at c2
  injection c2 with h1
  exact absurd h1 (by decide)
theorem dEqs_of {P Q : D → Value → Prop} : ∀ {ds es : List D} {us : List Value}, Paired P ds us → Paired Q es us → (∀ d e u, d ∈ ds → P d u → Q e u → dEq d e = true) → dEqs ds es = true
  | _, _, _, .nil, .nil, _ => rfl
  | d :: ds, e :: es, _, .cons a1 b1, .cons a2 b2, h => by
    show (dEq d e && dEqs ds es) = true
    rw [h _ _ _ List.mem_cons_self a1 a2, dEqs_of b1 b2 fun d e u hd => h d e u (List.mem_cons_of_mem _ hd)]
    rfl
theorem sees_same {h : Heap} : ∀ (n m : Nat) (d e : D) (u : Value), Sees h n d u → Sees h m e u → dEq d e = true
  | n, m, .non, .non, u, p, q => by
    have p : u = Value.none := by cases n <;> exact p
    subst p
    have e1 : Value.none = Value.none := by cases m <;> exact q
    cases e1
    simp [dEq]
  | n, m, .non, .bl y, u, p, q => by
    have p : u = Value.none := by cases n <;> exact p
    subst p
    have e1 : Value.none = Value.bool y := by cases m <;> exact q
    cases e1
  | n, m, .non, .int y, u, p, q => by
    have p : u = Value.none := by cases n <;> exact p
    subst p
    obtain ⟨t2, e1⟩ : ∃ t2, Value.none = Value.int y t2 := by cases m <;> exact q
    cases e1
  | n, m, .non, .str y, u, p, q => by
    have p : u = Value.none := by cases n <;> exact p
    subst p
    obtain ⟨t2, e1⟩ : ∃ t2, Value.none = Value.str y t2 := by cases m <;> exact q
    cases e1
  | n, m + 1, .non, .lst es, u, p, q => by
    have p : u = Value.none := by cases n <;> exact p
    subst p
    obtain ⟨b, ws, e1, g2, r2⟩ := q
    cases e1
  | n, m + 1, .non, .tup es, u, p, q => by
    have p : u = Value.none := by cases n <;> exact p
    subst p
    obtain ⟨b, ws, e1, g2, r2⟩ := q
    cases e1
  | n, m, .bl x, .non, u, p, q => by
    have p : u = Value.bool x := by cases n <;> exact p
    subst p
    have e1 : Value.bool x = Value.none := by cases m <;> exact q
    cases e1
  | n, m, .bl x, .bl y, u, p, q => by
    have p : u = Value.bool x := by cases n <;> exact p
    subst p
    have e1 : Value.bool x = Value.bool y := by cases m <;> exact q
    cases e1
    simp [dEq]
  | n, m, .bl x, .int y, u, p, q => by
    have p : u = Value.bool x := by cases n <;> exact p
    subst p
    obtain ⟨t2, e1⟩ : ∃ t2, Value.bool x = Value.int y t2 := by cases m <;> exact q
    cases e1
  | n, m, .bl x, .str y, u, p, q => by
    have p : u = Value.bool x := by cases n <;> exact p
    subst p
    obtain ⟨t2, e1⟩ : ∃ t2, Value.bool x = Value.str y t2 := by cases m <;> exact q
    cases e1
  | n, m + 1, .bl x, .lst es, u, p, q => by
    have p : u = Value.bool x := by cases n <;> exact p
    subst p
    obtain ⟨b, ws, e1, g2, r2⟩ := q
    cases e1
  | n, m + 1, .bl x, .tup es, u, p, q => by
    have p : u = Value.bool x := by cases n <;> exact p
    subst p
    obtain ⟨b, ws, e1, g2, r2⟩ := q
    cases e1
  | n, m, .int x, .non, u, p, q => by
    obtain ⟨t, p⟩ : ∃ t, u = Value.int x t := by cases n <;> exact p
    subst p
    have e1 : Value.int x t = Value.none := by cases m <;> exact q
    cases e1
  | n, m, .int x, .bl y, u, p, q => by
    obtain ⟨t, p⟩ : ∃ t, u = Value.int x t := by cases n <;> exact p
    subst p
    have e1 : Value.int x t = Value.bool y := by cases m <;> exact q
    cases e1
  | n, m, .int x, .int y, u, p, q => by
    obtain ⟨t, p⟩ : ∃ t, u = Value.int x t := by cases n <;> exact p
    subst p
    obtain ⟨t2, e1⟩ : ∃ t2, Value.int x t = Value.int y t2 := by cases m <;> exact q
    cases e1
    simp [dEq]
  | n, m, .int x, .str y, u, p, q => by
    obtain ⟨t, p⟩ : ∃ t, u = Value.int x t := by cases n <;> exact p
    subst p
    obtain ⟨t2, e1⟩ : ∃ t2, Value.int x t = Value.str y t2 := by cases m <;> exact q
    cases e1
  | n, m + 1, .int x, .lst es, u, p, q => by
    obtain ⟨t, p⟩ : ∃ t, u = Value.int x t := by cases n <;> exact p
    subst p
    obtain ⟨b, ws, e1, g2, r2⟩ := q
    cases e1
  | n, m + 1, .int x, .tup es, u, p, q => by
    obtain ⟨t, p⟩ : ∃ t, u = Value.int x t := by cases n <;> exact p
    subst p
    obtain ⟨b, ws, e1, g2, r2⟩ := q
    cases e1
  | n, m, .str x, .non, u, p, q => by
    obtain ⟨t, p⟩ : ∃ t, u = Value.str x t := by cases n <;> exact p
    subst p
    have e1 : Value.str x t = Value.none := by cases m <;> exact q
    cases e1
  | n, m, .str x, .bl y, u, p, q => by
    obtain ⟨t, p⟩ : ∃ t, u = Value.str x t := by cases n <;> exact p
    subst p
    have e1 : Value.str x t = Value.bool y := by cases m <;> exact q
    cases e1
  | n, m, .str x, .int y, u, p, q => by
    obtain ⟨t, p⟩ : ∃ t, u = Value.str x t := by cases n <;> exact p
    subst p
    obtain ⟨t2, e1⟩ : ∃ t2, Value.str x t = Value.int y t2 := by cases m <;> exact q
    cases e1
  | n, m, .str x, .str y, u, p, q => by
    obtain ⟨t, p⟩ : ∃ t, u = Value.str x t := by cases n <;> exact p
    subst p
    obtain ⟨t2, e1⟩ : ∃ t2, Value.str x t = Value.str y t2 := by cases m <;> exact q
    cases e1
    simp [dEq]
  | n, m + 1, .str x, .lst es, u, p, q => by
    obtain ⟨t, p⟩ : ∃ t, u = Value.str x t := by cases n <;> exact p
    subst p
    obtain ⟨b, ws, e1, g2, r2⟩ := q
    cases e1
  | n, m + 1, .str x, .tup es, u, p, q => by
    obtain ⟨t, p⟩ : ∃ t, u = Value.str x t := by cases n <;> exact p
    subst p
    obtain ⟨b, ws, e1, g2, r2⟩ := q
    cases e1
  | n + 1, m, .lst ds, .non, u, p, q => by
    obtain ⟨a, us, rfl, g1, r1⟩ := p
    have e1 : Value.ref a = Value.none := by cases m <;> exact q
    cases e1
  | n + 1, m, .lst ds, .bl y, u, p, q => by
    obtain ⟨a, us, rfl, g1, r1⟩ := p
    have e1 : Value.ref a = Value.bool y := by cases m <;> exact q
    cases e1
  | n + 1, m, .lst ds, .int y, u, p, q => by
    obtain ⟨a, us, rfl, g1, r1⟩ := p
    obtain ⟨t2, e1⟩ : ∃ t2, Value.ref a = Value.int y t2 := by cases m <;> exact q
    cases e1
  | n + 1, m, .lst ds, .str y, u, p, q => by
    obtain ⟨a, us, rfl, g1, r1⟩ := p
    obtain ⟨t2, e1⟩ : ∃ t2, Value.ref a = Value.str y t2 := by cases m <;> exact q
    cases e1
  | n + 1, m + 1, .lst ds, .lst es, u, p, q => by
    obtain ⟨a, us, rfl, g1, r1⟩ := p
    obtain ⟨b, ws, e1, g2, r2⟩ := q
    cases e1
    cases isl_inj g1 g2
    show dEqs ds es = true
    exact dEqs_of r1 r2 fun d e u _ z1 z2 => sees_same n m d e u z1 z2
  | n + 1, m + 1, .lst ds, .tup es, u, p, q => by
    obtain ⟨a, us, rfl, g1, r1⟩ := p
    obtain ⟨b, ws, e1, g2, r2⟩ := q
    cases e1
    exact (ilt_ne g1 g2).elim
  | n + 1, m, .tup ds, .non, u, p, q => by
    obtain ⟨a, us, rfl, g1, r1⟩ := p
    have e1 : Value.ref a = Value.none := by cases m <;> exact q
    cases e1
  | n + 1, m, .tup ds, .bl y, u, p, q => by
    obtain ⟨a, us, rfl, g1, r1⟩ := p
    have e1 : Value.ref a = Value.bool y := by cases m <;> exact q
    cases e1
  | n + 1, m, .tup ds, .int y, u, p, q => by
    obtain ⟨a, us, rfl, g1, r1⟩ := p
    obtain ⟨t2, e1⟩ : ∃ t2, Value.ref a = Value.int y t2 := by cases m <;> exact q
    cases e1
  | n + 1, m, .tup ds, .str y, u, p, q => by
    obtain ⟨a, us, rfl, g1, r1⟩ := p
    obtain ⟨t2, e1⟩ : ∃ t2, Value.ref a = Value.str y t2 := by cases m <;> exact q
    cases e1
  | n + 1, m + 1, .tup ds, .lst es, u, p, q => by
    obtain ⟨a, us, rfl, g1, r1⟩ := p
    obtain ⟨b, ws, e1, g2, r2⟩ := q
    cases e1
    exact (ilt_ne g2 g1).elim
  | n + 1, m + 1, .tup ds, .tup es, u, p, q => by
    obtain ⟨a, us, rfl, g1, r1⟩ := p
    obtain ⟨b, ws, e1, g2, r2⟩ := q
    cases e1
    cases ist_inj g1 g2
    show dEqs ds es = true
    exact dEqs_of r1 r2 fun d e u _ z1 z2 => sees_same n m d e u z1 z2
  | n, m, .rol _, e, u, p, q => by cases n <;> exact p.elim
  | n, m, .dct _ _, e, u, p, q => by cases n <;> exact p.elim
  | n, m, .obj _ _ _, e, u, p, q => by cases n <;> exact p.elim
  | n, m, .cls _, e, u, p, q => by cases n <;> exact p.elim
  | n, m, .ty _, e, u, p, q => by cases n <;> exact p.elim
  | 0, m, .lst _, e, u, p, q => p.elim
  | 0, m, .tup _, e, u, p, q => p.elim
  | n, m, .non, .rol _, u, p, q => by cases m <;> exact q.elim
  | n, m, .non, .dct _ _, u, p, q => by cases m <;> exact q.elim
  | n, m, .non, .obj _ _ _, u, p, q => by cases m <;> exact q.elim
  | n, m, .non, .cls _, u, p, q => by cases m <;> exact q.elim
  | n, m, .non, .ty _, u, p, q => by cases m <;> exact q.elim
  | n, 0, .non, .lst _, u, p, q => q.elim
  | n, 0, .non, .tup _, u, p, q => q.elim
  | n, m, .bl x, .rol _, u, p, q => by cases m <;> exact q.elim
  | n, m, .bl x, .dct _ _, u, p, q => by cases m <;> exact q.elim
  | n, m, .bl x, .obj _ _ _, u, p, q => by cases m <;> exact q.elim
  | n, m, .bl x, .cls _, u, p, q => by cases m <;> exact q.elim
  | n, m, .bl x, .ty _, u, p, q => by cases m <;> exact q.elim
  | n, 0, .bl x, .lst _, u, p, q => q.elim
  | n, 0, .bl x, .tup _, u, p, q => q.elim
  | n, m, .int x, .rol _, u, p, q => by cases m <;> exact q.elim
  | n, m, .int x, .dct _ _, u, p, q => by cases m <;> exact q.elim
  | n, m, .int x, .obj _ _ _, u, p, q => by cases m <;> exact q.elim
  | n, m, .int x, .cls _, u, p, q => by cases m <;> exact q.elim
  | n, m, .int x, .ty _, u, p, q => by cases m <;> exact q.elim
  | n, 0, .int x, .lst _, u, p, q => q.elim
  | n, 0, .int x, .tup _, u, p, q => q.elim
  | n, m, .str x, .rol _, u, p, q => by cases m <;> exact q.elim
  | n, m, .str x, .dct _ _, u, p, q => by cases m <;> exact q.elim
  | n, m, .str x, .obj _ _ _, u, p, q => by cases m <;> exact q.elim
  | n, m, .str x, .cls _, u, p, q => by cases m <;> exact q.elim
  | n, m, .str x, .ty _, u, p, q => by cases m <;> exact q.elim
  | n, 0, .str x, .lst _, u, p, q => q.elim
  | n, 0, .str x, .tup _, u, p, q => q.elim
  | n + 1, m, .lst ds, .rol _, u, p, q => by cases m <;> exact q.elim
  | n + 1, m, .lst ds, .dct _ _, u, p, q => by cases m <;> exact q.elim
  | n + 1, m, .lst ds, .obj _ _ _, u, p, q => by cases m <;> exact q.elim
  | n + 1, m, .lst ds, .cls _, u, p, q => by cases m <;> exact q.elim
  | n + 1, m, .lst ds, .ty _, u, p, q => by cases m <;> exact q.elim
  | n + 1, 0, .lst ds, .lst _, u, p, q => q.elim
  | n + 1, 0, .lst ds, .tup _, u, p, q => q.elim
  | n + 1, m, .tup ds, .rol _, u, p, q => by cases m <;> exact q.elim
  | n + 1, m, .tup ds, .dct _ _, u, p, q => by cases m <;> exact q.elim
  | n + 1, m, .tup ds, .obj _ _ _, u, p, q => by cases m <;> exact q.elim
  | n + 1, m, .tup ds, .cls _, u, p, q => by cases m <;> exact q.elim
  | n + 1, m, .tup ds, .ty _, u, p, q => by cases m <;> exact q.elim
  | n + 1, 0, .tup ds, .lst _, u, p, q => q.elim
  | n + 1, 0, .tup ds, .tup _, u, p, q => q.elim
theorem dEqs_all : ∀ (ds es : List D), ds.length = es.length → dEqs ds es = (List.range ds.length).all fun j => dEq (ds.getD j .non) (es.getD j .non)
  | [], [], _ => rfl
  | d :: ds, e :: es, h => by
    show (dEq d e && dEqs ds es) = _
    rw [dEqs_all ds es (by simpa using h), List.length_cons, List.range_succ_eq_map, List.all_cons, List.all_map]
    rfl
theorem dEqs_len : ∀ (ds es : List D), ds.length ≠ es.length → dEqs ds es = false
  | [], [], h => absurd rfl h
  | [], _ :: _, _ => rfl
  | _ :: _, [], _ => rfl
  | d :: ds, e :: es, h => by
    show (dEq d e && dEqs ds es) = false
    rw [dEqs_len ds es (fun z => h (by simpa using z)), Bool.and_false]
theorem paired_len {α β : Type} {P : α → β → Prop} : ∀ {xs : List α} {ys : List β}, Paired P xs ys → xs.length = ys.length
  | _, _, .nil => rfl
  | _, _, .cons _ t => congrArg Nat.succ (paired_len t)
theorem paired_get {α β : Type} {P : α → β → Prop} : ∀ {xs : List α} {ys : List β} {i : Nat} {y : β}, Paired P xs ys → ys[i]? = some y → ∃ x, xs[i]? = some x ∧ P x y
  | _, _, _, _, .nil, e => by cases e
  | _, _, 0, _, .cons a _, e => by cases e; exact ⟨_, rfl, a⟩
  | _, _, i + 1, _, .cons _ t, e => paired_get (i := i) t e

theorem items_run2 {s : Shared} {n : Nat} {A : Around} (ih : ∀ (d e : D) (u w : Value) (A : Around), Sees s.heap n d u → Sees s.heap n e w → A.units + n < cLine → SeqAt.EqAt A s u w (dEq d e)) {ds es : List D} {us ws : List Value} (r1 : Paired (fun d u => Sees s.heap n d u) ds us) (r2 : Paired (fun d u => Sees s.heap n d u) es ws) (hu : A.units + n < cLine) (j : Nat) (h1 : j < us.toArray.size) (h2 : j < ws.toArray.size) : SeqAt.EqAt A s us.toArray[j] ws.toArray[j] (dEq (ds.getD j .non) (es.getD j .non)) := by
  rw [List.size_toArray] at h1 h2
  obtain ⟨d, e1, p1⟩ := paired_get r1 (List.getElem?_eq_getElem h1)
  obtain ⟨e, e2, p2⟩ := paired_get r2 (List.getElem?_eq_getElem h2)
  have e3 : ds.getD j .non = d := by rw [List.getD_eq_getElem?_getD, e1]; rfl
  have e4 : es.getD j .non = e := by rw [List.getD_eq_getElem?_getD, e2]; rfl
  rw [e3, e4]
  simpa using ih d e us[j] ws[j] A p1 p2 hu
theorem runlst {s : Shared} {n : Nat} {A : Around} (ih : (∀ (d e : D) (u w : Value) (A : Around), Sees s.heap n d u → Sees s.heap n e w → A.units + n < cLine → SeqAt.EqAt A s u w (dEq d e)) ∧ (∀ (d e : D) (u w : Value) (A : Around), Sees s.heap n d u → Sees s.heap n e w → A.units + n < cLine → SeqAt.RcAt A s u w (dEq d e))) {a b : Addr} {ds es : List D} {us ws : List Value} (g1 : s.heap.IsList a us.toArray) (g2 : s.heap.IsList b ws.toArray) (r1 : Paired (fun d u => Sees s.heap n d u) ds us) (r2 : Paired (fun d u => Sees s.heap n d u) es ws) (hu : A.units + (n + 1) < cLine) : SeqAt.RcAt A s (.ref a) (.ref b) (dEq (.lst ds) (.lst es)) := by
  have l1 := paired_len r1
  have l2 := paired_len r2
  have e0 : dEq (.lst ds) (.lst es) = dEqs ds es := by unfold dEq; rfl
  rw [e0]
  by_cases h : ds.length = es.length
  · rw [dEqs_all ds es h]
    have := SeqAt.RcAt.lists (e := fun j => dEq (ds.getD j .non) (es.getD j .non)) g1 g2 (by rw [List.size_toArray, List.size_toArray]; omega) (A := A) (by omega) (items_run2 (A := A.in1) ih.1 r1 r2 (by show A.units + 1 + n < cLine; omega))
    rw [List.size_toArray, ← l1] at this
    exact this
  · rw [dEqs_len ds es h]
    exact SeqAt.RcAt.lists_lengths g1 g2 (by rw [List.size_toArray, List.size_toArray, bne_iff_ne]; omega) (by omega)
theorem runtup {s : Shared} {n : Nat} {A : Around} (ih : (∀ (d e : D) (u w : Value) (A : Around), Sees s.heap n d u → Sees s.heap n e w → A.units + n < cLine → SeqAt.EqAt A s u w (dEq d e)) ∧ (∀ (d e : D) (u w : Value) (A : Around), Sees s.heap n d u → Sees s.heap n e w → A.units + n < cLine → SeqAt.RcAt A s u w (dEq d e))) {a b : Addr} {ds es : List D} {us ws : List Value} (g1 : s.heap.IsTuple a us.toArray) (g2 : s.heap.IsTuple b ws.toArray) (r1 : Paired (fun d u => Sees s.heap n d u) ds us) (r2 : Paired (fun d u => Sees s.heap n d u) es ws) (hu : A.units + (n + 1) < cLine) : SeqAt.RcAt A s (.ref a) (.ref b) (dEq (.tup ds) (.tup es)) := by
  have l1 := paired_len r1
  have l2 := paired_len r2
  have e0 : dEq (.tup ds) (.tup es) = dEqs ds es := by unfold dEq; rfl
  rw [e0]
  have := SeqAt.RcAt.tuples (e := fun j => dEq (ds.getD j .non) (es.getD j .non)) g1 g2 (A := A) (by omega) (items_run2 (A := A.in1) ih.1 r1 r2 (by show A.units + 1 + n < cLine; omega))
  rw [List.size_toArray, List.size_toArray, ← l1, ← l2] at this
  by_cases h : ds.length = es.length
  · rw [dEqs_all ds es h]
    rw [← h, Nat.min_self, beq_self_eq_true, Bool.and_true] at this
    exact this
  · rw [dEqs_len ds es h]
    rw [beq_eq_false_iff_ne.mpr h, Bool.and_false] at this
    exact this
theorem dEq_run {s : Shared} : ∀ (n : Nat), (∀ (d e : D) (u w : Value) (A : Around), Sees s.heap n d u → Sees s.heap n e w → A.units + n < cLine → SeqAt.EqAt A s u w (dEq d e)) ∧ (∀ (d e : D) (u w : Value) (A : Around), Sees s.heap n d u → Sees s.heap n e w → A.units + n < cLine → SeqAt.RcAt A s u w (dEq d e)) := by
  intro n
  induction n with
  | zero =>
    refine ⟨?_, ?_⟩
    · skip
      intro d e u w A p q hu
      cases d with
      | non =>
        cases (show u = Value.none from p)
        cases e with
        | non =>
          cases (show w = Value.none from q)
          exact SeqAt.EqAt.same _
        | bl y =>
          cases (show w = Value.bool y from q)
          exact SeqAt.EqAt.none_bool y
        | int y =>
          obtain ⟨t2, rfl⟩ := (show ∃ t, w = Value.int y t from q)
          exact SeqAt.EqAt.none_int y t2
        | str y =>
          obtain ⟨t2, rfl⟩ := (show ∃ t, w = Value.str y t from q)
          exact SeqAt.EqAt.none_str y t2
        | _ => exact q.elim
      | bl x =>
        cases (show u = Value.bool x from p)
        cases e with
        | non =>
          cases (show w = Value.none from q)
          exact SeqAt.EqAt.bool_none x
        | bl y =>
          cases (show w = Value.bool y from q)
          exact SeqAt.EqAt.bool_bool x y
        | int y =>
          obtain ⟨t2, rfl⟩ := (show ∃ t, w = Value.int y t from q)
          exact SeqAt.EqAt.bool_int x y t2
        | str y =>
          obtain ⟨t2, rfl⟩ := (show ∃ t, w = Value.str y t from q)
          exact SeqAt.EqAt.bool_str x y t2
        | _ => exact q.elim
      | int x =>
        obtain ⟨t, rfl⟩ := (show ∃ t, u = Value.int x t from p)
        cases e with
        | non =>
          cases (show w = Value.none from q)
          exact SeqAt.EqAt.int_none x t
        | bl y =>
          cases (show w = Value.bool y from q)
          exact SeqAt.EqAt.int_bool x t y
        | int y =>
          obtain ⟨t2, rfl⟩ := (show ∃ t, w = Value.int y t from q)
          exact SeqAt.EqAt.int_int x t y t2
        | str y =>
          obtain ⟨t2, rfl⟩ := (show ∃ t, w = Value.str y t from q)
          exact SeqAt.EqAt.int_str x t y t2
        | _ => exact q.elim
      | str x =>
        obtain ⟨t, rfl⟩ := (show ∃ t, u = Value.str x t from p)
        cases e with
        | non =>
          cases (show w = Value.none from q)
          exact SeqAt.EqAt.str_none x t
        | bl y =>
          cases (show w = Value.bool y from q)
          exact SeqAt.EqAt.str_bool x t y
        | int y =>
          obtain ⟨t2, rfl⟩ := (show ∃ t, w = Value.int y t from q)
          exact SeqAt.EqAt.str_int x t y t2
        | str y =>
          obtain ⟨t2, rfl⟩ := (show ∃ t, w = Value.str y t from q)
          exact SeqAt.EqAt.str_str x t y t2
        | _ => exact q.elim
      | _ => exact p.elim
    · skip
      intro d e u w A p q hu
      cases d with
      | non =>
        cases (show u = Value.none from p)
        cases e with
        | non =>
          cases (show w = Value.none from q)
          exact SeqAt.RcAt.none_none
        | bl y =>
          cases (show w = Value.bool y from q)
          exact SeqAt.RcAt.none_bool y
        | int y =>
          obtain ⟨t2, rfl⟩ := (show ∃ t, w = Value.int y t from q)
          exact SeqAt.RcAt.none_int y t2
        | str y =>
          obtain ⟨t2, rfl⟩ := (show ∃ t, w = Value.str y t from q)
          exact SeqAt.RcAt.none_str y t2
        | _ => exact q.elim
      | bl x =>
        cases (show u = Value.bool x from p)
        cases e with
        | non =>
          cases (show w = Value.none from q)
          exact SeqAt.RcAt.bool_none x
        | bl y =>
          cases (show w = Value.bool y from q)
          exact SeqAt.RcAt.bool_bool x y
        | int y =>
          obtain ⟨t2, rfl⟩ := (show ∃ t, w = Value.int y t from q)
          exact SeqAt.RcAt.bool_int x y t2
        | str y =>
          obtain ⟨t2, rfl⟩ := (show ∃ t, w = Value.str y t from q)
          exact SeqAt.RcAt.bool_str x y t2
        | _ => exact q.elim
      | int x =>
        obtain ⟨t, rfl⟩ := (show ∃ t, u = Value.int x t from p)
        cases e with
        | non =>
          cases (show w = Value.none from q)
          exact SeqAt.RcAt.int_none x t
        | bl y =>
          cases (show w = Value.bool y from q)
          exact SeqAt.RcAt.int_bool x t y
        | int y =>
          obtain ⟨t2, rfl⟩ := (show ∃ t, w = Value.int y t from q)
          exact SeqAt.RcAt.int_int x t y t2
        | str y =>
          obtain ⟨t2, rfl⟩ := (show ∃ t, w = Value.str y t from q)
          exact SeqAt.RcAt.int_str x t y t2
        | _ => exact q.elim
      | str x =>
        obtain ⟨t, rfl⟩ := (show ∃ t, u = Value.str x t from p)
        cases e with
        | non =>
          cases (show w = Value.none from q)
          exact SeqAt.RcAt.str_none x t
        | bl y =>
          cases (show w = Value.bool y from q)
          exact SeqAt.RcAt.str_bool x t y
        | int y =>
          obtain ⟨t2, rfl⟩ := (show ∃ t, w = Value.int y t from q)
          exact SeqAt.RcAt.str_int x t y t2
        | str y =>
          obtain ⟨t2, rfl⟩ := (show ∃ t, w = Value.str y t from q)
          exact SeqAt.RcAt.str_str x t y t2
        | _ => exact q.elim
      | _ => exact p.elim
  | succ n ih =>
    refine ⟨?_, ?_⟩
    · skip
      intro d e u w A p q hu
      cases d with
      | non =>
        cases (show u = Value.none from p)
        cases e with
        | non =>
          cases (show w = Value.none from q)
          exact SeqAt.EqAt.same _
        | bl y =>
          cases (show w = Value.bool y from q)
          exact SeqAt.EqAt.none_bool y
        | int y =>
          obtain ⟨t2, rfl⟩ := (show ∃ t, w = Value.int y t from q)
          exact SeqAt.EqAt.none_int y t2
        | str y =>
          obtain ⟨t2, rfl⟩ := (show ∃ t, w = Value.str y t from q)
          exact SeqAt.EqAt.none_str y t2
        | lst es =>
          obtain ⟨b, ws, rfl, g2, r2⟩ := q
          exact SeqAt.EqAt.none_list g2 (by omega)
        | tup es =>
          obtain ⟨b, ws, rfl, g2, r2⟩ := q
          exact SeqAt.EqAt.none_tuple g2 (by omega)
        | _ => exact q.elim
      | bl x =>
        cases (show u = Value.bool x from p)
        cases e with
        | non =>
          cases (show w = Value.none from q)
          exact SeqAt.EqAt.bool_none x
        | bl y =>
          cases (show w = Value.bool y from q)
          exact SeqAt.EqAt.bool_bool x y
        | int y =>
          obtain ⟨t2, rfl⟩ := (show ∃ t, w = Value.int y t from q)
          exact SeqAt.EqAt.bool_int x y t2
        | str y =>
          obtain ⟨t2, rfl⟩ := (show ∃ t, w = Value.str y t from q)
          exact SeqAt.EqAt.bool_str x y t2
        | lst es =>
          obtain ⟨b, ws, rfl, g2, r2⟩ := q
          exact SeqAt.EqAt.bool_list x g2 (by omega)
        | tup es =>
          obtain ⟨b, ws, rfl, g2, r2⟩ := q
          exact SeqAt.EqAt.bool_tuple x g2 (by omega)
        | _ => exact q.elim
      | int x =>
        obtain ⟨t, rfl⟩ := (show ∃ t, u = Value.int x t from p)
        cases e with
        | non =>
          cases (show w = Value.none from q)
          exact SeqAt.EqAt.int_none x t
        | bl y =>
          cases (show w = Value.bool y from q)
          exact SeqAt.EqAt.int_bool x t y
        | int y =>
          obtain ⟨t2, rfl⟩ := (show ∃ t, w = Value.int y t from q)
          exact SeqAt.EqAt.int_int x t y t2
        | str y =>
          obtain ⟨t2, rfl⟩ := (show ∃ t, w = Value.str y t from q)
          exact SeqAt.EqAt.int_str x t y t2
        | lst es =>
          obtain ⟨b, ws, rfl, g2, r2⟩ := q
          exact SeqAt.EqAt.int_list x t g2 (by omega)
        | tup es =>
          obtain ⟨b, ws, rfl, g2, r2⟩ := q
          exact SeqAt.EqAt.int_tuple x t g2 (by omega)
        | _ => exact q.elim
      | str x =>
        obtain ⟨t, rfl⟩ := (show ∃ t, u = Value.str x t from p)
        cases e with
        | non =>
          cases (show w = Value.none from q)
          exact SeqAt.EqAt.str_none x t
        | bl y =>
          cases (show w = Value.bool y from q)
          exact SeqAt.EqAt.str_bool x t y
        | int y =>
          obtain ⟨t2, rfl⟩ := (show ∃ t, w = Value.int y t from q)
          exact SeqAt.EqAt.str_int x t y t2
        | str y =>
          obtain ⟨t2, rfl⟩ := (show ∃ t, w = Value.str y t from q)
          exact SeqAt.EqAt.str_str x t y t2
        | lst es =>
          obtain ⟨b, ws, rfl, g2, r2⟩ := q
          exact SeqAt.EqAt.str_list x t g2 (by omega)
        | tup es =>
          obtain ⟨b, ws, rfl, g2, r2⟩ := q
          exact SeqAt.EqAt.str_tuple x t g2 (by omega)
        | _ => exact q.elim
      | lst ds =>
        obtain ⟨a, us, rfl, g1, r1⟩ := p
        cases e with
        | non =>
          cases (show w = Value.none from q)
          exact SeqAt.EqAt.list_none g1 (by omega)
        | bl y =>
          cases (show w = Value.bool y from q)
          exact SeqAt.EqAt.list_bool y g1 (by omega)
        | int y =>
          obtain ⟨t2, rfl⟩ := (show ∃ t, w = Value.int y t from q)
          exact SeqAt.EqAt.list_int y t2 g1 (by omega)
        | str y =>
          obtain ⟨t2, rfl⟩ := (show ∃ t, w = Value.str y t from q)
          exact SeqAt.EqAt.list_str y t2 g1 (by omega)
        | lst es =>
          obtain ⟨b, ws, rfl, g2, r2⟩ := q
          by_cases e : a = b
          · subst e
            have e2 : dEq (.lst ds) (.lst es) = true := sees_same (n + 1) (n + 1) (.lst ds) (.lst es) (.ref a) ⟨a, us, rfl, g1, r1⟩ ⟨a, ws, rfl, g2, r2⟩
            rw [e2]; exact SeqAt.EqAt.same _
          · exact SeqAt.EqAt.of_refs e (runlst ih g1 g2 r1 r2 (by omega))
        | tup es =>
          obtain ⟨b, ws, rfl, g2, r2⟩ := q
          exact SeqAt.EqAt.list_tuple g1 g2 (by omega)
        | _ => exact q.elim
      | tup ds =>
        obtain ⟨a, us, rfl, g1, r1⟩ := p
        cases e with
        | non =>
          cases (show w = Value.none from q)
          exact SeqAt.EqAt.tuple_none g1 (by omega)
        | bl y =>
          cases (show w = Value.bool y from q)
          exact SeqAt.EqAt.tuple_bool y g1 (by omega)
        | int y =>
          obtain ⟨t2, rfl⟩ := (show ∃ t, w = Value.int y t from q)
          exact SeqAt.EqAt.tuple_int y t2 g1 (by omega)
        | str y =>
          obtain ⟨t2, rfl⟩ := (show ∃ t, w = Value.str y t from q)
          exact SeqAt.EqAt.tuple_str y t2 g1 (by omega)
        | lst es =>
          obtain ⟨b, ws, rfl, g2, r2⟩ := q
          exact SeqAt.EqAt.tuple_list g1 g2 (by omega)
        | tup es =>
          obtain ⟨b, ws, rfl, g2, r2⟩ := q
          by_cases e : a = b
          · subst e
            have e2 : dEq (.tup ds) (.tup es) = true := sees_same (n + 1) (n + 1) (.tup ds) (.tup es) (.ref a) ⟨a, us, rfl, g1, r1⟩ ⟨a, ws, rfl, g2, r2⟩
            rw [e2]; exact SeqAt.EqAt.same _
          · exact SeqAt.EqAt.of_refs e (runtup ih g1 g2 r1 r2 (by omega))
        | _ => exact q.elim
      | _ => exact p.elim
    · skip
      intro d e u w A p q hu
      cases d with
      | non =>
        cases (show u = Value.none from p)
        cases e with
        | non =>
          cases (show w = Value.none from q)
          exact SeqAt.RcAt.none_none
        | bl y =>
          cases (show w = Value.bool y from q)
          exact SeqAt.RcAt.none_bool y
        | int y =>
          obtain ⟨t2, rfl⟩ := (show ∃ t, w = Value.int y t from q)
          exact SeqAt.RcAt.none_int y t2
        | str y =>
          obtain ⟨t2, rfl⟩ := (show ∃ t, w = Value.str y t from q)
          exact SeqAt.RcAt.none_str y t2
        | lst es =>
          obtain ⟨b, ws, rfl, g2, r2⟩ := q
          exact SeqAt.RcAt.none_list g2 (by omega)
        | tup es =>
          obtain ⟨b, ws, rfl, g2, r2⟩ := q
          exact SeqAt.RcAt.none_tuple g2 (by omega)
        | _ => exact q.elim
      | bl x =>
        cases (show u = Value.bool x from p)
        cases e with
        | non =>
          cases (show w = Value.none from q)
          exact SeqAt.RcAt.bool_none x
        | bl y =>
          cases (show w = Value.bool y from q)
          exact SeqAt.RcAt.bool_bool x y
        | int y =>
          obtain ⟨t2, rfl⟩ := (show ∃ t, w = Value.int y t from q)
          exact SeqAt.RcAt.bool_int x y t2
        | str y =>
          obtain ⟨t2, rfl⟩ := (show ∃ t, w = Value.str y t from q)
          exact SeqAt.RcAt.bool_str x y t2
        | lst es =>
          obtain ⟨b, ws, rfl, g2, r2⟩ := q
          exact SeqAt.RcAt.bool_list x g2 (by omega)
        | tup es =>
          obtain ⟨b, ws, rfl, g2, r2⟩ := q
          exact SeqAt.RcAt.bool_tuple x g2 (by omega)
        | _ => exact q.elim
      | int x =>
        obtain ⟨t, rfl⟩ := (show ∃ t, u = Value.int x t from p)
        cases e with
        | non =>
          cases (show w = Value.none from q)
          exact SeqAt.RcAt.int_none x t
        | bl y =>
          cases (show w = Value.bool y from q)
          exact SeqAt.RcAt.int_bool x t y
        | int y =>
          obtain ⟨t2, rfl⟩ := (show ∃ t, w = Value.int y t from q)
          exact SeqAt.RcAt.int_int x t y t2
        | str y =>
          obtain ⟨t2, rfl⟩ := (show ∃ t, w = Value.str y t from q)
          exact SeqAt.RcAt.int_str x t y t2
        | lst es =>
          obtain ⟨b, ws, rfl, g2, r2⟩ := q
          exact SeqAt.RcAt.int_list x t g2 (by omega)
        | tup es =>
          obtain ⟨b, ws, rfl, g2, r2⟩ := q
          exact SeqAt.RcAt.int_tuple x t g2 (by omega)
        | _ => exact q.elim
      | str x =>
        obtain ⟨t, rfl⟩ := (show ∃ t, u = Value.str x t from p)
        cases e with
        | non =>
          cases (show w = Value.none from q)
          exact SeqAt.RcAt.str_none x t
        | bl y =>
          cases (show w = Value.bool y from q)
          exact SeqAt.RcAt.str_bool x t y
        | int y =>
          obtain ⟨t2, rfl⟩ := (show ∃ t, w = Value.int y t from q)
          exact SeqAt.RcAt.str_int x t y t2
        | str y =>
          obtain ⟨t2, rfl⟩ := (show ∃ t, w = Value.str y t from q)
          exact SeqAt.RcAt.str_str x t y t2
        | lst es =>
          obtain ⟨b, ws, rfl, g2, r2⟩ := q
          exact SeqAt.RcAt.str_list x t g2 (by omega)
        | tup es =>
          obtain ⟨b, ws, rfl, g2, r2⟩ := q
          exact SeqAt.RcAt.str_tuple x t g2 (by omega)
        | _ => exact q.elim
      | lst ds =>
        obtain ⟨a, us, rfl, g1, r1⟩ := p
        cases e with
        | non =>
          cases (show w = Value.none from q)
          exact SeqAt.RcAt.list_none g1 (by omega)
        | bl y =>
          cases (show w = Value.bool y from q)
          exact SeqAt.RcAt.list_bool y g1 (by omega)
        | int y =>
          obtain ⟨t2, rfl⟩ := (show ∃ t, w = Value.int y t from q)
          exact SeqAt.RcAt.list_int y t2 g1 (by omega)
        | str y =>
          obtain ⟨t2, rfl⟩ := (show ∃ t, w = Value.str y t from q)
          exact SeqAt.RcAt.list_str y t2 g1 (by omega)
        | lst es =>
          obtain ⟨b, ws, rfl, g2, r2⟩ := q
          exact runlst ih g1 g2 r1 r2 (by omega)
        | tup es =>
          obtain ⟨b, ws, rfl, g2, r2⟩ := q
          exact SeqAt.RcAt.list_tuple g1 g2 (by omega)
        | _ => exact q.elim
      | tup ds =>
        obtain ⟨a, us, rfl, g1, r1⟩ := p
        cases e with
        | non =>
          cases (show w = Value.none from q)
          exact SeqAt.RcAt.tuple_none g1 (by omega)
        | bl y =>
          cases (show w = Value.bool y from q)
          exact SeqAt.RcAt.tuple_bool y g1 (by omega)
        | int y =>
          obtain ⟨t2, rfl⟩ := (show ∃ t, w = Value.int y t from q)
          exact SeqAt.RcAt.tuple_int y t2 g1 (by omega)
        | str y =>
          obtain ⟨t2, rfl⟩ := (show ∃ t, w = Value.str y t from q)
          exact SeqAt.RcAt.tuple_str y t2 g1 (by omega)
        | lst es =>
          obtain ⟨b, ws, rfl, g2, r2⟩ := q
          exact SeqAt.RcAt.tuple_list g1 g2 (by omega)
        | tup es =>
          obtain ⟨b, ws, rfl, g2, r2⟩ := q
          exact runtup ih g1 g2 r1 r2 (by omega)
        | _ => exact q.elim
      | _ => exact p.elim
theorem runlstN {s : Shared} {n : Nat} {A : Around} {a b : Addr} {ds es : List D} {us ws : List Value} (g1 : s.heap.IsList a us.toArray) (g2 : s.heap.IsList b ws.toArray) (r1 : Paired (fun d u => Sees s.heap n d u) ds us) (r2 : Paired (fun d u => Sees s.heap n d u) es ws) (hu : A.units + (n + 1) < cLine) : SeqAt.RcNeAt A s (.ref a) (.ref b) (!dEq (.lst ds) (.lst es)) := by
  have l1 := paired_len r1
  have l2 := paired_len r2
  have e0 : dEq (.lst ds) (.lst es) = dEqs ds es := by unfold dEq; rfl
  rw [e0]
  by_cases h : ds.length = es.length
  · rw [dEqs_all ds es h]
    have := SeqAt.RcNeAt.lists (e := fun j => dEq (ds.getD j .non) (es.getD j .non)) g1 g2 (by rw [List.size_toArray, List.size_toArray]; omega) (A := A) (by omega) (items_run2 (A := A.in1) (dEq_run n).1 r1 r2 (by show A.units + 1 + n < cLine; omega))
    rw [List.size_toArray, ← l1] at this
    exact this
  · rw [dEqs_len ds es h]
    exact SeqAt.RcNeAt.lists_lengths g1 g2 (by rw [List.size_toArray, List.size_toArray, bne_iff_ne]; omega) (by omega)
theorem runtupN {s : Shared} {n : Nat} {A : Around} {a b : Addr} {ds es : List D} {us ws : List Value} (g1 : s.heap.IsTuple a us.toArray) (g2 : s.heap.IsTuple b ws.toArray) (r1 : Paired (fun d u => Sees s.heap n d u) ds us) (r2 : Paired (fun d u => Sees s.heap n d u) es ws) (hu : A.units + (n + 1) < cLine) : SeqAt.RcNeAt A s (.ref a) (.ref b) (!dEq (.tup ds) (.tup es)) := by
  have l1 := paired_len r1
  have l2 := paired_len r2
  have e0 : dEq (.tup ds) (.tup es) = dEqs ds es := by unfold dEq; rfl
  rw [e0]
  have := SeqAt.RcNeAt.tuples (e := fun j => dEq (ds.getD j .non) (es.getD j .non)) g1 g2 (A := A) (by omega) (items_run2 (A := A.in1) (dEq_run n).1 r1 r2 (by show A.units + 1 + n < cLine; omega))
  rw [List.size_toArray, List.size_toArray, ← l1, ← l2] at this
  by_cases h : ds.length = es.length
  · rw [dEqs_all ds es h]
    rw [← h, Nat.min_self, beq_self_eq_true, Bool.and_true] at this
    exact this
  · rw [dEqs_len ds es h]
    rw [beq_eq_false_iff_ne.mpr h, Bool.and_false] at this
    exact this
theorem dNe_run {s : Shared} (n : Nat) (d e : D) (u w : Value) (A : Around) (p : Sees s.heap (n + 1) d u) (q : Sees s.heap (n + 1) e w) (hu : A.units + (n + 1) < cLine) : SeqAt.RcNeAt A s u w (!dEq d e) := by
  cases d with
  | non =>
    cases (show u = Value.none from p)
    cases e with
    | non =>
      cases (show w = Value.none from q)
      exact SeqAt.RcNeAt.none_none
    | bl y =>
      cases (show w = Value.bool y from q)
      exact SeqAt.RcNeAt.none_bool y
    | int y =>
      obtain ⟨t2, rfl⟩ := (show ∃ t, w = Value.int y t from q)
      exact SeqAt.RcNeAt.none_int y t2
    | str y =>
      obtain ⟨t2, rfl⟩ := (show ∃ t, w = Value.str y t from q)
      exact SeqAt.RcNeAt.none_str y t2
    | lst es =>
      obtain ⟨b, ws, rfl, g2, r2⟩ := q
      exact SeqAt.RcNeAt.none_list g2 (by omega)
    | tup es =>
      obtain ⟨b, ws, rfl, g2, r2⟩ := q
      exact SeqAt.RcNeAt.none_tuple g2 (by omega)
    | _ => exact q.elim
  | bl x =>
    cases (show u = Value.bool x from p)
    cases e with
    | non =>
      cases (show w = Value.none from q)
      exact SeqAt.RcNeAt.bool_none x
    | bl y =>
      cases (show w = Value.bool y from q)
      exact SeqAt.RcNeAt.bool_bool x y
    | int y =>
      obtain ⟨t2, rfl⟩ := (show ∃ t, w = Value.int y t from q)
      exact SeqAt.RcNeAt.bool_int x y t2
    | str y =>
      obtain ⟨t2, rfl⟩ := (show ∃ t, w = Value.str y t from q)
      exact SeqAt.RcNeAt.bool_str x y t2
    | lst es =>
      obtain ⟨b, ws, rfl, g2, r2⟩ := q
      exact SeqAt.RcNeAt.bool_list x g2 (by omega)
    | tup es =>
      obtain ⟨b, ws, rfl, g2, r2⟩ := q
      exact SeqAt.RcNeAt.bool_tuple x g2 (by omega)
    | _ => exact q.elim
  | int x =>
    obtain ⟨t, rfl⟩ := (show ∃ t, u = Value.int x t from p)
    cases e with
    | non =>
      cases (show w = Value.none from q)
      exact SeqAt.RcNeAt.int_none x t
    | bl y =>
      cases (show w = Value.bool y from q)
      exact SeqAt.RcNeAt.int_bool x t y
    | int y =>
      obtain ⟨t2, rfl⟩ := (show ∃ t, w = Value.int y t from q)
      exact SeqAt.RcNeAt.int_int x t y t2
    | str y =>
      obtain ⟨t2, rfl⟩ := (show ∃ t, w = Value.str y t from q)
      exact SeqAt.RcNeAt.int_str x t y t2
    | lst es =>
      obtain ⟨b, ws, rfl, g2, r2⟩ := q
      exact SeqAt.RcNeAt.int_list x t g2 (by omega)
    | tup es =>
      obtain ⟨b, ws, rfl, g2, r2⟩ := q
      exact SeqAt.RcNeAt.int_tuple x t g2 (by omega)
    | _ => exact q.elim
  | str x =>
    obtain ⟨t, rfl⟩ := (show ∃ t, u = Value.str x t from p)
    cases e with
    | non =>
      cases (show w = Value.none from q)
      exact SeqAt.RcNeAt.str_none x t
    | bl y =>
      cases (show w = Value.bool y from q)
      exact SeqAt.RcNeAt.str_bool x t y
    | int y =>
      obtain ⟨t2, rfl⟩ := (show ∃ t, w = Value.int y t from q)
      exact SeqAt.RcNeAt.str_int x t y t2
    | str y =>
      obtain ⟨t2, rfl⟩ := (show ∃ t, w = Value.str y t from q)
      exact SeqAt.RcNeAt.str_str x t y t2
    | lst es =>
      obtain ⟨b, ws, rfl, g2, r2⟩ := q
      exact SeqAt.RcNeAt.str_list x t g2 (by omega)
    | tup es =>
      obtain ⟨b, ws, rfl, g2, r2⟩ := q
      exact SeqAt.RcNeAt.str_tuple x t g2 (by omega)
    | _ => exact q.elim
  | lst ds =>
    obtain ⟨a, us, rfl, g1, r1⟩ := p
    cases e with
    | non =>
      cases (show w = Value.none from q)
      exact SeqAt.RcNeAt.list_none g1 (by omega)
    | bl y =>
      cases (show w = Value.bool y from q)
      exact SeqAt.RcNeAt.list_bool y g1 (by omega)
    | int y =>
      obtain ⟨t2, rfl⟩ := (show ∃ t, w = Value.int y t from q)
      exact SeqAt.RcNeAt.list_int y t2 g1 (by omega)
    | str y =>
      obtain ⟨t2, rfl⟩ := (show ∃ t, w = Value.str y t from q)
      exact SeqAt.RcNeAt.list_str y t2 g1 (by omega)
    | lst es =>
      obtain ⟨b, ws, rfl, g2, r2⟩ := q
      exact runlstN g1 g2 r1 r2 (by omega)
    | tup es =>
      obtain ⟨b, ws, rfl, g2, r2⟩ := q
      exact SeqAt.RcNeAt.list_tuple g1 g2 (by omega)
    | _ => exact q.elim
  | tup ds =>
    obtain ⟨a, us, rfl, g1, r1⟩ := p
    cases e with
    | non =>
      cases (show w = Value.none from q)
      exact SeqAt.RcNeAt.tuple_none g1 (by omega)
    | bl y =>
      cases (show w = Value.bool y from q)
      exact SeqAt.RcNeAt.tuple_bool y g1 (by omega)
    | int y =>
      obtain ⟨t2, rfl⟩ := (show ∃ t, w = Value.int y t from q)
      exact SeqAt.RcNeAt.tuple_int y t2 g1 (by omega)
    | str y =>
      obtain ⟨t2, rfl⟩ := (show ∃ t, w = Value.str y t from q)
      exact SeqAt.RcNeAt.tuple_str y t2 g1 (by omega)
    | lst es =>
      obtain ⟨b, ws, rfl, g2, r2⟩ := q
      exact SeqAt.RcNeAt.tuple_list g1 g2 (by omega)
    | tup es =>
      obtain ⟨b, ws, rfl, g2, r2⟩ := q
      exact runtupN g1 g2 r1 r2 (by omega)
    | _ => exact q.elim
  | _ => exact p.elim

/-! ### ==, !=, in, not in -/
def eqD : D → D → Ans := fun d e => some (EqOk 60 d ∧ EqOk 60 e, .v (.bl (dEq d e)))
def neD : D → D → Ans := fun d e => some (EqOk 60 d ∧ EqOk 60 e, .v (.bl (!dEq d e)))
def inD : D → D → Ans
  | d, .lst ds => some (EqOk 60 d ∧ ∀ e ∈ ds, EqOk 60 e, .v (.bl (ds.any fun e => dEq e d)))
  | d, .tup ds => some (EqOk 60 d ∧ ∀ e ∈ ds, EqOk 60 e, .v (.bl (ds.any fun e => dEq e d)))
  | .str a, .str b => some (True, .v (.bl (!(Builtin.Str.occurrences b a 0 b.length 1).isEmpty)))
  | _, _ => none
def notInD : D → D → Ans
  | d, .lst ds => some (EqOk 60 d ∧ ∀ e ∈ ds, EqOk 60 e, .v (.bl (!ds.any fun e => dEq e d)))
  | d, .tup ds => some (EqOk 60 d ∧ ∀ e ∈ ds, EqOk 60 e, .v (.bl (!ds.any fun e => dEq e d)))
  | .str a, .str b => some (True, .v (.bl (!(!(Builtin.Str.occurrences b a 0 b.length 1).isEmpty))))
  | _, _ => none
/-- a rule for two data, by what the model's heap holds -/
def Op2H (X : Cx) (f : Value → Value → Sem Value) (g : D → D → Ans) : Prop :=
  ∀ (pins : List (Addr × Obj)) (s : Shared) (σ : St) (F H : Hp) (d1 d2 : D) (v1 v2 : V) (u1 u2 : Value) (z : Prop × Out) (Q : VK), Inv X pins σ H s → Same F H → PRep X.K F H d1 v1 → PRep X.K F H d2 v2 → RelV v1 u1 → RelV v2 u2 → g d1 d2 = some z → z.1 → (∀ v H', OutOk X.K F H z.2 v H' → Q v H') →
    wpAny (model X.prog X.w) X.A (f u1 u2) (EP X pins σ Q) X.xe s
def rOf (K : PySem.W.Frag) (g : D → D → Ans) : R2 := fun x y H Q => ∃ F d1 d2 z, Same F H ∧ PRep K F H d1 x ∧ PRep K F H d2 y ∧ g d1 d2 = some z ∧ z.1 ∧ ∀ v H', OutOk K F H z.2 v H' → Q v H'
theorem opr_of {X : Cx} {f : Value → Value → Sem Value} {g : D → D → Ans} (h : Op2H X f g) : OpR X f (rOf X.K g) := fun pins s σ H x y v u Q I rx ry ⟨F, d1, d2, z, sub, p1, p2, e, z1, z2⟩ => h pins s σ F H d1 d2 x y v u z Q I sub p1 p2 rx ry e z1 z2
theorem op2_of {K : PySem.W.Frag} {g : D → D → Ans} : Op2 K (rOf K g) g := fun F H d1 d2 v1 v2 z Q sub p1 p2 e z1 hQ => ⟨F, d1, d2, z, sub, p1, p2, e, z1, hQ⟩
theorem ep_bl {X : Cx} {pins : List (Addr × Obj)} {σ : St} {F H : Hp} {s : Shared} {b : Bool} {Q : VK} (I : Inv X pins σ H s) (h : ∀ v H', OutOk X.K F H (.v (.bl b)) v H' → Q v H') : EP X pins σ Q (.bool b) s := ⟨.bl b, H, I, rfl, h _ _ out_bl⟩
theorem h_eq {X : Cx} (hu : X.A.units + 64 < cLine) : Op2H X (compareOp .Eq) eqD := by
  intro pins s σ F H d1 d2 v1 v2 u1 u2 z Q I sub p1 p2 r1 r2 e hz hQ
  cases e
  exact (dEq_run 60).2 d1 d2 u1 u2 X.A (sees_of I sub 60 d1 v1 u1 hz.1 p1 r1) (sees_of I sub 60 d2 v2 u2 hz.2 p2 r2) (by omega) X.prog X.w X.xe _ (ep_bl I hQ)
theorem h_ne {X : Cx} (hu : X.A.units + 64 < cLine) : Op2H X (compareOp .NotEq) neD := by
  intro pins s σ F H d1 d2 v1 v2 u1 u2 z Q I sub p1 p2 r1 r2 e hz hQ
  cases e
  exact dNe_run 59 d1 d2 u1 u2 X.A (sees_of I sub 60 d1 v1 u1 hz.1 p1 r1) (sees_of I sub 60 d2 v2 u2 hz.2 p2 r2) (by omega) X.prog X.w X.xe _ (ep_bl I hQ)
end Pd

set_option Elab.async false
set_option linter.all false
set_option maxRecDepth 100000
/-! Order of data, membership. -/
namespace Pd
open PySem PySem.Spec PyProof.Rows L2

inductive Cm where
  | lt | le | gt | ge
def Cm.op : Cm → CmpOp
  | .lt => .Lt
  | .le => .LtE
  | .gt => .Gt
  | .ge => .GtE
def Cm.i : Cm → Int → Int → Bool
  | .lt, a, b => decide (a < b)
  | .le, a, b => decide (a ≤ b)
  | .gt, a, b => decide (b < a)
  | .ge, a, b => decide (b ≤ a)
def Cm.s : Cm → Str → Str → Bool
  | .lt, a, b => strLt a b
  | .le, a, b => !strLt b a
  | .gt, a, b => strLt b a
  | .ge, a, b => !strLt a b
def Cm.n : Cm → Nat → Nat → Bool
  | .lt, a, b => decide (a < b)
  | .le, a, b => decide (a ≤ b)
  | .gt, a, b => decide (a > b)
  | .ge, a, b => decide (a ≥ b)
theorem Cm.n_succ (c : Cm) (a b : Nat) : c.n (a + 1) (b + 1) = c.n a b := by
  cases c <;> simp [Cm.n]
theorem Cm.n_zero (c : Cm) (a : Nat) : c.n (a + 1) 0 = c.n 1 0 ∧ c.n 0 (a + 1) = c.n 0 1 := by
  cases c <;> simp [Cm.n]
mutual
def dCm (c : Cm) : D → D → Bool
  | .int a, .int b => c.i a b
  | .str a, .str b => c.s a b
  | .tup xs, .tup ys => dCms c xs ys
  | _, _ => false
def dCms (c : Cm) : List D → List D → Bool
  | [], [] => c.n 0 0
  | [], _ :: _ => c.n 0 1
  | _ :: _, [] => c.n 1 0
  | x :: xs, y :: ys => if dEq x y = true then dCms c xs ys else dCm c x y
end
/-- two data that are compared -/
def CmOk : Nat → D → D → Prop
  | _, .int _, .int _ => True
  | _, .str _, .str _ => True
  | n + 1, .tup ds, .tup es => (∀ d ∈ ds, EqOk n d) ∧ (∀ e ∈ es, EqOk n e) ∧ ∀ p ∈ ds.zip es, CmOk n p.1 p.2
  | _, _, _ => False
theorem lex_shift {e r : Nat → Bool} {z : Bool} : ∀ (k i : Nat), Ob.lexAt (fun j => e (j + 1)) (fun j => r (j + 1)) z i k = Ob.lexAt e r z (i + 1) k
  | 0, i => rfl
  | k + 1, i => by
    rw [Ob.lexAt_succ, Ob.lexAt_succ, lex_shift k (i + 1)]
theorem lex_cms (c : Cm) : ∀ (ds es : List D), Ob.lexAt (fun j => dEq (ds.getD j .non) (es.getD j .non)) (fun j => dCm c (ds.getD j .non) (es.getD j .non)) (c.n ds.length es.length) 0 (min ds.length es.length) = dCms c ds es
  | [], [] => rfl
  | [], e :: es => by
    show c.n 0 (es.length + 1) = c.n 0 1
    exact (c.n_zero _).2
  | d :: ds, [] => by
    show c.n (ds.length + 1) 0 = c.n 1 0
    exact (c.n_zero _).1
  | d :: ds, e :: es => by
    have ih := lex_cms c ds es
    show Ob.lexAt _ _ (c.n (ds.length + 1) (es.length + 1)) 0 (min (ds.length + 1) (es.length + 1)) = if dEq d e = true then dCms c ds es else dCm c d e
    rw [c.n_succ, show min (ds.length + 1) (es.length + 1) = min ds.length es.length + 1 by omega, Ob.lexAt_succ, ← ih, ← lex_shift]
    rfl
def rc4 (c : Cm) (A : Around) (s : Shared) (u w : Value) (b : Bool) : Prop := Ob.RcOp c.op A s u w b
theorem cm_tuples (c : Cm) {A : Around} {s : Shared} {a b : Addr} {us ws : List Value} {e r : Nat → Bool} (g1 : s.heap.IsTuple a us.toArray) (g2 : s.heap.IsTuple b ws.toArray) (hu : A.units < cLine)
    (he : ∀ j (h1 : j < us.toArray.size) (h2 : j < ws.toArray.size), SeqAt.EqAt A.in1 s us.toArray[j] ws.toArray[j] (e j))
    (hr : ∀ j (h1 : j < us.toArray.size) (h2 : j < ws.toArray.size), e j = false → Ob.RcOp c.op A.in1 s us.toArray[j] ws.toArray[j] (r j)) :
    Ob.RcOp c.op A s (.ref a) (.ref b) (Ob.lexAt e r (c.n us.length ws.length) 0 (min us.length ws.length)) := by
  cases c with
  | lt => simpa [Cm.n, Cm.op] using Ob.RcOp.tuples_lt g1 g2 hu he hr
  | le => simpa [Cm.n, Cm.op] using Ob.RcOp.tuples_le g1 g2 hu he hr
  | gt => simpa [Cm.n, Cm.op] using Ob.RcOp.tuples_gt g1 g2 hu he hr
  | ge => simpa [Cm.n, Cm.op] using Ob.RcOp.tuples_ge g1 g2 hu he hr
theorem CmOk.cases {n : Nat} {d e : D} (h : CmOk n d e) : (∃ x y, d = .int x ∧ e = .int y) ∨ (∃ x y, d = .str x ∧ e = .str y) ∨ ∃ m ds es, n = m + 1 ∧ d = .tup ds ∧ e = .tup es ∧ (∀ d ∈ ds, EqOk m d) ∧ (∀ e ∈ es, EqOk m e) ∧ ∀ p ∈ ds.zip es, CmOk m p.1 p.2 := by
  cases d <;> cases e <;> cases n <;> first | exact .inl ⟨_, _, rfl, rfl⟩ | exact .inr (.inl ⟨_, _, rfl, rfl⟩) | exact .inr (.inr ⟨_, _, _, rfl, rfl, rfl, h⟩) | exact h.elim
theorem dCm_run (c : Cm) {s : Shared} : ∀ (n : Nat) (d e : D) (u w : Value) (A : Around), CmOk n d e → Sees s.heap n d u → Sees s.heap n e w → A.units + n < cLine → Ob.RcOp c.op A s u w (dCm c d e) := by
  intro n
  induction n with
  | zero =>
    intro d e u w A ok p q hu
    rcases ok.cases with ⟨x, y, rfl, rfl⟩ | ⟨x, y, rfl, rfl⟩ | ⟨m, ds, es, hm, _⟩
    · obtain ⟨t, rfl⟩ := (show ∃ t, u = Value.int x t from p)
      obtain ⟨t2, rfl⟩ := (show ∃ t, w = Value.int y t from q)
      cases c with
      | lt => exact Ob.RcOp.lt_int x y t t2
      | le => exact Ob.RcOp.le_int x y t t2
      | gt => exact Ob.RcOp.gt_int x y t t2
      | ge => exact Ob.RcOp.ge_int x y t t2
    · obtain ⟨t, rfl⟩ := (show ∃ t, u = Value.str x t from p)
      obtain ⟨t2, rfl⟩ := (show ∃ t, w = Value.str y t from q)
      cases c with
      | lt => exact fun prog w E Q h => lt_str h
      | le => exact fun prog w E Q h => PySem.P.le_str h
      | gt => exact fun prog w E Q h => PySem.P.gt_str h
      | ge => exact fun prog w E Q h => PySem.P.ge_str h
    · cases hm
  | succ n ih =>
    intro d e u w A ok p q hu
    rcases ok.cases with ⟨x, y, rfl, rfl⟩ | ⟨x, y, rfl, rfl⟩ | ⟨m, ds, es, hm, rfl, rfl, k1, k2, k3⟩
    · obtain ⟨t, rfl⟩ := (show ∃ t, u = Value.int x t from p)
      obtain ⟨t2, rfl⟩ := (show ∃ t, w = Value.int y t from q)
      cases c with
      | lt => exact Ob.RcOp.lt_int x y t t2
      | le => exact Ob.RcOp.le_int x y t t2
      | gt => exact Ob.RcOp.gt_int x y t t2
      | ge => exact Ob.RcOp.ge_int x y t t2
    · obtain ⟨t, rfl⟩ := (show ∃ t, u = Value.str x t from p)
      obtain ⟨t2, rfl⟩ := (show ∃ t, w = Value.str y t from q)
      cases c with
      | lt => exact fun prog w E Q h => lt_str h
      | le => exact fun prog w E Q h => PySem.P.le_str h
      | gt => exact fun prog w E Q h => PySem.P.gt_str h
      | ge => exact fun prog w E Q h => PySem.P.ge_str h
    · cases hm
      obtain ⟨a, us, rfl, g1, r1⟩ := p
      obtain ⟨b, ws, rfl, g2, r2⟩ := q
      have l1 := paired_len r1
      have l2 := paired_len r2
      have e0 : dCm c (.tup ds) (.tup es) = dCms c ds es := by unfold dCm; rfl
      rw [e0, ← lex_cms, l1, l2]
      refine cm_tuples c g1 g2 (by omega) (items_run2 (A := A.in1) (dEq_run n).1 r1 r2 (by show A.units + 1 + n < cLine; omega)) fun j h1 h2 _ => ?_
      rw [List.size_toArray] at h1 h2
      obtain ⟨d, e1, p1⟩ := paired_get r1 (List.getElem?_eq_getElem h1)
      obtain ⟨e, e2, p2⟩ := paired_get r2 (List.getElem?_eq_getElem h2)
      have e3 : ds.getD j .non = d := by rw [List.getD_eq_getElem?_getD, e1]; rfl
      have e4 : es.getD j .non = e := by rw [List.getD_eq_getElem?_getD, e2]; rfl
      rw [e3, e4]
      have hz : (d, e) ∈ ds.zip es := by
        refine List.mem_of_getElem? (i := j) ?_
        rw [List.getElem?_zip_eq_some]
        exact ⟨e1, e2⟩
      simpa using ih d e us[j] ws[j] A.in1 (k3 _ hz) p1 p2 (by show A.units + 1 + n < cLine; omega)
theorem CmOk.eq {n : Nat} {d e : D} (h : CmOk n d e) : EqOk n d ∧ EqOk n e := by
  rcases h.cases with ⟨x, y, rfl, rfl⟩ | ⟨x, y, rfl, rfl⟩ | ⟨m, ds, es, rfl, rfl, rfl, k1, k2, k3⟩
  · cases n <;> exact ⟨trivial, trivial⟩
  · cases n <;> exact ⟨trivial, trivial⟩
  · exact ⟨k1, k2⟩
def cmD (c : Cm) : D → D → Ans := fun d e => some (CmOk 60 d e, .v (.bl (dCm c d e)))
theorem h_cm {X : Cx} (c : Cm) (hu : X.A.units + 64 < cLine) (ho : ∀ a b, compareOp c.op a b = richCompare c.op a b) : Op2H X (compareOp c.op) (cmD c) := by
  intro pins s σ F H d1 d2 v1 v2 u1 u2 z Q I sub p1 p2 r1 r2 e hz hQ
  cases e
  obtain ⟨k1, k2⟩ := CmOk.eq hz
  rw [ho]
  exact dCm_run c 60 d1 d2 u1 u2 X.A hz (sees_of I sub 60 d1 v1 u1 k1 p1 r1) (sees_of I sub 60 d2 v2 u2 k2 p2 r2) (by omega) X.prog X.w X.xe _ (ep_bl I hQ)
/-! ### in, not in -/
theorem any_items {s : Shared} {n : Nat} {A : Around} {ds : List D} {us : List Value} {d : D} {u : Value} (r : Paired (fun d u => Sees s.heap n d u) ds us) (p : Sees s.heap n d u) (hu : A.units + n < cLine) :
    ∃ e : Value → Bool, (∀ y, y ∈ us.toArray → SeqAt.EqAt A s y u (e y)) ∧ us.toArray.any e = ds.any fun x => dEq x d := by
  classical
  have h1 : ∀ y ∈ us, ∃ b, SeqAt.EqAt A s y u b := fun y hy => by
    obtain ⟨j, hj⟩ := List.getElem?_of_mem hy
    obtain ⟨x, _, q⟩ := paired_get r hj
    exact ⟨_, (dEq_run n).1 x d y u A q p hu⟩
  -- the same value at two places stands for equal data
  have h2 : ∀ {ds : List D} {us : List Value}, Paired (fun d u => Sees s.heap n d u) ds us → ∃ e : Value → Bool, (∀ y ∈ us, SeqAt.EqAt A s y u (e y)) ∧ us.any e = ds.any fun x => dEq x d := fun {ds us} r => by
    refine ⟨fun y => if h : ∃ x ∈ ds, Sees s.heap n x y ∧ dEq x d = true then true else false, fun y hy => ?_, ?_⟩
    · obtain ⟨j, hj⟩ := List.getElem?_of_mem hy
      obtain ⟨x, hx, q⟩ := paired_get r hj
      show SeqAt.EqAt A s y u (if h : ∃ x ∈ ds, Sees s.heap n x y ∧ dEq x d = true then true else false)
      by_cases h : ∃ x ∈ ds, Sees s.heap n x y ∧ dEq x d = true
      · rw [dif_pos h]
        obtain ⟨x', _, q', e'⟩ := h
        rw [← e']
        exact (dEq_run n).1 x' d y u A q' p hu
      · rw [dif_neg h]
        have e' : dEq x d = false := by
          cases e : dEq x d with
          | false => rfl
          | true => exact absurd ⟨x, List.mem_of_getElem? hx, q, e⟩ h
        rw [← e']
        exact (dEq_run n).1 x d y u A q p hu
    · rw [Bool.eq_iff_iff, List.any_eq_true, List.any_eq_true]
      constructor
      · rintro ⟨y, hy, e⟩
        by_cases h : ∃ x ∈ ds, Sees s.heap n x y ∧ dEq x d = true
        · obtain ⟨x, hx, _, e⟩ := h
          exact ⟨x, hx, e⟩
        · rw [dif_neg h] at e; cases e
      · rintro ⟨x, hx, e⟩
        obtain ⟨j, hj⟩ := List.getElem?_of_mem hx
        have hl := paired_len r
        have hj2 : j < us.length := by rw [← hl]; exact (List.getElem?_eq_some_iff.mp hj).1
        obtain ⟨x', hx', q⟩ := paired_get r (List.getElem?_eq_getElem hj2)
        rw [hj] at hx'; cases hx'
        exact ⟨us[j], List.getElem_mem hj2, by rw [dif_pos ⟨x, hx, q, e⟩]⟩
  obtain ⟨e, k1, k2⟩ := h2 r
  exact ⟨e, fun y hy => k1 y (by simpa using hy), by simpa using k2⟩
theorem h_in {X : Cx} (hu : X.A.units + 64 < cLine) : Op2H X (compareOp .In) inD := by
  intro pins s σ F H d1 d2 v1 v2 u1 u2 z Q I sub p1 p2 r1 r2 e hz hQ
  cases d2 with
  | lst ds =>
    cases e
    have q := sees_of I sub 61 (.lst ds) v2 u2 hz.2 p2 r2
    obtain ⟨a, us, rfl, g, r⟩ := q
    obtain ⟨f, k1, k2⟩ := any_items (A := X.A.in1) r (sees_of I sub 60 d1 v1 u1 hz.1 p1 r1) (by show X.A.units + 1 + 60 < cLine; omega)
    exact SeqAt.in_listAt f g k1 (by rw [k2]; exact ep_bl I hQ)
  | tup ds =>
    cases e
    have q := sees_of I sub 61 (.tup ds) v2 u2 hz.2 p2 r2
    obtain ⟨a, us, rfl, g, r⟩ := q
    obtain ⟨f, k1, k2⟩ := any_items (A := X.A.in1) r (sees_of I sub 60 d1 v1 u1 hz.1 p1 r1) (by show X.A.units + 1 + 60 < cLine; omega)
    exact SeqAt.in_tupleAt f g k1 (by rw [k2]; exact ep_bl I hQ)
  | str b =>
    cases d1 <;> first | (cases e; done) | skip
    cases e
    exact op_in_str pins s σ H v1 v2 u1 u2 Q I r1 r2 ⟨_, _, prep_str p1, prep_str p2, hQ _ _ out_bl⟩
  | _ => cases d1 <;> cases e
theorem h_notIn {X : Cx} (hu : X.A.units + 64 < cLine) : Op2H X (compareOp .NotIn) notInD := by
  intro pins s σ F H d1 d2 v1 v2 u1 u2 z Q I sub p1 p2 r1 r2 e hz hQ
  cases d2 with
  | lst ds =>
    cases e
    have q := sees_of I sub 61 (.lst ds) v2 u2 hz.2 p2 r2
    obtain ⟨a, us, rfl, g, r⟩ := q
    obtain ⟨f, k1, k2⟩ := any_items (A := X.A.in1) r (sees_of I sub 60 d1 v1 u1 hz.1 p1 r1) (by show X.A.units + 1 + 60 < cLine; omega)
    exact SeqAt.notIn_listAt f g k1 (by rw [k2]; exact ep_bl I hQ)
  | tup ds =>
    cases e
    have q := sees_of I sub 61 (.tup ds) v2 u2 hz.2 p2 r2
    obtain ⟨a, us, rfl, g, r⟩ := q
    obtain ⟨f, k1, k2⟩ := any_items (A := X.A.in1) r (sees_of I sub 60 d1 v1 u1 hz.1 p1 r1) (by show X.A.units + 1 + 60 < cLine; omega)
    exact SeqAt.notIn_tupleAt f g k1 (by rw [k2]; exact ep_bl I hQ)
  | str b =>
    cases d1 <;> first | (cases e; done) | skip
    cases e
    exact op_notin_str pins s σ H v1 v2 u1 u2 Q I r1 r2 ⟨_, _, prep_str p1, prep_str p2, hQ _ _ out_bl⟩
  | _ => cases d1 <;> cases e
section
variable {X : Cx} {a b : Expr} {ta tb : TD} {pos : Pos}
theorem x_eq (hu : X.A.units + 64 < cLine) (ha : PX X a ta) (hb : PX X b tb) (hm : behindInMarks .Eq b = false := by first | exact nomark _ | rfl) : PX X (.Compare a [.Eq] [b] pos) (tOp2 eqD ta tb) := px_cmp (opr_of (h_eq hu)) op2_of ha hb hm
theorem x_ne (hu : X.A.units + 64 < cLine) (ha : PX X a ta) (hb : PX X b tb) (hm : behindInMarks .NotEq b = false := by first | exact nomark _ | rfl) : PX X (.Compare a [.NotEq] [b] pos) (tOp2 neD ta tb) := px_cmp (opr_of (h_ne hu)) op2_of ha hb hm
theorem x_lt (hu : X.A.units + 64 < cLine) (ha : PX X a ta) (hb : PX X b tb) (hm : behindInMarks .Lt b = false := by first | exact nomark _ | rfl) : PX X (.Compare a [.Lt] [b] pos) (tOp2 (cmD .lt) ta tb) := px_cmp (opr_of (h_cm .lt hu fun _ _ => rfl)) op2_of ha hb hm
theorem x_le (hu : X.A.units + 64 < cLine) (ha : PX X a ta) (hb : PX X b tb) (hm : behindInMarks .LtE b = false := by first | exact nomark _ | rfl) : PX X (.Compare a [.LtE] [b] pos) (tOp2 (cmD .le) ta tb) := px_cmp (opr_of (h_cm .le hu fun _ _ => rfl)) op2_of ha hb hm
theorem x_gt (hu : X.A.units + 64 < cLine) (ha : PX X a ta) (hb : PX X b tb) (hm : behindInMarks .Gt b = false := by first | exact nomark _ | rfl) : PX X (.Compare a [.Gt] [b] pos) (tOp2 (cmD .gt) ta tb) := px_cmp (opr_of (h_cm .gt hu fun _ _ => rfl)) op2_of ha hb hm
theorem x_ge (hu : X.A.units + 64 < cLine) (ha : PX X a ta) (hb : PX X b tb) (hm : behindInMarks .GtE b = false := by first | exact nomark _ | rfl) : PX X (.Compare a [.GtE] [b] pos) (tOp2 (cmD .ge) ta tb) := px_cmp (opr_of (h_cm .ge hu fun _ _ => rfl)) op2_of ha hb hm
theorem x_in (hu : X.A.units + 64 < cLine) (ha : PX X a ta) (hb : PX X b tb) (hm : behindInMarks .In b = false := by first | exact nomark _ | rfl) : PX X (.Compare a [.In] [b] pos) (tOp2 inD ta tb) := px_cmp (opr_of (h_in hu)) op2_of ha hb hm
theorem x_notIn (hu : X.A.units + 64 < cLine) (ha : PX X a ta) (hb : PX X b tb) (hm : behindInMarks .NotIn b = false := by first | exact nomark _ | rfl) : PX X (.Compare a [.NotIn] [b] pos) (tOp2 notInD ta tb) := px_cmp (opr_of (h_notIn hu)) op2_of ha hb hm
end
end Pd

set_option Elab.async false
set_option linter.all false
set_option maxRecDepth 100000
/-! Cells changed by methods and stores; slices; chains; truth; texts. -/
namespace Pd
open PySem PySem.Spec PyProof.Rows L2

/-! ### a slot's own cell -/
def cellAt (env : Env) (i : Nat) : Option D := match env[i]? with
  | some (.own d) => some d
  | some (.io d) => some d
  | _ => none
def putAt (env : Env) (i : Nat) (d : D) : Env := env.set i ((env.getD i .un).put d)
section
variable {K : PySem.W.Frag} {F H F0 H0 : Hp} {σ σ0 : St} {env env0 : Env} {i : Nat} {d d' : D} {a : Addr} {o : HO}
theorem cell_of (S : SR K F H σ env) (c : cellAt env i = some d) : ∃ a, σ[i]? = some (some (.ref a)) ∧ F a = none ∧ ORep K F H d a ∧ ∃ s, env[i]? = some s ∧ s.mine = true := by
  unfold cellAt at c
  split at c
  · rename_i x e
    cases c
    obtain ⟨ov, e1, a, rfl, n, r⟩ := S.sl i _ e
    exact ⟨a, e1, n, r, _, e, rfl⟩
  · rename_i x e
    cases c
    obtain ⟨ov, e1, a, rfl, n, r⟩ := S.sl i _ e
    exact ⟨a, e1, n, r, _, e, rfl⟩
  · cases c
/-- the cell is changed -/
theorem cell_put (S : SR K F H σ env) (c : cellAt env i = some d) (e : σ[i]? = some (some (.ref a))) (r : ORep K F (upd H a o) d' a) : SR K F (upd H a o) σ (putAt env i d') ∧ Step F H σ env F (upd H a o) σ (putAt env i d') := by
  obtain ⟨a', e1, n, r0, s, es, ms⟩ := cell_of S c
  rw [e] at e1; cases e1
  have hs : env.getD i .un = s := by rw [List.getD_eq_getElem?_getD, es]; rfl
  have key : ∀ {j : Nat} {t : Sl}, (putAt env i d')[j]? = some t → (j = i ∧ t = s.put d') ∨ (j ≠ i ∧ env[j]? = some t) := fun {j t} h => by
    unfold putAt at h
    rw [hs] at h
    rcases getElem?_set_any h with ⟨h1, h2, _⟩ | h
    · exact .inl ⟨h1, h2⟩
    · exact .inr h
  have oo : ∀ b, OwnA (putAt env i d') σ b → OwnA env σ b := fun b ⟨j, t, h1, h2, h3⟩ => by
    rcases key h1 with ⟨rfl, rfl⟩ | ⟨_, h1⟩
    · exact ⟨j, s, es, ms, h3⟩
    · exact ⟨j, t, h1, h2, h3⟩
  have ll : ∀ b, LocA (putAt env i d') σ b → LocA env σ b := fun b ⟨j, t, h1, h2, h3⟩ => by
    rcases key h1 with ⟨rfl, rfl⟩ | ⟨_, h1⟩
    · exact ⟨j, s, es, by rw [← put_loc s d']; exact h2, h3⟩
    · exact ⟨j, t, h1, h2, h3⟩
  have ow : OwnA env σ a := ⟨i, s, es, ms, e⟩
  have kp : ∀ (j : Nat) (t : Sl) (b : Addr), j ≠ i → env[j]? = some t → t.mine = true → σ[j]? = some (some (.ref b)) → b ≠ a := fun j t b hj h1 h2 h3 hb => hj (S.inj j i t s b h1 es h2 ms h3 (hb ▸ e))
  refine ⟨⟨fun b u z => ?_, by unfold putAt; rw [List.length_set, S.len], fun j t h => ?_, fun j k t t' b h1 h2 m1 m2 q1 q2 => ?_⟩, ⟨Same.refl _, fun b u z nb => ?_, fun b z => .inl z, fun b z => .inl (oo b z), fun b z => .inl (ll b z), fun j x h => ⟨rfl, ?_⟩, fun b z => ?_, fun j x h => ⟨?_, rfl⟩⟩⟩
  · have hb : b ≠ a := fun y => by rw [y, n] at z; cases z
    rw [upd_ne hb]; exact S.sub b u z
  · rcases key h with ⟨rfl, rfl⟩ | ⟨hj, h⟩
    · refine ⟨_, e, ?_⟩
      cases s with
      | own _ => exact ⟨a, rfl, n, r⟩
      | io _ => exact ⟨a, rfl, n, r⟩
      | _ => cases ms
    · obtain ⟨ov, e2, q⟩ := S.sl j t h
      refine ⟨ov, e2, ?_⟩
      cases t with
      | un => trivial
      | val x => exact q
      | own x =>
        obtain ⟨b, rfl, z, q⟩ := q
        have hb := kp j _ b hj h rfl e2
        exact ⟨b, rfl, z, q.mono (Same.refl _) fun u y => by rw [upd_ne hb]; exact y⟩
      | io x =>
        obtain ⟨b, rfl, z, q⟩ := q
        have hb := kp j _ b hj h rfl e2
        exact ⟨b, rfl, z, q.mono (Same.refl _) fun u y => by rw [upd_ne hb]; exact y⟩
      | br x =>
        obtain ⟨v, e3, q⟩ := q
        refine ⟨v, e3, ?_⟩
        rcases q with q | ⟨b, e4, z, q⟩
        · exact .inl q
        · have hb : b ≠ a := fun y => z (y ▸ ow)
          exact .inr ⟨b, e4, fun y => z (oo b y), q.mono (Same.refl _) fun u y => by rw [upd_ne hb]; exact y⟩
  · have f : ∀ {j : Nat} {t : Sl}, (putAt env i d')[j]? = some t → t.mine = true → ∃ t0, env[j]? = some t0 ∧ t0.mine = true := fun {j t} h m => by
      rcases key h with ⟨rfl, rfl⟩ | ⟨_, h⟩
      · exact ⟨s, es, ms⟩
      · exact ⟨t, h, m⟩
    obtain ⟨t0, g1, g2⟩ := f h1 m1
    obtain ⟨t1, g3, g4⟩ := f h2 m2
    exact S.inj j k t0 t1 b g1 g3 g2 g4 q1 q2
  · have hb : b ≠ a := fun y => nb (y ▸ ow)
    rw [upd_ne hb]; exact z
  · by_cases hj : j = i
    · subst hj
      rw [es] at h; cases h
      refine ⟨d', ?_⟩
      unfold putAt
      rw [hs]
      exact getElem?_set_self' es
    · refine ⟨x, ?_⟩
      unfold putAt
      rw [List.getElem?_set_ne (Ne.symm hj)]
      exact h
  · by_cases hb : b = a
    · subst hb; rw [upd_same] at z; cases z
    · rw [upd_ne hb] at z; exact z
  · rcases key h with ⟨rfl, h⟩ | ⟨_, h⟩
    · cases s <;> cases h
      cases ms
    · exact h
end
/-- a method of a cell: what it makes of the content and the arguments; the result -/
abbrev CMeth := D → List D → Option (Prop × D × D)
def CellD (K : PySem.W.Frag) (r : V → List V → Hp → VK → Prop) (f : CMeth) : Prop := ∀ F H a d ds vs (z : Prop × D × D) (Q : VK), Same F H → ORep K F H d a → Reps K F ds vs → f d ds = some z → z.1 → (∀ v o, ORep K F (upd H a o) z.2.1 a → Rep K F z.2.2 v → Q v (upd H a o)) → r (.ref a) vs H Q
def tCM (i : Nat) (f : CMeth) (t : TAD) : TD := fun env k => t env fun e1 rs => got (escapes e1 rs) fun z => got (cellAt z.1 i) fun d => got (f d z.2) fun y => y.1 ∧ k (putAt z.1 i y.2.1) (.val y.2.2)
theorem orep_ty {K : PySem.W.Frag} {F H : Hp} {d : D} {a : Addr} {T : String} (h : ORep K F H d a) (e : tyName d = some T) : tyV K T (.ref a) H := by
  cases d with
  | lst ds => cases e; obtain ⟨vs, h1, _⟩ := h; exact .inl ⟨rfl, vs, .inl (.inl h1)⟩
  | dct ks ds =>
    cases e
    obtain ⟨vs, ⟨_, ⟨kk, _, h⟩ | ⟨kk, _, h⟩⟩, _⟩ := h
    · exact .inr (.inr (.inl ⟨rfl, .inl ⟨_, h⟩⟩))
    · exact .inr (.inr (.inl ⟨rfl, .inr ⟨_, h⟩⟩))
  | obj C ns ds => cases e
  | _ => exact h.elim
section
variable {X : Cx} {x : Str} {pos apos cpos : Pos} {e : Expr} {es : List Expr} {t : TAD} {name : Str} {T id : String} {r : V → List V → Hp → VK → Prop} {f : CMeth}
theorem up_cm {K : PySem.W.Frag} {i : Nat} (ho : CellD K r f) (hT : ∀ d ds z, f d ds = some z → tyName d = some T) {σ : St} {H : Hp} {Q : VK} (hty : ∀ F env, SR K F H σ env → ∀ a, σ[i]? = some (some (.ref a)) → (∃ d, cellAt env i = some d ∧ tyName d = some T) → tyV K T (.ref a) H)
    (h : up K (fun env k => (∃ d, cellAt env i = some d ∧ tyName d = some T) ∧ tCM i f t env k) σ H Q) : tBM K T r (tVar i) (upA K t) σ H Q := by
  obtain ⟨F, env, k, S, ⟨⟨d0, c0, t0⟩, h⟩, hk⟩ := h
  obtain ⟨a, e0, n0, r0, _⟩ := cell_of S c0
  refine ⟨.ref a, e0, orep_ty r0 t0, F, env, _, S, h, fun e1 rs ⟨z, ez, d, c, y, ey, y1, q⟩ F1 H1 vs S1 T1 ras => ?_⟩
  obtain ⟨F2, S2, T2, rd, _⟩ := escapes_ok T1 S1 ras ez
  obtain ⟨a', e3, n, r1, _⟩ := cell_of S2 c
  rw [e0] at e3; cases e3
  refine ho F2 H1 a d z.2 vs y Q S2.sub r1 rd ey y1 fun v o r2 r3 => ?_
  obtain ⟨S3, T3⟩ := cell_put (o := o) S2 c e0 r2
  exact hk _ _ q F2 _ v S3 (T2.trans T3) r3
def tCMT (T : String) (i : Nat) (f : CMeth) (t : TAD) : TD := fun env k => (∃ d, cellAt env i = some d ∧ tyName d = some T) ∧ tCM i f t env k
theorem x_cm {i : Nat} (pa : PlainAttrs T) (slot : Slot T name id) (hty : typeOf (.builtin id) = pure (.type "method_descriptor")) (hm : MtR X id r) (ho : CellD X.K r f) (hT : ∀ d ds z, f d ds = some z → tyName d = some T) (hN : X.N[i]? = some x) (hv : Vis X.env.scope x) (ha : PXA X (e :: es) t)
    (hd : (x == ("__debug__" : Str)) = false := by decide) (hcd : (x == ("__classdict__" : Str)) = false := by decide) (hbase : attributeBase (.Name x pos) name X.env (eval (.Name x pos) X.env) = eval (.Name x pos) X.env := by rfl)
    (hfew : ((backTo cpos (starEach (e :: es) X.env)).all (fun x => !x.1) && (backToKw cpos (keywordEach [] X.env)).all (fun x => x.1.isSome)
      && decide ((e :: es).length + ([] : List Keyword).length + (if ([] : List Keyword).isEmpty then 0 else 1) < 30)) = true := by rfl)
    (hline : (apos.endLine == cpos.line) = true := by rfl) (hs : starEach (e :: es) X.env = (false, eval e X.env) :: starEach es X.env := by rfl) (hplain : (backTo cpos (starEach es X.env)).any (·.1) = false := by rfl) :
    PX X (.Call (.Attribute (.Name x pos) name apos) (e :: es) [] cpos) (tCMT T i f t) :=
  ⟨(pe_bm pa slot hty hm (pe_var hN hv hd hcd) ha.run hbase hfew hline hs hplain).imp fun σ H Q h => up_cm ho hT (fun F env S a e1 ⟨d, c, td⟩ => by
    obtain ⟨a', e2, _, r, _⟩ := cell_of S c
    rw [e1] at e2; cases e2
    exact orep_ty r td) h⟩
theorem x_cm0 {i : Nat} (pa : PlainAttrs T) (slot : Slot T name id) (hty : typeOf (.builtin id) = pure (.type "method_descriptor")) (hm : MtR X id r) (ho : CellD X.K r f) (hN : X.N[i]? = some x) (hv : Vis X.env.scope x)
    (hd : (x == ("__debug__" : Str)) = false := by decide) (hcd : (x == ("__classdict__" : Str)) = false := by decide) (hbase : attributeBase (.Name x pos) name X.env (eval (.Name x pos) X.env) = eval (.Name x pos) X.env := by rfl) (hline : (apos.endLine == cpos.line) = true := by rfl) :
    PX X (.Call (.Attribute (.Name x pos) name apos) [] [] cpos) (tCMT T i f tN) := by
  refine ⟨(pe_bm0 pa slot hty hm (pe_var hN hv hd hcd) hbase hline).imp fun σ H Q ⟨F, env, k, S, ⟨⟨d0, c0, t0⟩, z, ez, d, c, y, ey, y1, q⟩, hk⟩ => ?_⟩
  cases ez
  obtain ⟨a, e0, n0, r0, _⟩ := cell_of S c0
  refine ⟨.ref a, e0, orep_ty r0 t0, ?_⟩
  rw [c0] at c; cases c
  refine ho F H a d0 [] [] y Q S.sub r0 (reps_nil.mpr rfl) ey y1 fun v o r2 r3 => ?_
  obtain ⟨S3, T3⟩ := cell_put (o := o) S c0 e0 r2
  exact hk _ _ q F _ v S3 T3 r3
end
/-! the methods of lists -/
def D.lst? : D → Option (List D)
  | .lst xs => some xs
  | _ => none
def D.int? : D → Option Int
  | .int i => some i
  | _ => none
def D.str? : D → Option Str
  | .str i => some i
  | _ => none
theorem lst?_eq {d : D} {xs : List D} (h : d.lst? = some xs) : d = .lst xs := by
  cases d <;> first | (cases h; done) | skip
  cases h; rfl
theorem int?_eq {d : D} {i : Int} (h : d.int? = some i) : d = .int i := by
  cases d <;> first | (cases h; done) | skip
  cases h; rfl
theorem str?_eq {d : D} {i : Str} (h : d.str? = some i) : d = .str i := by
  cases d <;> first | (cases h; done) | skip
  cases h; rfl
def arg0 : List D → Option Unit
  | [] => some ()
  | _ => none
def arg1 : List D → Option D
  | [x] => some x
  | _ => none
def arg2 : List D → Option (D × D)
  | [x, y] => some (x, y)
  | _ => none
theorem arg0_eq {ds : List D} {x : Unit} (h : arg0 ds = some x) : ds = [] := by
  cases ds with
  | nil => rfl
  | cons _ _ => cases h
theorem arg1_eq {ds : List D} {x : D} (h : arg1 ds = some x) : ds = [x] := by
  cases ds with
  | nil => cases h
  | cons a r => cases r with
    | nil => cases h; rfl
    | cons _ _ => cases h
theorem arg2_eq {ds : List D} {x : D × D} (h : arg2 ds = some x) : ds = [x.1, x.2] := by
  cases ds with
  | nil => cases h
  | cons a r => cases r with
    | nil => cases h
    | cons b r => cases r with
      | nil => cases h; rfl
      | cons _ _ => cases h
theorem bnd {α β : Type} {o : Option α} {f : α → Option β} {b : β} (h : o.bind f = some b) : ∃ a, o = some a ∧ f a = some b := Option.bind_eq_some_iff.mp h
theorem reps1 {K : PySem.W.Frag} {F : Hp} {d : D} {vs : List V} (r : Reps K F [d] vs) : ∃ v, vs = [v] ∧ Rep K F d v := by
  obtain ⟨v, q, rfl, g1, g2⟩ := reps_cons.mp r
  cases reps_nil.mp g2
  exact ⟨v, rfl, g1⟩
theorem reps2 {K : PySem.W.Frag} {F : Hp} {d e : D} {vs : List V} (r : Reps K F [d, e] vs) : ∃ v w, vs = [v, w] ∧ Rep K F d v ∧ Rep K F e w := by
  obtain ⟨v, q, rfl, g1, g2⟩ := reps_cons.mp r
  obtain ⟨w, rfl, g3⟩ := reps1 g2
  exact ⟨v, w, rfl, g1, g3⟩
def mAppend : CMeth := fun d ds => d.lst?.bind fun xs => (arg1 ds).bind fun y => some (xs.length < sizeLine, .lst (xs ++ [y]), .non)
theorem cm_append {K : PySem.W.Frag} : CellD K rAppend mAppend := by
  intro F H a d ds vs z Q s o rd e hz hQ
  obtain ⟨xs, e1, e⟩ := bnd e
  obtain ⟨y, e2, e⟩ := bnd e
  cases lst?_eq e1; cases arg1_eq e2; cases e
  obtain ⟨ws, h1, r⟩ := o
  obtain ⟨v, rfl, g1⟩ := reps1 rd
  exact ⟨a, ws, v, rfl, rfl, h1, by rw [r.length]; exact hz, hQ _ _ ⟨_, upd_same, r.append (Reps.one g1)⟩ (rep_non.mpr rfl)⟩
def mPop0 : CMeth := fun d ds => d.lst?.bind fun xs => (arg0 ds).bind fun _ => (xs[xs.length - 1]?).bind fun y => some (True, .lst xs.dropLast, y)
theorem reps_dropLast {K : PySem.W.Frag} {F : Hp} {ds : List D} {vs : List V} (r : Reps K F ds vs) : Reps K F ds.dropLast vs.dropLast := by
  rw [List.dropLast_eq_take, List.dropLast_eq_take, r.length]
  exact r.take _
theorem cm_pop0 {K : PySem.W.Frag} : CellD K rPop mPop0 := by
  intro F H a d ds vs z Q s o rd e hz hQ
  simp only [mPop0, Option.bind_eq_some_iff] at e
  obtain ⟨xs, e1, u0, e2, y, e3, e⟩ := e
  cases lst?_eq e1; cases arg0_eq e2; cases e
  obtain ⟨ws, h1, r⟩ := o
  cases reps_nil.mp rd
  obtain ⟨v, e4, r2⟩ := r.get e3
  exact ⟨a, ws, v, rfl, rfl, h1, by rw [r.length]; exact e4, hQ _ _ ⟨_, upd_same, reps_dropLast r⟩ r2⟩
theorem reps_erase {K : PySem.W.Frag} {F : Hp} : ∀ {ds : List D} {vs : List V} (n : Nat), Reps K F ds vs → Reps K F (ds.eraseIdx n) (vs.eraseIdx n)
  | [], vs, n, h => by rw [reps_nil.mp h]; exact reps_nil.mpr rfl
  | x :: ds, vs, 0, h => by
    obtain ⟨v, r, rfl, h1, h2⟩ := reps_cons.mp h
    exact h2
  | x :: ds, vs, n + 1, h => by
    obtain ⟨v, r, rfl, h1, h2⟩ := reps_cons.mp h
    exact reps_cons.mpr ⟨v, r.eraseIdx n, rfl, h1, reps_erase n h2⟩
def mPopAt : CMeth := fun d ds => d.lst?.bind fun xs => (arg1 ds).bind fun y => y.int?.bind fun i => (seqIndex? i xs.length).bind fun k => (xs[k]?).bind fun y => some (-(2 ^ 63) ≤ i ∧ i < 2 ^ 63, .lst (xs.eraseIdx k), y)
theorem cm_popAt {K : PySem.W.Frag} : CellD K rPopAt mPopAt := by
  intro F H a d ds vs z Q s o rd e hz hQ
  simp only [mPopAt, Option.bind_eq_some_iff] at e
  obtain ⟨xs, e1, y, e2, i, e3, k, e4, u, e5, e⟩ := e
  cases lst?_eq e1; cases int?_eq e3; cases arg1_eq e2; cases e
  obtain ⟨ws, h1, r⟩ := o
  obtain ⟨v, rfl, g1⟩ := reps1 rd
  cases rep_int.mp g1
  obtain ⟨v, e6, r2⟩ := r.get e5
  exact ⟨a, ws, i, k, v, rfl, rfl, h1, hz.1, hz.2, by rw [r.length]; exact e4, e6, hQ _ _ ⟨_, upd_same, reps_erase k r⟩ r2⟩
def mReverse : CMeth := fun d ds => d.lst?.bind fun xs => (arg0 ds).bind fun _ => some (True, .lst xs.reverse, .non)
theorem cm_reverse {K : PySem.W.Frag} : CellD K rReverse mReverse := by
  intro F H a d ds vs z Q s o rd e hz hQ
  obtain ⟨xs, e1, e⟩ := bnd e
  obtain ⟨_, e2, e⟩ := bnd e
  cases lst?_eq e1; cases arg0_eq e2; cases e
  obtain ⟨ws, h1, r⟩ := o
  cases reps_nil.mp rd
  exact ⟨a, ws, rfl, rfl, h1, hQ _ _ ⟨_, upd_same, r.reverse⟩ (rep_non.mpr rfl)⟩
def mExtend : CMeth := fun d ds => d.lst?.bind fun xs => (arg1 ds).bind fun y => y.lst?.bind fun ys => some (xs.length + ys.length ≤ sizeLine, .lst (xs ++ ys), .non)
theorem cm_extend {K : PySem.W.Frag} : CellD K rExtend mExtend := by
  intro F H a d ds vs z Q s o rd e hz hQ
  obtain ⟨xs, e1, e⟩ := bnd e
  obtain ⟨y, e2, e⟩ := bnd e
  obtain ⟨ys, e3, e⟩ := bnd e
  cases lst?_eq e1; cases lst?_eq e3; cases arg1_eq e2; cases e
  obtain ⟨ws, h1, r⟩ := o
  obtain ⟨v, rfl, g1⟩ := reps1 rd
  obtain ⟨b, us, rfl, h2, r2⟩ := rep_lst.mp g1
  exact ⟨a, b, ws, us, rfl, rfl, h1, s _ _ h2, by rw [r.length, r2.length]; exact hz, hQ _ _ ⟨_, upd_same, r.append r2⟩ (rep_non.mpr rfl)⟩
def mInsert : CMeth := fun d ds => d.lst?.bind fun xs => (arg2 ds).bind fun p => p.1.int?.bind fun i => some (xs.length < sizeLine ∧ 0 ≤ i ∧ i < 2 ^ 63, .lst (xs.take i.toNat ++ [p.2] ++ xs.drop i.toNat), .non)
theorem cm_insert {K : PySem.W.Frag} : CellD K (fun x vs H Q => ∃ (l : Addr) (xs : List V) (i : Int) (y : V), x = .ref l ∧ vs = [.int i, y] ∧ H l = some (.lst xs) ∧ xs.length < sizeLine ∧ 0 ≤ i ∧ i < 2 ^ 63 ∧ Q .non (upd H l (.lst (xs.take i.toNat ++ [y] ++ xs.drop i.toNat)))) mInsert := by
  intro F H a d ds vs z Q s o rd e hz hQ
  obtain ⟨xs, e1, e⟩ := bnd e
  obtain ⟨p, e2, e⟩ := bnd e
  obtain ⟨i, e3, e⟩ := bnd e
  obtain ⟨p1, p2⟩ := p
  cases lst?_eq e1; cases int?_eq e3; cases arg2_eq e2; cases e
  obtain ⟨ws, h1, r⟩ := o
  obtain ⟨v, w, rfl, g1, g3⟩ := reps2 rd
  cases rep_int.mp g1
  exact ⟨a, ws, i, w, rfl, rfl, h1, by rw [r.length]; exact hz.1, hz.2.1, hz.2.2, hQ _ _ ⟨_, upd_same, ((r.take _).append (Reps.one g3)).append (r.drop _)⟩ (rep_non.mpr rfl)⟩
theorem tn_lst {β : Type} {d : D} {f : List D → Option β} {z : β} (h : d.lst?.bind f = some z) : tyName d = some "list" := by
  obtain ⟨xs, e, _⟩ := bnd h
  cases lst?_eq e
  rfl

/-! ### x[j] = e -/
/-- e first, then the place -/
def tSI (i : Nat) (te tj : TD) : TSD := fun E env => te env fun e1 r => got (escape e1 r) fun z => (∃ d, cellAt z.1 i = some d) ∧ tj z.1 fun e2 r2 => got ((cellAt e2 i).bind D.lst?) fun xs => got ((content e2 r2).bind D.int?) fun j => got (ixN xs.length j) fun m => E.nx (putAt e2 i (.lst (xs.set m z.2)))
section
variable {X : Cx} {x : Str} {pos p1 p2 : Pos} {e j : Expr} {te tj : TD} {i : Nat}
theorem up_si {K : PySem.W.Frag} {D : Ends} {σ : St} {H : Hp} (h : upS K (tSI i te tj) D σ H) : tAsg (up K te) (gSub (tVar i) (up K tj) rSetL) D σ H := by
  obtain ⟨F, env, E, S, h, o⟩ := h
  refine ⟨F, env, _, S, h, fun e1 r ⟨z, ez, ⟨d0, c0⟩, q⟩ F1 H1 v S1 T1 rr => ?_⟩
  obtain ⟨F2, S2, T2, rd⟩ := escape_ok T1 S1 rr ez
  obtain ⟨a, e0, _⟩ := cell_of S2 c0
  refine ⟨.ref a, e0, F2, z.1, _, S2, q, fun e2 r2 ⟨xs, ex, jj, ej, m, em, q⟩ F3 H3 w S3 T3 rr2 => ?_⟩
  obtain ⟨d, c, el⟩ := bnd ex
  cases lst?_eq el
  obtain ⟨dj, cj, el⟩ := bnd ej
  cases int?_eq el
  cases prep_int (RR.prep S3 rr2 cj)
  obtain ⟨a', e3, n, ⟨ws, h1, r1⟩, _⟩ := cell_of S3 c
  rw [e0] at e3; cases e3
  refine ⟨a, ws, jj, m, rfl, rfl, h1, by rw [r1.length]; exact em, ?_⟩
  obtain ⟨S4, T4⟩ := cell_put (o := .lst (ws.set m v)) (d' := .lst (xs.set m z.2)) S3 c e0 ⟨_, upd_same, r1.set m (rd.mono T3.fr)⟩
  exact o.nx _ q F3 _ σ S4 ((T2.trans T3).trans T4)
theorem y_si (hN : X.N[i]? = some x) (hv : Vis X.env.scope x) (he : PX X e te) (hj : PX X j tj) (hd : (x == ("__debug__" : Str)) = false := by decide) (hcd : (x == ("__classdict__" : Str)) = false := by decide)
    (ha : ∀ v, assign (.Subscript (.Name x p1) j p2) X.env v = (do
      let ov ← holding [v] (eval (.Name x p1) X.env)
      let iv ← holding [v, ov] (eval j X.env)
      standAt p2
      holding [v, ov, iv] (setItem ov iv v)
      release [v, ov, iv] []) := by intro _; rfl)
    (hs : swapsWithSole [.Subscript (.Name x p1) j p2] e pos.line X.env = pure false := by rfl) (hw : swappedStores [.Subscript (.Name x p1) j p2] e X.env = pure none := by rfl) (h1 : (assignEach [.Subscript (.Name x p1) j p2] X.env).map (·.2) = [assign (.Subscript (.Name x p1) j p2) X.env] := by rfl) :
    PY X (.Assign [.Subscript (.Name x p1) j p2] e pos) (tSI i te tj) :=
  ⟨(ps_asg he.run (pg_sub (pe_var hN hv hd hcd) hj.run set_list ha) hs hw h1).imp fun D σ H h => up_si h⟩
/-- x op= e, x frozen data -/
def tAu (i : Nat) (f : D → D → Ans) (te : TD) : TSD := fun E env => got (match env[i]? with
  | some (.val d) => some d
  | _ => none) fun d => te env fun e1 r => got (content e1 r) fun d2 => ans e1 (f d d2) fun e2 r2 => got (asg e2 i r2) E.nx
theorem y_aug {op : Operator} {r : R2} {f : D → D → Ans} (hN : X.N.Nodup) (ho : OpR X (inplaceOp op) r) (hd : Op2 X.K r f) (he : PX X e te) (hi : X.N[i]? = some x := by rfl) (hx : Loc X.env.scope x := by first | exact .inl rfl | exact .inr rfl) (hf : X.fn x = true ∨ X.env.scope.names.lookup x = some .local := by first | exact .inl rfl | exact .inr rfl | assumption) :
    PY X (.AugAssign (.Name x p1) op e pos) (tAu i f te) := by
  refine ⟨(ps_aug hN hi hx he.run ho hf).imp fun D σ H ⟨F, env, E, S, ⟨d, ed, h⟩, o⟩ => ?_⟩
  have hv : env[i]? = some (.val d) := by
    split at ed
    · rename_i d' z; cases ed; exact z
    · cases ed
  obtain ⟨ov, e1, v, rfl, rv⟩ := S.sl i _ hv
  refine ⟨v, e1, F, env, _, S, h, fun e2 r2 ⟨d2, c2, z, ez, z1, env3, ea, q⟩ F1 H1 w S1 T1 rr => ?_⟩
  refine hd F1 H1 d d2 v w z _ S1.sub (.inl (rv.mono T1.fr)) (RR.prep S1 rr c2) ez z1 fun u H' oo => ?_
  obtain ⟨F2, S2, T2, rr2⟩ := out_ok S1 oo
  have T3 := T1.trans T2
  obtain ⟨F3, S3, T4⟩ := asg_ok S T3 S2 (rr2.back T1.dom) ea
  exact o.nx _ q F3 _ _ S3 T4
def rIaddA : R2 := fun x y H Q => (rI0 (fun i j => .int (i + j))) x y H Q ∨ (∃ i j, x = .str i ∧ y = .str j ∧ i.length + j.length ≤ sizeLine ∧ Q (.str (i ++ j)) H)
def iaddD : D → D → Ans
  | .int i, .int j => some (True, .v (.int (i + j)))
  | .str a, .str b => some (a.length + b.length ≤ sizeLine, .v (.str (a ++ b)))
  | _, _ => none
theorem op2_iadd {K : PySem.W.Frag} : Op2 K rIaddA iaddD := by
  intro F H d1 d2 v1 v2 z Q s p1 p2 e hz hQ
  cases d1 <;> cases d2 <;> first | (cases e; done) | skip
  · cases e
    cases prep_int p1; cases prep_int p2
    exact .inl ⟨_, _, rfl, rfl, hQ _ _ out_int⟩
  · cases e
    cases prep_str p1; cases prep_str p2
    exact .inr ⟨_, _, rfl, rfl, hz, hQ _ _ out_str⟩
theorem y_iadd (hN : X.N.Nodup) (he : PX X e te) (hi : X.N[i]? = some x := by rfl) (hx : Loc X.env.scope x := by first | exact .inl rfl | exact .inr rfl) (hf : X.fn x = true ∨ X.env.scope.names.lookup x = some .local := by first | exact .inl rfl | exact .inr rfl | assumption) :
    PY X (.AugAssign (.Name x p1) .Add e pos) (tAu i iaddD te) := y_aug hN (opr_or iop_add iop_add_str) op2_iadd he hi hx hf
theorem y_isub (hN : X.N.Nodup) (he : PX X e te) (hi : X.N[i]? = some x := by rfl) (hx : Loc X.env.scope x := by first | exact .inl rfl | exact .inr rfl) (hf : X.fn x = true ∨ X.env.scope.names.lookup x = some .local := by first | exact .inl rfl | exact .inr rfl | assumption) :
    PY X (.AugAssign (.Name x p1) .Sub e pos) (tAu i subD te) := y_aug hN iop_sub op2_sub he hi hx hf
end

/-! ### chains, truth -/
def tCh (f g : D → D → Ans) (ta tb tc : TD) : TD := fun env k => ta env fun e1 r1 => tb e1 fun e2 r2 => two f e2 r1 r2.seal fun e3 r => got (content e3 r) fun d => match d with
  | .bl b => if b = true then tc e3 fun e4 r4 => two g e4 r2 r4 k else k e3 (.val (.bl false))
  | _ => False
section
variable {X : Cx} {a b c : Expr} {ta tb tc : TD} {pos : Pos} {op op' : CmpOp} {r r' : R2} {f g : D → D → Ans}
theorem up_chain {K : PySem.W.Frag} (hf : Op2 K r f) (hg : Op2 K r' g) {σ : St} {H : Hp} {Q : VK} (h : up K (tCh f g ta tb tc) σ H Q) : tChain r r' (up K ta) (up K tb) (up K tc) σ H Q := by
  obtain ⟨F, env, k, S, h, hk⟩ := h
  refine ⟨F, env, _, S, h, fun e1 r1 q1 F1 H1 v1 S1 T1 rr1 => ?_⟩
  obtain ⟨F1', S1', T1', ra1⟩ := seal_ok T1 S1 rr1
  refine ⟨F1', e1, _, S1', q1, fun e2 r2 q2 F2 H2 v2 S2 T2 rr2 => ?_⟩
  obtain ⟨F2', S2', T2', ra2⟩ := seal_ok T2 S2 rr2
  have T3 := T1'.trans T2'
  refine two_ok (H0 := H2) (F0 := F2') (env0 := e2) hf Step.refl S2' (ra1.mono T2'.fr) (RA.rr (H0 := H2) ra2) q2 fun e3 r3 q3 F3 H3 v3 S3 T3' rr3 => ?_
  obtain ⟨d, c, q3⟩ := q3
  have T4 := T3.trans T3'
  cases d with
  | bl b =>
    refine ⟨b, prep_bl (RR.prep S3 rr3 c), ?_⟩
    cases b with
    | true =>
      simp only [if_true] at q3 ⊢
      refine ⟨F3, e3, _, S3, q3, fun e4 r4 q4 F4 H4 v4 S4 T5 rr4 => ?_⟩
      exact two_ok hg T5 S4 (ra2.mono (T3'.fr.trans T5.fr)) rr4 q4 fun e5 r5 q5 F5 H5 v5 S5 T6 rr5 => hk e5 r5 q5 F5 H5 v5 S5 (T4.trans T6) (rr5.back T4.dom)
    | false =>
      simp only [Bool.false_eq_true, if_false] at q3 ⊢
      exact hk _ _ q3 F3 H3 _ S3 T4 rr_bl
  | _ => exact q3.elim
theorem x_chain (ho : OpR X (compareOp op) r) (ho' : OpR X (compareOp op') r') (hf : Op2 X.K r f) (hg : Op2 X.K r' g) (ha : PX X a ta) (hb : PX X b tb) (hc : PX X c tc) (hm : lastMarks [op, op'] [b, c] = false := by with_unfolding_all rfl) : PX X (.Compare a [op, op'] [b, c] pos) (tCh f g ta tb tc) :=
  ⟨(pe_chain ho ho' ha.run hb.run hc.run hm).imp fun _ _ _ h => up_chain hf hg h⟩
theorem xt_chain (ho : OpR X (compareOp op) r) (ho' : OpR X (compareOp op') r') (hf : Op2 X.K r f) (hg : Op2 X.K r' g) (ha : PX X a ta) (hb : PX X b tb) (hc : PX X c tc) (hm : lastMarks [op, op'] [b, c] = false := by with_unfolding_all rfl) : PXT X (.Compare a [op, op'] [b, c] pos) (tBo (tCh f g ta tb tc)) := by
  refine ⟨(pt_chain ho ho' ha.run hb.run hc.run hm).imp fun σ H Q ⟨F, env, k, S, h, hk⟩ => up_chain hf hg ⟨F, env, _, S, h, fun e1 r q F1 H1 v S1 T1 rr => ?_⟩⟩
  obtain ⟨d, c, q⟩ := q
  have pr := RR.prep S1 rr c
  cases d with
  | bl b => exact ⟨b, prep_bl pr, hk _ _ q F1 H1 S1 T1⟩
  | _ => exact q.elim
/-- a comparison as a test -/
theorem xt_cmp (ho : OpR X (compareOp op) r) (hd : Op2 X.K r f) (ha : PX X a ta) (hb : PX X b tb) (hm : behindInMarks op b = false := by first | exact nomark _ | rfl) : PXT X (.Compare a [op] [b] pos) (tBo (tOp2 f ta tb)) := by
  refine ⟨(pt_cmpR ho ha.run hb.run hm).imp fun σ H Q ⟨F, env, k, S, h, hk⟩ => up_op hd ⟨F, env, _, S, h, fun e1 r q F1 H1 v S1 T1 rr => ?_⟩⟩
  obtain ⟨d, c, q⟩ := q
  have pr := RR.prep S1 rr c
  cases d with
  | bl b => exact ⟨b, prep_bl pr, hk _ _ q F1 H1 S1 T1⟩
  | _ => exact q.elim
theorem xt_eq (hu : X.A.units + 64 < cLine) (ha : PX X a ta) (hb : PX X b tb) (hm : behindInMarks .Eq b = false := by first | exact nomark _ | rfl) : PXT X (.Compare a [.Eq] [b] pos) (tBo (tOp2 eqD ta tb)) := xt_cmp (opr_of (h_eq hu)) op2_of ha hb hm
theorem xt_ne (hu : X.A.units + 64 < cLine) (ha : PX X a ta) (hb : PX X b tb) (hm : behindInMarks .NotEq b = false := by first | exact nomark _ | rfl) : PXT X (.Compare a [.NotEq] [b] pos) (tBo (tOp2 neD ta tb)) := xt_cmp (opr_of (h_ne hu)) op2_of ha hb hm
theorem xt_lt (hu : X.A.units + 64 < cLine) (ha : PX X a ta) (hb : PX X b tb) (hm : behindInMarks .Lt b = false := by first | exact nomark _ | rfl) : PXT X (.Compare a [.Lt] [b] pos) (tBo (tOp2 (cmD .lt) ta tb)) := xt_cmp (opr_of (h_cm .lt hu fun _ _ => rfl)) op2_of ha hb hm
theorem xt_le (hu : X.A.units + 64 < cLine) (ha : PX X a ta) (hb : PX X b tb) (hm : behindInMarks .LtE b = false := by first | exact nomark _ | rfl) : PXT X (.Compare a [.LtE] [b] pos) (tBo (tOp2 (cmD .le) ta tb)) := xt_cmp (opr_of (h_cm .le hu fun _ _ => rfl)) op2_of ha hb hm
theorem xt_gt (hu : X.A.units + 64 < cLine) (ha : PX X a ta) (hb : PX X b tb) (hm : behindInMarks .Gt b = false := by first | exact nomark _ | rfl) : PXT X (.Compare a [.Gt] [b] pos) (tBo (tOp2 (cmD .gt) ta tb)) := xt_cmp (opr_of (h_cm .gt hu fun _ _ => rfl)) op2_of ha hb hm
theorem xt_ge (hu : X.A.units + 64 < cLine) (ha : PX X a ta) (hb : PX X b tb) (hm : behindInMarks .GtE b = false := by first | exact nomark _ | rfl) : PXT X (.Compare a [.GtE] [b] pos) (tBo (tOp2 (cmD .ge) ta tb)) := xt_cmp (opr_of (h_cm .ge hu fun _ _ => rfl)) op2_of ha hb hm
theorem xt_in (hu : X.A.units + 64 < cLine) (ha : PX X a ta) (hb : PX X b tb) (hm : behindInMarks .In b = false := by first | exact nomark _ | rfl) : PXT X (.Compare a [.In] [b] pos) (tBo (tOp2 inD ta tb)) := xt_cmp (opr_of (h_in hu)) op2_of ha hb hm
theorem xt_notIn (hu : X.A.units + 64 < cLine) (ha : PX X a ta) (hb : PX X b tb) (hm : behindInMarks .NotIn b = false := by first | exact nomark _ | rfl) : PXT X (.Compare a [.NotIn] [b] pos) (tBo (tOp2 notInD ta tb)) := xt_cmp (opr_of (h_notIn hu)) op2_of ha hb hm
theorem xt_is (ha : PX X a ta) (hb : PX X b tb) (hm : behindInMarks .Is b = false := by first | exact nomark _ | rfl) : PXT X (.Compare a [.Is] [b] pos) (tBo (tOp2 isD ta tb)) := xt_cmp op_isN op2_is ha hb hm
theorem xt_isNot (ha : PX X a ta) (hb : PX X b tb) (hm : behindInMarks .IsNot b = false := by first | exact nomark _ | rfl) : PXT X (.Compare a [.IsNot] [b] pos) (tBo (tOp2 isNotD ta tb)) := xt_cmp op_notN op2_isNot ha hb hm
/-- any value by its truth -/
def truD : D → Option (Prop × Bool)
  | .non => some (True, false)
  | .bl b => some (True, b)
  | .int i => some (True, i != 0)
  | .str z => some (z.length ≤ sizeLine, (z.length : Int) != 0)
  | .lst ds => some (True, !ds.isEmpty)
  | .tup ds => some (True, !ds.isEmpty)
  | .rol ds => some (True, !ds.isEmpty)
  | _ => none
def tTr (t : TD) : TTD := fun env k => t env fun e1 r => got (content e1 r) fun d => got (truD d) fun z => z.1 ∧ k e1 z.2
theorem emp_of {K : PySem.W.Frag} {F : Hp} {ds : List D} {vs : List V} (r : Reps K F ds vs) : (!ds.isEmpty) = !vs.isEmpty := by
  have := r.length
  cases ds <;> cases vs <;> first | rfl | cases this
theorem tru_of {K : PySem.W.Frag} {F H : Hp} {d : D} {v : V} {z : Prop × Bool} (s : Same F H) (p : PRep K F H d v) (e : truD d = some z) (h : z.1) : TruV K v H z.2 := by
  cases d <;> first | (cases e; done) | skip
  all_goals cases e
  · cases prep_non p; rfl
  · cases prep_bl p; rfl
  · cases prep_int p; rfl
  · cases prep_str p; exact ⟨h, rfl⟩
  · obtain ⟨a, vs, rfl, h1, r⟩ := prep_lst s p
    exact .inl ⟨vs, .inl (.inl h1), emp_of r⟩
  · obtain ⟨a, vs, rfl, h1, r⟩ := prep_tup s p
    exact .inr (.inl ⟨vs, h1, emp_of r⟩)
  · obtain ⟨a, vs, rfl, h1, r⟩ := prep_rol s p
    exact .inl ⟨vs, h1, emp_of r⟩
theorem xt_truth (h : PX X a ta) (he : ∀ whole, isTrue a X.env whole = (do let v ← whole; standAt a.pos; holding [v] (truthy v)) := by intro _; rfl) : PXT X a (tTr ta) :=
  ⟨(pt_truth h.run he).imp fun σ H Q ⟨F, env, k, S, h, hk⟩ => ⟨F, env, _, S, h, fun e1 r ⟨d, c, z, ez, z1, q⟩ F1 H1 v S1 T1 rr => ⟨z.2, tru_of S1.sub (RR.prep S1 rr c) ez z1, hk _ _ q F1 H1 S1 T1⟩⟩⟩
end

/-! ### slices -/
def slD : D → Option Int → Option Int → Ans
  | .lst ds, lo, hi => some (True, .l ((ds.drop (HT.sIx ds.length 0 lo)).take (HT.sIx ds.length ds.length hi - HT.sIx ds.length 0 lo)))
  | .rol ds, lo, hi => some (True, .l ((ds.drop (HT.sIx ds.length 0 lo)).take (HT.sIx ds.length ds.length hi - HT.sIx ds.length 0 lo)))
  | .tup ds, lo, hi => some (True, .t ((ds.drop (HT.sIx ds.length 0 lo)).take (HT.sIx ds.length ds.length hi - HT.sIx ds.length 0 lo)))
  | .str z, lo, hi => some (z.length ≤ sizeLine, .v (.str (cutS z lo hi)))
  | _, _, _ => none
abbrev TPD := Env → (Env → Option Int → Prop) → Prop
structure PXO (X : Cx) (e : Option Expr) (t : TPD) : Prop where
  run : PO X e (fun σ H Q => ∃ F env k, SR X.K F H σ env ∧ t env k ∧ ∀ env' o, k env' o → ∀ F' H', SR X.K F' H' σ env' → Step F H σ env F' H' σ env' → Q o H')
theorem _root_.L2.PO.imp {X : Cx} {e : Option Expr} {t t' : TO} (h : PO X e t) (i : ∀ σ H Q, t' σ H Q → t σ H Q) : PO X e t' := ⟨fun pins s σ H Q I q => h.run pins s σ H Q I (i σ H Q q)⟩
def oN : TPD := fun env k => k env none
def oS (t : TD) : TPD := fun env k => t env fun e1 r => got ((content e1 r).bind D.int?) fun i => k e1 (some i)
section
variable {X : Cx} {e : Expr} {te : TD} {lo hi : Option Expr} {tl th : TPD} {pos p2 : Pos}
theorem xo_none : PXO X none oN := ⟨po_none.imp fun σ H Q ⟨F, env, k, S, h, hk⟩ => hk _ _ h F H S Step.refl⟩
theorem xo_some (h : PX X e te) : PXO X (some e) (oS te) := ⟨(po_some h.run).imp fun σ H Q ⟨F, env, k, S, h, hk⟩ => ⟨F, env, _, S, h, fun e1 r ⟨i, ei, q⟩ F1 H1 v S1 T1 rr => by
  obtain ⟨d, c, ed⟩ := bnd ei
  cases int?_eq ed
  exact ⟨i, prep_int (RR.prep S1 rr c), hk _ _ q F1 H1 S1 T1⟩⟩⟩
def tSlc (te : TD) (tl th : TPD) : TD := fun env k => te env fun e1 r => tl e1 fun e2 lo => th e2 fun e3 hi => got (content e3 r) fun d => ans e3 (slD d lo hi) k
def rSlAny (K : PySem.W.Frag) : V → Option Int → Option Int → Hp → VK → Prop := fun x lo hi H Q => rSlL K x lo hi H Q ∨ (rSlA K x lo hi H Q ∨ rSlS x lo hi H Q)
theorem sIx_le (n d : Nat) (o : Option Int) (h : d ≤ n) : HT.sIx n d o ≤ n := HT.sIx_le _ _ h _
theorem reps_cut {K : PySem.W.Frag} {F : Hp} {ds : List D} {vs : List V} (r : Reps K F ds vs) (lo hi : Option Int) : Reps K F ((ds.drop (HT.sIx ds.length 0 lo)).take (HT.sIx ds.length ds.length hi - HT.sIx ds.length 0 lo)) (cutV vs lo hi) := by
  unfold cutV
  rw [r.length]
  exact (r.drop _).take _
theorem x_slc (he : PX X e te) (hl : PXO X lo tl) (hh : PXO X hi th) : PX X (.Subscript e (.Slice lo hi none p2) pos) (tSlc te tl th) := by
  refine ⟨(pe_slice (r := rSlAny X.K) (sl_list.or (sl_tupA.or sl_str)) he.run hl.run hh.run).imp fun σ H Q ⟨F, env, k, S, h, hk⟩ => ?_⟩
  refine ⟨F, env, _, S, h, fun e1 r q1 F1 H1 v S1 T1 rr => ?_⟩
  obtain ⟨F1', S1', T1', ra⟩ := seal_ok T1 S1 rr
  refine ⟨F1', e1, _, S1', q1, fun e2 lo q2 F2 H2 S2 T2 => ⟨F2, e2, _, S2, q2, fun e3 hi q3 F3 H3 S3 T3 => ?_⟩⟩
  obtain ⟨d, c, z, ez, z1, q⟩ := q3
  have T4 := T1'.trans (T2.trans T3)
  have c' : content e3 r.seal = some d := by cases r <;> exact c
  have pr : PRep X.K F3 H3 d v := RR.prep S3 (RA.rr (H0 := H) (ra.mono (T2.fr.trans T3.fr))) c'
  have go : ∀ {v H'}, OutOk X.K F3 H3 z.2 v H' → Q v H' := fun oo => by
    obtain ⟨F5, S5, T5, rr5⟩ := out_ok S3 oo
    exact hk _ _ q F5 _ _ S5 (T4.trans T5) (rr5.back T4.dom)
  cases d <;> first | (cases ez; done) | skip
  all_goals cases ez
  · cases prep_str pr
    exact .inr (.inr ⟨_, rfl, z1, go out_str⟩)
  · obtain ⟨a, vs, rfl, h1, r1⟩ := prep_lst S3.sub pr
    exact .inl ⟨a, vs, rfl, .inl (.inl h1), fun p n => go ⟨p, _, rfl, n, rfl, reps_cut r1 lo hi⟩⟩
  · have pr2 := pr
    obtain ⟨a, vs, ea, h1, r1⟩ := prep_tup S3.sub pr
    refine .inr (.inl ⟨a, vs, ea, h1, fun w => go (.inr ⟨rfl, ?_⟩), fun w p n => go (.inl ⟨p, _, rfl, n, rfl, reps_cut r1 lo hi⟩)⟩)
    rcases pr2 with pr2 | ⟨_, _, pr2⟩
    · rw [r1.length] at w
      rw [w.1, w.2, List.drop_zero, Nat.sub_zero, List.take_length, ← ea]
      exact pr2
    · exact pr2.elim
  · obtain ⟨a, vs, rfl, h1, r1⟩ := prep_rol S3.sub pr
    exact .inl ⟨a, vs, rfl, h1, fun p n => go ⟨p, _, rfl, n, rfl, reps_cut r1 lo hi⟩⟩
end
end Pd

set_option Elab.async false
set_option linter.all false
set_option maxRecDepth 100000
/-! Parallel stores, all and any, zip, bit_length over pure data. -/
namespace Pd
open PySem PySem.Spec PyProof.Rows L2
/-! ### a, b = x, y -/
/-- a value held between: frozen, or a new cell of nobody's -/
def HoldR (K : PySem.W.Frag) (H0 F H : Hp) (σ : St) (env : Env) : R → V → Prop
  | .al _, _ => False
  | r, v => RR K H0 F H σ env r v
/-- each is held, and no two of the new cells are one -/
def Holds2 (K : PySem.W.Frag) (H0 F H : Hp) (σ : St) (env : Env) : List R → List V → Prop
  | [], vs => vs = []
  | r :: rs, vs => ∃ v us, vs = v :: us ∧ HoldR K H0 F H σ env r v ∧ (∀ d, r = .new d → ∀ (j : Nat) e, rs[j]? = some (.new e) → us[j]? ≠ some v) ∧ Holds2 K H0 F H σ env rs us
def upB (K : PySem.W.Frag) (t : TAD) : TA := fun σ H Q => ∃ F env k, SR K F H σ env ∧ t env k ∧ ∀ env' rs, k env' rs → ∀ F' H' vs, SR K F' H' σ env' → Step F H σ env F' H' σ env' → Holds2 K H F' H' σ env' rs vs → Q vs H'
structure PXB (X : Cx) (es : List Expr) (t : TAD) : Prop where
  run : PA X es (upB X.K t)
def tCoB (ta : TD) (tr : TAD) : TAD := fun env k => ta env fun e1 r => match r with
  | .al i => got (escape e1 (.al i)) fun z => tr z.1 fun e2 rs => k e2 (.val z.2 :: rs)
  | r => tr e1 fun e2 rs => k e2 (r :: rs)
section
variable {K : PySem.W.Frag} {F0 H0 F H F1 H1 : Hp} {σ : St} {env0 env env1 : Env}
theorem HoldR.step {r : R} {v : V} (T : Step F H σ env F1 H1 σ env1) (h : HoldR K H0 F H σ env r v) : HoldR K H0 F1 H1 σ env1 r v := by
  cases r with
  | al i => exact h
  | val d => exact Rep.mono T.fr h
  | new d =>
    obtain ⟨a, rfl, n, n0, no, r⟩ := h
    obtain ⟨o, ho⟩ := r.there
    obtain ⟨h1, h2, h3⟩ := T.cell ho n no
    refine ⟨a, rfl, h2, n0, h3, ?_⟩
    have q := r.mono T.fr (H' := upd H1 a o) fun u e => by rw [upd_same, ← ho, e]
    have e : upd H1 a o = H1 := by
      funext b
      by_cases hb : b = a
      · subst hb; rw [upd_same, h1]
      · rw [upd_ne hb]
    rw [e] at q
    exact q
theorem HoldR.back {r : R} {v : V} (h : HoldR K H1 F H σ env r v) (dom : ∀ a, H1 a = none → H0 a = none) : HoldR K H0 F H σ env r v := by
  cases r with
  | al i => exact h
  | val d => exact h
  | new d => obtain ⟨a, rfl, n, n0, q⟩ := h; exact ⟨a, rfl, n, dom a n0, q⟩
theorem Holds2.back (dom : ∀ a, H1 a = none → H0 a = none) : ∀ {rs : List R} {vs : List V}, Holds2 K H1 F H σ env rs vs → Holds2 K H0 F H σ env rs vs
  | [], vs, h => h
  | r :: rs, vs, ⟨v, us, e, h1, h2, h3⟩ => ⟨v, us, e, h1.back dom, h2, Holds2.back dom h3⟩
theorem Holds2.get : ∀ {rs : List R} {vs : List V} {j : Nat} {r : R} {v : V}, Holds2 K H0 F H σ env rs vs → rs[j]? = some r → vs[j]? = some v → HoldR K H0 F H σ env r v
  | r :: rs, vs, 0, r', v', ⟨v, us, e, h1, h2, h3⟩, e1, e2 => by cases e1; subst e; cases e2; exact h1
  | r :: rs, vs, j + 1, r', v', ⟨v, us, e, h1, h2, h3⟩, e1, e2 => by subst e; exact Holds2.get h3 e1 e2
theorem hold_cons {e : Expr} {es : List Expr} {te : TD} {t : TAD} {X : Cx} (ha : PX X e te) (hr : PXB X es t) (hs : starEach (e :: es) X.env = (false, eval e X.env) :: starEach es X.env := by rfl) : PXB X (e :: es) (tCoB te t) := by
  refine ⟨(pa_cons ha.run hr.run hs).imp fun σ H Q ⟨F, env, k, S, h, hk⟩ => ?_⟩
  refine ⟨F, env, _, S, h, fun e1 r1 q1 F1 H1 v1 S1 T1 rr1 => ?_⟩
  have key : ∀ {e1 : Env} {r : R} {F1 : Hp}, SR X.K F1 H1 σ e1 → Step F H σ env F1 H1 σ e1 → HoldR X.K H F1 H1 σ e1 r v1 → t e1 (fun e2 rs => k e2 (r :: rs)) → upB X.K t σ H1 fun xs H2 => Q (v1 :: xs) H2 := fun {e1 r F1} S1 T1 h1 q1 => by
    refine ⟨F1, e1, _, S1, q1, fun e2 rs q2 F2 H2 vs S2 T2 hs2 => ?_⟩
    refine hk _ _ q2 F2 H2 (v1 :: vs) S2 (T1.trans T2) ⟨v1, vs, rfl, h1.step T2, fun d ed j e ej ev => ?_, hs2.back T1.dom⟩
    subst ed
    obtain ⟨a, rfl, n, n0, no, r⟩ := h1
    obtain ⟨o, ho⟩ := r.there
    obtain ⟨b, eb, _, nb, _⟩ := hs2.get ej ev
    cases eb
    rw [ho] at nb; cases nb
  cases r1 with
  | val d => exact key (r := .val d) S1 T1 rr1 q1
  | new d => exact key (r := .new d) S1 T1 rr1 q1
  | al i =>
    obtain ⟨z, ez, q1⟩ := q1
    obtain ⟨F1', S1', T1', rd⟩ := escape_ok T1 S1 rr1 ez
    exact key S1' T1' (show HoldR X.K H F1' H1 σ z.1 (.val z.2) v1 from rd) q1
theorem hold_nil {X : Cx} : PXB X [] tN := ⟨pa_nil.imp fun _ _ _ ⟨F, env, k, S, h, hk⟩ => hk _ _ h F _ [] S Step.refl rfl⟩
def asgs : Env → List Nat → List R → Option Env
  | env, [], [] => some env
  | env, i :: is, r :: rs => (asg env i r).bind fun e => asgs e is rs
  | _, _, _ => none
def setsV : St → List Nat → List V → St
  | σ, i :: is, v :: vs => setsV (σ.set i (some v)) is vs
  | σ, _, _ => σ
/-- a store of what is held -/
theorem asg_hold {σ0 : St} {i : Nat} {r : R} {v : V} {env' : Env} (S0 : SR K F0 H0 σ0 env0) (T : Step F0 H0 σ0 env0 F H σ env) (S : SR K F H σ env) (h : HoldR K H0 F H σ env r v) (e : asg env i r = some env') :
    SR K F H (σ.set i (some v)) env' ∧ Step F0 H0 σ0 env0 F H (σ.set i (some v)) env' ∧ ∀ a, OwnA env' (σ.set i (some v)) a → OwnA env σ a ∨ ((∃ d, r = .new d) ∧ v = .ref a) := by
  have ni : notIo env i := fun d z => by
    unfold asg at e
    rw [z] at e
    cases e
  unfold asg at e
  split at e
  · cases e
  · cases e
  · cases r with
    | al j => exact h.elim
    | val d =>
      cases e
      exact ⟨S.setVal h, step_setT T ni rfl fun m => (by cases m), fun a z => by
        rcases own_set z with ⟨m, _⟩ | z
        · cases m
        · exact .inl z⟩
    | new d =>
      cases e
      obtain ⟨a, rfl, n, n0, no, r⟩ := h
      refine ⟨S.setOwn n no (fun j d' b h1 h2 h3 => ?_) r, step_setT T ni rfl fun _ => ⟨rfl, fun x hx => ?_⟩, fun b z => ?_⟩
      · obtain ⟨h4, h5⟩ := T.br j d' h1
        obtain ⟨ov, e1, v, rfl, q⟩ := S0.sl j _ h4
        rw [← h5, h2] at e1
        cases e1
        rcases q with q | ⟨c, e2, _, q⟩
        · exact .inl (q.mono T.fr)
        · cases e2
          obtain ⟨u, e3⟩ := q.there
          exact .inr fun z => by subst z; rw [n0] at e3; cases e3
      · cases hx
        exact .inl n0
      · rcases own_set z with ⟨_, q⟩ | z
        · exact .inr ⟨⟨d, rfl⟩, q⟩
        · exact .inl z
theorem asgs_ok {σ0 : St} (S0 : SR K F0 H0 σ0 env0) : ∀ {is : List Nat} {rs : List R} {vs : List V} {σ : St} {env env' : Env}, Step F0 H0 σ0 env0 F H σ env → SR K F H σ env → (Holds2 K H0 F H σ env rs vs) → asgs env is rs = some env' →
    SR K F H (setsV σ is vs) env' ∧ Step F0 H0 σ0 env0 F H (setsV σ is vs) env'
  | [], [], vs, σ, env, env', T, S, h, e => by cases e; cases h; exact ⟨S, T⟩
  | [], _ :: _, vs, σ, env, env', T, S, h, e => by cases e
  | _ :: _, [], vs, σ, env, env', T, S, h, e => by cases e
  | i :: is, r :: rs, vs, σ, env, env', T, S, ⟨v, us, ev, h1, h2, h3⟩, e => by
    subst ev
    obtain ⟨env1, e1, e2⟩ := Option.bind_eq_some_iff.mp (show (asg env i r).bind (fun e => asgs e is rs) = some env' from e)
    obtain ⟨S1, T1, ow⟩ := asg_hold S0 T S h1 e1
    have go : ∀ {rs : List R} {us : List V}, (∀ d, r = .new d → ∀ (j : Nat) e, rs[j]? = some (.new e) → us[j]? ≠ some v) → Holds2 K H0 F H σ env rs us → Holds2 K H0 F H (σ.set i (some v)) env1 rs us := fun {rs} => by
      induction rs with
      | nil => exact fun _ h => h
      | cons r' rs ih =>
        rintro us hn ⟨v', us', rfl, g1, g2, g3⟩
        refine ⟨v', us', rfl, ?_, g2, ih (fun d ed j e ej => hn d ed (j + 1) e ej) g3⟩
        cases r' with
        | al j => exact g1
        | val d => exact g1
        | new d =>
          obtain ⟨a, rfl, n, n0, no, r⟩ := g1
          refine ⟨a, rfl, n, n0, fun z => ?_, r⟩
          rcases ow a z with z | ⟨⟨d', ed⟩, z⟩
          · exact no z
          · exact hn d' ed 0 d rfl (by rw [z]; rfl)
    have q := asgs_ok (is := is) (rs := rs) (vs := us) S0 T1 S1 (go h2 h3) e2
    exact q
/-- a, b, .. = e, ..: stored from the left -/
def tPm (is : List Nat) (t : TAD) : TSD := fun E env => t env fun e1 rs => got (asgs e1 is rs) E.nx
end
section
variable {X : Cx} {i j l : Nat} {x y z : Str} {a b c : Expr} {t : TAD} {px py pz pt pos : Pos} {kt k2 : Nat} {pt2 : Pos}
theorem y_par2 (hc : X.calm = true) (hN : X.N.Nodup) (ha : PXB X [a, b] t) (hi : X.N[i]? = some x := by rfl) (hj : X.N[j]? = some y := by rfl) (hij : i ≠ j := by decide)
    (hx : X.env.scope.names.lookup x = some .local := by rfl) (hy : X.env.scope.names.lookup y = some .local := by rfl)
    (hw : swappedStores [.Tuple [.Name x px, .Name y py] kt pt] (.Tuple [a, b] k2 pt2) X.env = pure (some [x, y]) := by rfl)
    (hs : swapsWithSole [.Tuple [.Name x px, .Name y py] kt pt] (.Tuple [a, b] k2 pt2) pos.line X.env = pure false := by rfl) :
    PY X (.Assign [.Tuple [.Name x px, .Name y py] kt pt] (.Tuple [a, b] k2 pt2) pos) (tPm [i, j] t) := by
  refine ⟨(ps_par hc hN hi hj hij hx hy ha.run hw hs).imp fun D σ H ⟨F, env, E, S, h, o⟩ => ?_⟩
  refine ⟨F, env, _, S, h, fun e1 rs q F1 H1 vs S1 T1 hs1 => ?_⟩
  obtain ⟨e2, ea, q⟩ := q
  obtain ⟨S2, T2⟩ := asgs_ok S T1 S1 hs1 ea
  match rs, hs1, ea with
  | [r1, r2], ⟨v, us, e1, h1, h2, w, us2, e2, h3, h4, e3⟩, ea =>
    cases e1; cases e2; cases e3
    exact ⟨v, w, rfl, o.nx _ q F1 H1 _ S2 T2⟩
  | [], _, ea => cases ea
  | [_], _, ea =>
    obtain ⟨_, _, ea⟩ := Option.bind_eq_some_iff.mp ea
    cases ea
  | _ :: _ :: _ :: _, _, ea =>
    obtain ⟨_, _, ea⟩ := Option.bind_eq_some_iff.mp ea
    obtain ⟨_, _, ea⟩ := Option.bind_eq_some_iff.mp ea
    cases ea
theorem y_par3 (hc : X.calm = true) (hN : X.N.Nodup) (ha : PXB X [a, b, c] t) (hi : X.N[i]? = some x := by rfl) (hj : X.N[j]? = some y := by rfl) (hl : X.N[l]? = some z := by rfl) (hij : i ≠ j := by decide) (hil : i ≠ l := by decide) (hjl : j ≠ l := by decide)
    (hx : X.env.scope.names.lookup x = some .local := by rfl) (hy : X.env.scope.names.lookup y = some .local := by rfl) (hz : X.env.scope.names.lookup z = some .local := by rfl)
    (hw : swappedStores [.Tuple [.Name x px, .Name y py, .Name z pz] kt pt] (.Tuple [a, b, c] k2 pt2) X.env = pure (some [x, y, z]) := by rfl)
    (hs : swapsWithSole [.Tuple [.Name x px, .Name y py, .Name z pz] kt pt] (.Tuple [a, b, c] k2 pt2) pos.line X.env = pure false := by rfl) :
    PY X (.Assign [.Tuple [.Name x px, .Name y py, .Name z pz] kt pt] (.Tuple [a, b, c] k2 pt2) pos) (tPm [i, j, l] t) := by
  refine ⟨(ps_par3 hc hN hi hj hl hij hil hjl hx hy hz ha.run hw hs).imp fun D σ H ⟨F, env, E, S, h, o⟩ => ?_⟩
  refine ⟨F, env, _, S, h, fun e1 rs q F1 H1 vs S1 T1 hs1 => ?_⟩
  obtain ⟨e2, ea, q⟩ := q
  obtain ⟨S2, T2⟩ := asgs_ok S T1 S1 hs1 ea
  match rs, hs1, ea with
  | [r1, r2, r3], ⟨v, us, e1, h1, h2, w, us2, e2, h3, h4, u, us3, e3, h5, h6, e4⟩, ea =>
    cases e1; cases e2; cases e3; cases e4
    exact ⟨v, w, u, rfl, o.nx _ q F1 H1 _ S2 T2⟩
  | [], _, ea => cases ea
  | [_], _, ea =>
    obtain ⟨_, _, ea⟩ := Option.bind_eq_some_iff.mp ea
    cases ea
  | [_, _], _, ea =>
    obtain ⟨_, _, ea⟩ := Option.bind_eq_some_iff.mp ea
    obtain ⟨_, _, ea⟩ := Option.bind_eq_some_iff.mp ea
    cases ea
  | _ :: _ :: _ :: _ :: _, _, ea =>
    obtain ⟨_, _, ea⟩ := Option.bind_eq_some_iff.mp ea
    obtain ⟨_, _, ea⟩ := Option.bind_eq_some_iff.mp ea
    obtain ⟨_, _, ea⟩ := Option.bind_eq_some_iff.mp ea
    cases ea
end
end Pd

set_option Elab.async false
set_option linter.all false
set_option maxRecDepth 100000
/-! all and any, zip, bit_length, gcd, calls with keywords, instances over pure data. -/
namespace Pd
open PySem PySem.Spec PyProof.Rows L2
/-! ### all, any of a list of bools -/
def bools : List D → Option (List Bool)
  | [] => some []
  | .bl b :: ds => (bools ds).map (b :: ·)
  | _ => none
def allD : List D → Ans
  | [.lst xs] => (bools xs).map fun bs => (True, .v (.bl (bs.all id)))
  | [.rol xs] => (bools xs).map fun bs => (True, .v (.bl (bs.all id)))
  | _ => none
def anyD : List D → Ans
  | [.lst xs] => (bools xs).map fun bs => (True, .v (.bl (bs.any id)))
  | [.rol xs] => (bools xs).map fun bs => (True, .v (.bl (bs.any id)))
  | _ => none
theorem reps_bools {K : PySem.W.Frag} {F : Hp} : ∀ {xs : List D} {vs : List V} {bs : List Bool}, Reps K F xs vs → bools xs = some bs → vs = bs.map V.bl
  | [], vs, bs, r, e => by cases e; exact reps_nil.mp r
  | .bl b :: xs, vs, bs, r, e => by
    obtain ⟨bs', e1, rfl⟩ := Option.map_eq_some_iff.mp (show (bools xs).map (b :: ·) = some bs from e)
    obtain ⟨v, us, rfl, r1, r2⟩ := reps_cons.mp r
    cases rep_bl.mp r1
    rw [reps_bools r2 e1]
    rfl
  | .non :: _, _, _, _, e => by cases e
  | .int _ :: _, _, _, _, e => by cases e
  | .str _ :: _, _, _, _, e => by cases e
  | .ty _ :: _, _, _, _, e => by cases e
  | .lst _ :: _, _, _, _, e => by cases e
  | .tup _ :: _, _, _, _, e => by cases e
  | .dct _ _ :: _, _, _, _, e => by cases e
  | .obj _ _ _ :: _, _, _, _, e => by cases e
  | .rol _ :: _, _, _, _, e => by cases e
  | .cls _ :: _, _, _, _, e => by cases e
theorem cd_allany {K : PySem.W.Frag} {g : List Bool → Bool} {f : List D → Ans} (hf1 : ∀ xs, f [.lst xs] = (bools xs).map fun bs => (True, .v (.bl (g bs)))) (hf2 : ∀ xs, f [.rol xs] = (bools xs).map fun bs => (True, .v (.bl (g bs))))
    (hf : ∀ ds z, f ds = some z → ∃ xs, ds = [.lst xs] ∨ ds = [.rol xs]) : CallD K (fun vs H Q => ∃ (a : Addr) (bs : List Bool), vs = [V.ref a] ∧ SqL K H a (bs.map V.bl) ∧ Q (.bl (g bs)) H) f := by
  intro F H ds vs z Q s p e hz hQ
  obtain ⟨xs, rfl | rfl⟩ := hf ds z e
  · rw [hf1] at e
    obtain ⟨bs, e1, rfl⟩ := Option.map_eq_some_iff.mp e
    obtain ⟨v, rfl, p1⟩ := paired1 p
    obtain ⟨a, ws, rfl, h1, r⟩ := prep_lst s p1
    rw [reps_bools r e1] at h1
    exact ⟨a, bs, rfl, .inl (.inl h1), hQ _ _ out_bl⟩
  · rw [hf2] at e
    obtain ⟨bs, e1, rfl⟩ := Option.map_eq_some_iff.mp e
    obtain ⟨v, rfl, p1⟩ := paired1 p
    obtain ⟨a, ws, rfl, h1, r⟩ := prep_rol s p1
    rw [reps_bools r e1] at h1
    exact ⟨a, bs, rfl, h1, hQ _ _ out_bl⟩
theorem cd_all {K : PySem.W.Frag} : CallD K (rAll K) allD := cd_allany (fun _ => rfl) (fun _ => rfl) fun ds z e => by
  unfold allD at e
  split at e
  · exact ⟨_, .inl rfl⟩
  · exact ⟨_, .inr rfl⟩
  · cases e
theorem cd_any {K : PySem.W.Frag} : CallD K (rAny K) anyD := cd_allany (fun _ => rfl) (fun _ => rfl) fun ds z e => by
  unfold anyD at e
  split at e
  · exact ⟨_, .inl rfl⟩
  · exact ⟨_, .inr rfl⟩
  · cases e

/-! ### zip -/
/-- the items, by kind: true a list, false a tuple -/
def seqK : D → Option (Bool × List D)
  | .lst xs => some (true, xs)
  | .rol xs => some (true, xs)
  | .tup xs => some (false, xs)
  | _ => none
def iterK (env : Env) : R → Option (Env × Bool × List D)
  | .val d => (seqK d).map (env, ·)
  | .new _ => none
  | .al i => match env[i]? with
    | some (.val d) => (seqK d).map (env, ·)
    | some (.br d) => (seqK d).map (env, ·)
    | some (.own d) => (seqK d).map (env.set i (.val d), ·)
    | _ => none
def ItK (K : PySem.W.Frag) (H : Hp) (x : V) (b : Bool) (a : Addr) : Prop := x = .ref a ∧ match b with
  | true => ∃ xs, SqL K H a xs
  | false => ∃ xs, SqT K H a xs
def itK (K : PySem.W.Frag) (b : Bool) (a : Addr) : It := match b with
  | true => Itl K a
  | false => Itt K a
section
variable {K : PySem.W.Frag} {F H F1 H1 : Hp} {σ σ1 : St} {env env1 env' : Env} {ds : List D} {b : Bool}
theorem yieldsK_rep {d : D} {v : V} (S1 : SR K F1 H1 σ1 env1) (r : Rep K F1 d v) (e : seqK d = some (b, ds)) : ∃ a, ItK K H1 v b a ∧ Yields K (itK K b a) ds F1 H1 σ1 env1 := by
  cases d with
  | lst xs =>
    cases e
    obtain ⟨a, vs, rfl, h, r⟩ := rep_lst.mp r
    exact ⟨a, ⟨rfl, vs, .inl (.inl (S1.sub _ _ h))⟩, Yields.list (fun F H σ env S T => .inl (.inl (S.sub _ _ (T.fr _ _ h)))) r⟩
  | rol xs =>
    cases e
    obtain ⟨a, vs, rfl, h, r⟩ := rep_rol.mp r
    exact ⟨a, ⟨rfl, vs, S1.sub.seq h⟩, Yields.list (fun F H σ env S T => S.sub.seq (T.fr.seq h)) r⟩
  | tup xs =>
    cases e
    obtain ⟨a, vs, rfl, h, r⟩ := rep_tup.mp r
    exact ⟨a, ⟨rfl, vs, Same.seqT S1.sub h⟩, Yields.tup (fun F H σ env S T => Same.seqT S.sub (Same.seqT T.fr h)) r⟩
  | _ => cases e
theorem iterK_ok {F0 H0 : Hp} {σ0 : St} {env0 env' : Env} {r : R} {v : V} (T : Step F0 H0 σ0 env0 F H σ env) (S : SR K F H σ env) (h : RR K H0 F H σ env r v) (e : iterK env r = some (env', b, ds)) :
    ∃ F' a, SR K F' H σ env' ∧ Step F0 H0 σ0 env0 F' H σ env' ∧ Step F H σ env F' H σ env' ∧ ItK K H v b a ∧ Yields K (itK K b a) ds F' H σ env' := by
  cases r with
  | val d =>
    obtain ⟨_, e1, e2⟩ := Option.map_eq_some_iff.mp e
    cases e2
    obtain ⟨J, h1, h2⟩ := yieldsK_rep S h e1
    exact ⟨F, J, S, T, Step.refl, h1, h2⟩
  | new d => cases e
  | al i =>
    have h : σ[i]? = some (some v) := h
    unfold iterK at e
    simp only at e
    split at e
    · rename_i d q
      obtain ⟨_, e1, e2⟩ := Option.map_eq_some_iff.mp e
      cases e2
      obtain ⟨ov, e3, u, rfl, r⟩ := S.sl i _ q
      rw [h] at e3; cases e3
      obtain ⟨J, h1, h2⟩ := yieldsK_rep S r e1
      exact ⟨F, J, S, T, Step.refl, h1, h2⟩
    · rename_i d q
      obtain ⟨_, e1, e2⟩ := Option.map_eq_some_iff.mp e
      cases e2
      obtain ⟨ov, e3, u, rfl, r⟩ := S.sl i _ q
      rw [h] at e3; cases e3
      rcases r with r | ⟨a, rfl, no, r⟩
      · obtain ⟨J, h1, h2⟩ := yieldsK_rep S r e1
        exact ⟨F, J, S, T, Step.refl, h1, h2⟩
      · cases d with
        | lst xs =>
          cases e1
          obtain ⟨vs, h1, r⟩ := r
          exact ⟨F, a, S, T, Step.refl, ⟨rfl, vs, .inl (.inl h1)⟩, Yields.list (fun F2 H2 σ2 env2 S2 T2 => .inl (.inl (T2.keep _ _ h1 no))) r⟩
        | _ => first | cases e1; done | exact r.elim
    · rename_i d q
      obtain ⟨_, e1, e2⟩ := Option.map_eq_some_iff.mp e
      cases e2
      obtain ⟨F', a, e3, S', T', r⟩ := freeze_own T S q
      obtain ⟨F'', a', e3', S'', T'', r''⟩ := freeze_own Step.refl S q
      rw [h] at e3; cases e3
      rw [h] at e3'; cases e3'
      obtain ⟨J, h1, h2⟩ := yieldsK_rep S'' r'' e1
      exact ⟨F'', J, S'', T.trans T'', T'', h1, h2⟩
    · cases e

theorem Yields.step {J : It} {F2 H2 : Hp} {σ2 : St} {env2 : Env} (Y : Yields K J ds F1 H1 σ1 env1) (T : Step F1 H1 σ1 env1 F2 H2 σ2 env2) : Yields K J ds F2 H2 σ2 env2 where
  go := fun i d F H σ env S T2 e => Y.go i d F H σ env S (T.trans T2) e
  stop := fun F H σ env S T2 => Y.stop F H σ env S (T.trans T2)
def zipD (xs ys : List D) : List D := List.zipWith (fun x y => .tup [x, y]) xs ys
theorem zipD_get {xs ys : List D} {i : Nat} {d : D} (h : (zipD xs ys)[i]? = some d) : ∃ x y, xs[i]? = some x ∧ ys[i]? = some y ∧ d = .tup [x, y] := by
  unfold zipD at h
  rw [List.getElem?_zipWith] at h
  cases e1 : xs[i]? with
  | none => rw [e1] at h; simp at h
  | some x =>
    cases e2 : ys[i]? with
    | none => rw [e1, e2] at h; simp at h
    | some y =>
      rw [e1, e2] at h
      cases h
      exact ⟨x, y, rfl, rfl, rfl⟩
def itZ (K : PySem.W.Frag) (b : Bool) (p q : Addr) : It := match b with
  | true => Itz K p q
  | false => RZ.ItzT K p q
theorem Yields.zip {p q : Addr} {xs ys : List D} (Y1 : Yields K (itK K b p) xs F1 H1 σ1 env1) (Y2 : Yields K (itK K b q) ys F1 H1 σ1 env1) : Yields K (itZ K b p q) (zipD xs ys) F1 H1 σ1 env1 where
  go := fun i d F H σ env S T e => by
    obtain ⟨dx, dy, e1, e2, rfl⟩ := zipD_get e
    obtain ⟨g1, y1⟩ := Y1.go i dx F H σ env S T e1
    have fin : ∀ {T0 : Addr} {x y : V}, H T0 = none → (itK K b p).yld i H x H → (itK K b q).yld i H y H → ∃ F', SR K F' (upd H T0 (.tup [x, y])) σ env ∧ Step F H σ env F' (upd H T0 (.tup [x, y])) σ env ∧ Rep K F' (.tup [dx, dy]) (.ref T0) := fun {T0 x y} n l1 l2 => by
      obtain ⟨Fa, Sa, Ta, ra⟩ := y1 x H l1
      obtain ⟨_, y2⟩ := Y2.go i dy Fa H σ env Sa (T.trans Ta) e2
      obtain ⟨Fb, Sb, Tb, rb⟩ := y2 y H l2
      have s := same_new (o := HO.tup [x, y]) (Sb.fnone n)
      exact ⟨_, Sb.laidF n, (Ta.trans Tb).trans (Step.laidF Sb n), rep_tup.mpr ⟨T0, [x, y], rfl, .inl (.inl upd_same), reps_cons.mpr ⟨_, _, rfl, (ra.mono Tb.fr).mono s, Reps.one (rb.mono s)⟩⟩⟩
    obtain ⟨g2, _⟩ := Y2.go i dy F H σ env S T e2
    cases b with
    | true =>
      obtain ⟨us, u, a1, a2⟩ := g1
      obtain ⟨ws, w, b1, b2⟩ := g2
      refine ⟨⟨us, ws, u, w, a1, b1, a2, b2⟩, fun x H' y => ?_⟩
      obtain ⟨T0, x0, y0, rfl, n, rfl, l1, l2⟩ := y
      exact fin n ⟨rfl, l1⟩ ⟨rfl, l2⟩
    | false =>
      obtain ⟨us, u, a1, a2⟩ := g1
      obtain ⟨ws, w, b1, b2⟩ := g2
      refine ⟨⟨us, ws, u, w, a1, b1, a2, b2⟩, fun x H' y => ?_⟩
      obtain ⟨T0, x0, y0, rfl, n, rfl, l1, l2⟩ := y
      exact fin n ⟨rfl, l1⟩ ⟨rfl, l2⟩
  stop := fun F H σ env S T => by
    have s1 := Y1.stop F H σ env S T
    have s2 := Y2.stop F H σ env S T
    have hl : (zipD xs ys).length = min xs.length ys.length := List.length_zipWith
    cases b with
    | true =>
      obtain ⟨us, a1, a2⟩ := s1
      obtain ⟨ws, b1, b2⟩ := s2
      exact ⟨us, ws, a1, b1, by omega⟩
    | false =>
      obtain ⟨us, a1, a2⟩ := s1
      obtain ⟨ws, b1, b2⟩ := s2
      exact ⟨us, ws, a1, b1, by omega⟩
end
def iZ (t : TAD) : TID := fun env k => t env fun e1 rs => match rs with
  | [r1, r2] => got (iterK e1 r1) fun z => got (iterK z.1 r2) fun y => y.2.1 = z.2.1 ∧ k y.1 (zipD z.2.2 y.2.2)
  | _ => False
section
variable {X : Cx}
theorem xi_zip {e e2 : Expr} {t : TAD} {p pos tpos : Pos} {elts : List Expr} {kk : Nat} (hg : Gl X "zip") (hm : X.mg "zip" = none) (ha : PXA X [e, e2] t)
    (hs : starEach [e, e2] X.env = (false, eval e X.env) :: starEach [e2] X.env := by rfl) (hpl : (backTo pos (starEach [e2] X.env)).any (·.1) = false := by rfl) :
    PXI X (.Tuple elts kk tpos) (.Call (.Name "zip" p) [e, e2] [] pos) (iZ t) := by
  refine ⟨(RZ.pi_zipA hg hm ha.run hs hpl).imp fun σ H R ⟨F, env, k, S, h, hk⟩ => ?_⟩
  refine ⟨F, env, _, S, h, fun e1 rs q F1 H1 vs S1 T1 ras => ?_⟩
  match rs, ras, q with
  | [r1, r2], .cons a1 (.cons a2 .nil), q =>
    obtain ⟨⟨e2, b, xs⟩, i1, ⟨e3, b', ys⟩, i2, rfl, q⟩ := q
    obtain ⟨F2, p1, S2, _, T2, k1, Y1⟩ := iterK_ok (F0 := F1) (H0 := H1) Step.refl S1 (RA.rr a1) i1
    obtain ⟨F3, p2, S3, _, T3, k2, Y2⟩ := iterK_ok (F0 := F2) (H0 := H1) Step.refl S2 (RA.rr (a2.mono T2.fr)) i2
    have Y := (Y1.step T3).zip Y2
    have q2 := hk _ _ q F3 H1 _ S3 ((T1.trans T2).trans T3) Y
    obtain ⟨rfl, k1⟩ := k1
    obtain ⟨rfl, k2⟩ := k2
    cases b' with
    | true =>
      obtain ⟨us, k1⟩ := k1
      obtain ⟨ws, k2⟩ := k2
      exact ⟨p1, p2, us, ws, rfl, .inl ⟨k1, k2, q2⟩⟩
    | false =>
      obtain ⟨us, k1⟩ := k1
      obtain ⟨ws, k2⟩ := k2
      exact ⟨p1, p2, us, ws, rfl, .inr ⟨k1, k2, q2⟩⟩
/-! ### x.bit_length() -/
def bitsD : D → Ans
  | .int i => some (True, .v (.int (Builtin.Int.intBits i : Nat)))
  | _ => none
theorem x_bits {o : Expr} {to : TD} {apos pos : Pos} (ho : PX X o to) (hbase : attributeBase o "bit_length" X.env (eval o X.env) = eval o X.env := by rfl) (hline : (apos.endLine == pos.line) = true := by rfl) : PX X (.Call (.Attribute o "bit_length" apos) [] [] pos) (tOp1 bitsD to) := by
  refine ⟨(pe_bits ho.run hbase hline).imp fun σ H Q ⟨F, env, k, S, h, hk⟩ => ?_⟩
  refine ⟨F, env, _, S, h, fun e1 r ⟨d, c, z, ez, z1, z2⟩ F1 H1 v S1 T1 rr => ?_⟩
  cases d with
  | int i =>
    cases ez
    cases prep_int (RR.prep S1 rr c)
    exact ⟨i, rfl, hk _ _ z2 F1 H1 _ S1 T1 (show Rep X.K F1 _ _ from rep_int.mpr rfl)⟩
  | _ => cases ez
/-! ### gcd -/
def gcdD : List D → Ans
  | [.int a, .int b] => some (True, .v (.int ((Nat.gcd a.natAbs b.natAbs : Nat) : Int)))
  | _ => none
theorem cd_gcd {K : PySem.W.Frag} : CallD K rGcd gcdD := by
  intro F H ds vs z Q s p e hz hQ
  unfold gcdD at e
  split at e
  · cases e
    obtain ⟨v, w, rfl, p1, p2⟩ := paired2 p
    cases prep_int p1
    cases prep_int p2
    exact ⟨_, _, rfl, hQ _ _ out_int⟩
  · cases e
theorem x_bfun {x : Str} {p pos : Pos} {e : Expr} {es : List Expr} {t : TAD} {id : String} {r : List V → Hp → VK → Prop} {f : List D → Ans} (hc : CallR X (.builtin id) r) (ho : CallD X.K r f) (hg : Gl X x) (hm : X.mg x = some (.builtin id)) (ha : PXA X (e :: es) t) (hdb : (x == ("__debug__" : Str)) = false := by decide)
    (he : starEach (e :: es) X.env = (false, eval e X.env) :: starEach es X.env := by rfl) (hpl : (backTo pos (starEach es X.env)).any (·.1) = false := by rfl) : PX X (.Call (.Name x p) (e :: es) [] pos) (tBu f t) :=
  ⟨(pe_callBfun hc hg hm ha.run hdb he hpl).imp fun _ _ _ h => up_many ho h⟩
end
end Pd

set_option Elab.async false
set_option linter.all false
set_option maxRecDepth 100000
/-! Calls with keywords, instances over pure data. -/
namespace Pd
open PySem PySem.Spec PyProof.Rows L2
/-! ### the order of the parameters -/
/-- 0: a positional value, 1: a default, 2: a keyword's value -/
def ordK {α : Type} (ix : List (Nat × Nat)) (vs ds zs : List α) : List α := ix.filterMap fun p => (match p.1 with
  | 0 => vs
  | 1 => ds
  | _ => zs)[p.2]?
theorem paired_at {α β : Type} {P : α → β → Prop} : ∀ {xs : List α} {ys : List β} (i : Nat), Paired P xs ys → (xs[i]? = none ∧ ys[i]? = none) ∨ ∃ x y, xs[i]? = some x ∧ ys[i]? = some y ∧ P x y
  | _, _, i, .nil => .inl ⟨rfl, rfl⟩
  | _, _, 0, .cons h _ => .inr ⟨_, _, rfl, rfl, h⟩
  | _, _, i + 1, .cons _ h => paired_at i h
theorem ordK_rel {α β : Type} {P : α → β → Prop} {vs ds zs : List α} {us es ws : List β} (h1 : Paired P vs us) (h2 : Paired P ds es) (h3 : Paired P zs ws) : ∀ ix : List (Nat × Nat), Paired P (ordK ix vs ds zs) (ordK ix us es ws)
  | [] => .nil
  | (m, j) :: ix => by
    have ih := ordK_rel h1 h2 h3 ix
    have key : ∀ {xs : List α} {ys : List β}, Paired P xs ys → (match m with | 0 => vs | 1 => ds | _ => zs) = xs → (match m with | 0 => us | 1 => es | _ => ws) = ys → Paired P (ordK ((m, j) :: ix) vs ds zs) (ordK ((m, j) :: ix) us es ws) := fun {xs ys} h a b => by
      rcases paired_at j h with ⟨e1, e2⟩ | ⟨x, y, e1, e2, p⟩
      · unfold ordK at ih ⊢
        rw [List.filterMap_cons_none (by simp only [a, e1]), List.filterMap_cons_none (by simp only [b, e2])]
        exact ih
      · unfold ordK at ih ⊢
        rw [List.filterMap_cons_some (b := x) (by simp only [a, e1]), List.filterMap_cons_some (b := y) (by simp only [b, e2])]
        exact .cons p ih
    match m with
    | 0 => exact key h1 rfl rfl
    | 1 => exact key h2 rfl rfl
    | m + 2 => exact key h3 rfl rfl
/-! ### keywords -/
structure PXK (X : Cx) (kws : List Keyword) (t : TAD) : Prop where
  run : PK X kws (upA X.K t)
theorem _root_.L2.PK.imp {X : Cx} {e : List Keyword} {t t' : TA} (h : PK X e t) (i : ∀ σ H Q, t' σ H Q → t σ H Q) : PK X e t' := ⟨fun pos pins s σ H Q I q => h.run pos pins s σ H Q I (i σ H Q q)⟩
section
variable {X : Cx}
theorem xk_nil : PXK X [] tN := ⟨pk_nil.imp fun _ _ _ ⟨F, env, k, S, h, hk⟩ => hk _ _ h F _ [] S Step.refl .nil⟩
theorem xk_cons {e : Expr} {nm : Option Str} {kpos : Pos} {kws : List Keyword} {te : TD} {t : TAD} (ha : PX X e te) (hr : PXK X kws t) : PXK X (⟨nm, e, kpos⟩ :: kws) (tCo te t) := by
  refine ⟨(pk_cons ha.run hr.run).imp fun σ H Q ⟨F, env, k, S, h, hk⟩ => ?_⟩
  refine ⟨F, env, _, S, h, fun e1 r1 q1 F1 H1 v1 S1 T1 rr1 => ?_⟩
  obtain ⟨F1', S1', T1', ra1⟩ := seal_ok T1 S1 rr1
  refine ⟨F1', e1, _, S1', q1, fun e2 rs q2 F2 H2 vs S2 T2 ras => ?_⟩
  exact hk _ _ q2 F2 H2 (v1 :: vs) S2 (T1'.trans T2) (.cons (ra1.mono T2.fr) ras)
end
def tClK (n m : Nat) (ms : List Mode) (sp : SpD) (dds : List D) (ix : List (Nat × Nat)) (t tk : TAD) : TD := fun env k => t env fun e1 rs => tk e1 fun e2 zs => rs.length = n ∧ zs.length = m ∧
  passOk ms (ordK ix rs (dds.map .val) zs) = true ∧ got (pass e2 ms (ordK ix rs (dds.map .val) zs)) fun z => sp z.2 fun os r => k (putO z.1 (ioS ms (ordK ix rs (dds.map .val) zs)) os) r
/-- no defaults: each parameter is written -/
theorem kbn_of {K : PySem.W.Frag} {x qual : Str} {params : Arguments} {body : List Stmt} {scope : Scope} {kws : List (Str × V)} {f : Addr} {fd : FuncData} {ps : List Str} (F : FunD K x qual params body scope [] kws f fd) (n : Nat) (ks : List Str) (ix : List (Nat × Nat))
    (h : ∀ (kV doc pm : Value) (an : Option Addr) (cdv ct : Value) (us ws : List Value), us.length = n → ws.length = ks.length → bindArgs (PySem.W.fnOf x qual params body scope .none kV doc pm an cdv ct) ⟨us, ks.zip ws⟩ = pure (ps.zip (ordK ix us [] ws))) :
    KBn K fd ps n ks (fun us ws => ordK ix us [] ws) (fun vs zs => ordK ix vs [] zs) := by
  obtain ⟨oc, od, dV, kV, doc, pm, an, cdv, ct, osl, rfl, lk, hcd, hD, hK⟩ := F.ex
  rcases hD with ⟨_, rfl⟩ | ⟨e, _⟩
  · exact ⟨fun s us ws X l1 l2 => .of_eq (h kV doc pm an cdv ct us ws l1 l2), fun r1 r2 => ordK_rel r1 .nil r2 ix⟩
  · exact absurd rfl e
/-- with defaults -/
theorem kbn_dfl {K : PySem.W.Frag} {x qual : Str} {params : Arguments} {body : List Stmt} {scope : Scope} {dvs : List V} {kws : List (Str × V)} {f : Addr} {fd : FuncData} {ps : List Str} (F : FunD K x qual params body scope dvs kws f fd) (n : Nat) (ks : List Str) (ix : List (Nat × Nat)) (hd : dvs ≠ [])
    (h : ∀ (T : Addr) (kV doc pm : Value) (an : Option Addr) (cdv ct : Value) (us its ws : List Value), us.length = n → its.length = dvs.length → ws.length = ks.length →
      ∃ k, bindArgs (PySem.W.fnOf x qual params body scope (.ref T) kV doc pm an cdv ct) ⟨us, ks.zip ws⟩ = seqItems? (.ref T) >>= k ∧ k (some its.toArray) = pure (ps.zip (ordK ix us its ws))) :
    ∃ its : List Value, KBn K fd ps n ks (fun us ws => ordK ix us its ws) (fun vs zs => ordK ix vs dvs zs) :=
  F.kbindsD n ks (fun {_} a b c => ordK ix a b c) hd (fun r1 r2 r3 => ordK_rel r1 r2 r3 ix) h
section
variable {X : Cx} {k n m : Nat} {f : Addr} {fd : FuncData} {ps ks : List Str} {ms : List Mode} {sp : SpD} {dds : List D} {dvs : List V} {ix : List (Nat × Nat)} {g : List Value → List Value → List Value} {x : Str} {p pos : Pos} {e : Expr} {es : List Expr} {kws : List Keyword} {t tk : TAD}
theorem up_callK (hR : ∀ F σ, RAs X.K F σ (dds.map .val) dvs) {σ : St} {H : Hp} {Q : VK} (h : up X.K (tClK n m ms sp dds ix t tk) σ H Q) : tCallN n m (liftSp X.K ms sp) (fun vs zs => ordK ix vs dvs zs) E0 (upA X.K t) (upA X.K tk) σ H Q := by
  obtain ⟨F, env, k, S, h, hk⟩ := h
  refine ⟨F, env, _, S, h, fun e1 rs q F1 H1 vs S1 T1 ras => ⟨F1, e1, _, S1, q, fun e2 zs q F2 H2 ws S2 T2 ras2 => ?_⟩⟩
  obtain ⟨l1, l2, q⟩ := q
  exact ⟨(paired_len ras).symm.trans l1, (paired_len ras2).symm.trans l2, call_ok (T1.trans T2) S2 (ordK_rel (ras.mono T2.fr) (hR F2 σ) ras2 ix) q hk⟩
theorem x_callK (G : FnOk X.prog X.w X.K X.mg X.base CX0 k f fd ps (liftSp X.K ms sp)) (hr : Room k X.A) (hg : Gl X x) (hm : X.mg x = some (.ref f)) (hk : PySem.W.keepIn X.K (.ref f) = true) (hb : KBn X.K fd ps n ks g (fun vs zs => ordK ix vs dvs zs)) (hR : ∀ F σ, RAs X.K F σ (dds.map .val) dvs) (ha : PXA X (e :: es) t) (hkw : PXK X kws tk)
    (hall : (backToKw pos (keywordEach kws X.env)).all (·.1.isSome) = true := by rfl) (hks : (backToKw pos (keywordEach kws X.env)).filterMap (·.1) = ks := by rfl)
    (hdb : (x == ("__debug__" : Str)) = false := by decide) (he : starEach (e :: es) X.env = (false, eval e X.env) :: starEach es X.env := by rfl)
    (hpl : ((backTo pos (starEach (e :: es) X.env)).any (·.1) || (backToKw pos (keywordEach kws X.env)).any (·.1.isNone)) = false := by rfl) (hml : ks.length = m := by rfl) : PX X (.Call (.Name x p) (e :: es) kws pos) (tClK n m ms sp dds ix t tk) := by
  subst hml
  exact ⟨(pe_callN G hr hg hm hk hb pass0 ha.run hkw.run hall hks hdb he hpl).imp fun σ H Q h => up_callK hR h⟩
/-- f(k = v, ..) -/
theorem pe_callN0 {CX : CXT} {spL : Sp} {E : XK} {gV : List V → List V → List V} {tkL : TA} (F : FnOk X.prog X.w X.K X.mg X.base CX k f fd ps spL) (hr : Room k X.A) (hg : Gl X x) (hm : X.mg x = some (.ref f)) (hk : PySem.W.keepIn X.K (.ref f) = true) (hb : KBn X.K fd ps 0 ks g gV) (hx : Passes CX X E) (hkw : PK X kws tkL)
    (hall : (backToKw pos (keywordEach kws X.env)).all (·.1.isSome) = true := by rfl) (hks : (backToKw pos (keywordEach kws X.env)).filterMap (·.1) = ks := by rfl)
    (hdb : (x == ("__debug__" : Str)) = false := by decide)
    (hpl : ((backTo pos (starEach [] X.env)).any (·.1) || (backToKw pos (keywordEach kws X.env)).any (·.1.isNone)) = false := by rfl) :
    PE X (.Call (.Name x p) [] kws pos) (tCallN 0 ks.length spL gV E L2.tNil tkL) := by
  refine ⟨fun pins s σ H Q I h => ?_⟩
  refine wpAny_Call_Name_kw (ld_glob I hg hm ?_ hdb)
  refine PySem.W.callWith_KW0 (h₀ := X.base) I.ok.mod.kin hk hall ?_ hpl
  refine thn (hkw.run pos pins s σ H _ I h) fun ws s2 ⟨zs, H2, I2, rz, l1, l2, q2⟩ => ⟨I2.kIn, ?_⟩
  rw [hks]
  exact run_fnN (us := []) (vs := []) F hr hb hx I2 .nil rz rfl l2 q2
theorem x_callK0 (G : FnOk X.prog X.w X.K X.mg X.base CX0 k f fd ps (liftSp X.K ms sp)) (hr : Room k X.A) (hg : Gl X x) (hm : X.mg x = some (.ref f)) (hk : PySem.W.keepIn X.K (.ref f) = true) (hb : KBn X.K fd ps 0 ks g (fun vs zs => ordK ix vs dvs zs)) (hR : ∀ F σ, RAs X.K F σ (dds.map .val) dvs) (hkw : PXK X kws tk)
    (hall : (backToKw pos (keywordEach kws X.env)).all (·.1.isSome) = true := by rfl) (hks : (backToKw pos (keywordEach kws X.env)).filterMap (·.1) = ks := by rfl)
    (hdb : (x == ("__debug__" : Str)) = false := by decide)
    (hpl : ((backTo pos (starEach [] X.env)).any (·.1) || (backToKw pos (keywordEach kws X.env)).any (·.1.isNone)) = false := by rfl) (hml : ks.length = m := by rfl) : PX X (.Call (.Name x p) [] kws pos) (tClK 0 m ms sp dds ix tN tk) := by
  subst hml
  exact ⟨(pe_callN0 G hr hg hm hk hb pass0 hkw.run hall hks hdb hpl).imp fun σ H Q h => by
    obtain ⟨F, env, k, S, h, hk⟩ := h
    exact ⟨F, env, _, S, h, fun e2 zs ⟨l1, l2, q⟩ F2 H2 ws S2 T2 ras2 => ⟨rfl, (paired_len ras2).symm.trans l2, call_ok T2 S2 (ordK_rel .nil (hR F2 σ) ras2 ix) q hk⟩⟩⟩
end

/-! ### one slot more, for a while -/
section
variable {K : PySem.W.Frag} {F H F0 H0 : Hp} {σ σ0 : St} {env env0 : Env}
theorem snoc_get {α : Type} {l : List α} {x y : α} {i : Nat} (h : (l ++ [x])[i]? = some y) : l[i]? = some y ∨ (i = l.length ∧ x = y) := by
  by_cases hi : i < l.length
  · rw [List.getElem?_append_left hi] at h; exact .inl h
  · rw [List.getElem?_append_right (by omega)] at h
    have : i - l.length = 0 := by
      rcases Nat.eq_zero_or_pos (i - l.length) with z | z
      · exact z
      · rw [List.getElem?_eq_none (by simp only [List.length_cons, List.length_nil]; omega)] at h; cases h
    rw [this] at h
    cases h
    exact .inr ⟨by omega, rfl⟩
theorem snoc_left {α : Type} {l : List α} {x y : α} {i : Nat} (h : l[i]? = some y) : (l ++ [x])[i]? = some y := by
  rw [List.getElem?_append_left (lt_of_some h)]; exact h
theorem own_grow {ov : Option V} {a : Addr} (hl : env.length = σ.length) (h : OwnA (env ++ [.un]) (σ ++ [ov]) a) : OwnA env σ a := by
  obtain ⟨i, s, h1, h2, h3⟩ := h
  rcases snoc_get h1 with h1 | ⟨_, e⟩
  · rcases snoc_get h3 with h3 | ⟨e, _⟩
    · exact ⟨i, s, h1, h2, h3⟩
    · have := lt_of_some h1; omega
  · subst e; cases h2
theorem own_more {s : Sl} {ov : Option V} {a : Addr} (h : OwnA env σ a) : OwnA (env ++ [s]) (σ ++ [ov]) a := by
  obtain ⟨i, s, h1, h2, h3⟩ := h
  exact ⟨i, s, snoc_left h1, h2, snoc_left h3⟩
theorem loc_grow {ov : Option V} {a : Addr} (hl : env.length = σ.length) (h : LocA (env ++ [.un]) (σ ++ [ov]) a) : LocA env σ a := by
  obtain ⟨i, s, h1, h2, h3⟩ := h
  rcases snoc_get h1 with h1 | ⟨_, e⟩
  · rcases snoc_get h3 with h3 | ⟨e, _⟩
    · exact ⟨i, s, h1, h2, h3⟩
    · have := lt_of_some h1; omega
  · subst e; cases h2
theorem loc_more {s : Sl} {ov : Option V} {a : Addr} (h : LocA env σ a) : LocA (env ++ [s]) (σ ++ [ov]) a := by
  obtain ⟨i, s, h1, h2, h3⟩ := h
  exact ⟨i, s, snoc_left h1, h2, snoc_left h3⟩
theorem SlOk.own {O O' : Addr → Prop} {s : Sl} {ov : Option V} (h : SlOk K F H O s ov) (hO : ∀ a, O' a → O a) : SlOk K F H O' s ov := by
  cases s with
  | br d =>
    obtain ⟨v, e, r | ⟨a, ea, no, r⟩⟩ := h
    · exact ⟨v, e, .inl r⟩
    · exact ⟨v, e, .inr ⟨a, ea, fun z => no (hO a z), r⟩⟩
  | _ => exact h
theorem SR.grow (S : SR K F H σ env) : SR K F H (σ ++ [none]) (env ++ [.un]) := by
  have hl := S.len
  refine ⟨S.sub, by simp [hl], fun i s h => ?_, fun i j s t a h1 h2 m1 m2 q1 q2 => ?_⟩
  · rcases snoc_get h with h | ⟨e, rfl⟩
    · obtain ⟨ov, e, q⟩ := S.sl i s h
      exact ⟨ov, snoc_left e, q.own fun a z => own_grow hl z⟩
    · exact ⟨none, by rw [e, hl]; simp, trivial⟩
  · rcases snoc_get h1 with h1 | ⟨_, e⟩
    · rcases snoc_get h2 with h2 | ⟨_, e⟩
      · rcases snoc_get q1 with q1 | ⟨e, _⟩
        · rcases snoc_get q2 with q2 | ⟨e, _⟩
          · exact S.inj i j s t a h1 h2 m1 m2 q1 q2
          · have := lt_of_some h2; omega
        · have := lt_of_some h1; omega
      · subst e; cases m2
    · subst e; cases m1
theorem SR.shrink {s : Sl} {ov : Option V} (S : SR K F H (σ ++ [ov]) (env ++ [s])) : SR K F H σ env := by
  have hl : env.length = σ.length := by have := S.len; simpa using this
  refine ⟨S.sub, hl, fun i s h => ?_, fun i j s t a h1 h2 m1 m2 q1 q2 => S.inj i j s t a (snoc_left h1) (snoc_left h2) m1 m2 (snoc_left q1) (snoc_left q2)⟩
  obtain ⟨ov', e, q⟩ := S.sl i s (snoc_left h)
  rcases snoc_get e with e | ⟨e, _⟩
  · exact ⟨ov', e, q.own fun a z => own_more z⟩
  · have := lt_of_some h; omega
theorem Step.grow (hl : env.length = σ.length) : Step F H σ env F H (σ ++ [none]) (env ++ [.un]) :=
  ⟨Same.refl _, fun _ _ h _ => h, fun _ h => .inl h, fun _ h => .inl (own_grow hl h), fun _ h => .inl (loc_grow hl h), fun i d h => ⟨by rw [List.getElem?_append_left (by rw [← hl]; exact lt_of_some h)], d, snoc_left h⟩, fun _ h => h, fun i d h => by
    rcases snoc_get h with h | ⟨_, e⟩
    · exact ⟨h, by rw [List.getElem?_append_left (by rw [← hl]; exact lt_of_some h)]⟩
    · cases e⟩
theorem Step.shrink {d : D} {ov : Option V} (hl : env.length = σ.length) : Step F H (σ ++ [ov]) (env ++ [.own d]) F H σ env := by
  refine ⟨Same.refl _, fun _ _ h _ => h, fun _ h => .inl h, fun _ h => .inl (own_more h), fun _ h => .inl (loc_more h), fun i d h => ?_, fun _ h => h, fun i d h => ?_⟩
  · rcases snoc_get h with h | ⟨_, e⟩
    · exact ⟨by rw [List.getElem?_append_left (by rw [← hl]; exact lt_of_some h)], d, h⟩
    · cases e
  · exact ⟨snoc_left h, by rw [List.getElem?_append_left (by rw [← hl]; exact lt_of_some h)]⟩
/-! ### a new instance -/
def R.isNon : R → Prop
  | .val .non => True
  | _ => False
def mkOk (C : Str) (ms : List Mode) (sp : SpD) (e2 : Env) (as : List R) (k : Env → R → Prop) : Prop :=
  passOk ms as = true ∧ got (pass (e2 ++ [.own (.obj C [] [])]) ms as) fun z => sp z.2 fun os r => r.isNon ∧ ∃ (env2 : Env) (d : D), putO z.1 (ioS ms as) os = env2 ++ [Sl.own d] ∧ k env2 (.new d)
theorem make_ok {C : Str} {ms : List Mode} {sp : SpD} {as : List R} {vs : List V} {k : Env → R → Prop} {Q : VK} {E : XK} {x dx : Addr} (T : Step F0 H0 σ env0 F H σ env) (S : SR K F H σ env) (ra : RAs K F (σ ++ [some (.ref x)]) as vs) (nx : H x = none) (nd : H dx = none) (ne : dx ≠ x)
    (h : mkOk C ms sp env as k) (hk : ∀ env' r, k env' r → ∀ F' H' v, SR K F' H' σ env' → Step F0 H0 σ env0 F' H' σ env' → RR K H0 F' H' σ env' r v → Q v H') :
    liftSp K ms sp vs (upd (upd H dx (.own x)) x (.ins (He.ga K C) dx [])) (fun v H2 => v = .non ∧ Q (.ref x) H2) E := by
  have S1 := S.laid (o := .own x) nd
  have T1 := Step.laid (o := .own x) S nd
  have n1 : (upd H dx (.own x)) x = none := by rw [upd_ne (Ne.symm ne)]; exact nx
  have S2 := S1.laid (o := .ins (He.ga K C) dx []) n1
  have T2 := Step.laid (o := .ins (He.ga K C) dx []) S1 n1
  have hl := S.len
  have S3 := S2.grow
  have T3 : Step F (upd (upd H dx (.own x)) x (.ins (He.ga K C) dx [])) σ env F _ (σ ++ [none]) (env ++ [.un]) := Step.grow hl
  have fx : F x = none := S.fnone nx
  have no : ¬ OwnA env σ x := fun z => by
    obtain ⟨⟨u, e⟩, _⟩ := OwnA.there S z
    rw [nx] at e; cases e
  have S4 := S3.setOwn (i := env.length) (a := x) (d := .obj C [] []) fx (fun z => no (own_grow hl z)) (fun j e b h1 h2 h3 => by
    rcases snoc_get h1 with h1 | ⟨_, e1⟩
    · obtain ⟨ov, e2, v, rfl, q⟩ := S.sl j _ h1
      rcases snoc_get h2 with h2 | ⟨_, e3⟩
      · rw [e2] at h2; cases h2
        rcases q with q | ⟨c, e4, _, q⟩
        · exact .inl q
        · cases e4
          obtain ⟨u, e5⟩ := q.there
          exact .inr fun z => by rw [z, nx] at e5; cases e5
      · cases e3
    · cases e1) ⟨[], ⟨rfl, dx, upd_same⟩, reps_nil.mpr rfl⟩
  have T4 := step_setT (i := env.length) (s := .own (.obj C [] [])) (v := .ref x) ((T1.trans T2).trans T3) (fun d z => by
    rcases snoc_get z with z | ⟨_, e⟩
    · exact absurd (lt_of_some z) (Nat.lt_irrefl _)
    · cases e) rfl fun _ => ⟨rfl, fun a e => by cases e; exact .inl nx⟩
  have e1 : (σ ++ [none]).set env.length (some (.ref x)) = σ ++ [some (V.ref x)] := by rw [hl]; simp
  have e2 : (env ++ [Sl.un]).set env.length (Sl.own (.obj C [] [])) = env ++ [.own (.obj C [] [])] := by simp
  rw [e1, e2] at S4 T4
  refine call_ok (k := fun env' r => r.isNon ∧ ∃ (env2 : Env) (d : D), env' = env2 ++ [Sl.own d] ∧ k env2 (.new d)) (T := Step.refl) S4 ra h fun env' r ⟨er, env2, d, ee, kk⟩ F' H' v S' T' rr => ?_
  subst ee
  have ev : v = .non := by
    cases r with
    | val d' => cases d' <;> first | exact rep_non.mp (show Rep K F' .non v from rr) | exact False.elim er
    | _ => exact False.elim er
  have S5 := S'.shrink
  have hl5 := S5.len
  refine ⟨ev, hk _ _ kk F' H' _ S5 (((T.trans T4).trans T').trans (Step.shrink hl5)) ?_⟩
  obtain ⟨ov, e3, a, ea, fa, o⟩ := S'.sl env2.length (.own d) (by simp)
  have e4 : (σ ++ [some (V.ref x)])[env2.length]? = some (some (V.ref x)) := by rw [hl5]; simp
  rw [e4] at e3
  cases e3
  cases ea
  refine ⟨x, rfl, fa, T.dom x nx, fun ⟨i, s, h1, h2, h3⟩ => ?_, o⟩
  have := S'.inj i env2.length s (.own d) x (snoc_left h1) (by simp) h2 rfl (snoc_left h3) e4
  have := lt_of_some h1
  omega
end
def tMk (C : Str) (ms : List Mode) (sp : SpD) (dds : List D) (t : TAD) : TD := fun env k => t env fun e1 rs => mkOk C ms sp e1 (.al e1.length :: (rs ++ dds.map .val)) k
def tMkK (C : Str) (n m : Nat) (ms : List Mode) (sp : SpD) (dds : List D) (ix : List (Nat × Nat)) (t tk : TAD) : TD := fun env k => t env fun e1 rs => tk e1 fun e2 zs => rs.length = n ∧ zs.length = m ∧ mkOk C ms sp e2 (ordK ix (.al e2.length :: rs) (dds.map .val) zs) k
section
variable {X : Cx} {k n m : Nat} {C f : Addr} {fd : FuncData} {ps ks : List Str} {ms : List Mode} {sp : SpD} {dds : List D} {dvs : List V} {dvals : List Value} {ix : List (Nat × Nat)} {g : List Value → List Value → List Value} {x : Str} {p pos : Pos} {e : Expr} {es : List Expr} {kws : List Keyword} {t tk : TAD}
theorem ra_more {K : PySem.W.Frag} {F : Hp} {σ : St} {ov : Option V} : ∀ {rs : List R} {vs : List V}, RAs K F σ rs vs → RAs K F (σ ++ [ov]) rs vs
  | _, _, .nil => .nil
  | r :: _, _ :: _, .cons h t => by
    refine .cons ?_ (ra_more t)
    cases r with
    | al i => exact snoc_left h
    | val d => exact h
    | new d => exact h
theorem ra_self {K : PySem.W.Frag} {F : Hp} {σ : St} {env : Env} {v : V} (hl : env.length = σ.length) : RA K F (σ ++ [some v]) (.al env.length) v := by
  show (σ ++ [some v])[env.length]? = some (some v)
  rw [hl]; simp
theorem x_make {f : Addr} (M : Mk X.K (He.ga X.K x) f) (G : FnOk X.prog X.w X.K X.mg X.base CX0 k f fd ps (liftSp X.K ms sp)) (hr : Room (k + 1) X.A) (hg : Gl X x) (hm : X.mg x = some (.ref (He.ga X.K x))) (hb : Binds X.K fd ps dvals) (hd : Vals dvs dvals) (hR : ∀ F σ, RAs X.K F σ (dds.map .val) dvs) (ha : PXA X (e :: es) t)
    (hdb : (x == ("__debug__" : Str)) = false := by decide) (he : starEach (e :: es) X.env = (false, eval e X.env) :: starEach es X.env := by rfl) (hpl : (backTo pos (starEach es X.env)).any (·.1) = false := by rfl) :
    PX X (.Call (.Name x p) (e :: es) [] pos) (tMk x ms sp dds t) := by
  refine ⟨(pe_make M G hr hg hm hb hd pass0 ha.run hdb he hpl).imp fun σ H Q ⟨F, env, k, S, h, hk⟩ => ?_⟩
  refine ⟨F, env, _, S, h, fun e1 rs q F1 H1 vs S1 T1 ras x' dx nx nd ne => ?_⟩
  exact make_ok T1 S1 (.cons (ra_self S1.len) (paired_append (ra_more ras) (hR F1 _))) nx nd ne q hk
theorem x_makeK {f : Addr} (M : Mk X.K (He.ga X.K x) f) (G : FnOk X.prog X.w X.K X.mg X.base CX0 k f fd ps (liftSp X.K ms sp)) (hr : Room (k + 1) X.A) (hg : Gl X x) (hm : X.mg x = some (.ref (He.ga X.K x))) (hb : KBn X.K fd ps (n + 1) ks g (fun vs zs => ordK ix vs dvs zs)) (hR : ∀ F σ, RAs X.K F σ (dds.map .val) dvs) (ha : PXA X (e :: es) t) (hkw : PXK X kws tk)
    (hall : (backToKw pos (keywordEach kws X.env)).all (·.1.isSome) = true := by rfl) (hks : (backToKw pos (keywordEach kws X.env)).filterMap (·.1) = ks := by rfl) (hdb : (x == ("__debug__" : Str)) = false := by decide)
    (he : starEach (e :: es) X.env = (false, eval e X.env) :: starEach es X.env := by rfl) (hpl : ((backTo pos (starEach (e :: es) X.env)).any (·.1) || (backToKw pos (keywordEach kws X.env)).any (·.1.isNone)) = false := by rfl) (hml : ks.length = m := by rfl) :
    PX X (.Call (.Name x p) (e :: es) kws pos) (tMkK x n m ms sp dds ix t tk) := by
  subst hml
  refine ⟨(pe_makeK M G hr hg hm hb pass0 ha.run hkw.run hall hks hdb he hpl).imp fun σ H Q ⟨F, env, k, S, h, hk⟩ => ?_⟩
  refine ⟨F, env, _, S, h, fun e1 rs q F1 H1 vs S1 T1 ras => ⟨F1, e1, _, S1, q, fun e2 zs q F2 H2 ws S2 T2 ras2 => ?_⟩⟩
  obtain ⟨l1, l2, q⟩ := q
  refine ⟨(paired_len ras).symm.trans l1, (paired_len ras2).symm.trans l2, fun x' dx nx nd ne => ?_⟩
  exact make_ok (T1.trans T2) S2 (ordK_rel (.cons (ra_self S2.len) (ra_more (ras.mono T2.fr))) (hR F2 _) (ra_more ras2) ix) nx nd ne q hk
theorem x_makeK0 {f : Addr} (M : Mk X.K (He.ga X.K x) f) (G : FnOk X.prog X.w X.K X.mg X.base CX0 k f fd ps (liftSp X.K ms sp)) (hr : Room (k + 1) X.A) (hg : Gl X x) (hm : X.mg x = some (.ref (He.ga X.K x))) (hb : KBn X.K fd ps 1 ks g (fun vs zs => ordK ix vs dvs zs)) (hR : ∀ F σ, RAs X.K F σ (dds.map .val) dvs) (hkw : PXK X kws tk)
    (hall : (backToKw pos (keywordEach kws X.env)).all (·.1.isSome) = true := by rfl) (hks : (backToKw pos (keywordEach kws X.env)).filterMap (·.1) = ks := by rfl) (hdb : (x == ("__debug__" : Str)) = false := by decide)
    (hpl : ((backTo pos (starEach [] X.env)).any (·.1) || (backToKw pos (keywordEach kws X.env)).any (·.1.isNone)) = false := by rfl) (hml : ks.length = m := by rfl) :
    PX X (.Call (.Name x p) [] kws pos) (tMkK x 0 m ms sp dds ix tN tk) := by
  subst hml
  refine ⟨(pe_makeK0 M G hr hg hm hb pass0 hkw.run hall hks hdb hpl).imp fun σ H Q ⟨F, env, k, S, h, hk⟩ => ?_⟩
  refine ⟨F, env, _, S, h, fun e2 zs q F2 H2 ws S2 T2 ras2 => ?_⟩
  obtain ⟨l1, l2, q⟩ := q
  refine ⟨rfl, (paired_len ras2).symm.trans l2, fun x' dx nx nd ne => ?_⟩
  exact make_ok T2 S2 (ordK_rel (.cons (ra_self S2.len) .nil) (hR F2 _) (ra_more ras2) ix) nx nd ne q hk
end
/-! ### fields -/
def tFl (C f : Str) (te : TD) : TD := fun env k => te env fun e1 r => got (content e1 r) fun d => match d with
  | .obj C' ns ds => C' = C ∧ ns.length = ds.length ∧ got ((ns.zip ds).lookup f) fun z => k e1 (.val z)
  | _ => False
theorem reps_lookup {K : PySem.W.Frag} {F : Hp} {f : Str} {z : D} : ∀ {ns : List Str} {ds : List D} {vs : List V}, Reps K F ds vs → (ns.zip ds).lookup f = some z → ∃ v, (ns.zip vs).lookup f = some v ∧ Rep K F z v
  | [], ds, vs, r, e => by cases e
  | n :: ns, [], vs, r, e => by cases e
  | n :: ns, d :: ds, vs, r, e => by
    obtain ⟨v, us, rfl, r1, r2⟩ := reps_cons.mp r
    show ∃ v', List.lookup f ((n, v) :: ns.zip us) = some v' ∧ _
    have e' : List.lookup f ((n, d) :: ns.zip ds) = some z := e
    cases q : f == n with
    | true =>
      simp only [List.lookup, q] at e' ⊢
      cases e'
      exact ⟨v, rfl, r1⟩
    | false =>
      simp only [List.lookup, q] at e' ⊢
      exact reps_lookup r2 e'
section
variable {X : Cx} {C f x : Str} {e : Expr} {te : TD} {pos pos' p1 : Pos}
theorem x_fld (c : Cls X.K (He.ga X.K C)) (n : NoAttr X.K (He.ga X.K C) f) (he : PX X e te) (hb : attributeBase e f X.env (eval e X.env) = eval e X.env := by rfl) : PX X (.Attribute e f pos) (tFl C f te) := by
  refine ⟨(pe_fld he.run hb).imp fun σ H Q ⟨F, env, k, S, h, hk⟩ => ?_⟩
  refine ⟨F, env, _, S, h, fun e1 r ⟨d, cd, q⟩ F1 H1 v S1 T1 rr => ?_⟩
  have p := RR.prep S1 rr cd
  cases d with
  | obj C' ns ds =>
    obtain ⟨rfl, hl, z, ez, q⟩ := q
    have key : ∃ a vs dx, v = .ref a ∧ H1 a = some (.ins (He.ga X.K C') dx (ns.zip vs)) ∧ Reps X.K F1 ds vs := by
      rcases p with p | ⟨a, rfl, p⟩
      · obtain ⟨a, vs, rfl, ⟨_, dx, h1⟩, r⟩ := rep_obj.mp p
        exact ⟨a, vs, dx, rfl, S1.sub _ _ h1, r⟩
      · obtain ⟨vs, ⟨_, dx, h1⟩, r⟩ := p
        exact ⟨a, vs, dx, rfl, h1, r⟩
    obtain ⟨a, vs, dx, rfl, h1, r⟩ := key
    obtain ⟨u, e2, ru⟩ := reps_lookup r ez
    exact ⟨a, _, dx, _, u, rfl, h1, c, n, e2, hk _ _ q F1 H1 _ S1 T1 ru⟩
  | _ => exact q.elim
def putN (f : Str) : List Str → List Str
  | [] => [f]
  | n :: ns => if n = f then n :: ns else n :: putN f ns
def putX {α : Type} (f : Str) (z : α) : List Str → List α → List α
  | n :: ns, d :: ds => if n = f then z :: ds else d :: putX f z ns ds
  | _, _ => [z]
theorem putF_zip {f : Str} {z : V} : ∀ {ns : List Str} {vs : List V}, ns.length = vs.length → putF f z (ns.zip vs) = (putN f ns).zip (putX f z ns vs) ∧ (putN f ns).length = (putX f z ns vs).length
  | [], [], _ => ⟨rfl, rfl⟩
  | [], _ :: _, h => by cases h
  | _ :: _, [], h => by cases h
  | n :: ns, v :: vs, h => by
    obtain ⟨i1, i2⟩ := putF_zip (f := f) (z := z) (ns := ns) (vs := vs) (by simpa using h)
    show (if n = f then (n, z) :: ns.zip vs else (n, v) :: putF f z (ns.zip vs)) = _ ∧ _
    by_cases q : n = f
    · simp only [putN, putX, if_pos q, List.zip_cons_cons, List.length_cons]
      exact ⟨trivial, by simpa using h⟩
    · simp only [putN, putX, if_neg q, List.zip_cons_cons, List.length_cons, i1, i2]
      exact ⟨trivial, trivial⟩
theorem reps_putX {K : PySem.W.Frag} {F : Hp} {z : D} {v : V} (rz : Rep K F z v) : ∀ {ns : List Str} {ds : List D} {vs : List V}, Reps K F ds vs → ns.length = ds.length → Reps K F (putX f z ns ds) (putX f v ns vs)
  | [], [], vs, r, _ => by
    rw [reps_nil.mp r]
    exact Reps.one rz
  | [], _ :: _, _, _, h => by cases h
  | _ :: _, [], _, _, h => by cases h
  | n :: ns, d :: ds, vs, r, h => by
    obtain ⟨u, us, rfl, r1, r2⟩ := reps_cons.mp r
    by_cases q : n = f
    · simp only [putX, if_pos q]
      exact reps_cons.mpr ⟨_, _, rfl, rz, r2⟩
    · simp only [putX, if_neg q]
      exact reps_cons.mpr ⟨_, _, rfl, r1, reps_putX rz r2 (by simpa using h)⟩
/-- x.f = e, x a cell of this frame's -/
def tSF (C f : Str) (i : Nat) (te : TD) : TSD := fun E env => te env fun e1 r => got (escape e1 r) fun z => got (cellAt z.1 i) fun d => match d with
  | .obj C' ns ds => C' = C ∧ ns.length = ds.length ∧ ns.length < 1000 ∧ E.nx (putAt z.1 i (.obj C (putN f ns) (putX f z.2 ns ds)))
  | _ => False
theorem y_sf {i : Nat} (c : Cls X.K (He.ga X.K C)) (n : NoAttr X.K (He.ga X.K C) f) (hN : X.N[i]? = some x) (hv : Vis X.env.scope x) (he : PX X e te) (hd : (x == ("__debug__" : Str)) = false := by decide) (hcd : (x == ("__classdict__" : Str)) = false := by decide)
    (hs : swapsWith e (some (.Attribute (.Name x p1) f pos')) pos.line X.env = pure false := by rfl) : PY X (.Assign [.Attribute (.Name x p1) f pos'] e pos) (tSF C f i te) := by
  refine ⟨(ps_fld (pe_var hN hv hd hcd) he.run hs).imp fun D σ H ⟨F, env, E, S, h, o⟩ => ?_⟩
  refine ⟨F, env, _, S, h, fun e1 r ⟨z, ez, d, cd, q⟩ F1 H1 v S1 T1 rr => ?_⟩
  obtain ⟨F2, S2, T2, rd⟩ := escape_ok T1 S1 rr ez
  obtain ⟨a, e0, fa, oa, _⟩ := cell_of S2 cd
  refine ⟨.ref a, e0, ?_⟩
  cases d with
  | obj C' ns ds =>
    obtain ⟨rfl, hl, hk, q⟩ := q
    obtain ⟨vs, ⟨hlv, dx, h1⟩, r⟩ := oa
    refine ⟨a, _, dx, _, rfl, h1, c, n, by rw [List.length_zip]; omega, ?_⟩
    obtain ⟨e5, e6⟩ := putF_zip (f := f) (z := v) hlv
    obtain ⟨S4, T4⟩ := cell_put (o := .ins (He.ga X.K C') dx (putF f v (ns.zip vs))) (d' := .obj C' (putN f ns) (putX f z.2 ns ds)) S2 cd e0 ⟨_, ⟨e6, dx, by rw [upd_same, e5]⟩, reps_putX rd r hl⟩
    exact o.nx _ q F2 _ σ S4 (T2.trans T4)
  | _ => exact q.elim
end

/-- the rule for a def, the number of the other names apart -/
theorem fn_ok2 {P : Program} {w : World} {K : PySem.W.Frag} {mg : Str → Option Value} {base : Heap} {x qual : Str} {params : Arguments} {body : List Stmt} {scope : Scope} {dvs : List V} {kws : List (Str × V)} {f : Addr} {fd : FuncData} {N ps : List Str} {k : Nat} {ms : List Mode} {sp : SpD} (F : FunD K x qual params body scope dvs kws f fd) (S : FnScope N ps scope) (n : Nat) (hm : ms.length = ps.length)
    (hn : N.length = ps.length + n) (hbody : ∀ (cdv : Value) (A : Around) (outer : List PySem.Env) (s : Shared) (H : Hp) (E : XK), Room k (A.deeper (envOfC qual scope s.heap.objs.size f cdv)) →
      ∃ t, PYs (cxOf CX0 P w K mg base N qual scope f cdv A outer s H E).nox body t ∧ ∀ ds q, ms.length = ds.length → sp ds q → t { nx := fun env' => fin ms q env' (.val .non), rt := fun env' r => fin ms q env' r } (entry ms ds n)) : FnOk P w K mg base CX0 (k + 1) f fd ps (liftSp K ms sp) := by
  have e : N.length - ps.length = n := by omega
  subst e
  exact fn_ok F S hm (by omega) hbody
theorem fn_none {P : Program} {w : World} {K : PySem.W.Frag} {mg : Str → Option Value} {base : Heap} {k : Nat} {f : Addr} {fd : FuncData} {ps : List Str} {ms : List Mode} : FnOk P w K mg base CX0 k f fd ps (liftSp K ms fun _ _ => False) :=
  ⟨fun _ _ _ _ ⟨_, _, _, _, _, h, _⟩ => h.elim, fun _ _ _ _ _ _ _ _ _ _ _ _ _ ⟨_, _, _, _, _, h, _⟩ => h.elim⟩
end Pd

set_option Elab.async false
set_option linter.all false
set_option maxRecDepth 100000
/-! Small laws for readings. -/
namespace Pd
open PySem PySem.Spec PyProof.Rows L2
/-! ### the readings, unfolded step by step (no rfl: a kernel would look at all of it) -/
theorem e_tSq (t u : TSD) (E : EndsD) (env : Pd.Env) : Pd.tSq t u E env = (t { E with nx := u E } env) := propext ⟨fun h => h, fun h => h⟩
theorem e_tSqW (t u : TSD) (E : EndsD) (env : Pd.Env) : Pd.tSqW t u E env = (∃ P : Pd.Env → Prop, t { E with nx := P } env ∧ ∀ e, P e → u E e) := propext ⟨fun h => h, fun h => h⟩
theorem e_tSt (i : Nat) (te : TD) (E : EndsD) (env : Pd.Env) : Pd.tSt i te E env = (te env fun e1 r => got (asg e1 i r) E.nx) := propext ⟨fun h => h, fun h => h⟩
theorem e_tPm (is : List Nat) (t : TAD) (E : EndsD) (env : Pd.Env) : Pd.tPm is t E env = (t env fun e1 rs => got (asgs e1 is rs) E.nx) := propext ⟨fun h => h, fun h => h⟩
theorem e_tCoB (ta : TD) (tr : TAD) (env : Pd.Env) (k : (Pd.Env → List Pd.R → Prop)) : Pd.tCoB ta tr env k = (ta env fun e1 r => match r with
    | .al i => got (escape e1 (.al i)) fun z => tr z.1 fun e2 rs => k e2 (.val z.2 :: rs)
    | r => tr e1 fun e2 rs => k e2 (r :: rs)) := propext ⟨fun h => h, fun h => h⟩
theorem e_tCo (ta : TD) (tr : TAD) (env : Pd.Env) (k : (Pd.Env → List Pd.R → Prop)) : Pd.tCo ta tr env k = (ta env fun e1 r => tr e1 fun e2 rs => k e2 (r.seal :: rs)) := propext ⟨fun h => h, fun h => h⟩
theorem e_tN (env : Pd.Env) (k : (Pd.Env → List Pd.R → Prop)) : Pd.tN env k = (k env []) := propext ⟨fun h => h, fun h => h⟩
theorem e_tV (i : Nat) (env : Pd.Env) (k : (Pd.Env → Pd.R → Prop)) : Pd.tV i env k = (match env[i]? with
    | some .un => False
    | some (.val d) => k env (.val d)
    | some _ => k env (.al i)
    | none => False) := propext ⟨fun h => h, fun h => h⟩
theorem e_tK (d : D) (env : Pd.Env) (k : (Pd.Env → Pd.R → Prop)) : Pd.tK d env k = (k env (.val d)) := propext ⟨fun h => h, fun h => h⟩
theorem e_tOp2 (f : D → D → Ans) (ta tb : TD) (env : Pd.Env) (k : (Pd.Env → Pd.R → Prop)) : Pd.tOp2 f ta tb env k = (ta env fun e1 r1 => tb e1 fun e2 r2 => two f e2 r1 r2 k) := propext ⟨fun h => h, fun h => h⟩
theorem e_tOp1 (f : D → Ans) (ta : TD) (env : Pd.Env) (k : (Pd.Env → Pd.R → Prop)) : Pd.tOp1 f ta env k = (ta env fun e1 r1 => one f e1 r1 k) := propext ⟨fun h => h, fun h => h⟩
theorem e_two (f : D → D → Ans) (env : Pd.Env) (r1 r2 : Pd.R) (k : Pd.Env → Pd.R → Prop)  : Pd.two f env r1 r2 k = (got (content env r1.seal) fun d1 => got (content env r2) fun d2 => ans env (f d1 d2) k) := propext ⟨fun h => h, fun h => h⟩
theorem e_one (f : D → Ans) (env : Pd.Env) (r : Pd.R) (k : Pd.Env → Pd.R → Prop)  : Pd.one f env r k = (got (content env r) fun d => ans env (f d) k) := propext ⟨fun h => h, fun h => h⟩
theorem e_ans (env : Pd.Env) (o : Ans) (k : Pd.Env → Pd.R → Prop)  : Pd.ans env o k = (got o fun z => z.1 ∧ k env z.2.r) := propext ⟨fun h => h, fun h => h⟩
theorem e_tBo (t : TD) (env : Pd.Env) (k : (Pd.Env → Bool → Prop)) : Pd.tBo t env k = (t env fun e1 r => got (content e1 r) fun d => match d with
    | .bl b => k e1 b
    | _ => False) := propext ⟨fun h => h, fun h => h⟩
theorem e_tAn (t u : TTD) (env : Pd.Env) (k : (Pd.Env → Bool → Prop)) : Pd.tAn t u env k = (t env fun e1 c => if c = true then u e1 k else k e1 false) := propext ⟨fun h => h, fun h => h⟩
theorem e_tOr_ (t u : TTD) (env : Pd.Env) (k : (Pd.Env → Bool → Prop)) : Pd.tOr_ t u env k = (t env fun e1 c => if c = true then k e1 true else u e1 k) := propext ⟨fun h => h, fun h => h⟩
theorem e_tNo (t : TTD) (env : Pd.Env) (k : (Pd.Env → Bool → Prop)) : Pd.tNo t env k = (t env fun e1 c => k e1 (!c)) := propext ⟨fun h => h, fun h => h⟩
theorem e_tAnV (ta tb : TD) (env : Pd.Env) (k : (Pd.Env → Pd.R → Prop)) : Pd.tAnV ta tb env k = (ta env fun e1 r => got (content e1 r) fun d => match d with
    | .bl c => if c = true then tb e1 k else k e1 (.val (.bl false))
    | _ => False) := propext ⟨fun h => h, fun h => h⟩
theorem e_tOrV (ta tb : TD) (env : Pd.Env) (k : (Pd.Env → Pd.R → Prop)) : Pd.tOrV ta tb env k = (ta env fun e1 r => got (content e1 r) fun d => match d with
    | .bl c => if c = true then k e1 (.val (.bl true)) else tb e1 k
    | _ => False) := propext ⟨fun h => h, fun h => h⟩
theorem e_tNoV (ta : TD) (env : Pd.Env) (k : (Pd.Env → Pd.R → Prop)) : Pd.tNoV ta env k = (ta env fun e1 r => got (content e1 r) fun d => match d with
    | .bl c => k e1 (.val (.bl (!c)))
    | _ => False) := propext ⟨fun h => h, fun h => h⟩
theorem e_tIfD (c : TTD) (t u : TSD) (E : EndsD) (env : Pd.Env) : Pd.tIfD c t u E env = (c env fun e1 b => if b = true then t E e1 else u E e1) := propext ⟨fun h => h, fun h => h⟩
theorem e_tIfE (t : TTD) (ta tb : TD) (env : Pd.Env) (k : (Pd.Env → Pd.R → Prop)) : Pd.tIfE t ta tb env k = (t env fun e1 c => if c = true then ta e1 k else tb e1 k) := propext ⟨fun h => h, fun h => h⟩
theorem e_tRt (te : TD) (E : EndsD) (env : Pd.Env) : Pd.tRt te E env = (te env E.rt) := propext ⟨fun h => h, fun h => h⟩
theorem e_tRtN (E : EndsD) (env : Pd.Env) : Pd.tRtN E env = (E.rt env (.val .non)) := propext ⟨fun h => h, fun h => h⟩
theorem e_tDr (te : TD) (E : EndsD) (env : Pd.Env) : Pd.tDr te E env = (te env fun e1 _ => E.nx e1) := propext ⟨fun h => h, fun h => h⟩
theorem e_tNx (E : EndsD) (env : Pd.Env) : Pd.tNx E env = (E.nx env) := propext ⟨fun h => h, fun h => h⟩
theorem e_tBk (E : EndsD) (env : Pd.Env) : Pd.tBk E env = (E.bk env) := propext ⟨fun h => h, fun h => h⟩
theorem e_tCt (E : EndsD) (env : Pd.Env) : Pd.tCt E env = (E.ct env) := propext ⟨fun h => h, fun h => h⟩
theorem e_tNv (u0 : EndsD) (u1 : Pd.Env) : Pd.tNv u0 u1 = (False) := propext ⟨fun h => h, fun h => h⟩
theorem e_tTr (t : TD) (env : Pd.Env) (k : (Pd.Env → Bool → Prop)) : Pd.tTr t env k = (t env fun e1 r => got (content e1 r) fun d => got (truD d) fun z => z.1 ∧ k e1 z.2) := propext ⟨fun h => h, fun h => h⟩
theorem e_tCl (ms : List Mode) (sp : SpD) (dds : List D) (t : TAD) (env : Pd.Env) (k : (Pd.Env → Pd.R → Prop)) : Pd.tCl ms sp dds t env k = (t env fun e1 rs => passOk ms (rs ++ dds.map .val) = true ∧ got (pass e1 ms (rs ++ dds.map .val)) fun z => sp z.2 fun os r => k (putO z.1 (ioS ms (rs ++ dds.map .val)) os) r) := propext ⟨fun h => h, fun h => h⟩
theorem e_tL (t : TAD) (env : Pd.Env) (k : (Pd.Env → Pd.R → Prop)) : Pd.tL t env k = (t env fun e1 rs => got (escapes e1 rs) fun z => z.2.length ≤ sizeLine ∧ k z.1 (.new (.lst z.2))) := propext ⟨fun h => h, fun h => h⟩
theorem e_tT (t : TAD) (env : Pd.Env) (k : (Pd.Env → Pd.R → Prop)) : Pd.tT t env k = (t env fun e1 rs => got (escapes e1 rs) fun z => z.2.length ≤ sizeLine ∧ k z.1 (.val (.tup z.2))) := propext ⟨fun h => h, fun h => h⟩
theorem e_many (f : List D → Ans) (env : Pd.Env) (rs : List Pd.R) (k : Pd.Env → Pd.R → Prop)  : Pd.many f env rs k = (got (contents env rs) fun ds => ans env (f ds) k) := propext ⟨fun h => h, fun h => h⟩
theorem e_tBu (f : List D → Ans) (t : TAD) (env : Pd.Env) (k : (Pd.Env → Pd.R → Prop)) : Pd.tBu f t env k = (t env fun e1 rs => many f e1 rs k) := propext ⟨fun h => h, fun h => h⟩
theorem e_tSI (i : Nat) (te tj : TD) (E : EndsD) (env : Pd.Env) : Pd.tSI i te tj E env = (te env fun e1 r => got (escape e1 r) fun z => (∃ d, cellAt z.1 i = some d) ∧ tj z.1 fun e2 r2 => got ((cellAt e2 i).bind D.lst?) fun xs => got ((content e2 r2).bind D.int?) fun j => got (ixN xs.length j) fun m => E.nx (putAt e2 i (.lst (xs.set m z.2)))) := propext ⟨fun h => h, fun h => h⟩
theorem e_tAu (i : Nat) (f : D → D → Ans) (te : TD) (E : EndsD) (env : Pd.Env) : Pd.tAu i f te E env = (got (match env[i]? with
    | some (.val d) => some d
    | _ => none) fun d => te env fun e1 r => got (content e1 r) fun d2 => ans e1 (f d d2) fun e2 r2 => got (asg e2 i r2) E.nx) := propext ⟨fun h => h, fun h => h⟩
theorem e_tSF (C f : Str) (i : Nat) (te : TD) (E : EndsD) (env : Pd.Env) : Pd.tSF C f i te E env = (te env fun e1 r => got (escape e1 r) fun z => got (cellAt z.1 i) fun d => match d with
    | .obj C' ns ds => C' = C ∧ ns.length = ds.length ∧ ns.length < 1000 ∧ E.nx (putAt z.1 i (.obj C (putN f ns) (putX f z.2 ns ds)))
    | _ => False) := propext ⟨fun h => h, fun h => h⟩
theorem e_tFl (C f : Str) (te : TD) (env : Pd.Env) (k : (Pd.Env → Pd.R → Prop)) : Pd.tFl C f te env k = (te env fun e1 r => got (content e1 r) fun d => match d with
    | .obj C' ns ds => C' = C ∧ ns.length = ds.length ∧ got ((ns.zip ds).lookup f) fun z => k e1 (.val z)
    | _ => False) := propext ⟨fun h => h, fun h => h⟩
theorem e_tMk (C : Str) (ms : List Mode) (sp : SpD) (dds : List D) (t : TAD) (env : Pd.Env) (k : (Pd.Env → Pd.R → Prop)) : Pd.tMk C ms sp dds t env k = (t env fun e1 rs => mkOk C ms sp e1 (.al e1.length :: (rs ++ dds.map .val)) k) := propext ⟨fun h => h, fun h => h⟩
theorem e_tMkK (C : Str) (n m : Nat) (ms : List Mode) (sp : SpD) (dds : List D) (ix : List (Nat × Nat)) (t tk : TAD) (env : Pd.Env) (k : (Pd.Env → Pd.R → Prop)) : Pd.tMkK C n m ms sp dds ix t tk env k = (t env fun e1 rs => tk e1 fun e2 zs => rs.length = n ∧ zs.length = m ∧ mkOk C ms sp e2 (ordK ix (.al e2.length :: rs) (dds.map .val) zs) k) := propext ⟨fun h => h, fun h => h⟩
theorem e_mkOk (C : Str) (ms : List Mode) (sp : SpD) (e2 : Pd.Env) (as : List Pd.R) (k : Pd.Env → Pd.R → Prop)  : Pd.mkOk C ms sp e2 as k = (passOk ms as = true ∧ got (pass (e2 ++ [.own (.obj C [] [])]) ms as) fun z => sp z.2 fun os r => r.isNon ∧ ∃ (env2 : Pd.Env) (d : D), putO z.1 (ioS ms as) os = env2 ++ [Sl.own d] ∧ k env2 (.new d)) := propext ⟨fun h => h, fun h => h⟩
theorem e_tClK (n m : Nat) (ms : List Mode) (sp : SpD) (dds : List D) (ix : List (Nat × Nat)) (t tk : TAD) (env : Pd.Env) (k : (Pd.Env → Pd.R → Prop)) : Pd.tClK n m ms sp dds ix t tk env k = (t env fun e1 rs => tk e1 fun e2 zs => rs.length = n ∧ zs.length = m ∧
    passOk ms (ordK ix rs (dds.map .val) zs) = true ∧ got (pass e2 ms (ordK ix rs (dds.map .val) zs)) fun z => sp z.2 fun os r => k (putO z.1 (ioS ms (ordK ix rs (dds.map .val) zs)) os) r) := propext ⟨fun h => h, fun h => h⟩
theorem e_iSeq (tl : TD) (env : Pd.Env) (k : (Pd.Env → List D → Prop)) : Pd.iSeq tl env k = (tl env fun e1 r => got (iterD e1 r) fun z => k z.1 z.2) := propext ⟨fun h => h, fun h => h⟩
theorem e_iR1 (ta : TAD) (env : Pd.Env) (k : (Pd.Env → List D → Prop)) : Pd.iR1 ta env k = (ta env fun e1 rs => ∃ j : Int, rs.map (content e1) = [some (.int j)] ∧ BigOk j ∧ k e1 (rangeD 0 j.toNat)) := propext ⟨fun h => h, fun h => h⟩
theorem e_iR2 (ta : TAD) (env : Pd.Env) (k : (Pd.Env → List D → Prop)) : Pd.iR2 ta env k = (ta env fun e1 rs => ∃ i j : Int, rs.map (content e1) = [some (.int i), some (.int j)] ∧ BigOk i ∧ BigOk j ∧ k e1 (rangeD i (j - i).toNat)) := propext ⟨fun h => h, fun h => h⟩
theorem e_iZ (t : TAD) (env : Pd.Env) (k : (Pd.Env → List D → Prop)) : Pd.iZ t env k = (t env fun e1 rs => match rs with
    | [r1, r2] => got (iterK e1 r1) fun z => got (iterK z.1 r2) fun y => y.2.1 = z.2.1 ∧ k y.1 (zipD z.2.2 y.2.2)
    | _ => False) := propext ⟨fun h => h, fun h => h⟩
theorem e_gN (i : Nat) (d : D) (env : Pd.Env) (k : (Pd.Env → Prop)) : Pd.gN i d env k = (settable env i ∧ k (env.set i (.val d))) := propext ⟨fun h => h, fun h => h⟩
theorem e_gCo (t : TGD) (u : TGsD) (ds : List D) (env : Pd.Env) (k : (Pd.Env → Prop)) : Pd.gCo t u ds env k = (match ds with
    | d :: r => t d env fun e1 => u r e1 k
    | [] => False) := propext ⟨fun h => h, fun h => h⟩
theorem e_gNi (ds : List D) (env : Pd.Env) (k : (Pd.Env → Prop)) : Pd.gNi ds env k = (ds = [] ∧ k env) := propext ⟨fun h => h, fun h => h⟩
theorem e_gT (u : TGsD) (n : Nat) (d : D) (env : Pd.Env) (k : (Pd.Env → Prop)) : Pd.gT u n d env k = (match d with
    | .tup ds => ds.length = n ∧ u ds env k
    | _ => False) := propext ⟨fun h => h, fun h => h⟩
theorem e_tSlc (te : TD) (tl th : TPD) (env : Pd.Env) (k : (Pd.Env → Pd.R → Prop)) : Pd.tSlc te tl th env k = (te env fun e1 r => tl e1 fun e2 lo => th e2 fun e3 hi => got (content e3 r) fun d => ans e3 (slD d lo hi) k) := propext ⟨fun h => h, fun h => h⟩
theorem e_oN (env : Pd.Env) (k : (Pd.Env → Option Int → Prop)) : Pd.oN env k = (k env none) := propext ⟨fun h => h, fun h => h⟩
theorem e_oS (t : TD) (env : Pd.Env) (k : (Pd.Env → Option Int → Prop)) : Pd.oS t env k = (t env fun e1 r => got ((content e1 r).bind D.int?) fun i => k e1 (some i)) := propext ⟨fun h => h, fun h => h⟩
theorem e_tIsiT (ns : List String) (te : TD) (env : Pd.Env) (k : (Pd.Env → Pd.R → Prop)) : Pd.tIsiT ns te env k = (te env fun e1 r => got (content e1 r) fun d => got (tyName d) fun a => (∀ n ∈ ns, n ∈ tyNames) ∧ k e1 (.val (.bl (ns.any (isiT a))))) := propext ⟨fun h => h, fun h => h⟩
theorem e_freeOf (env : Pd.Env) (vs : List Nat)  : Pd.freeOf env vs = (∀ i ∈ vs, settable env i) := propext ⟨fun h => h, fun h => h⟩
theorem e_settable (env : Pd.Env) (i : Nat)  : Pd.settable env i = (match env[i]? with
    | some (.io _) => False
    | none => False
    | _ => True) := propext ⟨fun h => h, fun h => h⟩
theorem e_tCM (i : Nat) (f : CMeth) (t : TAD) (env : Pd.Env) (k : (Pd.Env → Pd.R → Prop)) : Pd.tCM i f t env k = (t env fun e1 rs => got (escapes e1 rs) fun z => got (cellAt z.1 i) fun d => got (f d z.2) fun y => y.1 ∧ k (putAt z.1 i y.2.1) (.val y.2.2)) := propext ⟨fun h => h, fun h => h⟩
theorem e_tCMT (T : String) (i : Nat) (f : CMeth) (t : TAD) (env : Pd.Env) (k : (Pd.Env → Pd.R → Prop)) : Pd.tCMT T i f t env k = ((∃ d, cellAt env i = some d ∧ tyName d = some T) ∧ tCM i f t env k) := propext ⟨fun h => h, fun h => h⟩
theorem e_tCh (f g : D → D → Ans) (ta tb tc : TD) (env : Pd.Env) (k : (Pd.Env → Pd.R → Prop)) : Pd.tCh f g ta tb tc env k = (ta env fun e1 r1 => tb e1 fun e2 r2 => two f e2 r1 r2.seal fun e3 r => got (content e3 r) fun d => match d with
    | .bl b => if b = true then tc e3 fun e4 r4 => two g e4 r2 r4 k else k e3 (.val (.bl false))
    | _ => False) := propext ⟨fun h => h, fun h => h⟩
/-- a call, what follows kept from being rewritten -/
def callI (sp : SpD) (ds : List D) [k : Inhabited (List D → Pd.R → Prop)] : Prop := sp ds k.default
theorem dfltI (f : List D → Pd.R → Prop) : @Inhabited.default (List D → Pd.R → Prop) ⟨f⟩ = f := rfl
theorem e_tClI (ms : List Mode) (sp : SpD) (dds : List D) (t : TAD) (env : Pd.Env) (k : (Pd.Env → Pd.R → Prop)) : Pd.tCl ms sp dds t env k = (t env fun e1 rs => passOk ms (rs ++ dds.map .val) = true ∧ got (pass e1 ms (rs ++ dds.map .val)) fun z => @callI sp z.2 ⟨fun os r => k (putO z.1 (ioS ms (rs ++ dds.map .val)) os) r⟩) := propext ⟨fun h => h, fun h => h⟩
theorem e_tClKI (n m : Nat) (ms : List Mode) (sp : SpD) (dds : List D) (ix : List (Nat × Nat)) (t tk : TAD) (env : Pd.Env) (k : (Pd.Env → Pd.R → Prop)) : Pd.tClK n m ms sp dds ix t tk env k = (t env fun e1 rs => tk e1 fun e2 zs => rs.length = n ∧ zs.length = m ∧
    passOk ms (ordK ix rs (dds.map .val) zs) = true ∧ got (pass e2 ms (ordK ix rs (dds.map .val) zs)) fun z => @callI sp z.2 ⟨fun os r => k (putO z.1 (ioS ms (ordK ix rs (dds.map .val) zs)) os) r⟩) := propext ⟨fun h => h, fun h => h⟩
theorem e_mkOkI (C : Str) (ms : List Mode) (sp : SpD) (e2 : Pd.Env) (as : List Pd.R) (k : Pd.Env → Pd.R → Prop)  : Pd.mkOk C ms sp e2 as k = (passOk ms as = true ∧ got (pass (e2 ++ [.own (.obj C [] [])]) ms as) fun z => @callI sp z.2 ⟨fun os r => r.isNon ∧ ∃ (env2 : Pd.Env) (d : D), putO z.1 (ioS ms as) os = env2 ++ [Sl.own d] ∧ k env2 (.new d)⟩) := propext ⟨fun h => h, fun h => h⟩
theorem ixN_nat (n i : Nat) : ixN n (i : Int) = if i < n then some i else none := by
  unfold ixN
  rw [if_pos (by omega)]
  by_cases h : i < n
  · rw [if_pos (by omega), if_pos h]; rfl
  · rw [if_neg (by omega), if_neg h]
theorem ixN_lit (n i : Nat) : ixN n (no_index (OfNat.ofNat i : Int)) = if i < n then some i else none := ixN_nat n i
theorem atI_nat {α : Type} (xs : List α) (i : Nat) : atI xs (i : Int) = xs[i]? := by
  unfold atI
  rw [ixN_nat]
  by_cases h : i < xs.length
  · rw [if_pos h]; rfl
  · rw [if_neg h, List.getElem?_eq_none (by omega)]; rfl
theorem atI_lit {α : Type} (xs : List α) (i : Nat) : atI xs (no_index (OfNat.ofNat i : Int)) = xs[i]? := atI_nat xs i
theorem fdn (l k : Nat) : ((l : Int)).fdiv (k : Int) = ((l / k : Nat) : Int) := by
  rw [Int.fdiv_eq_ediv_of_nonneg _ (by omega)]
  rfl
theorem fmn (l k : Nat) : ((l : Int)).fmod (k : Int) = ((l % k : Nat) : Int) := by
  rw [Int.fmod_eq_emod_of_nonneg _ (by omega)]
  rfl
theorem fdl (l k : Nat) : ((l : Int)).fdiv (no_index (OfNat.ofNat k : Int)) = ((l / (OfNat.ofNat k) : Nat) : Int) := fdn l k
theorem fml (l k : Nat) : ((l : Int)).fmod (no_index (OfNat.ofNat k : Int)) = ((l % (OfNat.ofNat k) : Nat) : Int) := fmn l k
theorem fmz (i : Int) (k : Nat) (h : 0 < k) : ∃ r : Nat, i.fmod (k : Int) = r ∧ r < k := by
  rw [Int.fmod_eq_emod_of_nonneg _ (by omega)]
  refine ⟨(i % (k : Int)).toNat, ?_, ?_⟩
  · rw [Int.toNat_of_nonneg (Int.emod_nonneg _ (by omega))]
  · have := Int.emod_lt_of_pos i (b := (k : Int)) (by omega)
    omega
theorem bits_lt {x : Int} {k : Nat} (h : x.natAbs < 2 ^ k) : Builtin.Int.intBits x ≤ k := PyProof.Rows.intBits_le h
theorem cmul_of {x y : Int} {p r : Nat} (hx : x.natAbs < 2 ^ p) (hy : y.natAbs < 2 ^ r) (h : p + r ≤ 134217728) : CMulX x y := by
  have h1 := bits_lt hx
  have h2 := bits_lt hy
  unfold CMulX
  omega
theorem pow_lt {b : Int} {m i : Nat} (h : b.natAbs < 2 ^ m) : (b ^ i).natAbs < 2 ^ (m * i + 1) := by
  rw [Int.natAbs_pow]
  have h1 : b.natAbs ^ i ≤ (2 ^ m) ^ i := Nat.pow_le_pow_left (Nat.le_of_lt h) i
  rw [← Nat.pow_mul] at h1
  exact Nat.lt_of_le_of_lt h1 (Nat.pow_lt_pow_right (by decide) (by omega))
/-- small numbers -/
theorem cmul_s {x y : Int} (hx : x.natAbs < 2 ^ 200) (hy : y.natAbs < 2 ^ 200) : CMulX x y := cmul_of hx hy (by decide)
theorem cdiv_s {x y : Int} (hy : y ≠ 0) (h : y.natAbs < 1073741824) : CDivA x y := .inl ⟨hy, h⟩
/-- the number at a slot -/
def lv (i : Nat) (e : Pd.Env) : Nat := match e[i]? with
  | some (Sl.val (D.int l)) => l.toNat
  | _ => 0

/-- a loop over the items ds -/
def Loop (g : TGD) (tb : TSD) (E : EndsD) (env1 : Pd.Env) (ds : List D) : Prop := ∃ P : Nat → Pd.Env → Prop, P 0 env1 ∧
  (∀ (i : Nat) d env, ds[i]? = some d → P i env → g d env fun e2 => tb { E with nx := P (i + 1), ct := P (i + 1), bk := E.nx } e2) ∧ ∀ env, P ds.length env → E.nx env
theorem tFo_eq (wi : TID) (g : TGD) (tb : TSD) (E : EndsD) (env : Pd.Env) : tFo wi g tb E env = wi env fun env1 ds => Loop g tb E env1 ds := propext ⟨fun h => h, fun h => h⟩
def LoopC (g : TGD) (tt : TTD) (te : TD) (vs : List Nat) (k : Pd.Env → Pd.R → Prop) (env1 : Pd.Env) (ds : List D) : Prop := ∃ P : Nat → Pd.Env → List D → Prop, P 0 (wipeD env1 vs) [] ∧
  (∀ (i : Nat) d env acc, ds[i]? = some d → P i env acc → g d env fun e2 => tt e2 fun e3 b => if b = true then te e3 fun e4 r => got (escape e4 r) fun z => acc.length < sizeLine ∧ P (i + 1) (wipeD z.1 vs) (acc ++ [z.2]) else P (i + 1) (wipeD e3 vs) acc) ∧
  ∀ env acc, P ds.length env acc → k (backD env1 env vs) (.new (.lst acc))
theorem tLC_eq (wi : TID) (g : TGD) (tt : TTD) (te : TD) (vs : List Nat) (env : Pd.Env) (k : Pd.Env → Pd.R → Prop) : tLC wi g tt te vs env k = wi env fun env1 ds => Pd.freeOf env1 vs ∧ LoopC g tt te vs k env1 ds := propext ⟨fun h => h, fun h => h⟩
/-- while, by name -/
def LoopW (c : TTD) (tb : TSD) (E : EndsD) (env : Pd.Env) : Prop := tWh c tb E env

/-- got, its second part kept from being rewritten -/
def gotI {α : Type} (o : Option α) [k : Inhabited (α → Prop)] : Prop := ∃ a, o = some a ∧ k.default a
theorem got_eqI {α : Type} (o : Option α) (k : α → Prop) : got o k = @gotI α o ⟨k⟩ := propext ⟨fun h => h, fun h => h⟩
theorem gotI_some {α : Type} (a : α) (k : α → Prop) : @gotI α (some a) ⟨k⟩ = k a := propext ⟨fun ⟨_, e, h⟩ => by cases e; exact h, fun h => ⟨a, rfl, h⟩⟩
theorem gotI_none {α : Type} (k : α → Prop) : @gotI α none ⟨k⟩ = False := propext ⟨fun ⟨_, e, _⟩ => (nomatch e), fun h => h.elim⟩
theorem fin_val (ms : List Mode) (k : List D → Pd.R → Prop) (env : Pd.Env) (d : D) : fin ms k env (.val d) = got (outsAt env ms 0) fun os => k os (.val d) := by
  unfold fin retR
  rw [propext got_some]
theorem fin_new (ms : List Mode) (k : List D → Pd.R → Prop) (env : Pd.Env) (d : D) : fin ms k env (.new d) = got (outsAt env ms 0) fun os => k os (.new d) := by
  unfold fin retR
  rw [propext got_some]
theorem fin_al (ms : List Mode) (k : List D → Pd.R → Prop) (env : Pd.Env) (i : Nat) : fin ms k env (.al i) = got (retR env (.al i)) fun r => got (outsAt env ms 0) fun os => k os r := propext ⟨fun h => h, fun h => h⟩
theorem dCm_int (c : Cm) (a b : Int) : dCm c (.int a) (.int b) = c.i a b := by unfold dCm; rfl
theorem dCm_str (c : Cm) (a b : Str) : dCm c (.str a) (.str b) = c.s a b := by unfold dCm; rfl
theorem dCm_tup (c : Cm) (a b : List D) : dCm c (.tup a) (.tup b) = dCms c a b := by
  rw [dCm]
theorem dEq_nn : dEq .non .non = true := by rw [dEq]
theorem dEq_ii (a b : Int) : dEq (.int a) (.int b) = (a == b) := by rw [dEq]
theorem dEq_bb (a b : Bool) : dEq (.bl a) (.bl b) = (a == b) := by rw [dEq]
theorem dEq_ss (a b : Str) : dEq (.str a) (.str b) = (a == b) := by rw [dEq]
theorem dEq_ll (a b : List D) : dEq (.lst a) (.lst b) = dEqs a b := by rw [dEq]
theorem dEq_tt (a b : List D) : dEq (.tup a) (.tup b) = dEqs a b := by rw [dEq]
theorem eqOk_i (n : Nat) (i : Int) : EqOk n (.int i) = True := by cases n <;> (rw [EqOk])
theorem eqOk_b (n : Nat) (i : Bool) : EqOk n (.bl i) = True := by cases n <;> (rw [EqOk])
theorem eqOk_s (n : Nat) (i : Str) : EqOk n (.str i) = True := by cases n <;> (rw [EqOk])
theorem eqOk_n (n : Nat) : EqOk n .non = True := by cases n <;> (rw [EqOk])
theorem cmOk_i (n : Nat) (i j : Int) : CmOk n (.int i) (.int j) = True := by cases n <;> (rw [CmOk])
theorem cmOk_s (n : Nat) (i j : Str) : CmOk n (.str i) (.str j) = True := by cases n <;> (rw [CmOk])
theorem sizeS (n : Nat) (h : n ≤ 1000) : (n ≤ sizeLine) = True := eq_true (by rw [sizeLine_eq]; omega)
theorem fmodB (z : Int) {k : Int} (h : 0 < k) : 0 ≤ z.fmod k ∧ z.fmod k < k := by
  rw [Int.fmod_eq_emod_of_nonneg _ (by omega)]
  exact ⟨Int.emod_nonneg _ (by omega), Int.emod_lt_of_pos _ h⟩
theorem cmul_w {x y : Int} (hx : x.natAbs < 18446744073709551616) (hy : y.natAbs < 18446744073709551616) : CMulX x y := cmul_of (p := 64) (r := 64) hx hy (by decide)
theorem rangeD_get {lo : Int} {n i : Nat} {d : D} (h : (rangeD lo n)[i]? = some d) : d = .int (lo + i) ∧ i < n := by
  unfold rangeD at h
  rw [List.getElem?_map] at h
  obtain ⟨j, e, rfl⟩ := Option.map_eq_some_iff.mp h
  obtain ⟨h1, h2⟩ := List.getElem?_eq_some_iff.mp e
  rw [List.length_range] at h1
  rw [List.getElem_range] at h2
  subst h2
  exact ⟨rfl, h1⟩
theorem rangeD_len {lo : Int} {n : Nat} : (rangeD lo n).length = n := by
  unfold rangeD
  rw [List.length_map, List.length_range]
theorem sIx0 (n : Nat) : HT.sIx n 0 none = 0 := rfl
end Pd

set_option Elab.async false
set_option linter.all false
set_option maxRecDepth 100000
set_option maxHeartbeats 2000000
namespace PdH
open PySem PySem.Spec PyProof.Rows L2 He
/-- facts more: a module's name that stands for a built-in function -/
def biOk (K : PySem.W.Frag) (p : Str × String) : Bool := match PySem.W.nsIn K mainGlobals p.1 with
  | some (some (.builtin id)) => decide (id = p.2)
  | _ => false
theorem bi_ok {K : PySem.W.Frag} {h : Heap} {mg : Str → Option Value} (X : K.In h) (G : h.Ns mainGlobals mg) {p : Str × String} (c : biOk K p = true) : mg p.1 = some (.builtin p.2) := by
  unfold biOk at c
  cases e : PySem.W.nsIn K mainGlobals p.1 with
  | none =>
    rw [e] at c
    cases c
  | some o =>
    rw [e] at c
    cases o with
    | none => cases c
    | some v =>
      cases v with
      | builtin id =>
        have ej : id = p.2 := of_decide_eq_true c
        rw [ej] at e
        exact PySem.W.mg_of X G e
      | _ => cases c
abbrev AlX : Type := Bool × AlD
def obsX (bi : List (Str × String)) (fa : List Fa) (fn : List DefD) (K : PySem.W.Frag) : AlX := (bi.all (biOk K), obsD fa fn K)
def obsXG (n : Nat) (bi : List (Str × String)) (fa : List Fa) (fn : List DefD) (g : Addr → Option Obj) : AlX := obsX bi fa fn (frG g (asD g n))
def SaysX (bi : List (Str × String)) (fa : List Fa) (fn : List DefD) (K : PySem.W.Frag) : Prop := obsX bi fa fn K = (true, valD fn)
def hookX (n : Nat) (bi : List (Str × String)) (fa : List Fa) (fn : List DefD) : PySem.W.Hook where
  α := AlX
  obs := fun s => obsXG n bi fa fn s.heap.get?
  val := fun _ => (true, valD fn)
  says := fun _ h => ∃ K : PySem.W.Frag, K.In h ∧ SaysX bi fa fn K
  of := fun _ _ e => ⟨_, frG_in, e⟩
  keeps := fun _ _ _ ⟨K, hK, c⟩ k => ⟨K, PySem.W.Frag.In.keeps hK k, c⟩
theorem obsXG_eq {n : Nat} {bi : List (Str × String)} {fa : List Fa} {fn : List DefD} {g : Addr → Option Obj} {s : Shared} (h : ∀ a, g a = s.heap.get? a) : obsXG n bi fa fn g = (hookX n bi fa fn).obs s := by
  have e : g = s.heap.get? := funext h
  rw [e] <;> rfl
theorem SaysX.d {bi : List (Str × String)} {fa : List Fa} {fn : List DefD} {K : PySem.W.Frag} (c : SaysX bi fa fn K) : SaysD fa fn K := congrArg (fun z : AlX => z.2) c
theorem SaysX.bi {bi : List (Str × String)} {fa : List Fa} {fn : List DefD} {K : PySem.W.Frag} (c : SaysX bi fa fn K) (i : Nat) {p : Str × String} (h : bi[i]? = some p := by rfl) : biOk K p = true :=
  List.all_eq_true.mp (congrArg (fun z : AlX => z.1) c) p (List.mem_of_getElem? h)
end PdH

set_option Elab.async false
set_option linter.all false
set_option maxRecDepth 100000
set_option maxHeartbeats 0
namespace LW
open PySem PySem.Spec PyProof.Rows L2
def top (i : Nat) : Stmt := PySem.Challenge.pw_proofplans_k11_powers_and_roots.main.body.getD i (.Pass ⟨0, 0, 0, 0⟩)
abbrev s_InvalidFraction_init : Stmt := inClass (top 3) 0
abbrev s_is_numeral : Stmt := top 7
abbrev s_is_whole : Stmt := top 8
def d_is_whole : He.DefD := ⟨("is_whole", none), "is_whole", "is_whole", defArgs s_is_whole, defBody s_is_whole, defScope s_is_whole, [], []⟩
abbrev s_Ratio_init : Stmt := inClass (top 10) 0
def d_Ratio_init : He.DefD := ⟨("Ratio", some "__init__"), "__init__", "Ratio.__init__", defArgs s_Ratio_init, defBody s_Ratio_init, defScope s_Ratio_init, [.int 1], []⟩
abbrev s_Ratio_add : Stmt := inClass (top 10) 1
abbrev s_Ratio_sub : Stmt := inClass (top 10) 2
abbrev s_Ratio_mul : Stmt := inClass (top 10) 3
abbrev s_Ratio_neg : Stmt := inClass (top 10) 4
abbrev s_Ratio_eq : Stmt := inClass (top 10) 5
abbrev s_Ratio_lt : Stmt := inClass (top 10) 6
abbrev s_Ratio_le : Stmt := inClass (top 10) 7
abbrev s_Ratio_gt : Stmt := inClass (top 10) 8
abbrev s_Ratio_ge : Stmt := inClass (top 10) 9
abbrev s_Ratio_text : Stmt := inClass (top 10) 10
abbrev s_Ratio_str : Stmt := inClass (top 10) 11
abbrev s_Ratio_repr : Stmt := inClass (top 10) 12
abbrev s_Ratio_read : Stmt := inClass (top 10) 13
abbrev s_power : Stmt := top 11
def d_power : He.DefD := ⟨("_power", none), "_power", "_power", defArgs s_power, defBody s_power, defScope s_power, [], []⟩
abbrev s_within_power : Stmt := top 12
def d_within_power : He.DefD := ⟨("within_power", none), "within_power", "within_power", defArgs s_within_power, defBody s_within_power, defScope s_within_power, [], []⟩
abbrev s_least_power : Stmt := top 13
def d_least_power : He.DefD := ⟨("least_power", none), "least_power", "least_power", defArgs s_least_power, defBody s_least_power, defScope s_least_power, [], []⟩
abbrev s_least_root : Stmt := top 14
def d_least_root : He.DefD := ⟨("least_root", none), "least_root", "least_root", defArgs s_least_root, defBody s_least_root, defScope s_least_root, [], []⟩
abbrev s_lower_guess : Stmt := top 15
def d_lower_guess : He.DefD := ⟨("_lower_guess", none), "_lower_guess", "_lower_guess", defArgs s_lower_guess, defBody s_lower_guess, defScope s_lower_guess, [], []⟩
abbrev s_law_bag : Stmt := top 17
def d_law_bag : He.DefD := ⟨("_law_bag", none), "_law_bag", "_law_bag", defArgs s_law_bag, defBody s_law_bag, defScope s_law_bag, [], []⟩
abbrev s_law_draw : Stmt := top 18
def d_law_draw : He.DefD := ⟨("_law_draw", none), "_law_draw", "_law_draw", defArgs s_law_draw, defBody s_law_draw, defScope s_law_draw, [], []⟩
abbrev s_law_of : Stmt := top 19
def d_law_of : He.DefD := ⟨("_law_of", none), "_law_of", "_law_of", defArgs s_law_of, defBody s_law_of, defScope s_law_of, [], []⟩
abbrev s_law_like : Stmt := top 20
def d_law_like : He.DefD := ⟨("_law_like", none), "_law_like", "_law_like", defArgs s_law_like, defBody s_law_like, defScope s_law_like, [], []⟩
abbrev s_law_common : Stmt := top 21
def d_law_common : He.DefD := ⟨("_law_common", none), "_law_common", "_law_common", defArgs s_law_common, defBody s_law_common, defScope s_law_common, [], []⟩
abbrev s_law_lowest : Stmt := top 22
def d_law_lowest : He.DefD := ⟨("_law_lowest", none), "_law_lowest", "_law_lowest", defArgs s_law_lowest, defBody s_law_lowest, defScope s_law_lowest, [], []⟩
abbrev s_law_great : Stmt := top 23
def d_law_great : He.DefD := ⟨("_law_great", none), "_law_great", "_law_great", defArgs s_law_great, defBody s_law_great, defScope s_law_great, [], []⟩
abbrev s_law_power : Stmt := top 24
def d_law_power : He.DefD := ⟨("_law_power", none), "_law_power", "_law_power", defArgs s_law_power, defBody s_law_power, defScope s_law_power, [], []⟩
abbrev s_law_least : Stmt := top 25
def d_law_least : He.DefD := ⟨("_law_least", none), "_law_least", "_law_least", defArgs s_law_least, defBody s_law_least, defScope s_law_least, [], []⟩
abbrev s_law_pair : Stmt := top 26
def d_law_pair : He.DefD := ⟨("_law_pair", none), "_law_pair", "_law_pair", defArgs s_law_pair, defBody s_law_pair, defScope s_law_pair, [], []⟩
abbrev s_law_root : Stmt := top 27
def d_law_root : He.DefD := ⟨("_law_root", none), "_law_root", "_law_root", defArgs s_law_root, defBody s_law_root, defScope s_law_root, [], []⟩
abbrev s_law_roots_so : Stmt := top 28
def d_law_roots_so : He.DefD := ⟨("_law_roots_so", none), "_law_roots_so", "_law_roots_so", defArgs s_law_roots_so, defBody s_law_roots_so, defScope s_law_roots_so, [], []⟩
abbrev s_law_powers_so : Stmt := top 29
def d_law_powers_so : He.DefD := ⟨("_law_powers_so", none), "_law_powers_so", "_law_powers_so", defArgs s_law_powers_so, defBody s_law_powers_so, defScope s_law_powers_so, [], []⟩
abbrev s_law_within_so : Stmt := top 30
def d_law_within_so : He.DefD := ⟨("_law_within_so", none), "_law_within_so", "_law_within_so", defArgs s_law_within_so, defBody s_law_within_so, defScope s_law_within_so, [], []⟩
abbrev s_law : Stmt := top 31
def d_law : He.DefD := ⟨("law", none), "law", "law", defArgs s_law, defBody s_law, defScope s_law, [], []⟩
def fn : List He.DefD := [d_is_whole, d_Ratio_init, d_power, d_within_power, d_least_power, d_least_root, d_lower_guess, d_law_bag, d_law_draw, d_law_of, d_law_like, d_law_common, d_law_lowest, d_law_great, d_law_power, d_law_least, d_law_pair, d_law_root, d_law_roots_so, d_law_powers_so, d_law_within_so, d_law]
def fa : List He.Fa := [.glo "is_whole", .glo "_power", .glo "within_power", .glo "least_power", .glo "least_root", .glo "_lower_guess", .glo "_law_bag", .glo "_law_draw", .glo "_law_of", .glo "_law_like", .glo "_law_common", .glo "_law_lowest", .glo "_law_great", .glo "_law_power", .glo "_law_least", .glo "_law_pair", .glo "_law_root", .glo "_law_roots_so", .glo "_law_powers_so", .glo "_law_within_so", .glo "law", .str "DIGITS" "0123456789", .int "MOST_DIGITS" 9, .free "abs", .free "all", .free "bool", .free "dict", .free "int", .free "isinstance", .free "len", .free "list", .free "range", .free "str", .free "tuple", .free "zip", .cls "Ratio", .mkr "Ratio", .keep "Ratio", .glo "Ratio", .noat "Ratio" "top", .noat "Ratio" "bottom"]
abbrev RowX : PySem.W.OpenRow := PySem.W.OpenLaw.row PySem.Challenge.rw_proofplans_k11_powers_and_roots
def bi : List (Str × String) := [("gcd", "math.gcd")]
abbrev hk : PySem.W.Hook := PdH.hookX 5 bi fa fn
def ob (s : PySem.W.SharedT) : PdH.AlX := PdH.obsXG 5 bi fa fn (HandSHeadRun.getT s)
theorem ob_eq (s : PySem.W.SharedT) : ob s = hk.obs s.abs := PdH.obsXG_eq (HandSHeadRun.getT_eq s)
def loose : List PySem.Str := ["PlanError", "InvalidFraction", "DIGITS", "MOST_DIGITS", "is_numeral", "is_whole", "Ratio", "_power", "within_power", "least_power", "least_root", "_lower_guess", "_law_bag", "_law_draw", "_law_of", "_law_like", "_law_common", "_law_lowest", "_law_great", "_law_power", "_law_least", "_law_pair", "_law_root", "_law_roots_so", "_law_powers_so", "_law_within_so"]
theorem run (w : World) : HandSHeadRun.RunEqI RowX (PySem.W.view RowX.prog [0, 31]) hk ob 6000 loose w := by
  unfold HandSHeadRun.RunEqI
  kernel_rfl
end LW

set_option Elab.async false
set_option linter.all false
set_option maxRecDepth 100000
set_option maxHeartbeats 0
namespace LW
open PySem PySem.Spec PyProof.Rows L2 Pd
def ratD (t b : Int) : D := .obj "Ratio" ["top", "bottom"] [.int t, .int b]
/-- a number without a sign, of at most m binary digits -/
def Sz (m : Nat) (i : Int) : Prop := i.natAbs < 2 ^ m
def sp_is_whole : SpD := fun ds q => ∃ i : Int, ds = [.int i] ∧ q [] (.val (.bl true))
def sp_Ratio_init : SpD := fun ds q => ∃ t b : Int, ds = [.obj "Ratio" [] [], .int t, .int b] ∧ 0 < b ∧ Nat.gcd t.natAbs b.natAbs = 1 ∧ q [ratD t b] (.val .non)
def sp_power : SpD := fun ds q => ∃ (b : Int) (n m : Nat), ds = [.int b, .int n] ∧ Sz m b ∧ m * (n + 1) ≤ 60000000 ∧ q [] (.val (.int (b ^ n)))
def sp_law_power : SpD := fun ds q => ∃ (b : Int) (n m : Nat), ds = [.int b, .int n] ∧ Sz m b ∧ m * (n + 1) ≤ 60000000 ∧ n < 2 ^ 60 ∧ q [] (.val (.int (b ^ n)))
theorem lt35 {p : Nat} (h : p < 2 ^ 1200) : p < 2 ^ 3500 := Nat.lt_trans h (Nat.pow_lt_pow_right (by decide) (by decide))
/-- r is the least whole number whose k-th power is at least p -/
def IsRoot (p k r : Nat) : Prop := p ≤ r ^ k ∧ ∀ j, j < r → j ^ k < p
def sp_within_power : SpD := fun ds q => ∃ c n t b : Nat, ds = [.int c, .int n, ratD t b] ∧ 0 < b ∧ b ≤ 100 ∧ t ≤ 100 ∧ c < 2 ^ 1200 ∧ n < 2 ^ 1200 ∧ q [] (.val (.bl (decide (c ^ b ≤ n ^ t))))
def sp_lower_guess : SpD := fun ds q => ∃ p k g m : Nat, ds = [.int p, .int k, .int g] ∧ 0 < k ∧ k ≤ 1200 ∧ 0 < g ∧ g < 2 ^ m ∧ m * k ≤ 8000 ∧ q [] (.val (.int (((k - 1) * g + p / g ^ (k - 1)) / k : Nat)))
def sp_least_root : SpD := fun ds q => ∃ p k : Nat, ds = [.int p, .int k] ∧ 0 < k ∧ k ≤ 100 ∧ p < 2 ^ 3500 ∧ ∀ r : Nat, IsRoot p k r → q [] (.val (.int r))
def sp_least_power : SpD := fun ds q => ∃ n t b : Nat, ds = [.int n, ratD t b] ∧ 0 < b ∧ b ≤ 100 ∧ t ≤ 100 ∧ n < 2 ^ 1200 ∧ n ^ t < 2 ^ 3500 ∧ ∀ r : Nat, IsRoot (n ^ t) b r → q [] (.val (.int r))
/-- the drawer: its numbers, where it stands, what is left, the mixed number, how often was drawn -/
def BagOk (n : Nat) (d : D) : Prop := ∃ (ns : List Int) (p v x y : Nat), d = .lst [.lst (ns.map D.int), .int p, .int v, .int x, .int y] ∧ ns.length ≤ 63 ∧ x < 2147483629 ∧ y ≤ n
def sp_law_bag : SpD := fun ds q => ∃ ns : List Int, ds = [.rol (ns.map D.int)] ∧ ∀ d, BagOk 0 d → q [] (.new d)
def sp_law_draw : SpD := fun ds q => ∃ (d : D) (n s : Nat), ds = [d, .int s] ∧ BagOk n d ∧ n < 2 ^ 60 ∧ 0 < s ∧ s ≤ 1000000000 ∧ ∀ (d' : D) (k : Nat), BagOk (n + 1) d' → k < s → q [d'] (.val (.int k))
def sp_law_of : SpD := fun ds q => ∃ (d : D) (n : Nat) (xs : List D), ds = [d, .lst xs] ∧ BagOk n d ∧ n < 2 ^ 60 ∧ 0 < xs.length ∧ xs.length ≤ 1000 ∧ ∀ (d' : D) (x : D), BagOk (n + 1) d' → x ∈ xs → q [d'] (.val x)
def scal : D → Prop
  | .int _ => True
  | .bl _ => True
  | _ => False
def sp_law_like0 : SpD := fun ds q => ∃ d : D, ds = [d, d] ∧ scal d ∧ q [] (.val (.bl true))
def sp_law_like : SpD := fun ds q => ∃ xs : List D, ds = [.lst xs, .lst xs] ∧ (∀ x ∈ xs, scal x) ∧ xs.length ≤ 1000 ∧ q [] (.val (.bl true))
def sp_law_common : SpD := fun ds q => ∃ x y : Nat, ds = [.int x, .int y] ∧ y < 2 ^ 30 ∧ q [] (.val (.int (Nat.gcd x y : Nat)))
def sp_law_lowest : SpD := fun ds q => ∃ x y : Nat, ds = [.int x, .int y] ∧ 0 < y ∧ y < 2 ^ 30 ∧ q [] (.val (.tup [.int (x / Nat.gcd x y : Nat), .int (y / Nat.gcd x y : Nat)]))
def sp_law_great : SpD := fun ds q => ∃ (d : D) (n : Nat), ds = [d] ∧ BagOk n d ∧ n < 2 ^ 50 ∧ ∀ (d' : D) (k : Nat), BagOk (n + 10) d' → k < 10 ^ 39 → q [d'] (.val (.int k))
def sp_law_least : SpD := fun ds q => ∃ k p : Nat, ds = [.int k, .int p] ∧ 0 < k ∧ k ≤ 100 ∧ p < 2 ^ 1200 ∧ ∀ r : Nat, IsRoot p k r → q [] (.val (.int r))
def sp_law_pair : SpD := fun ds q => ∃ (d : D) (n : Nat), ds = [d] ∧ BagOk n d ∧ n < 2 ^ 50 ∧ ∀ (d' : D) (t b : Nat), BagOk (n + 10) d' → t ≤ 7 → 0 < b → b ≤ 7 → Nat.gcd t b = 1 → q [d'] (.val (.tup [.int t, .int b]))
def sp_law_root : SpD := fun ds q => ∃ i p k : Nat, ds = [.int i, .int p, .int k] ∧ 0 < k ∧ k ≤ 100 ∧ p < 2 ^ 1200 ∧ ∀ r : Nat, IsRoot p k r → q [] (.val (.int r))
def sp_so (m : Nat) : SpD := fun ds q => ∃ (d : D) (n : Nat), ds = [d] ∧ BagOk n d ∧ n < 2 ^ 40 ∧ ∀ (d' : D), BagOk (n + m) d' → q [d'] (.val (.bl true))
def sp_law_roots_so : SpD := sp_so 1000
def sp_law_powers_so : SpD := sp_so 1000
def sp_law_within_so : SpD := sp_so 1000
def sp_law : SpD := fun ds q => ∃ ns : List Int, ds = [.rol (ns.map D.int)] ∧ q [] (.val (.bl true))
abbrev m_is_whole : List Mode := [.v]
def t_is_whole : TSD :=
  (tRt (tAnV (tBu isinD (tCo (tV 0) (tCo (tK (.ty "int")) tN))) (tNoV (tBu isinD (tCo (tV 0) (tCo (tK (.ty "bool")) tN))))))
abbrev Rd_is_whole : Prop := ∀ (ds : List D) (q : List D → R → Prop), m_is_whole.length = ds.length → sp_is_whole ds q → t_is_whole { nx := fun e => fin m_is_whole q e (.val .non), rt := fun e r => fin m_is_whole q e r } (entry m_is_whole ds 0)
abbrev m_Ratio_init : List Mode := [.io, .v, .v]
def t_Ratio_init : TSD :=
  (tSq (tIfD (tNo (tBo (tCl m_is_whole sp_is_whole [] (tCo (tV 1) tN)))) tNv tNx) (tSq (tIfD (tOr_ (tNo (tBo (tCl m_is_whole sp_is_whole [] (tCo (tV 2) tN)))) (tBo (tOp2 eqD (tV 2) (tK (.int 0))))) tNv tNx) (tSq (tSt 3 (tIfE (tBo (tOp2 (cmD .gt) (tV 2) (tK (.int 0)))) (tBu gcdD (tCo (tV 1) (tCo (tV 2) tN))) (tOp1 negD (tBu gcdD (tCo (tV 1) (tCo (tV 2) tN)))))) (tSq (tSF "Ratio" "top" 0 (tOp2 fdivD (tV 1) (tV 3))) (tSF "Ratio" "bottom" 0 (tOp2 fdivD (tV 2) (tV 3)))))))
abbrev Rd_Ratio_init : Prop := ∀ (ds : List D) (q : List D → R → Prop), m_Ratio_init.length = ds.length → sp_Ratio_init ds q → t_Ratio_init { nx := fun e => fin m_Ratio_init q e (.val .non), rt := fun e r => fin m_Ratio_init q e r } (entry m_Ratio_init ds 1)
abbrev m_power : List Mode := [.v, .v]
def t_power : TSD :=
  (tSq (tPm [2, 3, 4] (tCoB (tK (.int 1)) (tCoB (tV 0) (tCoB (tV 1) tN)))) (tSq (tWh (tBo (tOp2 (cmD .gt) (tV 4) (tK (.int 0)))) (tSq (tIfD (tBo (tOp2 eqD (tOp2 modD (tV 4) (tK (.int 2))) (tK (.int 1)))) (tSt 2 (tOp2 mulD (tV 2) (tV 3))) tNx) (tSq (tSt 4 (tOp2 fdivD (tV 4) (tK (.int 2)))) (tIfD (tBo (tOp2 (cmD .gt) (tV 4) (tK (.int 0)))) (tSt 3 (tOp2 mulD (tV 3) (tV 3))) tNx)))) (tRt (tV 2))))
abbrev Rd_power : Prop := ∀ (ds : List D) (q : List D → R → Prop), m_power.length = ds.length → sp_power ds q → t_power { nx := fun e => fin m_power q e (.val .non), rt := fun e r => fin m_power q e r } (entry m_power ds 3)
abbrev m_within_power : List Mode := [.v, .v, .v]
def t_within_power : TSD :=
  (tSq (tPm [3, 4] (tCoB (tFl "Ratio" "top" (tV 2)) (tCoB (tFl "Ratio" "bottom" (tV 2)) tN))) (tSq (tIfD (tBo (tOp2 eqD (tV 3) (tK (.int 0)))) (tRt (tOp2 (cmD .le) (tV 0) (tK (.int 1)))) tNx) (tSq (tIfD (tOr_ (tBo (tOp2 (cmD .le) (tV 1) (tK (.int 1)))) (tBo (tOp2 (cmD .le) (tV 0) (tK (.int 1))))) (tRt (tOp2 (cmD .le) (tV 0) (tV 1))) tNx) (tSq (tIfD (tBo (tOp2 (cmD .ge) (tOp2 mulD (tOp2 subD (tOp1 bitsD (tV 0)) (tK (.int 1))) (tV 4)) (tOp2 mulD (tOp1 bitsD (tV 1)) (tV 3)))) (tRt (tK (.bl false))) tNx) (tSq (tIfD (tBo (tOp2 (cmD .le) (tOp2 mulD (tOp1 bitsD (tV 0)) (tV 4)) (tOp2 mulD (tOp2 subD (tOp1 bitsD (tV 1)) (tK (.int 1))) (tV 3)))) (tRt (tK (.bl true))) tNx) (tRt (tOp2 (cmD .le) (tCl m_power sp_power [] (tCo (tV 0) (tCo (tV 4) tN))) (tCl m_power sp_power [] (tCo (tV 1) (tCo (tV 3) tN))))))))))
abbrev Rd_within_power : Prop := ∀ (ds : List D) (q : List D → R → Prop), m_within_power.length = ds.length → sp_within_power ds q → t_within_power { nx := fun e => fin m_within_power q e (.val .non), rt := fun e r => fin m_within_power q e r } (entry m_within_power ds 2)
abbrev m_lower_guess : List Mode := [.v, .v, .v]
def t_lower_guess : TSD :=
  (tRt (tOp2 fdivD (tOp2 addD (tOp2 mulD (tOp2 subD (tV 1) (tK (.int 1))) (tV 2)) (tOp2 fdivD (tV 0) (tCl m_power sp_power [] (tCo (tV 2) (tCo (tOp2 subD (tV 1) (tK (.int 1))) tN))))) (tV 1)))
abbrev Rd_lower_guess : Prop := ∀ (ds : List D) (q : List D → R → Prop), m_lower_guess.length = ds.length → sp_lower_guess ds q → t_lower_guess { nx := fun e => fin m_lower_guess q e (.val .non), rt := fun e r => fin m_lower_guess q e r } (entry m_lower_guess ds 0)
abbrev m_least_root : List Mode := [.v, .v]
def t_least_root : TSD :=
  (tSq (tIfD (tBo (tOp2 (cmD .le) (tV 0) (tK (.int 1)))) (tRt (tV 0)) tNx) (tSq (tIfD (tBo (tOp2 (cmD .ge) (tV 1) (tOp1 bitsD (tV 0)))) (tRt (tK (.int 2))) tNx) (tSq (tSt 2 (tOp2 shlD (tK (.int 1)) (tOp1 negD (tOp2 fdivD (tOp1 negD (tOp1 bitsD (tV 0))) (tV 1))))) (tSq (tSt 3 (tCl m_lower_guess sp_lower_guess [] (tCo (tV 0) (tCo (tV 1) (tCo (tV 2) tN))))) (tSq (tWh (tBo (tOp2 (cmD .lt) (tV 3) (tV 2))) (tSq (tSt 2 (tV 3)) (tSt 3 (tCl m_lower_guess sp_lower_guess [] (tCo (tV 0) (tCo (tV 1) (tCo (tV 2) tN))))))) (tRt (tIfE (tBo (tOp2 eqD (tCl m_power sp_power [] (tCo (tV 2) (tCo (tV 1) tN))) (tV 0))) (tV 2) (tOp2 addD (tV 2) (tK (.int 1))))))))))
abbrev Rd_least_root : Prop := ∀ (ds : List D) (q : List D → R → Prop), m_least_root.length = ds.length → sp_least_root ds q → t_least_root { nx := fun e => fin m_least_root q e (.val .non), rt := fun e r => fin m_least_root q e r } (entry m_least_root ds 2)
abbrev m_least_power : List Mode := [.v, .v]
def t_least_power : TSD :=
  (tRt (tCl m_least_root sp_least_root [] (tCo (tCl m_power sp_power [] (tCo (tV 0) (tCo (tFl "Ratio" "top" (tV 1)) tN))) (tCo (tFl "Ratio" "bottom" (tV 1)) tN))))
abbrev Rd_least_power : Prop := ∀ (ds : List D) (q : List D → R → Prop), m_least_power.length = ds.length → sp_least_power ds q → t_least_power { nx := fun e => fin m_least_power q e (.val .non), rt := fun e r => fin m_least_power q e r } (entry m_least_power ds 0)
abbrev m_law_bag : List Mode := [.v]
def t_law_bag : TSD :=
  (tSq (tSt 1 (tOp2 addD (tK (.int 1397700)) (tK (.int 11)))) (tSq (tFo (iSeq (tSlc (tV 0) oN (oS (tK (.int 63))))) (gN 2) (tSt 1 (tOp2 modD (tBu intD (tCo (tOp2 addD (tOp2 addD (tOp2 mulD (tV 1) (tK (.int 48271))) (tOp2 modD (tBu intD (tCo (tV 2) tN)) (tK (.int 2147483587)))) (tK (.int 311))) tN)) (tK (.int 2147483629))))) (tRt (tL (tCo (tBu listD (tCo (tSlc (tV 0) oN (oS (tK (.int 63)))) tN)) (tCo (tK (.int 0)) (tCo (tK (.int 0)) (tCo (tV 1) (tCo (tK (.int 0)) tN)))))))))
abbrev Rd_law_bag : Prop := ∀ (ds : List D) (q : List D → R → Prop), m_law_bag.length = ds.length → sp_law_bag ds q → t_law_bag { nx := fun e => fin m_law_bag q e (.val .non), rt := fun e r => fin m_law_bag q e r } (entry m_law_bag ds 2)
abbrev m_law_draw : List Mode := [.io, .v]
def t_law_draw : TSD :=
  (tSq (tSI 0 (tOp2 addD (tOp2 ixD (tV 0) (tK (.int 4))) (tK (.int 1))) (tK (.int 4))) (tSq (tIfD (tAn (tBo (tOp2 eqD (tOp2 ixD (tV 0) (tK (.int 2))) (tK (.int 0)))) (tBo (tOp2 (cmD .lt) (tOp2 ixD (tV 0) (tK (.int 1))) (tBu lenD (tCo (tOp2 ixD (tV 0) (tK (.int 0))) tN))))) (tSq (tSt 2 (tOp2 ixD (tOp2 ixD (tV 0) (tK (.int 0))) (tOp2 ixD (tV 0) (tK (.int 1))))) (tSq (tSI 0 (tOp2 addD (tOp2 ixD (tV 0) (tK (.int 1))) (tK (.int 1))) (tK (.int 1))) (tIfD (tBo (tOp2 (cmD .ge) (tV 2) (tOp2 powD (tK (.int 10)) (tK (.int 18))))) (tSI 0 (tV 2) (tK (.int 2))) (tSI 0 (tOp2 modD (tBu intD (tCo (tOp2 addD (tOp2 addD (tOp2 mulD (tOp2 ixD (tV 0) (tK (.int 3))) (tK (.int 69621))) (tOp2 mulD (tOp2 modD (tBu intD (tCo (tV 2) tN)) (tK (.int 2147483549))) (tK (.int 30103)))) (tK (.int 97))) tN)) (tK (.int 2147483629))) (tK (.int 3)))))) tNx) (tSq (tIfD (tBo (tOp2 (cmD .gt) (tOp2 ixD (tV 0) (tK (.int 2))) (tK (.int 0)))) (tSq (tSt 3 (tOp2 modD (tBu intD (tCo (tOp2 ixD (tV 0) (tK (.int 2))) tN)) (tV 1))) (tSq (tSI 0 (tOp2 fdivD (tOp2 ixD (tV 0) (tK (.int 2))) (tV 1)) (tK (.int 2))) (tRt (tV 3)))) tNx) (tSq (tSI 0 (tOp2 modD (tBu intD (tCo (tOp2 addD (tOp2 addD (tOp2 powD (tOp2 ixD (tV 0) (tK (.int 3))) (tK (.int 3))) (tOp2 mulD (tOp2 ixD (tV 0) (tK (.int 4))) (tK (.int 1299709)))) (tK (.int 60013))) tN)) (tK (.int 2147483629))) (tK (.int 3))) (tRt (tOp2 modD (tBu intD (tCo (tOp2 addD (tOp2 fdivD (tOp2 ixD (tV 0) (tK (.int 3))) (tK (.int 97))) (tOp2 mulD (tOp2 modD (tBu intD (tCo (tOp2 ixD (tV 0) (tK (.int 3))) tN)) (tK (.int 7901))) (tK (.int 67)))) tN)) (tV 1)))))))
abbrev Rd_law_draw : Prop := ∀ (ds : List D) (q : List D → R → Prop), m_law_draw.length = ds.length → sp_law_draw ds q → t_law_draw { nx := fun e => fin m_law_draw q e (.val .non), rt := fun e r => fin m_law_draw q e r } (entry m_law_draw ds 2)
abbrev m_law_of : List Mode := [.io, .v]
def t_law_of : TSD :=
  (tRt (tOp2 ixD (tV 1) (tCl m_law_draw sp_law_draw [] (tCo (tV 0) (tCo (tBu lenD (tCo (tV 1) tN)) tN)))))
abbrev Rd_law_of : Prop := ∀ (ds : List D) (q : List D → R → Prop), m_law_of.length = ds.length → sp_law_of ds q → t_law_of { nx := fun e => fin m_law_of q e (.val .non), rt := fun e r => fin m_law_of q e r } (entry m_law_of ds 0)
abbrev m_law_like : List Mode := [.v, .v]
def t_law_like (spR : SpD) : TSD :=
  (tSq (tIfD (tBo (tIsiT ["list", "tuple"] (tV 1))) (tSq (tIfD (tOr_ (tBo (tOp2 neD (tBu isinD (tCo (tV 0) (tCo (tK (.ty "list")) tN))) (tBu isinD (tCo (tV 1) (tCo (tK (.ty "list")) tN))))) (tBo (tOp2 neD (tBu isinD (tCo (tV 0) (tCo (tK (.ty "tuple")) tN))) (tBu isinD (tCo (tV 1) (tCo (tK (.ty "tuple")) tN)))))) (tRt (tK (.bl false))) tNx) (tRt (tAnV (tOp2 eqD (tBu lenD (tCo (tV 0) tN)) (tBu lenD (tCo (tV 1) tN))) (tBu allD (tCo (tLC (iZ (tCo (tV 0) (tCo (tV 1) tN))) (gT (gCo (gN 2) (gCo (gN 3) gNi)) 2) tYs (tCl m_law_like spR [] (tCo (tV 2) (tCo (tV 3) tN))) [2, 3]) tN))))) tNx) (tSq (tIfD (tOr_ (tBo (tOp2 isD (tV 1) (tK .non))) (tBo (tOp2 isD (tV 0) (tK .non)))) (tRt (tAnV (tOp2 isD (tV 1) (tK .non)) (tOp2 isD (tV 0) (tK .non)))) tNx) (tSq (tIfD (tOr_ (tBo (tIsiT ["list", "tuple"] (tV 0))) (tBo (tOp2 neD (tBu isinD (tCo (tV 0) (tCo (tK (.ty "bool")) tN))) (tBu isinD (tCo (tV 1) (tCo (tK (.ty "bool")) tN)))))) (tRt (tK (.bl false))) tNx) (tSq (tIfD (tOr_ (tBo (tOp2 neD (tBu isinD (tCo (tV 0) (tCo (tK (.ty "str")) tN))) (tBu isinD (tCo (tV 1) (tCo (tK (.ty "str")) tN))))) (tBo (tOp2 neD (tBu isinD (tCo (tV 0) (tCo (tK (.ty "int")) tN))) (tBu isinD (tCo (tV 1) (tCo (tK (.ty "int")) tN)))))) (tRt (tK (.bl false))) tNx) (tRt (tAnV (tOp2 eqD (tBu isinD (tCo (tV 0) (tCo (tK (.ty "dict")) tN))) (tBu isinD (tCo (tV 1) (tCo (tK (.ty "dict")) tN)))) (tOp2 eqD (tV 0) (tV 1))))))))
abbrev Rd_law_like (spR sp : SpD) : Prop := ∀ (ds : List D) (q : List D → R → Prop), m_law_like.length = ds.length → sp ds q → t_law_like spR { nx := fun e => fin m_law_like q e (.val .non), rt := fun e r => fin m_law_like q e r } (entry m_law_like ds 2)
abbrev m_law_common : List Mode := [.v, .v]
def t_law_common : TSD :=
  (tSq (tWh (tBo (tOp2 (cmD .gt) (tV 1) (tK (.int 0)))) (tPm [0, 1] (tCoB (tV 1) (tCoB (tOp2 modD (tBu intD (tCo (tV 0) tN)) (tV 1)) tN)))) (tRt (tV 0)))
abbrev Rd_law_common : Prop := ∀ (ds : List D) (q : List D → R → Prop), m_law_common.length = ds.length → sp_law_common ds q → t_law_common { nx := fun e => fin m_law_common q e (.val .non), rt := fun e r => fin m_law_common q e r } (entry m_law_common ds 0)
abbrev m_law_lowest : List Mode := [.v, .v]
def t_law_lowest : TSD :=
  (tSq (tIfD (tBo (tOp2 (cmD .lt) (tV 1) (tK (.int 0)))) (tPm [0, 1] (tCoB (tOp2 subD (tK (.int 0)) (tV 0)) (tCoB (tOp2 subD (tK (.int 0)) (tV 1)) tN))) tNx) (tSq (tSt 2 (tCl m_law_common sp_law_common [] (tCo (tBu absD (tCo (tV 0) tN)) (tCo (tV 1) tN)))) (tRt (tT (tCo (tOp2 fdivD (tV 0) (tV 2)) (tCo (tOp2 fdivD (tV 1) (tV 2)) tN))))))
abbrev Rd_law_lowest : Prop := ∀ (ds : List D) (q : List D → R → Prop), m_law_lowest.length = ds.length → sp_law_lowest ds q → t_law_lowest { nx := fun e => fin m_law_lowest q e (.val .non), rt := fun e r => fin m_law_lowest q e r } (entry m_law_lowest ds 1)
abbrev m_law_great : List Mode := [.io]
def t_law_great : TSD :=
  (tSq (tSt 1 (tCl m_law_draw sp_law_draw [] (tCo (tV 0) (tCo (tK (.int 8)) tN)))) (tSq (tSt 2 (tCl m_law_draw sp_law_draw [] (tCo (tV 0) (tCo (tOp2 ixD (tL (tCo (tK (.int 2)) (tCo (tK (.int 4)) (tCo (tK (.int 10)) (tCo (tK (.int 40)) (tCo (tK (.int 300)) (tCo (tK (.int 5000)) (tCo (tK (.int 1000000000)) (tCo (tK (.int 1000000000)) tN))))))))) (tV 1)) tN)))) (tSq (tIfD (tBo (tOp2 eqD (tV 1) (tK (.int 7)))) (tFo (iR1 (tCo (tCl m_law_draw sp_law_draw [] (tCo (tV 0) (tCo (tK (.int 6)) tN))) tN)) (gN 3) (tSt 2 (tOp2 addD (tOp2 mulD (tV 2) (tK (.int 1000000))) (tCl m_law_draw sp_law_draw [] (tCo (tV 0) (tCo (tK (.int 1000000)) tN)))))) tNx) (tRt (tV 2)))))
abbrev Rd_law_great : Prop := ∀ (ds : List D) (q : List D → R → Prop), m_law_great.length = ds.length → sp_law_great ds q → t_law_great { nx := fun e => fin m_law_great q e (.val .non), rt := fun e r => fin m_law_great q e r } (entry m_law_great ds 3)
abbrev m_law_power : List Mode := [.v, .v]
def t_law_power : TSD :=
  (tSq (tSt 2 (tK (.int 1))) (tSq (tFo (iR1 (tCo (tV 1) tN)) (gN 3) (tSt 2 (tOp2 mulD (tV 2) (tV 0)))) (tRt (tV 2))))
abbrev Rd_law_power : Prop := ∀ (ds : List D) (q : List D → R → Prop), m_law_power.length = ds.length → sp_law_power ds q → t_law_power { nx := fun e => fin m_law_power q e (.val .non), rt := fun e r => fin m_law_power q e r } (entry m_law_power ds 2)
abbrev m_law_least : List Mode := [.v, .v]
def t_law_least : TSD :=
  (tSq (tSt 2 (tK (.int 1))) (tSq (tFo (iR1 (tCo (tK (.int 1300)) tN)) (gN 3) (tIfD (tBo (tOp2 (cmD .lt) (tCl m_law_power sp_law_power [] (tCo (tV 2) (tCo (tV 0) tN))) (tV 1))) (tSt 2 (tOp2 mulD (tV 2) (tK (.int 2)))) tBk)) (tSq (tSt 4 (tOp2 subD (tK (.int 0)) (tK (.int 1)))) (tSq (tFo (iR1 (tCo (tK (.int 1300)) tN)) (gN 3) (tSq (tSt 5 (tOp2 fdivD (tOp2 addD (tOp2 addD (tV 4) (tV 2)) (tK (.int 1))) (tK (.int 2)))) (tSq (tIfD (tBo (tOp2 (cmD .lt) (tOp2 subD (tV 2) (tV 4)) (tK (.int 2)))) tBk tNx) (tIfD (tBo (tOp2 (cmD .ge) (tCl m_law_power sp_law_power [] (tCo (tV 5) (tCo (tV 0) tN))) (tV 1))) (tSt 2 (tV 5)) (tSt 4 (tV 5)))))) (tRt (tV 2))))))
abbrev Rd_law_least : Prop := ∀ (ds : List D) (q : List D → R → Prop), m_law_least.length = ds.length → sp_law_least ds q → t_law_least { nx := fun e => fin m_law_least q e (.val .non), rt := fun e r => fin m_law_least q e r } (entry m_law_least ds 4)
abbrev m_law_pair : List Mode := [.io]
def t_law_pair : TSD :=
  (tSq (tIfD (tBo (tOp2 eqD (tCl m_law_draw sp_law_draw [] (tCo (tV 0) (tCo (tK (.int 4)) tN))) (tK (.int 0)))) (tRt (tCl m_law_lowest sp_law_lowest [] (tCo (tCl m_law_draw sp_law_draw [] (tCo (tV 0) (tCo (tK (.int 8)) tN))) (tCo (tOp2 addD (tK (.int 1)) (tCl m_law_draw sp_law_draw [] (tCo (tV 0) (tCo (tK (.int 7)) tN)))) tN)))) tNx) (tRt (tCl m_law_of sp_law_of [] (tCo (tV 0) (tCo (tL (tCo (tT (tCo (tK (.int 1)) (tCo (tK (.int 1)) tN))) (tCo (tT (tCo (tK (.int 1)) (tCo (tK (.int 2)) tN))) (tCo (tT (tCo (tK (.int 0)) (tCo (tK (.int 1)) tN))) (tCo (tT (tCo (tK (.int 3)) (tCo (tK (.int 2)) tN))) (tCo (tT (tCo (tK (.int 2)) (tCo (tK (.int 1)) tN))) (tCo (tT (tCo (tK (.int 1)) (tCo (tK (.int 4)) tN))) (tCo (tT (tCo (tK (.int 5)) (tCo (tK (.int 3)) tN))) (tCo (tT (tCo (tK (.int 2)) (tCo (tK (.int 3)) tN))) (tCo (tT (tCo (tK (.int 7)) (tCo (tK (.int 5)) tN))) (tCo (tT (tCo (tK (.int 1)) (tCo (tK (.int 7)) tN))) tN))))))))))) tN)))))
abbrev Rd_law_pair : Prop := ∀ (ds : List D) (q : List D → R → Prop), m_law_pair.length = ds.length → sp_law_pair ds q → t_law_pair { nx := fun e => fin m_law_pair q e (.val .non), rt := fun e r => fin m_law_pair q e r } (entry m_law_pair ds 0)
abbrev m_law_root : List Mode := [.v, .v, .v]
def t_law_root : TSD :=
  (tSq (tIfD (tBo (tOp2 eqD (tV 0) (tK (.int 0)))) (tRt (tCl m_least_root sp_least_root [] (tCo (tV 1) (tCo (tV 2) tN)))) tNx) (tRt (tIfE (tBo (tOp2 eqD (tV 0) (tK (.int 1)))) (tClK 0 2 m_least_root sp_least_root [] [(2, 0), (2, 1)] tN (tCo (tV 1) (tCo (tV 2) tN))) (tClK 0 2 m_least_root sp_least_root [] [(2, 1), (2, 0)] tN (tCo (tV 2) (tCo (tV 1) tN))))))
abbrev Rd_law_root : Prop := ∀ (ds : List D) (q : List D → R → Prop), m_law_root.length = ds.length → sp_law_root ds q → t_law_root { nx := fun e => fin m_law_root q e (.val .non), rt := fun e r => fin m_law_root q e r } (entry m_law_root ds 0)
abbrev m_law_roots_so : List Mode := [.io]
def t_law_roots_so_8 : TSD :=
  (tIfD (tAn (tBo (tOp2 (cmD .gt) (tV 5) (tK (.int 0)))) (tBo (tOp2 (cmD .ge) (tCl m_law_power sp_law_power [] (tCo (tOp2 subD (tV 5) (tK (.int 1))) (tCo (tV 1) tN))) (tV 4)))) (tRt (tK (.bl false))) tNx)
def t_law_roots_so_6 : TSD :=
  (tSq (tIfD (tOr_ (tNo (tBo (tBu isinD (tCo (tV 5) (tCo (tK (.ty "int")) tN))))) (tOr_ (tBo (tBu isinD (tCo (tV 5) (tCo (tK (.ty "bool")) tN)))) (tOr_ (tBo (tOp2 (cmD .lt) (tV 5) (tK (.int 0)))) (tBo (tOp2 (cmD .lt) (tCl m_law_power sp_law_power [] (tCo (tV 5) (tCo (tV 1) tN))) (tV 4)))))) (tRt (tK (.bl false))) tNx) t_law_roots_so_8)
def t_law_roots_so_12 : TSD :=
  (tRt (tCl m_law_like sp_law_like [] (tCo (tL (tCo (tCl m_least_root sp_least_root [] (tCo (tV 2) (tCo (tK (.int 1)) tN))) (tCo (tCl m_least_root sp_least_root [] (tCo (tV 3) (tCo (tV 1) tN))) tN))) (tCo (tL (tCo (tV 2) (tCo (tCl m_law_least sp_law_least [] (tCo (tV 1) (tCo (tV 3) tN))) tN))) tN))))
def t_law_roots_so_10 : TSD :=
  (tSq (tIfD (tAn (tBo (tOp2 (cmD .lt) (tV 2) (tOp2 powD (tK (.int 10)) (tK (.int 20))))) (tNo (tBo (tCl m_law_like sp_law_like [] (tCo (tL (tCo (tCl m_least_root sp_least_root [] (tCo (tV 3) (tCo (tV 1) tN))) (tCo (tCl m_least_root sp_least_root [] (tCo (tOp2 addD (tV 3) (tK (.int 1))) (tCo (tV 1) tN))) tN))) (tCo (tL (tCo (tV 2) (tCo (tOp2 addD (tK (.int 1)) (tV 2)) tN))) tN)))))) (tRt (tK (.bl false))) tNx) t_law_roots_so_12)
def t_law_roots_so_4 : TSD :=
  (tSq (tFo (iSeq (tT (tCo (tCl m_law_great sp_law_great [] (tCo (tV 0) tN)) (tCo (tV 3) (tCo (tOp2 addD (tV 3) (tK (.int 1))) (tCo (tIfE (tBo (tOp2 (cmD .gt) (tV 3) (tK (.int 0)))) (tOp2 subD (tV 3) (tK (.int 1))) (tK (.int 0))) (tCo (tK (.int 0)) (tCo (tK (.int 1)) (tCo (tK (.int 2)) tN))))))))) (gN 4) (tSq (tSt 5 (tCl m_law_root sp_law_root [] (tCo (tCl m_law_draw sp_law_draw [] (tCo (tV 0) (tCo (tK (.int 3)) tN))) (tCo (tV 4) (tCo (tV 1) tN))))) t_law_roots_so_6)) t_law_roots_so_10)
def t_law_roots_so_3 : TSD :=
  (tSq (tSt 3 (tIfE (tBo (tOp2 (cmD .lt) (tV 2) (tOp2 powD (tK (.int 10)) (tK (.int 20))))) (tCl m_law_power sp_law_power [] (tCo (tV 2) (tCo (tV 1) tN))) (tV 2))) t_law_roots_so_4)
def t_law_roots_so_2 : TSD :=
  (tSq (tSt 2 (tCl m_law_great sp_law_great [] (tCo (tV 0) tN))) t_law_roots_so_3)
def t_law_roots_so : TSD :=
  (tSq (tSt 1 (tCl m_law_of sp_law_of [] (tCo (tV 0) (tCo (tL (tCo (tK (.int 2)) (tCo (tK (.int 3)) (tCo (tK (.int 1)) (tCo (tK (.int 4)) (tCo (tK (.int 5)) (tCo (tK (.int 7)) (tCo (tOp2 addD (tK (.int 1)) (tCl m_law_draw sp_law_draw [] (tCo (tV 0) (tCo (tK (.int 12)) tN)))) tN)))))))) tN)))) t_law_roots_so_2)
abbrev Rd_law_roots_so : Prop := ∀ (ds : List D) (q : List D → R → Prop), m_law_roots_so.length = ds.length → sp_law_roots_so ds q → t_law_roots_so { nx := fun e => fin m_law_roots_so q e (.val .non), rt := fun e r => fin m_law_roots_so q e r } (entry m_law_roots_so ds 5)
abbrev m_law_powers_so : List Mode := [.io]
def t_law_powers_so_13 : TSD :=
  (tRt (tCl m_law_like sp_law_like [] (tCo (tL (tCo (tCl m_least_power sp_least_power [] (tCo (tV 4) (tCo (tV 1) tN))) (tCo (tCl m_least_power sp_least_power [] (tCo (tV 7) (tCo (tMk "Ratio" m_Ratio_init sp_Ratio_init [(.int 1)] (tCo (tK (.int 1)) tN)) tN))) (tCo (tCl m_least_power sp_least_power [] (tCo (tV 7) (tCo (tMk "Ratio" m_Ratio_init sp_Ratio_init [(.int 1)] (tCo (tK (.int 0)) tN)) tN))) tN)))) (tCo (tL (tCo (tV 5) (tCo (tV 7) (tCo (tK (.int 1)) tN)))) tN))))
def t_law_powers_so_12 : TSD :=
  (tSq (tSt 5 (tIfE (tBo (tOp2 (cmD .lt) (tV 7) (tOp2 powD (tK (.int 10)) (tK (.int 20))))) (tCl m_law_power sp_law_power [] (tCo (tV 7) (tCo (tOp2 ixD (tV 6) (tK (.int 0))) tN))) (tK (.int 1)))) t_law_powers_so_13)
def t_law_powers_so_11 : TSD :=
  (tSq (tSt 4 (tIfE (tBo (tOp2 (cmD .lt) (tV 7) (tOp2 powD (tK (.int 10)) (tK (.int 20))))) (tCl m_law_power sp_law_power [] (tCo (tV 7) (tCo (tOp2 ixD (tV 6) (tK (.int 1))) tN))) (tK (.int 1)))) t_law_powers_so_12)
def t_law_powers_so_9 : TSD :=
  (tSq (tIfD (tNo (tBo (tCl m_law_like sp_law_like [] (tCo (tL (tCo (tClK 0 2 m_least_power sp_least_power [] [(2, 1), (2, 0)] tN (tCo (tV 1) (tCo (tV 7) tN))) (tCo (tClK 0 2 m_least_power sp_least_power [] [(2, 0), (2, 1)] tN (tCo (tV 7) (tCo (tV 1) tN))) (tCo (tCl m_least_root sp_least_root [] (tCo (tV 2) (tCo (tOp2 ixD (tV 6) (tK (.int 1))) tN))) tN)))) (tCo (tL (tCo (tV 3) (tCo (tV 3) (tCo (tV 3) tN)))) tN))))) (tRt (tK (.bl false))) tNx) t_law_powers_so_11)
def t_law_powers_so_7 : TSD :=
  (tSq (tIfD (tAn (tBo (tOp2 (cmD .gt) (tV 3) (tK (.int 0)))) (tBo (tOp2 (cmD .ge) (tCl m_law_power sp_law_power [] (tCo (tOp2 subD (tV 3) (tK (.int 1))) (tCo (tOp2 ixD (tV 6) (tK (.int 1))) tN))) (tV 2)))) (tRt (tK (.bl false))) tNx) t_law_powers_so_9)
def t_law_powers_so_5 : TSD :=
  (tSq (tIfD (tOr_ (tNo (tBo (tBu isinD (tCo (tV 3) (tCo (tK (.ty "int")) tN))))) (tOr_ (tBo (tBu isinD (tCo (tV 3) (tCo (tK (.ty "bool")) tN)))) (tOr_ (tBo (tOp2 (cmD .lt) (tV 3) (tK (.int 0)))) (tBo (tOp2 (cmD .lt) (tCl m_law_power sp_law_power [] (tCo (tV 3) (tCo (tOp2 ixD (tV 6) (tK (.int 1))) tN))) (tV 2)))))) (tRt (tK (.bl false))) tNx) t_law_powers_so_7)
def t_law_powers_so_4 : TSD :=
  (tSq (tSt 3 (tCl m_least_power sp_least_power [] (tCo (tV 7) (tCo (tV 1) tN)))) t_law_powers_so_5)
def t_law_powers_so_3 : TSD :=
  (tSq (tSt 2 (tCl m_law_power sp_law_power [] (tCo (tV 7) (tCo (tOp2 ixD (tV 6) (tK (.int 0))) tN)))) t_law_powers_so_4)
def t_law_powers_so_2 : TSD :=
  (tSq (tSt 1 (tMk "Ratio" m_Ratio_init sp_Ratio_init [] (tCo (tOp2 ixD (tV 6) (tK (.int 0))) (tCo (tOp2 ixD (tV 6) (tK (.int 1))) tN)))) t_law_powers_so_3)
def t_law_powers_so : TSD :=
  (tSq (tPm [6, 7] (tCoB (tCl m_law_pair sp_law_pair [] (tCo (tV 0) tN)) (tCoB (tCl m_law_great sp_law_great [] (tCo (tV 0) tN)) tN))) t_law_powers_so_2)
abbrev Rd_law_powers_so : Prop := ∀ (ds : List D) (q : List D → R → Prop), m_law_powers_so.length = ds.length → sp_law_powers_so ds q → t_law_powers_so { nx := fun e => fin m_law_powers_so q e (.val .non), rt := fun e r => fin m_law_powers_so q e r } (entry m_law_powers_so ds 7)
abbrev m_law_within_so : List Mode := [.io]
def t_law_within_so_6 : TSD :=
  (tIfD (tNo (tBo (tCl m_law_like sp_law_like [] (tCo (tL (tCo (tCl m_within_power sp_within_power [] (tCo (tV 3) (tCo (tV 5) (tCo (tV 1) tN)))) (tCo (tClK 0 3 m_within_power sp_within_power [] [(2, 2), (2, 1), (2, 0)] tN (tCo (tV 1) (tCo (tV 5) (tCo (tV 3) tN)))) tN))) (tCo (tL (tCo (tV 6) (tCo (tV 6) tN))) tN))))) (tRt (tK (.bl false))) tNx)
def t_law_within_so_11 : TSD :=
  (tRt (tCl m_law_like sp_law_like [] (tCo (tL (tCo (tFl "Ratio" "top" (tV 1)) (tCo (tFl "Ratio" "bottom" (tV 1)) tN))) (tCo (tL (tCo (tOp2 ixD (tV 4) (tK (.int 0))) (tCo (tOp2 ixD (tV 4) (tK (.int 1))) tN))) tN))))
def t_law_within_so_9 : TSD :=
  (tSq (tIfD (tNo (tBo (tCl m_law_like sp_law_like [] (tCo (tL (tCo (tCl m_within_power sp_within_power [] (tCo (tV 3) (tCo (tV 3) (tCo (tMk "Ratio" m_Ratio_init sp_Ratio_init [(.int 1)] (tCo (tK (.int 1)) tN)) tN)))) (tCo (tCl m_within_power sp_within_power [] (tCo (tV 3) (tCo (tK (.int 0)) (tCo (tMk "Ratio" m_Ratio_init sp_Ratio_init [(.int 1)] (tCo (tK (.int 0)) tN)) tN)))) (tCo (tCl m_within_power sp_within_power [] (tCo (tK (.int 0)) (tCo (tK (.int 0)) (tCo (tV 1) tN)))) tN)))) (tCo (tL (tCo (tK (.bl true)) (tCo (tOp2 (cmD .lt) (tV 3) (tK (.int 2))) (tCo (tK (.bl true)) tN)))) tN))))) (tRt (tK (.bl false))) tNx) t_law_within_so_11)
def t_law_within_so_8 : TSD :=
  (tSq (tSt 3 (tCl m_law_great sp_law_great [] (tCo (tV 0) tN))) t_law_within_so_9)
def t_law_within_so_4 : TSD :=
  (tSq (tFo (iSeq (tT (tCo (tV 2) (tCo (tOp2 addD (tV 2) (tK (.int 1))) (tCo (tIfE (tBo (tOp2 (cmD .gt) (tV 2) (tK (.int 0)))) (tOp2 subD (tV 2) (tK (.int 1))) (tK (.int 0))) (tCo (tK (.int 0)) (tCo (tK (.int 1)) (tCo (tV 5) (tCo (tCl m_law_great sp_law_great [] (tCo (tV 0) tN)) tN))))))))) (gN 3) (tSq (tSt 6 (tOp2 (cmD .le) (tCl m_law_power sp_law_power [] (tCo (tV 3) (tCo (tOp2 ixD (tV 4) (tK (.int 1))) tN))) (tCl m_law_power sp_law_power [] (tCo (tV 5) (tCo (tOp2 ixD (tV 4) (tK (.int 0))) tN))))) t_law_within_so_6)) t_law_within_so_8)
def t_law_within_so_3 : TSD :=
  (tSq (tSt 2 (tCl m_law_least sp_law_least [] (tCo (tOp2 ixD (tV 4) (tK (.int 1))) (tCo (tCl m_law_power sp_law_power [] (tCo (tV 5) (tCo (tOp2 ixD (tV 4) (tK (.int 0))) tN))) tN)))) t_law_within_so_4)
def t_law_within_so_2 : TSD :=
  (tSq (tSt 1 (tMkK "Ratio" 0 2 m_Ratio_init sp_Ratio_init [(.int 1)] [(0, 0), (2, 1), (2, 0)] tN (tCo (tOp2 ixD (tV 4) (tK (.int 1))) (tCo (tOp2 ixD (tV 4) (tK (.int 0))) tN)))) t_law_within_so_3)
def t_law_within_so : TSD :=
  (tSq (tPm [4, 5] (tCoB (tCl m_law_pair sp_law_pair [] (tCo (tV 0) tN)) (tCoB (tCl m_law_great sp_law_great [] (tCo (tV 0) tN)) tN))) t_law_within_so_2)
abbrev Rd_law_within_so : Prop := ∀ (ds : List D) (q : List D → R → Prop), m_law_within_so.length = ds.length → sp_law_within_so ds q → t_law_within_so { nx := fun e => fin m_law_within_so q e (.val .non), rt := fun e r => fin m_law_within_so q e r } (entry m_law_within_so ds 6)
abbrev m_law : List Mode := [.v]
def t_law_2 : TSD :=
  (tSq (tFo (iR1 (tCo (tK (.int 5)) tN)) (gN 2) (tIfD (tOr_ (tNo (tBo (tCl m_law_roots_so sp_law_roots_so [] (tCo (tV 1) tN)))) (tOr_ (tNo (tBo (tCl m_law_powers_so sp_law_powers_so [] (tCo (tV 1) tN)))) (tNo (tBo (tCl m_law_within_so sp_law_within_so [] (tCo (tV 1) tN)))))) (tRt (tK (.bl false))) tNx)) (tRt (tK (.bl true))))
def t_law : TSD :=
  (tSq (tSt 1 (tCl m_law_bag sp_law_bag [] (tCo (tV 0) tN))) t_law_2)
abbrev Rd_law : Prop := ∀ (ds : List D) (q : List D → R → Prop), m_law.length = ds.length → sp_law ds q → t_law { nx := fun e => fin m_law q e (.val .non), rt := fun e r => fin m_law q e r } (entry m_law ds 2)
end LW

set_option Elab.async false
set_option linter.all false
set_option maxRecDepth 100000
set_option maxHeartbeats 0
namespace LW
open PySem PySem.Spec PyProof.Rows L2 Pd
theorem r_power : Rd_power := by
  rintro ds q - ⟨b, n, m, rfl, hm, hn, hq⟩
  simp [t_power, m_power, Pd.e_tSq, Pd.e_tSqW, Pd.e_tSt, Pd.e_tPm, Pd.asgs, Pd.asg, Pd.escape, Pd.e_tCoB, Pd.e_tCo, Pd.e_tN, Pd.e_tV, Pd.e_tK, Pd.e_tOp2, Pd.e_tOp1, Pd.e_two, Pd.e_one, Pd.content, Pd.slotD, R.seal, Pd.e_ans, Pd.e_tBo, Pd.e_tAn, Pd.e_tOr_, Pd.e_tNo, Pd.e_tAnV, Pd.e_tOrV, Pd.e_tNoV, Pd.e_tIfD, Pd.e_tIfE, Pd.e_tRt, Pd.e_tRtN, Pd.e_tDr, Pd.e_tNx, Pd.e_tBk, Pd.e_tCt, Pd.e_tTr, Pd.truD, Pd.fin_val, Pd.fin_new, Pd.fin_al, Pd.retR, Pd.outsAt, Pd.entry, Pd.argSl, Mode.sl, Out.r, Sl.d, Sl.put, Pd.addD, Pd.intOp, Pd.mulD, Pd.negD, Pd.eqD, Pd.neD, Pd.cmD, Pd.dCm_int, Pd.dCm_str, Pd.dEq_nn, Pd.dEq_ii, Pd.dEq_bb, Pd.dEq_ss, Pd.eqOk_i, Pd.eqOk_b, Pd.eqOk_s, Pd.eqOk_n, Pd.cmOk_i, Pd.cmOk_s, Pd.e_tCl, Pd.passOk, Pd.ioS, Pd.apart, Pd.pass, Pd.pass1, Pd.putO, Pd.e_tL, Pd.e_tT, Pd.escapes, Pd.e_many, Pd.e_tBu, Pd.contents, Pd.lenD, Pd.intD, Pd.boolD, Pd.absD, Pd.listD, Pd.tupleD, Pd.isinD, Pd.allD, Pd.bools, Pd.bitsD, Pd.gcdD, Pd.ixD, Pd.isD, Pd.isNotD, Pd.e_tIsiT, Pd.tyName, Pd.isiT, Pd.tyNames, Pd.cellAt, Pd.putAt, Pd.e_tSI, Pd.e_tSF, Pd.e_tFl, Pd.putN, Pd.putX, Pd.e_tMk, Pd.e_tMkK, Pd.e_mkOk, Pd.e_tClK, Pd.ordK, R.isNon, D.lst?, D.int?, Pd.iterD, Pd.items, Pd.iterK, Pd.seqK, Pd.e_iSeq, Pd.e_iR1, Pd.e_iR2, Pd.e_gN, Pd.e_gCo, Pd.e_gNi, Pd.e_gT, Pd.e_settable, Pd.e_freeOf, Pd.wipeD, Pd.backD, Pd.back1, Pd.e_tSlc, Pd.slD, Pd.e_oN, Pd.e_oS, Pd.atI_nat, Pd.atI_lit, Pd.ixN_nat, Pd.ixN_lit, Pd.fdn, Pd.fmn, Pd.fdl, Pd.fml, Cm.i, Pd.tFo_eq, Pd.tLC_eq, Pd.e_tNv, ↓Pd.got_eqI, Pd.gotI_some, Pd.gotI_none, Pd.sizeS, Pd.sIx0, Pd.dfltI, Pd.e_iZ, Pd.e_tAu, Pd.e_tCM, Pd.e_tCMT, Pd.e_tCh]
  refine ⟨fun e => ∃ (i j l : Nat), i + j * l = n ∧ e = [.val (.int b), .val (.int n), .val (.int (b ^ i)), .val (.int (b ^ j)), .val (.int l)], lv 4, ⟨0, 1, n, by omega, by simp [Int.pow_succ]⟩, ?_⟩
  rintro env ⟨i, j, l, hl, rfl⟩
  simp [Pd.e_tSq, Pd.e_tSqW, Pd.e_tSt, Pd.e_tPm, Pd.asgs, Pd.asg, Pd.escape, Pd.e_tCoB, Pd.e_tCo, Pd.e_tN, Pd.e_tV, Pd.e_tK, Pd.e_tOp2, Pd.e_tOp1, Pd.e_two, Pd.e_one, Pd.content, Pd.slotD, R.seal, Pd.e_ans, Pd.e_tBo, Pd.e_tAn, Pd.e_tOr_, Pd.e_tNo, Pd.e_tAnV, Pd.e_tOrV, Pd.e_tNoV, Pd.e_tIfD, Pd.e_tIfE, Pd.e_tRt, Pd.e_tRtN, Pd.e_tDr, Pd.e_tNx, Pd.e_tBk, Pd.e_tCt, Pd.e_tTr, Pd.truD, Pd.fin_val, Pd.fin_new, Pd.fin_al, Pd.retR, Pd.outsAt, Pd.entry, Pd.argSl, Mode.sl, Out.r, Sl.d, Sl.put, Pd.addD, Pd.intOp, Pd.mulD, Pd.negD, Pd.eqD, Pd.neD, Pd.cmD, Pd.dCm_int, Pd.dCm_str, Pd.dEq_nn, Pd.dEq_ii, Pd.dEq_bb, Pd.dEq_ss, Pd.eqOk_i, Pd.eqOk_b, Pd.eqOk_s, Pd.eqOk_n, Pd.cmOk_i, Pd.cmOk_s, Pd.e_tCl, Pd.passOk, Pd.ioS, Pd.apart, Pd.pass, Pd.pass1, Pd.putO, Pd.e_tL, Pd.e_tT, Pd.escapes, Pd.e_many, Pd.e_tBu, Pd.contents, Pd.lenD, Pd.intD, Pd.boolD, Pd.absD, Pd.listD, Pd.tupleD, Pd.isinD, Pd.allD, Pd.bools, Pd.bitsD, Pd.gcdD, Pd.ixD, Pd.isD, Pd.isNotD, Pd.e_tIsiT, Pd.tyName, Pd.isiT, Pd.tyNames, Pd.cellAt, Pd.putAt, Pd.e_tSI, Pd.e_tSF, Pd.e_tFl, Pd.putN, Pd.putX, Pd.e_tMk, Pd.e_tMkK, Pd.e_mkOk, Pd.e_tClK, Pd.ordK, R.isNon, D.lst?, D.int?, Pd.iterD, Pd.items, Pd.iterK, Pd.seqK, Pd.e_iSeq, Pd.e_iR1, Pd.e_iR2, Pd.e_gN, Pd.e_gCo, Pd.e_gNi, Pd.e_gT, Pd.e_settable, Pd.e_freeOf, Pd.wipeD, Pd.backD, Pd.back1, Pd.e_tSlc, Pd.slD, Pd.e_oN, Pd.e_oS, Pd.atI_nat, Pd.atI_lit, Pd.ixN_nat, Pd.ixN_lit, Pd.fdn, Pd.fmn, Pd.fdl, Pd.fml, Cm.i, Pd.tFo_eq, Pd.tLC_eq, Pd.e_tNv, ↓Pd.got_eqI, Pd.gotI_some, Pd.gotI_none, Pd.sizeS, Pd.sIx0, Pd.dfltI, Pd.e_iZ, Pd.e_tAu, Pd.e_tCM, Pd.e_tCMT, Pd.e_tCh, Cm.i, lv]
  have e2 : ((l : Int)).fdiv 2 = ((l / 2 : Nat) : Int) := fdn l 2
  have e1 : ((l : Int)).fmod 2 = ((l % 2 : Nat) : Int) := fmn l 2
  have c2 : CDivA (l : Int) 2 := .inl ⟨by decide, by decide⟩
  simp only [e1, e2, c2, true_and]
  have le_n : 0 < l → i + j ≤ n := fun z => by
    have : j ≤ j * l := Nat.le_mul_of_pos_right j z
    omega
  have le_2 : 0 < l / 2 → j + j ≤ n := fun z => by
    have : j * 2 ≤ j * l := Nat.mul_le_mul_left j (by omega)
    omega
  have cm : ∀ a c : Nat, a + c ≤ n → CMulX (b ^ a) (b ^ c) := fun a c h => cmul_of (pow_lt hm) (pow_lt hm) (by
    have : m * a + m * c ≤ m * n := by rw [← Nat.mul_add]; exact Nat.mul_le_mul_left m h
    rw [Nat.mul_add] at hn
    omega)
  split
  · rename_i hl0
    have hl0 : 0 < l := hl0
    have en : j * l = j * (l % 2) + j * 2 * (l / 2) := by
      rw [Nat.mul_assoc, ← Nat.mul_add, Nat.mod_add_div]
    split
    · rename_i h1
      have h1 : l % 2 = 1 := by omega
      rw [h1] at en
      refine ⟨cm _ _ (le_n hl0), ?_⟩
      split
      · rename_i h2
        have h2 : 0 < l / 2 := by omega
        exact ⟨cm _ _ (le_2 h2), ⟨i + j, j * 2, l / 2, by omega, (Int.pow_add ..).symm, by rw [Nat.mul_two, Int.pow_add], rfl⟩, by omega⟩
      · rename_i h2
        have h2 : l / 2 = 0 := by omega
        rw [h2] at en
        exact ⟨⟨i + j, j, l / 2, by rw [h2]; omega, (Int.pow_add ..).symm, rfl, rfl⟩, by omega⟩
    · rename_i h1
      have h1 : l % 2 = 0 := by omega
      rw [h1] at en
      split
      · rename_i h2
        have h2 : 0 < l / 2 := by omega
        exact ⟨cm _ _ (le_2 h2), ⟨i, j * 2, l / 2, by omega, rfl, by rw [Nat.mul_two, Int.pow_add], rfl⟩, by omega⟩
      · rename_i h2
        have h2 : l / 2 = 0 := by omega
        omega
  · rename_i h
    have h : l = 0 := by omega
    subst h
    have : i = n := by omega
    rw [this]
    exact hq

end LW

set_option Elab.async false
set_option linter.all false
set_option maxRecDepth 100000
set_option maxHeartbeats 0
namespace LW
open PySem PySem.Spec PyProof.Rows L2 Pd
theorem r_is_whole : Rd_is_whole := by
  rintro ds q - ⟨i, rfl, hq⟩
  simp [t_is_whole, m_is_whole, Pd.e_tSq, Pd.e_tSqW, Pd.e_tSt, Pd.e_tPm, Pd.asgs, Pd.asg, Pd.escape, Pd.e_tCoB, Pd.e_tCo, Pd.e_tN, Pd.e_tV, Pd.e_tK, Pd.e_tOp2, Pd.e_tOp1, Pd.e_two, Pd.e_one, Pd.content, Pd.slotD, R.seal, Pd.e_ans, Pd.e_tBo, Pd.e_tAn, Pd.e_tOr_, Pd.e_tNo, Pd.e_tAnV, Pd.e_tOrV, Pd.e_tNoV, Pd.e_tIfD, Pd.e_tIfE, Pd.e_tRt, Pd.e_tRtN, Pd.e_tDr, Pd.e_tNx, Pd.e_tBk, Pd.e_tCt, Pd.e_tTr, Pd.truD, Pd.fin_val, Pd.fin_new, Pd.fin_al, Pd.retR, Pd.outsAt, Pd.entry, Pd.argSl, Mode.sl, Out.r, Sl.d, Sl.put, Pd.addD, Pd.intOp, Pd.mulD, Pd.negD, Pd.eqD, Pd.neD, Pd.cmD, Pd.dCm_int, Pd.dCm_str, Pd.dEq_nn, Pd.dEq_ii, Pd.dEq_bb, Pd.dEq_ss, Pd.eqOk_i, Pd.eqOk_b, Pd.eqOk_s, Pd.eqOk_n, Pd.cmOk_i, Pd.cmOk_s, Pd.e_tCl, Pd.passOk, Pd.ioS, Pd.apart, Pd.pass, Pd.pass1, Pd.putO, Pd.e_tL, Pd.e_tT, Pd.escapes, Pd.e_many, Pd.e_tBu, Pd.contents, Pd.lenD, Pd.intD, Pd.boolD, Pd.absD, Pd.listD, Pd.tupleD, Pd.isinD, Pd.allD, Pd.bools, Pd.bitsD, Pd.gcdD, Pd.ixD, Pd.isD, Pd.isNotD, Pd.e_tIsiT, Pd.tyName, Pd.isiT, Pd.tyNames, Pd.cellAt, Pd.putAt, Pd.e_tSI, Pd.e_tSF, Pd.e_tFl, Pd.putN, Pd.putX, Pd.e_tMk, Pd.e_tMkK, Pd.e_mkOk, Pd.e_tClK, Pd.ordK, R.isNon, D.lst?, D.int?, Pd.iterD, Pd.items, Pd.iterK, Pd.seqK, Pd.e_iSeq, Pd.e_iR1, Pd.e_iR2, Pd.e_gN, Pd.e_gCo, Pd.e_gNi, Pd.e_gT, Pd.e_settable, Pd.e_freeOf, Pd.wipeD, Pd.backD, Pd.back1, Pd.e_tSlc, Pd.slD, Pd.e_oN, Pd.e_oS, Pd.atI_nat, Pd.atI_lit, Pd.ixN_nat, Pd.ixN_lit, Pd.fdn, Pd.fmn, Pd.fdl, Pd.fml, Cm.i, Pd.tFo_eq, Pd.tLC_eq, Pd.e_tNv, ↓Pd.got_eqI, Pd.gotI_some, Pd.gotI_none, Pd.sizeS, Pd.sIx0, Pd.dfltI, Pd.e_iZ, Pd.e_tAu, Pd.e_tCM, Pd.e_tCMT, Pd.e_tCh]
  exact hq
theorem top_ne : ¬ (Str.ofString "top" = Str.ofString "bottom") := by decide +kernel
theorem top_ne2 : ¬ (Str.ofString "bottom" = Str.ofString "top") := by decide +kernel
theorem r_Ratio_init : Rd_Ratio_init := by
  rintro ds q - ⟨t, b, rfl, hb, hg, hq⟩
  have h1 : CDivA t 1 := cdiv_s (by decide) (by decide)
  have h2 : CDivA b 1 := cdiv_s (by decide) (by decide)
  have h0 : ¬ b = 0 := by omega
  simp [t_Ratio_init, m_Ratio_init, m_is_whole, sp_is_whole, Pd.e_tSq, Pd.e_tSqW, Pd.e_tSt, Pd.e_tPm, Pd.asgs, Pd.asg, Pd.escape, Pd.e_tCoB, Pd.e_tCo, Pd.e_tN, Pd.e_tV, Pd.e_tK, Pd.e_tOp2, Pd.e_tOp1, Pd.e_two, Pd.e_one, Pd.content, Pd.slotD, R.seal, Pd.e_ans, Pd.e_tBo, Pd.e_tAn, Pd.e_tOr_, Pd.e_tNo, Pd.e_tAnV, Pd.e_tOrV, Pd.e_tNoV, Pd.e_tIfD, Pd.e_tIfE, Pd.e_tRt, Pd.e_tRtN, Pd.e_tDr, Pd.e_tNx, Pd.e_tBk, Pd.e_tCt, Pd.e_tTr, Pd.truD, Pd.fin_val, Pd.fin_new, Pd.fin_al, Pd.retR, Pd.outsAt, Pd.entry, Pd.argSl, Mode.sl, Out.r, Sl.d, Sl.put, Pd.addD, Pd.intOp, Pd.mulD, Pd.negD, Pd.eqD, Pd.neD, Pd.cmD, Pd.dCm_int, Pd.dCm_str, Pd.dEq_nn, Pd.dEq_ii, Pd.dEq_bb, Pd.dEq_ss, Pd.eqOk_i, Pd.eqOk_b, Pd.eqOk_s, Pd.eqOk_n, Pd.cmOk_i, Pd.cmOk_s, Pd.e_tCl, Pd.passOk, Pd.ioS, Pd.apart, Pd.pass, Pd.pass1, Pd.putO, Pd.e_tL, Pd.e_tT, Pd.escapes, Pd.e_many, Pd.e_tBu, Pd.contents, Pd.lenD, Pd.intD, Pd.boolD, Pd.absD, Pd.listD, Pd.tupleD, Pd.isinD, Pd.allD, Pd.bools, Pd.bitsD, Pd.gcdD, Pd.ixD, Pd.isD, Pd.isNotD, Pd.e_tIsiT, Pd.tyName, Pd.isiT, Pd.tyNames, Pd.cellAt, Pd.putAt, Pd.e_tSI, Pd.e_tSF, Pd.e_tFl, Pd.putN, Pd.putX, Pd.e_tMk, Pd.e_tMkK, Pd.e_mkOk, Pd.e_tClK, Pd.ordK, R.isNon, D.lst?, D.int?, Pd.iterD, Pd.items, Pd.iterK, Pd.seqK, Pd.e_iSeq, Pd.e_iR1, Pd.e_iR2, Pd.e_gN, Pd.e_gCo, Pd.e_gNi, Pd.e_gT, Pd.e_settable, Pd.e_freeOf, Pd.wipeD, Pd.backD, Pd.back1, Pd.e_tSlc, Pd.slD, Pd.e_oN, Pd.e_oS, Pd.atI_nat, Pd.atI_lit, Pd.ixN_nat, Pd.ixN_lit, Pd.fdn, Pd.fmn, Pd.fdl, Pd.fml, Cm.i, Pd.tFo_eq, Pd.tLC_eq, Pd.e_tNv, ↓Pd.got_eqI, Pd.gotI_some, Pd.gotI_none, Pd.sizeS, Pd.sIx0, Pd.dfltI, Pd.e_iZ, Pd.e_tAu, Pd.e_tCM, Pd.e_tCMT, Pd.e_tCh, hb, h0, hg, top_ne, h1, h2]
  exact hq
theorem r_law_bag : Rd_law_bag := by
  rintro ds q - ⟨ns, rfl, hq⟩
  simp [t_law_bag, m_law_bag, Pd.e_tSq, Pd.e_tSqW, Pd.e_tSt, Pd.e_tPm, Pd.asgs, Pd.asg, Pd.escape, Pd.e_tCoB, Pd.e_tCo, Pd.e_tN, Pd.e_tV, Pd.e_tK, Pd.e_tOp2, Pd.e_tOp1, Pd.e_two, Pd.e_one, Pd.content, Pd.slotD, R.seal, Pd.e_ans, Pd.e_tBo, Pd.e_tAn, Pd.e_tOr_, Pd.e_tNo, Pd.e_tAnV, Pd.e_tOrV, Pd.e_tNoV, Pd.e_tIfD, Pd.e_tIfE, Pd.e_tRt, Pd.e_tRtN, Pd.e_tDr, Pd.e_tNx, Pd.e_tBk, Pd.e_tCt, Pd.e_tTr, Pd.truD, Pd.fin_val, Pd.fin_new, Pd.fin_al, Pd.retR, Pd.outsAt, Pd.entry, Pd.argSl, Mode.sl, Out.r, Sl.d, Sl.put, Pd.addD, Pd.intOp, Pd.mulD, Pd.negD, Pd.eqD, Pd.neD, Pd.cmD, Pd.dCm_int, Pd.dCm_str, Pd.dEq_nn, Pd.dEq_ii, Pd.dEq_bb, Pd.dEq_ss, Pd.eqOk_i, Pd.eqOk_b, Pd.eqOk_s, Pd.eqOk_n, Pd.cmOk_i, Pd.cmOk_s, Pd.e_tCl, Pd.passOk, Pd.ioS, Pd.apart, Pd.pass, Pd.pass1, Pd.putO, Pd.e_tL, Pd.e_tT, Pd.escapes, Pd.e_many, Pd.e_tBu, Pd.contents, Pd.lenD, Pd.intD, Pd.boolD, Pd.absD, Pd.listD, Pd.tupleD, Pd.isinD, Pd.allD, Pd.bools, Pd.bitsD, Pd.gcdD, Pd.ixD, Pd.isD, Pd.isNotD, Pd.e_tIsiT, Pd.tyName, Pd.isiT, Pd.tyNames, Pd.cellAt, Pd.putAt, Pd.e_tSI, Pd.e_tSF, Pd.e_tFl, Pd.putN, Pd.putX, Pd.e_tMk, Pd.e_tMkK, Pd.e_mkOk, Pd.e_tClK, Pd.ordK, R.isNon, D.lst?, D.int?, Pd.iterD, Pd.items, Pd.iterK, Pd.seqK, Pd.e_iSeq, Pd.e_iR1, Pd.e_iR2, Pd.e_gN, Pd.e_gCo, Pd.e_gNi, Pd.e_gT, Pd.e_settable, Pd.e_freeOf, Pd.wipeD, Pd.backD, Pd.back1, Pd.e_tSlc, Pd.slD, Pd.e_oN, Pd.e_oS, Pd.atI_nat, Pd.atI_lit, Pd.ixN_nat, Pd.ixN_lit, Pd.fdn, Pd.fmn, Pd.fdl, Pd.fml, Cm.i, Pd.tFo_eq, Pd.tLC_eq, Pd.e_tNv, ↓Pd.got_eqI, Pd.gotI_some, Pd.gotI_none, Pd.sizeS, Pd.sIx0, Pd.dfltI, Pd.e_iZ, Pd.e_tAu, Pd.e_tCM, Pd.e_tCMT, Pd.e_tCh]
  refine ⟨fun _ e => ∃ (m : Nat) (u : Sl), m < 2147483629 ∧ (u = .un ∨ ∃ z, u = .val z) ∧ e = [.val (.rol (ns.map D.int)), .val (.int m), u], ⟨1397711, .un, by decide, .inl rfl, rfl⟩, ?_, ?_⟩
  · rintro i d _ hd ⟨m, u, hm, hu, rfl⟩
    have hd2 : ∃ z : Int, d = .int z := by
      have := List.mem_of_getElem? hd
      have := List.mem_of_mem_take this
      obtain ⟨z, _, e⟩ := List.mem_map.mp this
      exact ⟨z, e.symm⟩
    obtain ⟨z, rfl⟩ := hd2
    obtain ⟨r, er, hr⟩ := fmz z 2147483587 (by decide)
    obtain ⟨r2, er2, hr2⟩ := fmz ((m : Int) * 48271 + (r : Int) + 311) 2147483629 (by decide)
    have c1 : CMulX (m : Int) 48271 := cmul_s (by omega) (by decide)
    rcases hu with rfl | ⟨z, rfl⟩
    all_goals
      simp [Pd.e_tSq, Pd.e_tSqW, Pd.e_tSt, Pd.e_tPm, Pd.asgs, Pd.asg, Pd.escape, Pd.e_tCoB, Pd.e_tCo, Pd.e_tN, Pd.e_tV, Pd.e_tK, Pd.e_tOp2, Pd.e_tOp1, Pd.e_two, Pd.e_one, Pd.content, Pd.slotD, R.seal, Pd.e_ans, Pd.e_tBo, Pd.e_tAn, Pd.e_tOr_, Pd.e_tNo, Pd.e_tAnV, Pd.e_tOrV, Pd.e_tNoV, Pd.e_tIfD, Pd.e_tIfE, Pd.e_tRt, Pd.e_tRtN, Pd.e_tDr, Pd.e_tNx, Pd.e_tBk, Pd.e_tCt, Pd.e_tTr, Pd.truD, Pd.fin_val, Pd.fin_new, Pd.fin_al, Pd.retR, Pd.outsAt, Pd.entry, Pd.argSl, Mode.sl, Out.r, Sl.d, Sl.put, Pd.addD, Pd.intOp, Pd.mulD, Pd.negD, Pd.eqD, Pd.neD, Pd.cmD, Pd.dCm_int, Pd.dCm_str, Pd.dEq_nn, Pd.dEq_ii, Pd.dEq_bb, Pd.dEq_ss, Pd.eqOk_i, Pd.eqOk_b, Pd.eqOk_s, Pd.eqOk_n, Pd.cmOk_i, Pd.cmOk_s, Pd.e_tCl, Pd.passOk, Pd.ioS, Pd.apart, Pd.pass, Pd.pass1, Pd.putO, Pd.e_tL, Pd.e_tT, Pd.escapes, Pd.e_many, Pd.e_tBu, Pd.contents, Pd.lenD, Pd.intD, Pd.boolD, Pd.absD, Pd.listD, Pd.tupleD, Pd.isinD, Pd.allD, Pd.bools, Pd.bitsD, Pd.gcdD, Pd.ixD, Pd.isD, Pd.isNotD, Pd.e_tIsiT, Pd.tyName, Pd.isiT, Pd.tyNames, Pd.cellAt, Pd.putAt, Pd.e_tSI, Pd.e_tSF, Pd.e_tFl, Pd.putN, Pd.putX, Pd.e_tMk, Pd.e_tMkK, Pd.e_mkOk, Pd.e_tClK, Pd.ordK, R.isNon, D.lst?, D.int?, Pd.iterD, Pd.items, Pd.iterK, Pd.seqK, Pd.e_iSeq, Pd.e_iR1, Pd.e_iR2, Pd.e_gN, Pd.e_gCo, Pd.e_gNi, Pd.e_gT, Pd.e_settable, Pd.e_freeOf, Pd.wipeD, Pd.backD, Pd.back1, Pd.e_tSlc, Pd.slD, Pd.e_oN, Pd.e_oS, Pd.atI_nat, Pd.atI_lit, Pd.ixN_nat, Pd.ixN_lit, Pd.fdn, Pd.fmn, Pd.fdl, Pd.fml, Cm.i, Pd.tFo_eq, Pd.tLC_eq, Pd.e_tNv, ↓Pd.got_eqI, Pd.gotI_some, Pd.gotI_none, Pd.sizeS, Pd.sIx0, Pd.dfltI, Pd.e_iZ, Pd.e_tAu, Pd.e_tCM, Pd.e_tCMT, Pd.e_tCh, c1]
      simp only [show (2147483587 : Int) = ((2147483587 : Nat) : Int) from rfl, show (2147483629 : Int) = ((2147483629 : Nat) : Int) from rfl] at *
      rw [er, er2]
      exact ⟨r2, hr2, rfl⟩
  · rintro _ ⟨m, u, hm, hu, rfl⟩
    simp [Pd.e_tSq, Pd.e_tSqW, Pd.e_tSt, Pd.e_tPm, Pd.asgs, Pd.asg, Pd.escape, Pd.e_tCoB, Pd.e_tCo, Pd.e_tN, Pd.e_tV, Pd.e_tK, Pd.e_tOp2, Pd.e_tOp1, Pd.e_two, Pd.e_one, Pd.content, Pd.slotD, R.seal, Pd.e_ans, Pd.e_tBo, Pd.e_tAn, Pd.e_tOr_, Pd.e_tNo, Pd.e_tAnV, Pd.e_tOrV, Pd.e_tNoV, Pd.e_tIfD, Pd.e_tIfE, Pd.e_tRt, Pd.e_tRtN, Pd.e_tDr, Pd.e_tNx, Pd.e_tBk, Pd.e_tCt, Pd.e_tTr, Pd.truD, Pd.fin_val, Pd.fin_new, Pd.fin_al, Pd.retR, Pd.outsAt, Pd.entry, Pd.argSl, Mode.sl, Out.r, Sl.d, Sl.put, Pd.addD, Pd.intOp, Pd.mulD, Pd.negD, Pd.eqD, Pd.neD, Pd.cmD, Pd.dCm_int, Pd.dCm_str, Pd.dEq_nn, Pd.dEq_ii, Pd.dEq_bb, Pd.dEq_ss, Pd.eqOk_i, Pd.eqOk_b, Pd.eqOk_s, Pd.eqOk_n, Pd.cmOk_i, Pd.cmOk_s, Pd.e_tCl, Pd.passOk, Pd.ioS, Pd.apart, Pd.pass, Pd.pass1, Pd.putO, Pd.e_tL, Pd.e_tT, Pd.escapes, Pd.e_many, Pd.e_tBu, Pd.contents, Pd.lenD, Pd.intD, Pd.boolD, Pd.absD, Pd.listD, Pd.tupleD, Pd.isinD, Pd.allD, Pd.bools, Pd.bitsD, Pd.gcdD, Pd.ixD, Pd.isD, Pd.isNotD, Pd.e_tIsiT, Pd.tyName, Pd.isiT, Pd.tyNames, Pd.cellAt, Pd.putAt, Pd.e_tSI, Pd.e_tSF, Pd.e_tFl, Pd.putN, Pd.putX, Pd.e_tMk, Pd.e_tMkK, Pd.e_mkOk, Pd.e_tClK, Pd.ordK, R.isNon, D.lst?, D.int?, Pd.iterD, Pd.items, Pd.iterK, Pd.seqK, Pd.e_iSeq, Pd.e_iR1, Pd.e_iR2, Pd.e_gN, Pd.e_gCo, Pd.e_gNi, Pd.e_gT, Pd.e_settable, Pd.e_freeOf, Pd.wipeD, Pd.backD, Pd.back1, Pd.e_tSlc, Pd.slD, Pd.e_oN, Pd.e_oS, Pd.atI_nat, Pd.atI_lit, Pd.ixN_nat, Pd.ixN_lit, Pd.fdn, Pd.fmn, Pd.fdl, Pd.fml, Cm.i, Pd.tFo_eq, Pd.tLC_eq, Pd.e_tNv, ↓Pd.got_eqI, Pd.gotI_some, Pd.gotI_none, Pd.sizeS, Pd.sIx0, Pd.dfltI, Pd.e_iZ, Pd.e_tAu, Pd.e_tCM, Pd.e_tCMT, Pd.e_tCh]
    rw [show (some (63 : Int)) = some ((63 : Nat) : Int) from rfl, HT.sIx_nat, ← List.map_take]
    exact hq _ ⟨ns.take (min 63 ns.length), 0, 0, m, 0, rfl, by rw [List.length_take]; omega, hm, Nat.le_refl _⟩
theorem r_law_common : Rd_law_common := by
  rintro ds q - ⟨x, y, rfl, hy, hq⟩
  simp [t_law_common, m_law_common, Pd.e_tSq, Pd.e_tSqW, Pd.e_tSt, Pd.e_tPm, Pd.asgs, Pd.asg, Pd.escape, Pd.e_tCoB, Pd.e_tCo, Pd.e_tN, Pd.e_tV, Pd.e_tK, Pd.e_tOp2, Pd.e_tOp1, Pd.e_two, Pd.e_one, Pd.content, Pd.slotD, R.seal, Pd.e_ans, Pd.e_tBo, Pd.e_tAn, Pd.e_tOr_, Pd.e_tNo, Pd.e_tAnV, Pd.e_tOrV, Pd.e_tNoV, Pd.e_tIfD, Pd.e_tIfE, Pd.e_tRt, Pd.e_tRtN, Pd.e_tDr, Pd.e_tNx, Pd.e_tBk, Pd.e_tCt, Pd.e_tTr, Pd.truD, Pd.fin_val, Pd.fin_new, Pd.fin_al, Pd.retR, Pd.outsAt, Pd.entry, Pd.argSl, Mode.sl, Out.r, Sl.d, Sl.put, Pd.addD, Pd.intOp, Pd.mulD, Pd.negD, Pd.eqD, Pd.neD, Pd.cmD, Pd.dCm_int, Pd.dCm_str, Pd.dEq_nn, Pd.dEq_ii, Pd.dEq_bb, Pd.dEq_ss, Pd.eqOk_i, Pd.eqOk_b, Pd.eqOk_s, Pd.eqOk_n, Pd.cmOk_i, Pd.cmOk_s, Pd.e_tCl, Pd.passOk, Pd.ioS, Pd.apart, Pd.pass, Pd.pass1, Pd.putO, Pd.e_tL, Pd.e_tT, Pd.escapes, Pd.e_many, Pd.e_tBu, Pd.contents, Pd.lenD, Pd.intD, Pd.boolD, Pd.absD, Pd.listD, Pd.tupleD, Pd.isinD, Pd.allD, Pd.bools, Pd.bitsD, Pd.gcdD, Pd.ixD, Pd.isD, Pd.isNotD, Pd.e_tIsiT, Pd.tyName, Pd.isiT, Pd.tyNames, Pd.cellAt, Pd.putAt, Pd.e_tSI, Pd.e_tSF, Pd.e_tFl, Pd.putN, Pd.putX, Pd.e_tMk, Pd.e_tMkK, Pd.e_mkOk, Pd.e_tClK, Pd.ordK, R.isNon, D.lst?, D.int?, Pd.iterD, Pd.items, Pd.iterK, Pd.seqK, Pd.e_iSeq, Pd.e_iR1, Pd.e_iR2, Pd.e_gN, Pd.e_gCo, Pd.e_gNi, Pd.e_gT, Pd.e_settable, Pd.e_freeOf, Pd.wipeD, Pd.backD, Pd.back1, Pd.e_tSlc, Pd.slD, Pd.e_oN, Pd.e_oS, Pd.atI_nat, Pd.atI_lit, Pd.ixN_nat, Pd.ixN_lit, Pd.fdn, Pd.fmn, Pd.fdl, Pd.fml, Cm.i, Pd.tFo_eq, Pd.tLC_eq, Pd.e_tNv, ↓Pd.got_eqI, Pd.gotI_some, Pd.gotI_none, Pd.sizeS, Pd.sIx0, Pd.dfltI, Pd.e_iZ, Pd.e_tAu, Pd.e_tCM, Pd.e_tCMT, Pd.e_tCh]
  refine ⟨fun e => ∃ x' y' : Nat, e = [.val (.int x'), .val (.int y')] ∧ y' < 2 ^ 30 ∧ Nat.gcd x' y' = Nat.gcd x y, lv 1, ⟨x, y, rfl, hy, rfl⟩, ?_⟩
  rintro _ ⟨x', y', rfl, h1, h2⟩
  simp [Pd.e_tSq, Pd.e_tSqW, Pd.e_tSt, Pd.e_tPm, Pd.asgs, Pd.asg, Pd.escape, Pd.e_tCoB, Pd.e_tCo, Pd.e_tN, Pd.e_tV, Pd.e_tK, Pd.e_tOp2, Pd.e_tOp1, Pd.e_two, Pd.e_one, Pd.content, Pd.slotD, R.seal, Pd.e_ans, Pd.e_tBo, Pd.e_tAn, Pd.e_tOr_, Pd.e_tNo, Pd.e_tAnV, Pd.e_tOrV, Pd.e_tNoV, Pd.e_tIfD, Pd.e_tIfE, Pd.e_tRt, Pd.e_tRtN, Pd.e_tDr, Pd.e_tNx, Pd.e_tBk, Pd.e_tCt, Pd.e_tTr, Pd.truD, Pd.fin_val, Pd.fin_new, Pd.fin_al, Pd.retR, Pd.outsAt, Pd.entry, Pd.argSl, Mode.sl, Out.r, Sl.d, Sl.put, Pd.addD, Pd.intOp, Pd.mulD, Pd.negD, Pd.eqD, Pd.neD, Pd.cmD, Pd.dCm_int, Pd.dCm_str, Pd.dEq_nn, Pd.dEq_ii, Pd.dEq_bb, Pd.dEq_ss, Pd.eqOk_i, Pd.eqOk_b, Pd.eqOk_s, Pd.eqOk_n, Pd.cmOk_i, Pd.cmOk_s, Pd.e_tCl, Pd.passOk, Pd.ioS, Pd.apart, Pd.pass, Pd.pass1, Pd.putO, Pd.e_tL, Pd.e_tT, Pd.escapes, Pd.e_many, Pd.e_tBu, Pd.contents, Pd.lenD, Pd.intD, Pd.boolD, Pd.absD, Pd.listD, Pd.tupleD, Pd.isinD, Pd.allD, Pd.bools, Pd.bitsD, Pd.gcdD, Pd.ixD, Pd.isD, Pd.isNotD, Pd.e_tIsiT, Pd.tyName, Pd.isiT, Pd.tyNames, Pd.cellAt, Pd.putAt, Pd.e_tSI, Pd.e_tSF, Pd.e_tFl, Pd.putN, Pd.putX, Pd.e_tMk, Pd.e_tMkK, Pd.e_mkOk, Pd.e_tClK, Pd.ordK, R.isNon, D.lst?, D.int?, Pd.iterD, Pd.items, Pd.iterK, Pd.seqK, Pd.e_iSeq, Pd.e_iR1, Pd.e_iR2, Pd.e_gN, Pd.e_gCo, Pd.e_gNi, Pd.e_gT, Pd.e_settable, Pd.e_freeOf, Pd.wipeD, Pd.backD, Pd.back1, Pd.e_tSlc, Pd.slD, Pd.e_oN, Pd.e_oS, Pd.atI_nat, Pd.atI_lit, Pd.ixN_nat, Pd.ixN_lit, Pd.fdn, Pd.fmn, Pd.fdl, Pd.fml, Cm.i, Pd.tFo_eq, Pd.tLC_eq, Pd.e_tNv, ↓Pd.got_eqI, Pd.gotI_some, Pd.gotI_none, Pd.sizeS, Pd.sIx0, Pd.dfltI, Pd.e_iZ, Pd.e_tAu, Pd.e_tCM, Pd.e_tCMT, Pd.e_tCh, lv]
  split
  · rename_i h
    have hl := Nat.mod_lt x' h
    exact ⟨by omega, ⟨y', x' % y', ⟨rfl, by simp⟩, by omega, by rw [← h2, Nat.gcd_comm x' y', Nat.gcd_rec y' x', Nat.gcd_comm]⟩, by omega⟩
  · rename_i h
    have : y' = 0 := by omega
    subst this
    rw [Nat.gcd_zero_right] at h2
    rw [h2]
    exact hq
theorem r_law_lowest : Rd_law_lowest := by
  rintro ds q - ⟨x, y, rfl, h0, hy, hq⟩
  have h0' : ¬ ((y : Int) < 0) := by omega
  have h1' : ¬ ((x : Int) < 0) := by omega
  simp [t_law_lowest, m_law_lowest, m_law_common, Pd.e_tSq, Pd.e_tSqW, Pd.e_tSt, Pd.e_tPm, Pd.asgs, Pd.asg, Pd.escape, Pd.e_tCoB, Pd.e_tCo, Pd.e_tN, Pd.e_tV, Pd.e_tK, Pd.e_tOp2, Pd.e_tOp1, Pd.e_two, Pd.e_one, Pd.content, Pd.slotD, R.seal, Pd.e_ans, Pd.e_tBo, Pd.e_tAn, Pd.e_tOr_, Pd.e_tNo, Pd.e_tAnV, Pd.e_tOrV, Pd.e_tNoV, Pd.e_tIfD, Pd.e_tIfE, Pd.e_tRt, Pd.e_tRtN, Pd.e_tDr, Pd.e_tNx, Pd.e_tBk, Pd.e_tCt, Pd.e_tTr, Pd.truD, Pd.fin_val, Pd.fin_new, Pd.fin_al, Pd.retR, Pd.outsAt, Pd.entry, Pd.argSl, Mode.sl, Out.r, Sl.d, Sl.put, Pd.addD, Pd.intOp, Pd.mulD, Pd.negD, Pd.eqD, Pd.neD, Pd.cmD, Pd.dCm_int, Pd.dCm_str, Pd.dEq_nn, Pd.dEq_ii, Pd.dEq_bb, Pd.dEq_ss, Pd.eqOk_i, Pd.eqOk_b, Pd.eqOk_s, Pd.eqOk_n, Pd.cmOk_i, Pd.cmOk_s, Pd.e_tCl, Pd.passOk, Pd.ioS, Pd.apart, Pd.pass, Pd.pass1, Pd.putO, Pd.e_tL, Pd.e_tT, Pd.escapes, Pd.e_many, Pd.e_tBu, Pd.contents, Pd.lenD, Pd.intD, Pd.boolD, Pd.absD, Pd.listD, Pd.tupleD, Pd.isinD, Pd.allD, Pd.bools, Pd.bitsD, Pd.gcdD, Pd.ixD, Pd.isD, Pd.isNotD, Pd.e_tIsiT, Pd.tyName, Pd.isiT, Pd.tyNames, Pd.cellAt, Pd.putAt, Pd.e_tSI, Pd.e_tSF, Pd.e_tFl, Pd.putN, Pd.putX, Pd.e_tMk, Pd.e_tMkK, Pd.e_mkOk, Pd.e_tClK, Pd.ordK, R.isNon, D.lst?, D.int?, Pd.iterD, Pd.items, Pd.iterK, Pd.seqK, Pd.e_iSeq, Pd.e_iR1, Pd.e_iR2, Pd.e_gN, Pd.e_gCo, Pd.e_gNi, Pd.e_gT, Pd.e_settable, Pd.e_freeOf, Pd.wipeD, Pd.backD, Pd.back1, Pd.e_tSlc, Pd.slD, Pd.e_oN, Pd.e_oS, Pd.atI_nat, Pd.atI_lit, Pd.ixN_nat, Pd.ixN_lit, Pd.fdn, Pd.fmn, Pd.fdl, Pd.fml, Cm.i, Pd.tFo_eq, Pd.tLC_eq, Pd.e_tNv, ↓Pd.got_eqI, Pd.gotI_some, Pd.gotI_none, Pd.sizeS, Pd.sIx0, Pd.dfltI, Pd.e_iZ, Pd.e_tAu, Pd.e_tCM, Pd.e_tCMT, Pd.e_tCh, h0', h1', sp_law_common]
  have hg : 0 < Nat.gcd x y := Nat.gcd_pos_of_pos_right x h0
  have hg2 : Nat.gcd x y ≤ y := Nat.le_of_dvd h0 (Nat.gcd_dvd_right x y)
  refine ⟨x, y, ⟨rfl, rfl⟩, by omega, cdiv_s (by omega) (by omega), cdiv_s (by omega) (by omega), ?_⟩
  simpa using hq
theorem r_law_power : Rd_law_power := by
  rintro ds q - ⟨b, n, m, rfl, hm, hn, hn2, hq⟩
  simp [t_law_power, m_law_power, Pd.e_tSq, Pd.e_tSqW, Pd.e_tSt, Pd.e_tPm, Pd.asgs, Pd.asg, Pd.escape, Pd.e_tCoB, Pd.e_tCo, Pd.e_tN, Pd.e_tV, Pd.e_tK, Pd.e_tOp2, Pd.e_tOp1, Pd.e_two, Pd.e_one, Pd.content, Pd.slotD, R.seal, Pd.e_ans, Pd.e_tBo, Pd.e_tAn, Pd.e_tOr_, Pd.e_tNo, Pd.e_tAnV, Pd.e_tOrV, Pd.e_tNoV, Pd.e_tIfD, Pd.e_tIfE, Pd.e_tRt, Pd.e_tRtN, Pd.e_tDr, Pd.e_tNx, Pd.e_tBk, Pd.e_tCt, Pd.e_tTr, Pd.truD, Pd.fin_val, Pd.fin_new, Pd.fin_al, Pd.retR, Pd.outsAt, Pd.entry, Pd.argSl, Mode.sl, Out.r, Sl.d, Sl.put, Pd.addD, Pd.intOp, Pd.mulD, Pd.negD, Pd.eqD, Pd.neD, Pd.cmD, Pd.dCm_int, Pd.dCm_str, Pd.dEq_nn, Pd.dEq_ii, Pd.dEq_bb, Pd.dEq_ss, Pd.eqOk_i, Pd.eqOk_b, Pd.eqOk_s, Pd.eqOk_n, Pd.cmOk_i, Pd.cmOk_s, Pd.e_tCl, Pd.passOk, Pd.ioS, Pd.apart, Pd.pass, Pd.pass1, Pd.putO, Pd.e_tL, Pd.e_tT, Pd.escapes, Pd.e_many, Pd.e_tBu, Pd.contents, Pd.lenD, Pd.intD, Pd.boolD, Pd.absD, Pd.listD, Pd.tupleD, Pd.isinD, Pd.allD, Pd.bools, Pd.bitsD, Pd.gcdD, Pd.ixD, Pd.isD, Pd.isNotD, Pd.e_tIsiT, Pd.tyName, Pd.isiT, Pd.tyNames, Pd.cellAt, Pd.putAt, Pd.e_tSI, Pd.e_tSF, Pd.e_tFl, Pd.putN, Pd.putX, Pd.e_tMk, Pd.e_tMkK, Pd.e_mkOk, Pd.e_tClK, Pd.ordK, R.isNon, D.lst?, D.int?, Pd.iterD, Pd.items, Pd.iterK, Pd.seqK, Pd.e_iSeq, Pd.e_iR1, Pd.e_iR2, Pd.e_gN, Pd.e_gCo, Pd.e_gNi, Pd.e_gT, Pd.e_settable, Pd.e_freeOf, Pd.wipeD, Pd.backD, Pd.back1, Pd.e_tSlc, Pd.slD, Pd.e_oN, Pd.e_oS, Pd.atI_nat, Pd.atI_lit, Pd.ixN_nat, Pd.ixN_lit, Pd.fdn, Pd.fmn, Pd.fdl, Pd.fml, Cm.i, Pd.tFo_eq, Pd.tLC_eq, Pd.e_tNv, ↓Pd.got_eqI, Pd.gotI_some, Pd.gotI_none, Pd.sizeS, Pd.sIx0, Pd.dfltI, Pd.e_iZ, Pd.e_tAu, Pd.e_tCM, Pd.e_tCMT, Pd.e_tCh]
  refine ⟨⟨by omega, by omega⟩, fun i e => i ≤ n ∧ ∃ (u : Sl), (u = .un ∨ ∃ z, u = .val z) ∧ e = [.val (.int b), .val (.int n), .val (.int (b ^ i)), u], ⟨by omega, .un, .inl rfl, by simp⟩, ?_, ?_⟩
  · rintro i d _ hd ⟨hi, u, hu, rfl⟩
    obtain ⟨rfl, hi⟩ := rangeD_get hd
    have c1 : CMulX (b ^ i) b := cmul_of (pow_lt hm) hm (by
      have : m * i ≤ m * n := Nat.mul_le_mul_left m (by omega)
      rw [Nat.mul_add] at hn
      omega)
    rcases hu with rfl | ⟨z, rfl⟩
    all_goals
      simp [Pd.e_tSq, Pd.e_tSqW, Pd.e_tSt, Pd.e_tPm, Pd.asgs, Pd.asg, Pd.escape, Pd.e_tCoB, Pd.e_tCo, Pd.e_tN, Pd.e_tV, Pd.e_tK, Pd.e_tOp2, Pd.e_tOp1, Pd.e_two, Pd.e_one, Pd.content, Pd.slotD, R.seal, Pd.e_ans, Pd.e_tBo, Pd.e_tAn, Pd.e_tOr_, Pd.e_tNo, Pd.e_tAnV, Pd.e_tOrV, Pd.e_tNoV, Pd.e_tIfD, Pd.e_tIfE, Pd.e_tRt, Pd.e_tRtN, Pd.e_tDr, Pd.e_tNx, Pd.e_tBk, Pd.e_tCt, Pd.e_tTr, Pd.truD, Pd.fin_val, Pd.fin_new, Pd.fin_al, Pd.retR, Pd.outsAt, Pd.entry, Pd.argSl, Mode.sl, Out.r, Sl.d, Sl.put, Pd.addD, Pd.intOp, Pd.mulD, Pd.negD, Pd.eqD, Pd.neD, Pd.cmD, Pd.dCm_int, Pd.dCm_str, Pd.dEq_nn, Pd.dEq_ii, Pd.dEq_bb, Pd.dEq_ss, Pd.eqOk_i, Pd.eqOk_b, Pd.eqOk_s, Pd.eqOk_n, Pd.cmOk_i, Pd.cmOk_s, Pd.e_tCl, Pd.passOk, Pd.ioS, Pd.apart, Pd.pass, Pd.pass1, Pd.putO, Pd.e_tL, Pd.e_tT, Pd.escapes, Pd.e_many, Pd.e_tBu, Pd.contents, Pd.lenD, Pd.intD, Pd.boolD, Pd.absD, Pd.listD, Pd.tupleD, Pd.isinD, Pd.allD, Pd.bools, Pd.bitsD, Pd.gcdD, Pd.ixD, Pd.isD, Pd.isNotD, Pd.e_tIsiT, Pd.tyName, Pd.isiT, Pd.tyNames, Pd.cellAt, Pd.putAt, Pd.e_tSI, Pd.e_tSF, Pd.e_tFl, Pd.putN, Pd.putX, Pd.e_tMk, Pd.e_tMkK, Pd.e_mkOk, Pd.e_tClK, Pd.ordK, R.isNon, D.lst?, D.int?, Pd.iterD, Pd.items, Pd.iterK, Pd.seqK, Pd.e_iSeq, Pd.e_iR1, Pd.e_iR2, Pd.e_gN, Pd.e_gCo, Pd.e_gNi, Pd.e_gT, Pd.e_settable, Pd.e_freeOf, Pd.wipeD, Pd.backD, Pd.back1, Pd.e_tSlc, Pd.slD, Pd.e_oN, Pd.e_oS, Pd.atI_nat, Pd.atI_lit, Pd.ixN_nat, Pd.ixN_lit, Pd.fdn, Pd.fmn, Pd.fdl, Pd.fml, Cm.i, Pd.tFo_eq, Pd.tLC_eq, Pd.e_tNv, ↓Pd.got_eqI, Pd.gotI_some, Pd.gotI_none, Pd.sizeS, Pd.sIx0, Pd.dfltI, Pd.e_iZ, Pd.e_tAu, Pd.e_tCM, Pd.e_tCMT, Pd.e_tCh, c1]
      exact ⟨by omega, by rw [Int.pow_succ]⟩
  · rintro _ ⟨hi, u, hu, rfl⟩
    rw [rangeD_len]
    simp [Pd.e_tSq, Pd.e_tSqW, Pd.e_tSt, Pd.e_tPm, Pd.asgs, Pd.asg, Pd.escape, Pd.e_tCoB, Pd.e_tCo, Pd.e_tN, Pd.e_tV, Pd.e_tK, Pd.e_tOp2, Pd.e_tOp1, Pd.e_two, Pd.e_one, Pd.content, Pd.slotD, R.seal, Pd.e_ans, Pd.e_tBo, Pd.e_tAn, Pd.e_tOr_, Pd.e_tNo, Pd.e_tAnV, Pd.e_tOrV, Pd.e_tNoV, Pd.e_tIfD, Pd.e_tIfE, Pd.e_tRt, Pd.e_tRtN, Pd.e_tDr, Pd.e_tNx, Pd.e_tBk, Pd.e_tCt, Pd.e_tTr, Pd.truD, Pd.fin_val, Pd.fin_new, Pd.fin_al, Pd.retR, Pd.outsAt, Pd.entry, Pd.argSl, Mode.sl, Out.r, Sl.d, Sl.put, Pd.addD, Pd.intOp, Pd.mulD, Pd.negD, Pd.eqD, Pd.neD, Pd.cmD, Pd.dCm_int, Pd.dCm_str, Pd.dEq_nn, Pd.dEq_ii, Pd.dEq_bb, Pd.dEq_ss, Pd.eqOk_i, Pd.eqOk_b, Pd.eqOk_s, Pd.eqOk_n, Pd.cmOk_i, Pd.cmOk_s, Pd.e_tCl, Pd.passOk, Pd.ioS, Pd.apart, Pd.pass, Pd.pass1, Pd.putO, Pd.e_tL, Pd.e_tT, Pd.escapes, Pd.e_many, Pd.e_tBu, Pd.contents, Pd.lenD, Pd.intD, Pd.boolD, Pd.absD, Pd.listD, Pd.tupleD, Pd.isinD, Pd.allD, Pd.bools, Pd.bitsD, Pd.gcdD, Pd.ixD, Pd.isD, Pd.isNotD, Pd.e_tIsiT, Pd.tyName, Pd.isiT, Pd.tyNames, Pd.cellAt, Pd.putAt, Pd.e_tSI, Pd.e_tSF, Pd.e_tFl, Pd.putN, Pd.putX, Pd.e_tMk, Pd.e_tMkK, Pd.e_mkOk, Pd.e_tClK, Pd.ordK, R.isNon, D.lst?, D.int?, Pd.iterD, Pd.items, Pd.iterK, Pd.seqK, Pd.e_iSeq, Pd.e_iR1, Pd.e_iR2, Pd.e_gN, Pd.e_gCo, Pd.e_gNi, Pd.e_gT, Pd.e_settable, Pd.e_freeOf, Pd.wipeD, Pd.backD, Pd.back1, Pd.e_tSlc, Pd.slD, Pd.e_oN, Pd.e_oS, Pd.atI_nat, Pd.atI_lit, Pd.ixN_nat, Pd.ixN_lit, Pd.fdn, Pd.fmn, Pd.fdl, Pd.fml, Cm.i, Pd.tFo_eq, Pd.tLC_eq, Pd.e_tNv, ↓Pd.got_eqI, Pd.gotI_some, Pd.gotI_none, Pd.sizeS, Pd.sIx0, Pd.dfltI, Pd.e_iZ, Pd.e_tAu, Pd.e_tCM, Pd.e_tCMT, Pd.e_tCh]
    exact hq

end LW

set_option Elab.async false
set_option linter.all false
set_option maxRecDepth 100000
set_option maxHeartbeats 0
namespace LW
open PySem PySem.Spec PyProof.Rows L2 Pd
theorem bagI {n : Nat} {ns : List Int} {p v x y : Int} (h1 : ns.length ≤ 63) (hp : 0 ≤ p) (hv : 0 ≤ v) (hx : 0 ≤ x) (hx2 : x < 2147483629) (hy : 0 ≤ y) (hy2 : y ≤ n) : BagOk n (.lst [.lst (ns.map D.int), .int p, .int v, .int x, .int y]) :=
  ⟨ns, p.toNat, v.toNat, x.toNat, y.toNat, by rw [Int.toNat_of_nonneg hp, Int.toNat_of_nonneg hv, Int.toNat_of_nonneg hx, Int.toNat_of_nonneg hy], h1, by omega, by omega⟩
theorem r_law_draw : Rd_law_draw := by
  rintro ds q - ⟨d, n, s, rfl, ⟨ns, p, v, x, y, rfl, h1, h2, h3⟩, hn, hs, hs2, hq⟩
  have hq : ∀ (d' : D) (z : Int), BagOk (n + 1) d' → 0 ≤ z → z < s → q [d'] (.val (.int z)) := fun d' z b z0 z1 => by
    have := hq d' z.toNat b (by omega)
    rwa [Int.toNat_of_nonneg z0] at this
  have cp : CPow 10 18 := ⟨by decide, by decide, by decide⟩
  have cs : ¬ (s : Int) = 0 := by omega
  have cs' : ¬ s = 0 := by omega
  have cd : ∀ z : Int, CDivA z (s : Int) := fun z => cdiv_s cs (by omega)
  have cd2 : ∀ z : Int, CDivA z 97 := fun z => cdiv_s (by decide) (by decide)
  have cm1 : CMulX (x : Int) 69621 := cmul_w (by omega) (by decide)
  have cm2 : CMulX ((y : Int) + 1) 1299709 := cmul_w (by omega) (by decide)
  have cm3 : ∀ z : Int, CMulX (z.fmod 2147483549) 30103 := fun z => by
    have := fmodB z (k := 2147483549) (by decide)
    exact cmul_w (by omega) (by decide)
  have cm4 : ∀ z : Int, CMulX (z.fmod 7901) 67 := fun z => by
    have := fmodB z (k := 7901) (by decide)
    exact cmul_w (by omega) (by decide)
  have cp2 : ∀ z : Int, CPow (z.fmod 2147483629) 3 := fun z => by
    have := fmodB z (k := 2147483629) (by decide)
    exact ⟨by decide, by decide, by omega⟩
  have cp3 : CPow (x : Int) 3 := ⟨by decide, by decide, by omega⟩
  have mx := fun z : Int => fmodB z (k := 2147483629) (by decide)
  have ms := fun z : Int => fmodB z (k := (s : Int)) (by omega)
  by_cases hv : 0 < v
  · have hv' : ¬ v = 0 := by omega
    simp [t_law_draw, m_law_draw, Pd.e_tSq, Pd.e_tSqW, Pd.e_tSt, Pd.e_tPm, Pd.asgs, Pd.asg, Pd.escape, Pd.e_tCoB, Pd.e_tCo, Pd.e_tN, Pd.e_tV, Pd.e_tK, Pd.e_tOp2, Pd.e_tOp1, Pd.e_two, Pd.e_one, Pd.content, Pd.slotD, R.seal, Pd.e_ans, Pd.e_tBo, Pd.e_tAn, Pd.e_tOr_, Pd.e_tNo, Pd.e_tAnV, Pd.e_tOrV, Pd.e_tNoV, Pd.e_tIfD, Pd.e_tIfE, Pd.e_tRt, Pd.e_tRtN, Pd.e_tDr, Pd.e_tNx, Pd.e_tBk, Pd.e_tCt, Pd.e_tTr, Pd.truD, Pd.fin_val, Pd.fin_new, Pd.fin_al, Pd.retR, Pd.outsAt, Pd.entry, Pd.argSl, Mode.sl, Out.r, Sl.d, Sl.put, Pd.addD, Pd.intOp, Pd.mulD, Pd.negD, Pd.eqD, Pd.neD, Pd.cmD, Pd.dCm_int, Pd.dCm_str, Pd.dEq_nn, Pd.dEq_ii, Pd.dEq_bb, Pd.dEq_ss, Pd.eqOk_i, Pd.eqOk_b, Pd.eqOk_s, Pd.eqOk_n, Pd.cmOk_i, Pd.cmOk_s, Pd.e_tCl, Pd.passOk, Pd.ioS, Pd.apart, Pd.pass, Pd.pass1, Pd.putO, Pd.e_tL, Pd.e_tT, Pd.escapes, Pd.e_many, Pd.e_tBu, Pd.contents, Pd.lenD, Pd.intD, Pd.boolD, Pd.absD, Pd.listD, Pd.tupleD, Pd.isinD, Pd.allD, Pd.bools, Pd.bitsD, Pd.gcdD, Pd.ixD, Pd.isD, Pd.isNotD, Pd.e_tIsiT, Pd.tyName, Pd.isiT, Pd.tyNames, Pd.cellAt, Pd.putAt, Pd.e_tSI, Pd.e_tSF, Pd.e_tFl, Pd.putN, Pd.putX, Pd.e_tMk, Pd.e_tMkK, Pd.e_mkOk, Pd.e_tClK, Pd.ordK, R.isNon, D.lst?, D.int?, Pd.iterD, Pd.items, Pd.iterK, Pd.seqK, Pd.e_iSeq, Pd.e_iR1, Pd.e_iR2, Pd.e_gN, Pd.e_gCo, Pd.e_gNi, Pd.e_gT, Pd.e_settable, Pd.e_freeOf, Pd.wipeD, Pd.backD, Pd.back1, Pd.e_tSlc, Pd.slD, Pd.e_oN, Pd.e_oS, Pd.atI_nat, Pd.atI_lit, Pd.ixN_nat, Pd.ixN_lit, Pd.fdn, Pd.fmn, Pd.fdl, Pd.fml, Cm.i, Pd.tFo_eq, Pd.tLC_eq, Pd.e_tNv, ↓Pd.got_eqI, Pd.gotI_some, Pd.gotI_none, Pd.sizeS, Pd.sIx0, Pd.dfltI, Pd.e_iZ, Pd.e_tAu, Pd.e_tCM, Pd.e_tCMT, Pd.e_tCh, hv, hv', cs, cd, cs']
    exact hq _ _ (bagI h1 (by omega) (Int.ediv_nonneg (by omega) (by omega)) (by omega) (by omega) (by omega) (by omega)) (Int.emod_nonneg _ (by omega)) (Int.emod_lt_of_pos _ (by omega))
  · have hv : v = 0 := by omega
    subst hv
    by_cases hp : p < ns.length
    · have e : ns[p]? = some ns[p] := List.getElem?_eq_getElem hp
      by_cases hz : 1000000000000000000 ≤ ns[p]
      · have hz2 : 0 < ns[p] := by omega
        simp [t_law_draw, m_law_draw, Pd.e_tSq, Pd.e_tSqW, Pd.e_tSt, Pd.e_tPm, Pd.asgs, Pd.asg, Pd.escape, Pd.e_tCoB, Pd.e_tCo, Pd.e_tN, Pd.e_tV, Pd.e_tK, Pd.e_tOp2, Pd.e_tOp1, Pd.e_two, Pd.e_one, Pd.content, Pd.slotD, R.seal, Pd.e_ans, Pd.e_tBo, Pd.e_tAn, Pd.e_tOr_, Pd.e_tNo, Pd.e_tAnV, Pd.e_tOrV, Pd.e_tNoV, Pd.e_tIfD, Pd.e_tIfE, Pd.e_tRt, Pd.e_tRtN, Pd.e_tDr, Pd.e_tNx, Pd.e_tBk, Pd.e_tCt, Pd.e_tTr, Pd.truD, Pd.fin_val, Pd.fin_new, Pd.fin_al, Pd.retR, Pd.outsAt, Pd.entry, Pd.argSl, Mode.sl, Out.r, Sl.d, Sl.put, Pd.addD, Pd.intOp, Pd.mulD, Pd.negD, Pd.eqD, Pd.neD, Pd.cmD, Pd.dCm_int, Pd.dCm_str, Pd.dEq_nn, Pd.dEq_ii, Pd.dEq_bb, Pd.dEq_ss, Pd.eqOk_i, Pd.eqOk_b, Pd.eqOk_s, Pd.eqOk_n, Pd.cmOk_i, Pd.cmOk_s, Pd.e_tCl, Pd.passOk, Pd.ioS, Pd.apart, Pd.pass, Pd.pass1, Pd.putO, Pd.e_tL, Pd.e_tT, Pd.escapes, Pd.e_many, Pd.e_tBu, Pd.contents, Pd.lenD, Pd.intD, Pd.boolD, Pd.absD, Pd.listD, Pd.tupleD, Pd.isinD, Pd.allD, Pd.bools, Pd.bitsD, Pd.gcdD, Pd.ixD, Pd.isD, Pd.isNotD, Pd.e_tIsiT, Pd.tyName, Pd.isiT, Pd.tyNames, Pd.cellAt, Pd.putAt, Pd.e_tSI, Pd.e_tSF, Pd.e_tFl, Pd.putN, Pd.putX, Pd.e_tMk, Pd.e_tMkK, Pd.e_mkOk, Pd.e_tClK, Pd.ordK, R.isNon, D.lst?, D.int?, Pd.iterD, Pd.items, Pd.iterK, Pd.seqK, Pd.e_iSeq, Pd.e_iR1, Pd.e_iR2, Pd.e_gN, Pd.e_gCo, Pd.e_gNi, Pd.e_gT, Pd.e_settable, Pd.e_freeOf, Pd.wipeD, Pd.backD, Pd.back1, Pd.e_tSlc, Pd.slD, Pd.e_oN, Pd.e_oS, Pd.atI_nat, Pd.atI_lit, Pd.ixN_nat, Pd.ixN_lit, Pd.fdn, Pd.fmn, Pd.fdl, Pd.fml, Cm.i, Pd.tFo_eq, Pd.tLC_eq, Pd.e_tNv, ↓Pd.got_eqI, Pd.gotI_some, Pd.gotI_none, Pd.sizeS, Pd.sIx0, Pd.dfltI, Pd.e_iZ, Pd.e_tAu, Pd.e_tCM, Pd.e_tCMT, Pd.e_tCh, hp, e, hz, cs, cd, cp, cs', hz2]
        exact hq _ _ (bagI h1 (by omega) (by rw [Int.fdiv_eq_ediv_of_nonneg _ (by omega)]; exact Int.ediv_nonneg (by omega) (by omega)) (by omega) (by omega) (by omega) (by omega)) (ms _).1 (ms _).2
      · simp [t_law_draw, m_law_draw, Pd.e_tSq, Pd.e_tSqW, Pd.e_tSt, Pd.e_tPm, Pd.asgs, Pd.asg, Pd.escape, Pd.e_tCoB, Pd.e_tCo, Pd.e_tN, Pd.e_tV, Pd.e_tK, Pd.e_tOp2, Pd.e_tOp1, Pd.e_two, Pd.e_one, Pd.content, Pd.slotD, R.seal, Pd.e_ans, Pd.e_tBo, Pd.e_tAn, Pd.e_tOr_, Pd.e_tNo, Pd.e_tAnV, Pd.e_tOrV, Pd.e_tNoV, Pd.e_tIfD, Pd.e_tIfE, Pd.e_tRt, Pd.e_tRtN, Pd.e_tDr, Pd.e_tNx, Pd.e_tBk, Pd.e_tCt, Pd.e_tTr, Pd.truD, Pd.fin_val, Pd.fin_new, Pd.fin_al, Pd.retR, Pd.outsAt, Pd.entry, Pd.argSl, Mode.sl, Out.r, Sl.d, Sl.put, Pd.addD, Pd.intOp, Pd.mulD, Pd.negD, Pd.eqD, Pd.neD, Pd.cmD, Pd.dCm_int, Pd.dCm_str, Pd.dEq_nn, Pd.dEq_ii, Pd.dEq_bb, Pd.dEq_ss, Pd.eqOk_i, Pd.eqOk_b, Pd.eqOk_s, Pd.eqOk_n, Pd.cmOk_i, Pd.cmOk_s, Pd.e_tCl, Pd.passOk, Pd.ioS, Pd.apart, Pd.pass, Pd.pass1, Pd.putO, Pd.e_tL, Pd.e_tT, Pd.escapes, Pd.e_many, Pd.e_tBu, Pd.contents, Pd.lenD, Pd.intD, Pd.boolD, Pd.absD, Pd.listD, Pd.tupleD, Pd.isinD, Pd.allD, Pd.bools, Pd.bitsD, Pd.gcdD, Pd.ixD, Pd.isD, Pd.isNotD, Pd.e_tIsiT, Pd.tyName, Pd.isiT, Pd.tyNames, Pd.cellAt, Pd.putAt, Pd.e_tSI, Pd.e_tSF, Pd.e_tFl, Pd.putN, Pd.putX, Pd.e_tMk, Pd.e_tMkK, Pd.e_mkOk, Pd.e_tClK, Pd.ordK, R.isNon, D.lst?, D.int?, Pd.iterD, Pd.items, Pd.iterK, Pd.seqK, Pd.e_iSeq, Pd.e_iR1, Pd.e_iR2, Pd.e_gN, Pd.e_gCo, Pd.e_gNi, Pd.e_gT, Pd.e_settable, Pd.e_freeOf, Pd.wipeD, Pd.backD, Pd.back1, Pd.e_tSlc, Pd.slD, Pd.e_oN, Pd.e_oS, Pd.atI_nat, Pd.atI_lit, Pd.ixN_nat, Pd.ixN_lit, Pd.fdn, Pd.fmn, Pd.fdl, Pd.fml, Cm.i, Pd.tFo_eq, Pd.tLC_eq, Pd.e_tNv, ↓Pd.got_eqI, Pd.gotI_some, Pd.gotI_none, Pd.sizeS, Pd.sIx0, Pd.dfltI, Pd.e_iZ, Pd.e_tAu, Pd.e_tCM, Pd.e_tCMT, Pd.e_tCh, hp, e, hz, cs, cd, cp, cm1, cs', cd2, cm2, cm3, cm4, cp2]
        exact hq _ _ (bagI h1 (by omega) (by omega) (mx _).1 (mx _).2 (by omega) (by omega)) (ms _).1 (ms _).2
    · simp [t_law_draw, m_law_draw, Pd.e_tSq, Pd.e_tSqW, Pd.e_tSt, Pd.e_tPm, Pd.asgs, Pd.asg, Pd.escape, Pd.e_tCoB, Pd.e_tCo, Pd.e_tN, Pd.e_tV, Pd.e_tK, Pd.e_tOp2, Pd.e_tOp1, Pd.e_two, Pd.e_one, Pd.content, Pd.slotD, R.seal, Pd.e_ans, Pd.e_tBo, Pd.e_tAn, Pd.e_tOr_, Pd.e_tNo, Pd.e_tAnV, Pd.e_tOrV, Pd.e_tNoV, Pd.e_tIfD, Pd.e_tIfE, Pd.e_tRt, Pd.e_tRtN, Pd.e_tDr, Pd.e_tNx, Pd.e_tBk, Pd.e_tCt, Pd.e_tTr, Pd.truD, Pd.fin_val, Pd.fin_new, Pd.fin_al, Pd.retR, Pd.outsAt, Pd.entry, Pd.argSl, Mode.sl, Out.r, Sl.d, Sl.put, Pd.addD, Pd.intOp, Pd.mulD, Pd.negD, Pd.eqD, Pd.neD, Pd.cmD, Pd.dCm_int, Pd.dCm_str, Pd.dEq_nn, Pd.dEq_ii, Pd.dEq_bb, Pd.dEq_ss, Pd.eqOk_i, Pd.eqOk_b, Pd.eqOk_s, Pd.eqOk_n, Pd.cmOk_i, Pd.cmOk_s, Pd.e_tCl, Pd.passOk, Pd.ioS, Pd.apart, Pd.pass, Pd.pass1, Pd.putO, Pd.e_tL, Pd.e_tT, Pd.escapes, Pd.e_many, Pd.e_tBu, Pd.contents, Pd.lenD, Pd.intD, Pd.boolD, Pd.absD, Pd.listD, Pd.tupleD, Pd.isinD, Pd.allD, Pd.bools, Pd.bitsD, Pd.gcdD, Pd.ixD, Pd.isD, Pd.isNotD, Pd.e_tIsiT, Pd.tyName, Pd.isiT, Pd.tyNames, Pd.cellAt, Pd.putAt, Pd.e_tSI, Pd.e_tSF, Pd.e_tFl, Pd.putN, Pd.putX, Pd.e_tMk, Pd.e_tMkK, Pd.e_mkOk, Pd.e_tClK, Pd.ordK, R.isNon, D.lst?, D.int?, Pd.iterD, Pd.items, Pd.iterK, Pd.seqK, Pd.e_iSeq, Pd.e_iR1, Pd.e_iR2, Pd.e_gN, Pd.e_gCo, Pd.e_gNi, Pd.e_gT, Pd.e_settable, Pd.e_freeOf, Pd.wipeD, Pd.backD, Pd.back1, Pd.e_tSlc, Pd.slD, Pd.e_oN, Pd.e_oS, Pd.atI_nat, Pd.atI_lit, Pd.ixN_nat, Pd.ixN_lit, Pd.fdn, Pd.fmn, Pd.fdl, Pd.fml, Cm.i, Pd.tFo_eq, Pd.tLC_eq, Pd.e_tNv, ↓Pd.got_eqI, Pd.gotI_some, Pd.gotI_none, Pd.sizeS, Pd.sIx0, Pd.dfltI, Pd.e_iZ, Pd.e_tAu, Pd.e_tCM, Pd.e_tCMT, Pd.e_tCh, hp, cs, cd, cs', cd2, cm2, cm4, cp3]
      exact hq _ _ (bagI h1 (by omega) (by omega) (mx _).1 (mx _).2 (by omega) (by omega)) (ms _).1 (ms _).2
theorem BagOk.mono {n m : Nat} {d : D} (h : BagOk n d) (hm : n ≤ m) : BagOk m d := by
  obtain ⟨ns, p, v, x, y, e, h1, h2, h3⟩ := h
  exact ⟨ns, p, v, x, y, e, h1, h2, by omega⟩

end LW

set_option Elab.async false
set_option linter.all false
set_option maxRecDepth 100000
set_option maxHeartbeats 0
namespace LW
open PySem PySem.Spec PyProof.Rows L2 Pd
theorem draw {n : Nat} {d : D} {s : Int} {q : List D → R → Prop} (hb : BagOk n d) (hn : n < 2 ^ 60) (h0 : 0 < s) (h1 : s ≤ 1000000000) (hk : ∀ (d' : D) (k : Nat), BagOk (n + 1) d' → (k : Int) < s → q [d'] (.val (.int k))) : sp_law_draw [d, .int s] q :=
  ⟨d, n, s.toNat, by rw [Int.toNat_of_nonneg (by omega)], hb, hn, by omega, by omega, fun d' k b h => hk d' k b (by omega)⟩
theorem drawOf {n : Nat} {d : D} {xs : List D} {q : List D → R → Prop} (hb : BagOk n d) (hn : n < 2 ^ 60) (h0 : 0 < xs.length) (h1 : xs.length ≤ 1000) (hk : ∀ (d' x : D), BagOk (n + 1) d' → x ∈ xs → q [d'] (.val x)) : sp_law_of [d, .lst xs] q :=
  ⟨d, n, xs, rfl, hb, hn, h0, h1, hk⟩
theorem r_law_of : Rd_law_of := by
  rintro ds q - ⟨d, n, xs, rfl, hb, hn, hx, hx2, hq⟩
  simp [t_law_of, m_law_of, m_law_draw, Pd.e_tSq, Pd.e_tSqW, Pd.e_tSt, Pd.e_tPm, Pd.asgs, Pd.asg, Pd.escape, Pd.e_tCoB, Pd.e_tCo, Pd.e_tN, Pd.e_tV, Pd.e_tK, Pd.e_tOp2, Pd.e_tOp1, Pd.e_two, Pd.e_one, Pd.content, Pd.slotD, R.seal, Pd.e_ans, Pd.e_tBo, Pd.e_tAn, Pd.e_tOr_, Pd.e_tNo, Pd.e_tAnV, Pd.e_tOrV, Pd.e_tNoV, Pd.e_tIfD, Pd.e_tIfE, Pd.e_tRt, Pd.e_tRtN, Pd.e_tDr, Pd.e_tNx, Pd.e_tBk, Pd.e_tCt, Pd.e_tTr, Pd.truD, Pd.fin_val, Pd.fin_new, Pd.fin_al, Pd.retR, Pd.outsAt, Pd.entry, Pd.argSl, Mode.sl, Out.r, Sl.d, Sl.put, Pd.addD, Pd.intOp, Pd.mulD, Pd.negD, Pd.eqD, Pd.neD, Pd.cmD, Pd.dCm_int, Pd.dCm_str, Pd.dEq_nn, Pd.dEq_ii, Pd.dEq_bb, Pd.dEq_ss, Pd.eqOk_i, Pd.eqOk_b, Pd.eqOk_s, Pd.eqOk_n, Pd.cmOk_i, Pd.cmOk_s, Pd.e_tCl, Pd.passOk, Pd.ioS, Pd.apart, Pd.pass, Pd.pass1, Pd.putO, Pd.e_tL, Pd.e_tT, Pd.escapes, Pd.e_many, Pd.e_tBu, Pd.contents, Pd.lenD, Pd.intD, Pd.boolD, Pd.absD, Pd.listD, Pd.tupleD, Pd.isinD, Pd.allD, Pd.bools, Pd.bitsD, Pd.gcdD, Pd.ixD, Pd.isD, Pd.isNotD, Pd.e_tIsiT, Pd.tyName, Pd.isiT, Pd.tyNames, Pd.cellAt, Pd.putAt, Pd.e_tSI, Pd.e_tSF, Pd.e_tFl, Pd.putN, Pd.putX, Pd.e_tMk, Pd.e_tMkK, Pd.e_mkOk, Pd.e_tClK, Pd.ordK, R.isNon, D.lst?, D.int?, Pd.iterD, Pd.items, Pd.iterK, Pd.seqK, Pd.e_iSeq, Pd.e_iR1, Pd.e_iR2, Pd.e_gN, Pd.e_gCo, Pd.e_gNi, Pd.e_gT, Pd.e_settable, Pd.e_freeOf, Pd.wipeD, Pd.backD, Pd.back1, Pd.e_tSlc, Pd.slD, Pd.e_oN, Pd.e_oS, Pd.atI_nat, Pd.atI_lit, Pd.ixN_nat, Pd.ixN_lit, Pd.fdn, Pd.fmn, Pd.fdl, Pd.fml, Cm.i, Pd.tFo_eq, Pd.tLC_eq, Pd.e_tNv, ↓Pd.got_eqI, Pd.gotI_some, Pd.gotI_none, Pd.sizeS, Pd.sIx0, Pd.dfltI, Pd.e_iZ, Pd.e_tAu, Pd.e_tCM, Pd.e_tCMT, Pd.e_tCh]
  refine draw hb hn (by omega) (by omega) fun d' k hb' hk => ?_
  have e : xs[k]? = some xs[k] := List.getElem?_eq_getElem (by omega)
  simp [Pd.e_tSq, Pd.e_tSqW, Pd.e_tSt, Pd.e_tPm, Pd.asgs, Pd.asg, Pd.escape, Pd.e_tCoB, Pd.e_tCo, Pd.e_tN, Pd.e_tV, Pd.e_tK, Pd.e_tOp2, Pd.e_tOp1, Pd.e_two, Pd.e_one, Pd.content, Pd.slotD, R.seal, Pd.e_ans, Pd.e_tBo, Pd.e_tAn, Pd.e_tOr_, Pd.e_tNo, Pd.e_tAnV, Pd.e_tOrV, Pd.e_tNoV, Pd.e_tIfD, Pd.e_tIfE, Pd.e_tRt, Pd.e_tRtN, Pd.e_tDr, Pd.e_tNx, Pd.e_tBk, Pd.e_tCt, Pd.e_tTr, Pd.truD, Pd.fin_val, Pd.fin_new, Pd.fin_al, Pd.retR, Pd.outsAt, Pd.entry, Pd.argSl, Mode.sl, Out.r, Sl.d, Sl.put, Pd.addD, Pd.intOp, Pd.mulD, Pd.negD, Pd.eqD, Pd.neD, Pd.cmD, Pd.dCm_int, Pd.dCm_str, Pd.dEq_nn, Pd.dEq_ii, Pd.dEq_bb, Pd.dEq_ss, Pd.eqOk_i, Pd.eqOk_b, Pd.eqOk_s, Pd.eqOk_n, Pd.cmOk_i, Pd.cmOk_s, Pd.e_tCl, Pd.passOk, Pd.ioS, Pd.apart, Pd.pass, Pd.pass1, Pd.putO, Pd.e_tL, Pd.e_tT, Pd.escapes, Pd.e_many, Pd.e_tBu, Pd.contents, Pd.lenD, Pd.intD, Pd.boolD, Pd.absD, Pd.listD, Pd.tupleD, Pd.isinD, Pd.allD, Pd.bools, Pd.bitsD, Pd.gcdD, Pd.ixD, Pd.isD, Pd.isNotD, Pd.e_tIsiT, Pd.tyName, Pd.isiT, Pd.tyNames, Pd.cellAt, Pd.putAt, Pd.e_tSI, Pd.e_tSF, Pd.e_tFl, Pd.putN, Pd.putX, Pd.e_tMk, Pd.e_tMkK, Pd.e_mkOk, Pd.e_tClK, Pd.ordK, R.isNon, D.lst?, D.int?, Pd.iterD, Pd.items, Pd.iterK, Pd.seqK, Pd.e_iSeq, Pd.e_iR1, Pd.e_iR2, Pd.e_gN, Pd.e_gCo, Pd.e_gNi, Pd.e_gT, Pd.e_settable, Pd.e_freeOf, Pd.wipeD, Pd.backD, Pd.back1, Pd.e_tSlc, Pd.slD, Pd.e_oN, Pd.e_oS, Pd.atI_nat, Pd.atI_lit, Pd.ixN_nat, Pd.ixN_lit, Pd.fdn, Pd.fmn, Pd.fdl, Pd.fml, Cm.i, Pd.tFo_eq, Pd.tLC_eq, Pd.e_tNv, ↓Pd.got_eqI, Pd.gotI_some, Pd.gotI_none, Pd.sizeS, Pd.sIx0, Pd.dfltI, Pd.e_iZ, Pd.e_tAu, Pd.e_tCM, Pd.e_tCMT, Pd.e_tCh, e]
  exact hq _ _ hb' (List.getElem_mem _)
theorem lowest {x y : Int} {q : List D → R → Prop} (x0 : 0 ≤ x) (y0 : 0 < y) (y1 : y < 2 ^ 30) (h : ∀ t b : Nat, (t : Int) ≤ x → 0 < b → (b : Int) ≤ y → Nat.gcd t b = 1 → q [] (.val (.tup [.int t, .int b]))) : sp_law_lowest [.int x, .int y] q := by
  have hg : 0 < Nat.gcd x.toNat y.toNat := Nat.gcd_pos_of_pos_right _ (by omega)
  refine ⟨x.toNat, y.toNat, by rw [Int.toNat_of_nonneg x0, Int.toNat_of_nonneg (by omega)], by omega, by omega, h _ _ ?_ ?_ ?_ (Nat.gcd_div_gcd_div_gcd_of_pos_right (by omega))⟩
  · have := Nat.div_le_self x.toNat (Nat.gcd x.toNat y.toNat)
    omega
  · exact Nat.div_pos (Nat.le_of_dvd (by omega) (Nat.gcd_dvd_right _ _)) hg
  · have := Nat.div_le_self y.toNat (Nat.gcd x.toNat y.toNat)
    omega
theorem r_law_pair : Rd_law_pair := by
  rintro ds q - ⟨d, n, rfl, hb, hn, hq⟩
  simp [t_law_pair, m_law_pair, m_law_draw, m_law_lowest, m_law_of, Pd.e_tSq, Pd.e_tSqW, Pd.e_tSt, Pd.e_tPm, Pd.asgs, Pd.asg, Pd.escape, Pd.e_tCoB, Pd.e_tCo, Pd.e_tN, Pd.e_tV, Pd.e_tK, Pd.e_tOp2, Pd.e_tOp1, Pd.e_two, Pd.e_one, Pd.content, Pd.slotD, R.seal, Pd.e_ans, Pd.e_tBo, Pd.e_tAn, Pd.e_tOr_, Pd.e_tNo, Pd.e_tAnV, Pd.e_tOrV, Pd.e_tNoV, Pd.e_tIfD, Pd.e_tIfE, Pd.e_tRt, Pd.e_tRtN, Pd.e_tDr, Pd.e_tNx, Pd.e_tBk, Pd.e_tCt, Pd.e_tTr, Pd.truD, Pd.fin_val, Pd.fin_new, Pd.fin_al, Pd.retR, Pd.outsAt, Pd.entry, Pd.argSl, Mode.sl, Out.r, Sl.d, Sl.put, Pd.addD, Pd.intOp, Pd.mulD, Pd.negD, Pd.eqD, Pd.neD, Pd.cmD, Pd.dCm_int, Pd.dCm_str, Pd.dEq_nn, Pd.dEq_ii, Pd.dEq_bb, Pd.dEq_ss, Pd.eqOk_i, Pd.eqOk_b, Pd.eqOk_s, Pd.eqOk_n, Pd.cmOk_i, Pd.cmOk_s, Pd.e_tCl, Pd.passOk, Pd.ioS, Pd.apart, Pd.pass, Pd.pass1, Pd.putO, Pd.e_tL, Pd.e_tT, Pd.escapes, Pd.e_many, Pd.e_tBu, Pd.contents, Pd.lenD, Pd.intD, Pd.boolD, Pd.absD, Pd.listD, Pd.tupleD, Pd.isinD, Pd.allD, Pd.bools, Pd.bitsD, Pd.gcdD, Pd.ixD, Pd.isD, Pd.isNotD, Pd.e_tIsiT, Pd.tyName, Pd.isiT, Pd.tyNames, Pd.cellAt, Pd.putAt, Pd.e_tSI, Pd.e_tSF, Pd.e_tFl, Pd.putN, Pd.putX, Pd.e_tMk, Pd.e_tMkK, Pd.e_mkOk, Pd.e_tClK, Pd.ordK, R.isNon, D.lst?, D.int?, Pd.iterD, Pd.items, Pd.iterK, Pd.seqK, Pd.e_iSeq, Pd.e_iR1, Pd.e_iR2, Pd.e_gN, Pd.e_gCo, Pd.e_gNi, Pd.e_gT, Pd.e_settable, Pd.e_freeOf, Pd.wipeD, Pd.backD, Pd.back1, Pd.e_tSlc, Pd.slD, Pd.e_oN, Pd.e_oS, Pd.atI_nat, Pd.atI_lit, Pd.ixN_nat, Pd.ixN_lit, Pd.fdn, Pd.fmn, Pd.fdl, Pd.fml, Cm.i, Pd.tFo_eq, Pd.tLC_eq, Pd.e_tNv, ↓Pd.got_eqI, Pd.gotI_some, Pd.gotI_none, Pd.sizeS, Pd.sIx0, Pd.dfltI, Pd.e_iZ, Pd.e_tAu, Pd.e_tCM, Pd.e_tCMT, Pd.e_tCh]
  refine draw hb (by omega) (by omega) (by omega) fun d1 k1 hb1 hk1 => ?_
  simp [Pd.e_tSq, Pd.e_tSqW, Pd.e_tSt, Pd.e_tPm, Pd.asgs, Pd.asg, Pd.escape, Pd.e_tCoB, Pd.e_tCo, Pd.e_tN, Pd.e_tV, Pd.e_tK, Pd.e_tOp2, Pd.e_tOp1, Pd.e_two, Pd.e_one, Pd.content, Pd.slotD, R.seal, Pd.e_ans, Pd.e_tBo, Pd.e_tAn, Pd.e_tOr_, Pd.e_tNo, Pd.e_tAnV, Pd.e_tOrV, Pd.e_tNoV, Pd.e_tIfD, Pd.e_tIfE, Pd.e_tRt, Pd.e_tRtN, Pd.e_tDr, Pd.e_tNx, Pd.e_tBk, Pd.e_tCt, Pd.e_tTr, Pd.truD, Pd.fin_val, Pd.fin_new, Pd.fin_al, Pd.retR, Pd.outsAt, Pd.entry, Pd.argSl, Mode.sl, Out.r, Sl.d, Sl.put, Pd.addD, Pd.intOp, Pd.mulD, Pd.negD, Pd.eqD, Pd.neD, Pd.cmD, Pd.dCm_int, Pd.dCm_str, Pd.dEq_nn, Pd.dEq_ii, Pd.dEq_bb, Pd.dEq_ss, Pd.eqOk_i, Pd.eqOk_b, Pd.eqOk_s, Pd.eqOk_n, Pd.cmOk_i, Pd.cmOk_s, Pd.e_tCl, Pd.passOk, Pd.ioS, Pd.apart, Pd.pass, Pd.pass1, Pd.putO, Pd.e_tL, Pd.e_tT, Pd.escapes, Pd.e_many, Pd.e_tBu, Pd.contents, Pd.lenD, Pd.intD, Pd.boolD, Pd.absD, Pd.listD, Pd.tupleD, Pd.isinD, Pd.allD, Pd.bools, Pd.bitsD, Pd.gcdD, Pd.ixD, Pd.isD, Pd.isNotD, Pd.e_tIsiT, Pd.tyName, Pd.isiT, Pd.tyNames, Pd.cellAt, Pd.putAt, Pd.e_tSI, Pd.e_tSF, Pd.e_tFl, Pd.putN, Pd.putX, Pd.e_tMk, Pd.e_tMkK, Pd.e_mkOk, Pd.e_tClK, Pd.ordK, R.isNon, D.lst?, D.int?, Pd.iterD, Pd.items, Pd.iterK, Pd.seqK, Pd.e_iSeq, Pd.e_iR1, Pd.e_iR2, Pd.e_gN, Pd.e_gCo, Pd.e_gNi, Pd.e_gT, Pd.e_settable, Pd.e_freeOf, Pd.wipeD, Pd.backD, Pd.back1, Pd.e_tSlc, Pd.slD, Pd.e_oN, Pd.e_oS, Pd.atI_nat, Pd.atI_lit, Pd.ixN_nat, Pd.ixN_lit, Pd.fdn, Pd.fmn, Pd.fdl, Pd.fml, Cm.i, Pd.tFo_eq, Pd.tLC_eq, Pd.e_tNv, ↓Pd.got_eqI, Pd.gotI_some, Pd.gotI_none, Pd.sizeS, Pd.sIx0, Pd.dfltI, Pd.e_iZ, Pd.e_tAu, Pd.e_tCM, Pd.e_tCMT, Pd.e_tCh]
  split
  · refine draw hb1 (by omega) (by omega) (by omega) fun d2 k2 hb2 hk2 => ?_
    simp [Pd.e_tSq, Pd.e_tSqW, Pd.e_tSt, Pd.e_tPm, Pd.asgs, Pd.asg, Pd.escape, Pd.e_tCoB, Pd.e_tCo, Pd.e_tN, Pd.e_tV, Pd.e_tK, Pd.e_tOp2, Pd.e_tOp1, Pd.e_two, Pd.e_one, Pd.content, Pd.slotD, R.seal, Pd.e_ans, Pd.e_tBo, Pd.e_tAn, Pd.e_tOr_, Pd.e_tNo, Pd.e_tAnV, Pd.e_tOrV, Pd.e_tNoV, Pd.e_tIfD, Pd.e_tIfE, Pd.e_tRt, Pd.e_tRtN, Pd.e_tDr, Pd.e_tNx, Pd.e_tBk, Pd.e_tCt, Pd.e_tTr, Pd.truD, Pd.fin_val, Pd.fin_new, Pd.fin_al, Pd.retR, Pd.outsAt, Pd.entry, Pd.argSl, Mode.sl, Out.r, Sl.d, Sl.put, Pd.addD, Pd.intOp, Pd.mulD, Pd.negD, Pd.eqD, Pd.neD, Pd.cmD, Pd.dCm_int, Pd.dCm_str, Pd.dEq_nn, Pd.dEq_ii, Pd.dEq_bb, Pd.dEq_ss, Pd.eqOk_i, Pd.eqOk_b, Pd.eqOk_s, Pd.eqOk_n, Pd.cmOk_i, Pd.cmOk_s, Pd.e_tCl, Pd.passOk, Pd.ioS, Pd.apart, Pd.pass, Pd.pass1, Pd.putO, Pd.e_tL, Pd.e_tT, Pd.escapes, Pd.e_many, Pd.e_tBu, Pd.contents, Pd.lenD, Pd.intD, Pd.boolD, Pd.absD, Pd.listD, Pd.tupleD, Pd.isinD, Pd.allD, Pd.bools, Pd.bitsD, Pd.gcdD, Pd.ixD, Pd.isD, Pd.isNotD, Pd.e_tIsiT, Pd.tyName, Pd.isiT, Pd.tyNames, Pd.cellAt, Pd.putAt, Pd.e_tSI, Pd.e_tSF, Pd.e_tFl, Pd.putN, Pd.putX, Pd.e_tMk, Pd.e_tMkK, Pd.e_mkOk, Pd.e_tClK, Pd.ordK, R.isNon, D.lst?, D.int?, Pd.iterD, Pd.items, Pd.iterK, Pd.seqK, Pd.e_iSeq, Pd.e_iR1, Pd.e_iR2, Pd.e_gN, Pd.e_gCo, Pd.e_gNi, Pd.e_gT, Pd.e_settable, Pd.e_freeOf, Pd.wipeD, Pd.backD, Pd.back1, Pd.e_tSlc, Pd.slD, Pd.e_oN, Pd.e_oS, Pd.atI_nat, Pd.atI_lit, Pd.ixN_nat, Pd.ixN_lit, Pd.fdn, Pd.fmn, Pd.fdl, Pd.fml, Cm.i, Pd.tFo_eq, Pd.tLC_eq, Pd.e_tNv, ↓Pd.got_eqI, Pd.gotI_some, Pd.gotI_none, Pd.sizeS, Pd.sIx0, Pd.dfltI, Pd.e_iZ, Pd.e_tAu, Pd.e_tCM, Pd.e_tCMT, Pd.e_tCh]
    refine draw hb2 (by omega) (by omega) (by omega) fun d3 k3 hb3 hk3 => ?_
    simp [Pd.e_tSq, Pd.e_tSqW, Pd.e_tSt, Pd.e_tPm, Pd.asgs, Pd.asg, Pd.escape, Pd.e_tCoB, Pd.e_tCo, Pd.e_tN, Pd.e_tV, Pd.e_tK, Pd.e_tOp2, Pd.e_tOp1, Pd.e_two, Pd.e_one, Pd.content, Pd.slotD, R.seal, Pd.e_ans, Pd.e_tBo, Pd.e_tAn, Pd.e_tOr_, Pd.e_tNo, Pd.e_tAnV, Pd.e_tOrV, Pd.e_tNoV, Pd.e_tIfD, Pd.e_tIfE, Pd.e_tRt, Pd.e_tRtN, Pd.e_tDr, Pd.e_tNx, Pd.e_tBk, Pd.e_tCt, Pd.e_tTr, Pd.truD, Pd.fin_val, Pd.fin_new, Pd.fin_al, Pd.retR, Pd.outsAt, Pd.entry, Pd.argSl, Mode.sl, Out.r, Sl.d, Sl.put, Pd.addD, Pd.intOp, Pd.mulD, Pd.negD, Pd.eqD, Pd.neD, Pd.cmD, Pd.dCm_int, Pd.dCm_str, Pd.dEq_nn, Pd.dEq_ii, Pd.dEq_bb, Pd.dEq_ss, Pd.eqOk_i, Pd.eqOk_b, Pd.eqOk_s, Pd.eqOk_n, Pd.cmOk_i, Pd.cmOk_s, Pd.e_tCl, Pd.passOk, Pd.ioS, Pd.apart, Pd.pass, Pd.pass1, Pd.putO, Pd.e_tL, Pd.e_tT, Pd.escapes, Pd.e_many, Pd.e_tBu, Pd.contents, Pd.lenD, Pd.intD, Pd.boolD, Pd.absD, Pd.listD, Pd.tupleD, Pd.isinD, Pd.allD, Pd.bools, Pd.bitsD, Pd.gcdD, Pd.ixD, Pd.isD, Pd.isNotD, Pd.e_tIsiT, Pd.tyName, Pd.isiT, Pd.tyNames, Pd.cellAt, Pd.putAt, Pd.e_tSI, Pd.e_tSF, Pd.e_tFl, Pd.putN, Pd.putX, Pd.e_tMk, Pd.e_tMkK, Pd.e_mkOk, Pd.e_tClK, Pd.ordK, R.isNon, D.lst?, D.int?, Pd.iterD, Pd.items, Pd.iterK, Pd.seqK, Pd.e_iSeq, Pd.e_iR1, Pd.e_iR2, Pd.e_gN, Pd.e_gCo, Pd.e_gNi, Pd.e_gT, Pd.e_settable, Pd.e_freeOf, Pd.wipeD, Pd.backD, Pd.back1, Pd.e_tSlc, Pd.slD, Pd.e_oN, Pd.e_oS, Pd.atI_nat, Pd.atI_lit, Pd.ixN_nat, Pd.ixN_lit, Pd.fdn, Pd.fmn, Pd.fdl, Pd.fml, Cm.i, Pd.tFo_eq, Pd.tLC_eq, Pd.e_tNv, ↓Pd.got_eqI, Pd.gotI_some, Pd.gotI_none, Pd.sizeS, Pd.sIx0, Pd.dfltI, Pd.e_iZ, Pd.e_tAu, Pd.e_tCM, Pd.e_tCMT, Pd.e_tCh]
    refine lowest (by omega) (by omega) (by omega) fun t b h1 h2 h3 h4 => ?_
    simp [Pd.e_tSq, Pd.e_tSqW, Pd.e_tSt, Pd.e_tPm, Pd.asgs, Pd.asg, Pd.escape, Pd.e_tCoB, Pd.e_tCo, Pd.e_tN, Pd.e_tV, Pd.e_tK, Pd.e_tOp2, Pd.e_tOp1, Pd.e_two, Pd.e_one, Pd.content, Pd.slotD, R.seal, Pd.e_ans, Pd.e_tBo, Pd.e_tAn, Pd.e_tOr_, Pd.e_tNo, Pd.e_tAnV, Pd.e_tOrV, Pd.e_tNoV, Pd.e_tIfD, Pd.e_tIfE, Pd.e_tRt, Pd.e_tRtN, Pd.e_tDr, Pd.e_tNx, Pd.e_tBk, Pd.e_tCt, Pd.e_tTr, Pd.truD, Pd.fin_val, Pd.fin_new, Pd.fin_al, Pd.retR, Pd.outsAt, Pd.entry, Pd.argSl, Mode.sl, Out.r, Sl.d, Sl.put, Pd.addD, Pd.intOp, Pd.mulD, Pd.negD, Pd.eqD, Pd.neD, Pd.cmD, Pd.dCm_int, Pd.dCm_str, Pd.dEq_nn, Pd.dEq_ii, Pd.dEq_bb, Pd.dEq_ss, Pd.eqOk_i, Pd.eqOk_b, Pd.eqOk_s, Pd.eqOk_n, Pd.cmOk_i, Pd.cmOk_s, Pd.e_tCl, Pd.passOk, Pd.ioS, Pd.apart, Pd.pass, Pd.pass1, Pd.putO, Pd.e_tL, Pd.e_tT, Pd.escapes, Pd.e_many, Pd.e_tBu, Pd.contents, Pd.lenD, Pd.intD, Pd.boolD, Pd.absD, Pd.listD, Pd.tupleD, Pd.isinD, Pd.allD, Pd.bools, Pd.bitsD, Pd.gcdD, Pd.ixD, Pd.isD, Pd.isNotD, Pd.e_tIsiT, Pd.tyName, Pd.isiT, Pd.tyNames, Pd.cellAt, Pd.putAt, Pd.e_tSI, Pd.e_tSF, Pd.e_tFl, Pd.putN, Pd.putX, Pd.e_tMk, Pd.e_tMkK, Pd.e_mkOk, Pd.e_tClK, Pd.ordK, R.isNon, D.lst?, D.int?, Pd.iterD, Pd.items, Pd.iterK, Pd.seqK, Pd.e_iSeq, Pd.e_iR1, Pd.e_iR2, Pd.e_gN, Pd.e_gCo, Pd.e_gNi, Pd.e_gT, Pd.e_settable, Pd.e_freeOf, Pd.wipeD, Pd.backD, Pd.back1, Pd.e_tSlc, Pd.slD, Pd.e_oN, Pd.e_oS, Pd.atI_nat, Pd.atI_lit, Pd.ixN_nat, Pd.ixN_lit, Pd.fdn, Pd.fmn, Pd.fdl, Pd.fml, Cm.i, Pd.tFo_eq, Pd.tLC_eq, Pd.e_tNv, ↓Pd.got_eqI, Pd.gotI_some, Pd.gotI_none, Pd.sizeS, Pd.sIx0, Pd.dfltI, Pd.e_iZ, Pd.e_tAu, Pd.e_tCM, Pd.e_tCMT, Pd.e_tCh]
    exact hq _ _ _ (hb3.mono (by omega)) (by omega) h2 (by omega) h4
  · refine drawOf hb1 (by omega) ?_ ?_ fun d2 x hb2 hx => ?_
    · decide
    · decide
    simp at hx
    have ok : ∀ t b : Nat, t ≤ 7 → 0 < b → b ≤ 7 → Nat.gcd t b = 1 → fin [Mode.io] q (putO [Sl.io d1] [0] [d2]) (R.val (D.tup [D.int t, D.int b])) := fun t b h1 h2 h3 h4 => by
      simp [Pd.e_tSq, Pd.e_tSqW, Pd.e_tSt, Pd.e_tPm, Pd.asgs, Pd.asg, Pd.escape, Pd.e_tCoB, Pd.e_tCo, Pd.e_tN, Pd.e_tV, Pd.e_tK, Pd.e_tOp2, Pd.e_tOp1, Pd.e_two, Pd.e_one, Pd.content, Pd.slotD, R.seal, Pd.e_ans, Pd.e_tBo, Pd.e_tAn, Pd.e_tOr_, Pd.e_tNo, Pd.e_tAnV, Pd.e_tOrV, Pd.e_tNoV, Pd.e_tIfD, Pd.e_tIfE, Pd.e_tRt, Pd.e_tRtN, Pd.e_tDr, Pd.e_tNx, Pd.e_tBk, Pd.e_tCt, Pd.e_tTr, Pd.truD, Pd.fin_val, Pd.fin_new, Pd.fin_al, Pd.retR, Pd.outsAt, Pd.entry, Pd.argSl, Mode.sl, Out.r, Sl.d, Sl.put, Pd.addD, Pd.intOp, Pd.mulD, Pd.negD, Pd.eqD, Pd.neD, Pd.cmD, Pd.dCm_int, Pd.dCm_str, Pd.dEq_nn, Pd.dEq_ii, Pd.dEq_bb, Pd.dEq_ss, Pd.eqOk_i, Pd.eqOk_b, Pd.eqOk_s, Pd.eqOk_n, Pd.cmOk_i, Pd.cmOk_s, Pd.e_tCl, Pd.passOk, Pd.ioS, Pd.apart, Pd.pass, Pd.pass1, Pd.putO, Pd.e_tL, Pd.e_tT, Pd.escapes, Pd.e_many, Pd.e_tBu, Pd.contents, Pd.lenD, Pd.intD, Pd.boolD, Pd.absD, Pd.listD, Pd.tupleD, Pd.isinD, Pd.allD, Pd.bools, Pd.bitsD, Pd.gcdD, Pd.ixD, Pd.isD, Pd.isNotD, Pd.e_tIsiT, Pd.tyName, Pd.isiT, Pd.tyNames, Pd.cellAt, Pd.putAt, Pd.e_tSI, Pd.e_tSF, Pd.e_tFl, Pd.putN, Pd.putX, Pd.e_tMk, Pd.e_tMkK, Pd.e_mkOk, Pd.e_tClK, Pd.ordK, R.isNon, D.lst?, D.int?, Pd.iterD, Pd.items, Pd.iterK, Pd.seqK, Pd.e_iSeq, Pd.e_iR1, Pd.e_iR2, Pd.e_gN, Pd.e_gCo, Pd.e_gNi, Pd.e_gT, Pd.e_settable, Pd.e_freeOf, Pd.wipeD, Pd.backD, Pd.back1, Pd.e_tSlc, Pd.slD, Pd.e_oN, Pd.e_oS, Pd.atI_nat, Pd.atI_lit, Pd.ixN_nat, Pd.ixN_lit, Pd.fdn, Pd.fmn, Pd.fdl, Pd.fml, Cm.i, Pd.tFo_eq, Pd.tLC_eq, Pd.e_tNv, ↓Pd.got_eqI, Pd.gotI_some, Pd.gotI_none, Pd.sizeS, Pd.sIx0, Pd.dfltI, Pd.e_iZ, Pd.e_tAu, Pd.e_tCM, Pd.e_tCMT, Pd.e_tCh]
      exact hq _ _ _ (hb2.mono (by omega)) h1 h2 h3 h4
    rcases hx with rfl | rfl | rfl | rfl | rfl | rfl | rfl | rfl | rfl | rfl
    · exact ok 1 1 (by decide) (by decide) (by decide) (by decide)
    · exact ok 1 2 (by decide) (by decide) (by decide) (by decide)
    · exact ok 0 1 (by decide) (by decide) (by decide) (by decide)
    · exact ok 3 2 (by decide) (by decide) (by decide) (by decide)
    · exact ok 2 1 (by decide) (by decide) (by decide) (by decide)
    · exact ok 1 4 (by decide) (by decide) (by decide) (by decide)
    · exact ok 5 3 (by decide) (by decide) (by decide) (by decide)
    · exact ok 2 3 (by decide) (by decide) (by decide) (by decide)
    · exact ok 7 5 (by decide) (by decide) (by decide) (by decide)
    · exact ok 1 7 (by decide) (by decide) (by decide) (by decide)
theorem r_law_root : Rd_law_root := by
  rintro ds q - ⟨i, p, k, rfl, hk, hk2, hp, hq⟩
  simp [t_law_root, m_law_root, m_least_root, Pd.e_tSq, Pd.e_tSqW, Pd.e_tSt, Pd.e_tPm, Pd.asgs, Pd.asg, Pd.escape, Pd.e_tCoB, Pd.e_tCo, Pd.e_tN, Pd.e_tV, Pd.e_tK, Pd.e_tOp2, Pd.e_tOp1, Pd.e_two, Pd.e_one, Pd.content, Pd.slotD, R.seal, Pd.e_ans, Pd.e_tBo, Pd.e_tAn, Pd.e_tOr_, Pd.e_tNo, Pd.e_tAnV, Pd.e_tOrV, Pd.e_tNoV, Pd.e_tIfD, Pd.e_tIfE, Pd.e_tRt, Pd.e_tRtN, Pd.e_tDr, Pd.e_tNx, Pd.e_tBk, Pd.e_tCt, Pd.e_tTr, Pd.truD, Pd.fin_val, Pd.fin_new, Pd.fin_al, Pd.retR, Pd.outsAt, Pd.entry, Pd.argSl, Mode.sl, Out.r, Sl.d, Sl.put, Pd.addD, Pd.intOp, Pd.mulD, Pd.negD, Pd.eqD, Pd.neD, Pd.cmD, Pd.dCm_int, Pd.dCm_str, Pd.dEq_nn, Pd.dEq_ii, Pd.dEq_bb, Pd.dEq_ss, Pd.eqOk_i, Pd.eqOk_b, Pd.eqOk_s, Pd.eqOk_n, Pd.cmOk_i, Pd.cmOk_s, Pd.e_tCl, Pd.passOk, Pd.ioS, Pd.apart, Pd.pass, Pd.pass1, Pd.putO, Pd.e_tL, Pd.e_tT, Pd.escapes, Pd.e_many, Pd.e_tBu, Pd.contents, Pd.lenD, Pd.intD, Pd.boolD, Pd.absD, Pd.listD, Pd.tupleD, Pd.isinD, Pd.allD, Pd.bools, Pd.bitsD, Pd.gcdD, Pd.ixD, Pd.isD, Pd.isNotD, Pd.e_tIsiT, Pd.tyName, Pd.isiT, Pd.tyNames, Pd.cellAt, Pd.putAt, Pd.e_tSI, Pd.e_tSF, Pd.e_tFl, Pd.putN, Pd.putX, Pd.e_tMk, Pd.e_tMkK, Pd.e_mkOk, Pd.e_tClK, Pd.ordK, R.isNon, D.lst?, D.int?, Pd.iterD, Pd.items, Pd.iterK, Pd.seqK, Pd.e_iSeq, Pd.e_iR1, Pd.e_iR2, Pd.e_gN, Pd.e_gCo, Pd.e_gNi, Pd.e_gT, Pd.e_settable, Pd.e_freeOf, Pd.wipeD, Pd.backD, Pd.back1, Pd.e_tSlc, Pd.slD, Pd.e_oN, Pd.e_oS, Pd.atI_nat, Pd.atI_lit, Pd.ixN_nat, Pd.ixN_lit, Pd.fdn, Pd.fmn, Pd.fdl, Pd.fml, Cm.i, Pd.tFo_eq, Pd.tLC_eq, Pd.e_tNv, ↓Pd.got_eqI, Pd.gotI_some, Pd.gotI_none, Pd.sizeS, Pd.sIx0, Pd.dfltI, Pd.e_iZ, Pd.e_tAu, Pd.e_tCM, Pd.e_tCMT, Pd.e_tCh]
  have ok : sp_least_root [.int p, .int k] fun os r => fin [Mode.v, Mode.v, Mode.v] q [Sl.val (D.int i), Sl.val (D.int p), Sl.val (D.int k)] r := ⟨p, k, rfl, hk, hk2, lt35 hp, fun r hr => by
    simp [Pd.e_tSq, Pd.e_tSqW, Pd.e_tSt, Pd.e_tPm, Pd.asgs, Pd.asg, Pd.escape, Pd.e_tCoB, Pd.e_tCo, Pd.e_tN, Pd.e_tV, Pd.e_tK, Pd.e_tOp2, Pd.e_tOp1, Pd.e_two, Pd.e_one, Pd.content, Pd.slotD, R.seal, Pd.e_ans, Pd.e_tBo, Pd.e_tAn, Pd.e_tOr_, Pd.e_tNo, Pd.e_tAnV, Pd.e_tOrV, Pd.e_tNoV, Pd.e_tIfD, Pd.e_tIfE, Pd.e_tRt, Pd.e_tRtN, Pd.e_tDr, Pd.e_tNx, Pd.e_tBk, Pd.e_tCt, Pd.e_tTr, Pd.truD, Pd.fin_val, Pd.fin_new, Pd.fin_al, Pd.retR, Pd.outsAt, Pd.entry, Pd.argSl, Mode.sl, Out.r, Sl.d, Sl.put, Pd.addD, Pd.intOp, Pd.mulD, Pd.negD, Pd.eqD, Pd.neD, Pd.cmD, Pd.dCm_int, Pd.dCm_str, Pd.dEq_nn, Pd.dEq_ii, Pd.dEq_bb, Pd.dEq_ss, Pd.eqOk_i, Pd.eqOk_b, Pd.eqOk_s, Pd.eqOk_n, Pd.cmOk_i, Pd.cmOk_s, Pd.e_tCl, Pd.passOk, Pd.ioS, Pd.apart, Pd.pass, Pd.pass1, Pd.putO, Pd.e_tL, Pd.e_tT, Pd.escapes, Pd.e_many, Pd.e_tBu, Pd.contents, Pd.lenD, Pd.intD, Pd.boolD, Pd.absD, Pd.listD, Pd.tupleD, Pd.isinD, Pd.allD, Pd.bools, Pd.bitsD, Pd.gcdD, Pd.ixD, Pd.isD, Pd.isNotD, Pd.e_tIsiT, Pd.tyName, Pd.isiT, Pd.tyNames, Pd.cellAt, Pd.putAt, Pd.e_tSI, Pd.e_tSF, Pd.e_tFl, Pd.putN, Pd.putX, Pd.e_tMk, Pd.e_tMkK, Pd.e_mkOk, Pd.e_tClK, Pd.ordK, R.isNon, D.lst?, D.int?, Pd.iterD, Pd.items, Pd.iterK, Pd.seqK, Pd.e_iSeq, Pd.e_iR1, Pd.e_iR2, Pd.e_gN, Pd.e_gCo, Pd.e_gNi, Pd.e_gT, Pd.e_settable, Pd.e_freeOf, Pd.wipeD, Pd.backD, Pd.back1, Pd.e_tSlc, Pd.slD, Pd.e_oN, Pd.e_oS, Pd.atI_nat, Pd.atI_lit, Pd.ixN_nat, Pd.ixN_lit, Pd.fdn, Pd.fmn, Pd.fdl, Pd.fml, Cm.i, Pd.tFo_eq, Pd.tLC_eq, Pd.e_tNv, ↓Pd.got_eqI, Pd.gotI_some, Pd.gotI_none, Pd.sizeS, Pd.sIx0, Pd.dfltI, Pd.e_iZ, Pd.e_tAu, Pd.e_tCM, Pd.e_tCMT, Pd.e_tCh]
    exact hq r hr⟩
  exact ok
theorem pow6 (i : Nat) : 10 ^ (9 + 6 * (i + 1)) = 10 ^ (9 + 6 * i) * 1000000 := by
  rw [show 9 + 6 * (i + 1) = (9 + 6 * i) + 6 by omega, Nat.pow_add]
theorem step6 {m k X : Nat} (h : m < X) (hk : k < 1000000) : m * 1000000 + k < X * 1000000 := by omega
def GreatP (n k1 k3 : Nat) (i : Nat) (e : Pd.Env) : Prop := i ≤ k3 ∧ ∃ (d' : D) (m : Nat) (u : Sl), BagOk (n + 3 + i) d' ∧ m < 10 ^ (9 + 6 * i) ∧ (u = .un ∨ ∃ z, u = .val z) ∧ e = [.io d', .val (.int k1), .val (.int m), u]
theorem r_law_great : Rd_law_great := by
  rintro ds q - ⟨d, n, rfl, hb, hn, hq⟩
  simp [t_law_great, m_law_great, m_law_draw, Pd.e_tSq, Pd.e_tSqW, Pd.e_tSt, Pd.e_tPm, Pd.asgs, Pd.asg, Pd.escape, Pd.e_tCoB, Pd.e_tCo, Pd.e_tN, Pd.e_tV, Pd.e_tK, Pd.e_tOp2, Pd.e_tOp1, Pd.e_two, Pd.e_one, Pd.content, Pd.slotD, R.seal, Pd.e_ans, Pd.e_tBo, Pd.e_tAn, Pd.e_tOr_, Pd.e_tNo, Pd.e_tAnV, Pd.e_tOrV, Pd.e_tNoV, Pd.e_tIfD, Pd.e_tIfE, Pd.e_tRt, Pd.e_tRtN, Pd.e_tDr, Pd.e_tNx, Pd.e_tBk, Pd.e_tCt, Pd.e_tTr, Pd.truD, Pd.fin_val, Pd.fin_new, Pd.fin_al, Pd.retR, Pd.outsAt, Pd.entry, Pd.argSl, Mode.sl, Out.r, Sl.d, Sl.put, Pd.addD, Pd.intOp, Pd.mulD, Pd.negD, Pd.eqD, Pd.neD, Pd.cmD, Pd.dCm_int, Pd.dCm_str, Pd.dEq_nn, Pd.dEq_ii, Pd.dEq_bb, Pd.dEq_ss, Pd.eqOk_i, Pd.eqOk_b, Pd.eqOk_s, Pd.eqOk_n, Pd.cmOk_i, Pd.cmOk_s, Pd.e_tCl, Pd.passOk, Pd.ioS, Pd.apart, Pd.pass, Pd.pass1, Pd.putO, Pd.e_tL, Pd.e_tT, Pd.escapes, Pd.e_many, Pd.e_tBu, Pd.contents, Pd.lenD, Pd.intD, Pd.boolD, Pd.absD, Pd.listD, Pd.tupleD, Pd.isinD, Pd.allD, Pd.bools, Pd.bitsD, Pd.gcdD, Pd.ixD, Pd.isD, Pd.isNotD, Pd.e_tIsiT, Pd.tyName, Pd.isiT, Pd.tyNames, Pd.cellAt, Pd.putAt, Pd.e_tSI, Pd.e_tSF, Pd.e_tFl, Pd.putN, Pd.putX, Pd.e_tMk, Pd.e_tMkK, Pd.e_mkOk, Pd.e_tClK, Pd.ordK, R.isNon, D.lst?, D.int?, Pd.iterD, Pd.items, Pd.iterK, Pd.seqK, Pd.e_iSeq, Pd.e_iR1, Pd.e_iR2, Pd.e_gN, Pd.e_gCo, Pd.e_gNi, Pd.e_gT, Pd.e_settable, Pd.e_freeOf, Pd.wipeD, Pd.backD, Pd.back1, Pd.e_tSlc, Pd.slD, Pd.e_oN, Pd.e_oS, Pd.atI_nat, Pd.atI_lit, Pd.ixN_nat, Pd.ixN_lit, Pd.fdn, Pd.fmn, Pd.fdl, Pd.fml, Cm.i, Pd.tFo_eq, Pd.tLC_eq, Pd.e_tNv, ↓Pd.got_eqI, Pd.gotI_some, Pd.gotI_none, Pd.sizeS, Pd.sIx0, Pd.dfltI, Pd.e_iZ, Pd.e_tAu, Pd.e_tCM, Pd.e_tCMT, Pd.e_tCh]
  refine draw hb (by omega) (by omega) (by omega) fun d1 k1 hb1 hk1 => ?_
  have e : ∃ s : Nat, [D.int 2, D.int 4, D.int 10, D.int 40, D.int 300, D.int 5000, D.int 1000000000, D.int 1000000000][k1]? = some (.int s) ∧ 0 < s ∧ s ≤ 1000000000 := by
    rcases k1 with _ | _ | _ | _ | _ | _ | _ | _ | k
    · exact ⟨2, rfl, by omega, by omega⟩
    · exact ⟨4, rfl, by omega, by omega⟩
    · exact ⟨10, rfl, by omega, by omega⟩
    · exact ⟨40, rfl, by omega, by omega⟩
    · exact ⟨300, rfl, by omega, by omega⟩
    · exact ⟨5000, rfl, by omega, by omega⟩
    · exact ⟨1000000000, rfl, by omega, by omega⟩
    · exact ⟨1000000000, rfl, by omega, by omega⟩
    · omega
  obtain ⟨s, e, s0, s1⟩ := e
  simp [Pd.e_tSq, Pd.e_tSqW, Pd.e_tSt, Pd.e_tPm, Pd.asgs, Pd.asg, Pd.escape, Pd.e_tCoB, Pd.e_tCo, Pd.e_tN, Pd.e_tV, Pd.e_tK, Pd.e_tOp2, Pd.e_tOp1, Pd.e_two, Pd.e_one, Pd.content, Pd.slotD, R.seal, Pd.e_ans, Pd.e_tBo, Pd.e_tAn, Pd.e_tOr_, Pd.e_tNo, Pd.e_tAnV, Pd.e_tOrV, Pd.e_tNoV, Pd.e_tIfD, Pd.e_tIfE, Pd.e_tRt, Pd.e_tRtN, Pd.e_tDr, Pd.e_tNx, Pd.e_tBk, Pd.e_tCt, Pd.e_tTr, Pd.truD, Pd.fin_val, Pd.fin_new, Pd.fin_al, Pd.retR, Pd.outsAt, Pd.entry, Pd.argSl, Mode.sl, Out.r, Sl.d, Sl.put, Pd.addD, Pd.intOp, Pd.mulD, Pd.negD, Pd.eqD, Pd.neD, Pd.cmD, Pd.dCm_int, Pd.dCm_str, Pd.dEq_nn, Pd.dEq_ii, Pd.dEq_bb, Pd.dEq_ss, Pd.eqOk_i, Pd.eqOk_b, Pd.eqOk_s, Pd.eqOk_n, Pd.cmOk_i, Pd.cmOk_s, Pd.e_tCl, Pd.passOk, Pd.ioS, Pd.apart, Pd.pass, Pd.pass1, Pd.putO, Pd.e_tL, Pd.e_tT, Pd.escapes, Pd.e_many, Pd.e_tBu, Pd.contents, Pd.lenD, Pd.intD, Pd.boolD, Pd.absD, Pd.listD, Pd.tupleD, Pd.isinD, Pd.allD, Pd.bools, Pd.bitsD, Pd.gcdD, Pd.ixD, Pd.isD, Pd.isNotD, Pd.e_tIsiT, Pd.tyName, Pd.isiT, Pd.tyNames, Pd.cellAt, Pd.putAt, Pd.e_tSI, Pd.e_tSF, Pd.e_tFl, Pd.putN, Pd.putX, Pd.e_tMk, Pd.e_tMkK, Pd.e_mkOk, Pd.e_tClK, Pd.ordK, R.isNon, D.lst?, D.int?, Pd.iterD, Pd.items, Pd.iterK, Pd.seqK, Pd.e_iSeq, Pd.e_iR1, Pd.e_iR2, Pd.e_gN, Pd.e_gCo, Pd.e_gNi, Pd.e_gT, Pd.e_settable, Pd.e_freeOf, Pd.wipeD, Pd.backD, Pd.back1, Pd.e_tSlc, Pd.slD, Pd.e_oN, Pd.e_oS, Pd.atI_nat, Pd.atI_lit, Pd.ixN_nat, Pd.ixN_lit, Pd.fdn, Pd.fmn, Pd.fdl, Pd.fml, Cm.i, Pd.tFo_eq, Pd.tLC_eq, Pd.e_tNv, ↓Pd.got_eqI, Pd.gotI_some, Pd.gotI_none, Pd.sizeS, Pd.sIx0, Pd.dfltI, Pd.e_iZ, Pd.e_tAu, Pd.e_tCM, Pd.e_tCMT, Pd.e_tCh, e]
  refine draw hb1 (by omega) (by omega) (by omega) fun d2 k2 hb2 hk2 => ?_
  simp [Pd.e_tSq, Pd.e_tSqW, Pd.e_tSt, Pd.e_tPm, Pd.asgs, Pd.asg, Pd.escape, Pd.e_tCoB, Pd.e_tCo, Pd.e_tN, Pd.e_tV, Pd.e_tK, Pd.e_tOp2, Pd.e_tOp1, Pd.e_two, Pd.e_one, Pd.content, Pd.slotD, R.seal, Pd.e_ans, Pd.e_tBo, Pd.e_tAn, Pd.e_tOr_, Pd.e_tNo, Pd.e_tAnV, Pd.e_tOrV, Pd.e_tNoV, Pd.e_tIfD, Pd.e_tIfE, Pd.e_tRt, Pd.e_tRtN, Pd.e_tDr, Pd.e_tNx, Pd.e_tBk, Pd.e_tCt, Pd.e_tTr, Pd.truD, Pd.fin_val, Pd.fin_new, Pd.fin_al, Pd.retR, Pd.outsAt, Pd.entry, Pd.argSl, Mode.sl, Out.r, Sl.d, Sl.put, Pd.addD, Pd.intOp, Pd.mulD, Pd.negD, Pd.eqD, Pd.neD, Pd.cmD, Pd.dCm_int, Pd.dCm_str, Pd.dEq_nn, Pd.dEq_ii, Pd.dEq_bb, Pd.dEq_ss, Pd.eqOk_i, Pd.eqOk_b, Pd.eqOk_s, Pd.eqOk_n, Pd.cmOk_i, Pd.cmOk_s, Pd.e_tCl, Pd.passOk, Pd.ioS, Pd.apart, Pd.pass, Pd.pass1, Pd.putO, Pd.e_tL, Pd.e_tT, Pd.escapes, Pd.e_many, Pd.e_tBu, Pd.contents, Pd.lenD, Pd.intD, Pd.boolD, Pd.absD, Pd.listD, Pd.tupleD, Pd.isinD, Pd.allD, Pd.bools, Pd.bitsD, Pd.gcdD, Pd.ixD, Pd.isD, Pd.isNotD, Pd.e_tIsiT, Pd.tyName, Pd.isiT, Pd.tyNames, Pd.cellAt, Pd.putAt, Pd.e_tSI, Pd.e_tSF, Pd.e_tFl, Pd.putN, Pd.putX, Pd.e_tMk, Pd.e_tMkK, Pd.e_mkOk, Pd.e_tClK, Pd.ordK, R.isNon, D.lst?, D.int?, Pd.iterD, Pd.items, Pd.iterK, Pd.seqK, Pd.e_iSeq, Pd.e_iR1, Pd.e_iR2, Pd.e_gN, Pd.e_gCo, Pd.e_gNi, Pd.e_gT, Pd.e_settable, Pd.e_freeOf, Pd.wipeD, Pd.backD, Pd.back1, Pd.e_tSlc, Pd.slD, Pd.e_oN, Pd.e_oS, Pd.atI_nat, Pd.atI_lit, Pd.ixN_nat, Pd.ixN_lit, Pd.fdn, Pd.fmn, Pd.fdl, Pd.fml, Cm.i, Pd.tFo_eq, Pd.tLC_eq, Pd.e_tNv, ↓Pd.got_eqI, Pd.gotI_some, Pd.gotI_none, Pd.sizeS, Pd.sIx0, Pd.dfltI, Pd.e_iZ, Pd.e_tAu, Pd.e_tCM, Pd.e_tCMT, Pd.e_tCh]
  split
  · refine draw hb2 (by omega) (by omega) (by omega) fun d3 k3 hb3 hk3 => ?_
    simp [Pd.e_tSq, Pd.e_tSqW, Pd.e_tSt, Pd.e_tPm, Pd.asgs, Pd.asg, Pd.escape, Pd.e_tCoB, Pd.e_tCo, Pd.e_tN, Pd.e_tV, Pd.e_tK, Pd.e_tOp2, Pd.e_tOp1, Pd.e_two, Pd.e_one, Pd.content, Pd.slotD, R.seal, Pd.e_ans, Pd.e_tBo, Pd.e_tAn, Pd.e_tOr_, Pd.e_tNo, Pd.e_tAnV, Pd.e_tOrV, Pd.e_tNoV, Pd.e_tIfD, Pd.e_tIfE, Pd.e_tRt, Pd.e_tRtN, Pd.e_tDr, Pd.e_tNx, Pd.e_tBk, Pd.e_tCt, Pd.e_tTr, Pd.truD, Pd.fin_val, Pd.fin_new, Pd.fin_al, Pd.retR, Pd.outsAt, Pd.entry, Pd.argSl, Mode.sl, Out.r, Sl.d, Sl.put, Pd.addD, Pd.intOp, Pd.mulD, Pd.negD, Pd.eqD, Pd.neD, Pd.cmD, Pd.dCm_int, Pd.dCm_str, Pd.dEq_nn, Pd.dEq_ii, Pd.dEq_bb, Pd.dEq_ss, Pd.eqOk_i, Pd.eqOk_b, Pd.eqOk_s, Pd.eqOk_n, Pd.cmOk_i, Pd.cmOk_s, Pd.e_tCl, Pd.passOk, Pd.ioS, Pd.apart, Pd.pass, Pd.pass1, Pd.putO, Pd.e_tL, Pd.e_tT, Pd.escapes, Pd.e_many, Pd.e_tBu, Pd.contents, Pd.lenD, Pd.intD, Pd.boolD, Pd.absD, Pd.listD, Pd.tupleD, Pd.isinD, Pd.allD, Pd.bools, Pd.bitsD, Pd.gcdD, Pd.ixD, Pd.isD, Pd.isNotD, Pd.e_tIsiT, Pd.tyName, Pd.isiT, Pd.tyNames, Pd.cellAt, Pd.putAt, Pd.e_tSI, Pd.e_tSF, Pd.e_tFl, Pd.putN, Pd.putX, Pd.e_tMk, Pd.e_tMkK, Pd.e_mkOk, Pd.e_tClK, Pd.ordK, R.isNon, D.lst?, D.int?, Pd.iterD, Pd.items, Pd.iterK, Pd.seqK, Pd.e_iSeq, Pd.e_iR1, Pd.e_iR2, Pd.e_gN, Pd.e_gCo, Pd.e_gNi, Pd.e_gT, Pd.e_settable, Pd.e_freeOf, Pd.wipeD, Pd.backD, Pd.back1, Pd.e_tSlc, Pd.slD, Pd.e_oN, Pd.e_oS, Pd.atI_nat, Pd.atI_lit, Pd.ixN_nat, Pd.ixN_lit, Pd.fdn, Pd.fmn, Pd.fdl, Pd.fml, Cm.i, Pd.tFo_eq, Pd.tLC_eq, Pd.e_tNv, ↓Pd.got_eqI, Pd.gotI_some, Pd.gotI_none, Pd.sizeS, Pd.sIx0, Pd.dfltI, Pd.e_iZ, Pd.e_tAu, Pd.e_tCM, Pd.e_tCMT, Pd.e_tCh]
    refine ⟨⟨by omega, by omega⟩, GreatP n k1 k3, ⟨by omega, d3, k2, .un, hb3.mono (by omega), by omega, .inl rfl, rfl⟩, ?_, ?_⟩
    · rintro i d _ hd ⟨hi, d', m, u, hb', hm, hu, rfl⟩
      obtain ⟨rfl, hi⟩ := rangeD_get hd
      have hm2 : m < 10 ^ 39 := Nat.lt_of_lt_of_le hm (Nat.pow_le_pow_right (by decide) (by omega))
      have c1 : CMulX (m : Int) 1000000 := cmul_of (p := 130) (r := 20) (by omega) (by decide) (by decide)
      have c2 : m * 1000000 < 10 ^ (9 + 6 * i) * 1000000 := by omega
      rcases hu with rfl | ⟨z, rfl⟩
      all_goals
        simp [Pd.e_tSq, Pd.e_tSqW, Pd.e_tSt, Pd.e_tPm, Pd.asgs, Pd.asg, Pd.escape, Pd.e_tCoB, Pd.e_tCo, Pd.e_tN, Pd.e_tV, Pd.e_tK, Pd.e_tOp2, Pd.e_tOp1, Pd.e_two, Pd.e_one, Pd.content, Pd.slotD, R.seal, Pd.e_ans, Pd.e_tBo, Pd.e_tAn, Pd.e_tOr_, Pd.e_tNo, Pd.e_tAnV, Pd.e_tOrV, Pd.e_tNoV, Pd.e_tIfD, Pd.e_tIfE, Pd.e_tRt, Pd.e_tRtN, Pd.e_tDr, Pd.e_tNx, Pd.e_tBk, Pd.e_tCt, Pd.e_tTr, Pd.truD, Pd.fin_val, Pd.fin_new, Pd.fin_al, Pd.retR, Pd.outsAt, Pd.entry, Pd.argSl, Mode.sl, Out.r, Sl.d, Sl.put, Pd.addD, Pd.intOp, Pd.mulD, Pd.negD, Pd.eqD, Pd.neD, Pd.cmD, Pd.dCm_int, Pd.dCm_str, Pd.dEq_nn, Pd.dEq_ii, Pd.dEq_bb, Pd.dEq_ss, Pd.eqOk_i, Pd.eqOk_b, Pd.eqOk_s, Pd.eqOk_n, Pd.cmOk_i, Pd.cmOk_s, Pd.e_tCl, Pd.passOk, Pd.ioS, Pd.apart, Pd.pass, Pd.pass1, Pd.putO, Pd.e_tL, Pd.e_tT, Pd.escapes, Pd.e_many, Pd.e_tBu, Pd.contents, Pd.lenD, Pd.intD, Pd.boolD, Pd.absD, Pd.listD, Pd.tupleD, Pd.isinD, Pd.allD, Pd.bools, Pd.bitsD, Pd.gcdD, Pd.ixD, Pd.isD, Pd.isNotD, Pd.e_tIsiT, Pd.tyName, Pd.isiT, Pd.tyNames, Pd.cellAt, Pd.putAt, Pd.e_tSI, Pd.e_tSF, Pd.e_tFl, Pd.putN, Pd.putX, Pd.e_tMk, Pd.e_tMkK, Pd.e_mkOk, Pd.e_tClK, Pd.ordK, R.isNon, D.lst?, D.int?, Pd.iterD, Pd.items, Pd.iterK, Pd.seqK, Pd.e_iSeq, Pd.e_iR1, Pd.e_iR2, Pd.e_gN, Pd.e_gCo, Pd.e_gNi, Pd.e_gT, Pd.e_settable, Pd.e_freeOf, Pd.wipeD, Pd.backD, Pd.back1, Pd.e_tSlc, Pd.slD, Pd.e_oN, Pd.e_oS, Pd.atI_nat, Pd.atI_lit, Pd.ixN_nat, Pd.ixN_lit, Pd.fdn, Pd.fmn, Pd.fdl, Pd.fml, Cm.i, Pd.tFo_eq, Pd.tLC_eq, Pd.e_tNv, ↓Pd.got_eqI, Pd.gotI_some, Pd.gotI_none, Pd.sizeS, Pd.sIx0, Pd.dfltI, Pd.e_iZ, Pd.e_tAu, Pd.e_tCM, Pd.e_tCMT, Pd.e_tCh, c1]
        refine draw hb' (by omega) (by omega) (by omega) fun d4 k4 hb4 hk4 => ?_
        simp [Pd.e_tSq, Pd.e_tSqW, Pd.e_tSt, Pd.e_tPm, Pd.asgs, Pd.asg, Pd.escape, Pd.e_tCoB, Pd.e_tCo, Pd.e_tN, Pd.e_tV, Pd.e_tK, Pd.e_tOp2, Pd.e_tOp1, Pd.e_two, Pd.e_one, Pd.content, Pd.slotD, R.seal, Pd.e_ans, Pd.e_tBo, Pd.e_tAn, Pd.e_tOr_, Pd.e_tNo, Pd.e_tAnV, Pd.e_tOrV, Pd.e_tNoV, Pd.e_tIfD, Pd.e_tIfE, Pd.e_tRt, Pd.e_tRtN, Pd.e_tDr, Pd.e_tNx, Pd.e_tBk, Pd.e_tCt, Pd.e_tTr, Pd.truD, Pd.fin_val, Pd.fin_new, Pd.fin_al, Pd.retR, Pd.outsAt, Pd.entry, Pd.argSl, Mode.sl, Out.r, Sl.d, Sl.put, Pd.addD, Pd.intOp, Pd.mulD, Pd.negD, Pd.eqD, Pd.neD, Pd.cmD, Pd.dCm_int, Pd.dCm_str, Pd.dEq_nn, Pd.dEq_ii, Pd.dEq_bb, Pd.dEq_ss, Pd.eqOk_i, Pd.eqOk_b, Pd.eqOk_s, Pd.eqOk_n, Pd.cmOk_i, Pd.cmOk_s, Pd.e_tCl, Pd.passOk, Pd.ioS, Pd.apart, Pd.pass, Pd.pass1, Pd.putO, Pd.e_tL, Pd.e_tT, Pd.escapes, Pd.e_many, Pd.e_tBu, Pd.contents, Pd.lenD, Pd.intD, Pd.boolD, Pd.absD, Pd.listD, Pd.tupleD, Pd.isinD, Pd.allD, Pd.bools, Pd.bitsD, Pd.gcdD, Pd.ixD, Pd.isD, Pd.isNotD, Pd.e_tIsiT, Pd.tyName, Pd.isiT, Pd.tyNames, Pd.cellAt, Pd.putAt, Pd.e_tSI, Pd.e_tSF, Pd.e_tFl, Pd.putN, Pd.putX, Pd.e_tMk, Pd.e_tMkK, Pd.e_mkOk, Pd.e_tClK, Pd.ordK, R.isNon, D.lst?, D.int?, Pd.iterD, Pd.items, Pd.iterK, Pd.seqK, Pd.e_iSeq, Pd.e_iR1, Pd.e_iR2, Pd.e_gN, Pd.e_gCo, Pd.e_gNi, Pd.e_gT, Pd.e_settable, Pd.e_freeOf, Pd.wipeD, Pd.backD, Pd.back1, Pd.e_tSlc, Pd.slD, Pd.e_oN, Pd.e_oS, Pd.atI_nat, Pd.atI_lit, Pd.ixN_nat, Pd.ixN_lit, Pd.fdn, Pd.fmn, Pd.fdl, Pd.fml, Cm.i, Pd.tFo_eq, Pd.tLC_eq, Pd.e_tNv, ↓Pd.got_eqI, Pd.gotI_some, Pd.gotI_none, Pd.sizeS, Pd.sIx0, Pd.dfltI, Pd.e_iZ, Pd.e_tAu, Pd.e_tCM, Pd.e_tCMT, Pd.e_tCh]
        exact ⟨by omega, d4, m * 1000000 + k4, .val (.int (i : Int)), hb4, by rw [pow6]; exact step6 hm (by omega), .inr ⟨_, rfl⟩, by simp⟩
    · rintro _ ⟨hi, d', m, u, hb', hm, hu, rfl⟩
      have hm2 : m < 10 ^ 39 := Nat.lt_of_lt_of_le hm (Nat.pow_le_pow_right (by decide) (by rw [rangeD_len]; omega))
      rw [rangeD_len] at hb'
      simp [Pd.e_tSq, Pd.e_tSqW, Pd.e_tSt, Pd.e_tPm, Pd.asgs, Pd.asg, Pd.escape, Pd.e_tCoB, Pd.e_tCo, Pd.e_tN, Pd.e_tV, Pd.e_tK, Pd.e_tOp2, Pd.e_tOp1, Pd.e_two, Pd.e_one, Pd.content, Pd.slotD, R.seal, Pd.e_ans, Pd.e_tBo, Pd.e_tAn, Pd.e_tOr_, Pd.e_tNo, Pd.e_tAnV, Pd.e_tOrV, Pd.e_tNoV, Pd.e_tIfD, Pd.e_tIfE, Pd.e_tRt, Pd.e_tRtN, Pd.e_tDr, Pd.e_tNx, Pd.e_tBk, Pd.e_tCt, Pd.e_tTr, Pd.truD, Pd.fin_val, Pd.fin_new, Pd.fin_al, Pd.retR, Pd.outsAt, Pd.entry, Pd.argSl, Mode.sl, Out.r, Sl.d, Sl.put, Pd.addD, Pd.intOp, Pd.mulD, Pd.negD, Pd.eqD, Pd.neD, Pd.cmD, Pd.dCm_int, Pd.dCm_str, Pd.dEq_nn, Pd.dEq_ii, Pd.dEq_bb, Pd.dEq_ss, Pd.eqOk_i, Pd.eqOk_b, Pd.eqOk_s, Pd.eqOk_n, Pd.cmOk_i, Pd.cmOk_s, Pd.e_tCl, Pd.passOk, Pd.ioS, Pd.apart, Pd.pass, Pd.pass1, Pd.putO, Pd.e_tL, Pd.e_tT, Pd.escapes, Pd.e_many, Pd.e_tBu, Pd.contents, Pd.lenD, Pd.intD, Pd.boolD, Pd.absD, Pd.listD, Pd.tupleD, Pd.isinD, Pd.allD, Pd.bools, Pd.bitsD, Pd.gcdD, Pd.ixD, Pd.isD, Pd.isNotD, Pd.e_tIsiT, Pd.tyName, Pd.isiT, Pd.tyNames, Pd.cellAt, Pd.putAt, Pd.e_tSI, Pd.e_tSF, Pd.e_tFl, Pd.putN, Pd.putX, Pd.e_tMk, Pd.e_tMkK, Pd.e_mkOk, Pd.e_tClK, Pd.ordK, R.isNon, D.lst?, D.int?, Pd.iterD, Pd.items, Pd.iterK, Pd.seqK, Pd.e_iSeq, Pd.e_iR1, Pd.e_iR2, Pd.e_gN, Pd.e_gCo, Pd.e_gNi, Pd.e_gT, Pd.e_settable, Pd.e_freeOf, Pd.wipeD, Pd.backD, Pd.back1, Pd.e_tSlc, Pd.slD, Pd.e_oN, Pd.e_oS, Pd.atI_nat, Pd.atI_lit, Pd.ixN_nat, Pd.ixN_lit, Pd.fdn, Pd.fmn, Pd.fdl, Pd.fml, Cm.i, Pd.tFo_eq, Pd.tLC_eq, Pd.e_tNv, ↓Pd.got_eqI, Pd.gotI_some, Pd.gotI_none, Pd.sizeS, Pd.sIx0, Pd.dfltI, Pd.e_iZ, Pd.e_tAu, Pd.e_tCM, Pd.e_tCMT, Pd.e_tCh]
      exact hq _ _ (hb'.mono (by omega)) hm2
  · exact hq _ _ (hb2.mono (by omega)) (by omega)

end LW

set_option Elab.async false
set_option linter.all false
set_option maxRecDepth 100000
set_option maxHeartbeats 0
namespace LW
open PySem PySem.Spec PyProof.Rows L2 Pd
/-! ### roots: plain laws -/
theorem two_sq (r g : Nat) : 2 * (r * g) ≤ r * r + g * g := by
  rcases Nat.le_total r g with h | h
  · obtain ⟨d, rfl⟩ := Nat.le.dest h
    have : r * (r + d) = r * r + r * d := Nat.mul_add ..
    have : (r + d) * (r + d) = r * r + r * d + (r * d + d * d) := by rw [Nat.add_mul, Nat.mul_add, Nat.mul_add, Nat.mul_comm d r]
    omega
  · obtain ⟨d, rfl⟩ := Nat.le.dest h
    have : (g + d) * g = g * g + g * d := by rw [Nat.add_mul, Nat.mul_comm d g]
    have : (g + d) * (g + d) = g * g + g * d + (g * d + d * d) := by rw [Nat.add_mul, Nat.mul_add, Nat.mul_add, Nat.mul_comm d g]
    omega
theorem bern (r g : Nat) : ∀ j : Nat, (j + 1) * (r * g ^ j) ≤ r ^ (j + 1) + j * g ^ (j + 1)
  | 0 => by simp
  | j + 1 => by
    have ih := Nat.mul_le_mul_left r (bern r g j)
    have sq := Nat.mul_le_mul_left ((j + 1) * g ^ j) (two_sq r g)
    have e1 : r * ((j + 1) * (r * g ^ j)) = (j + 1) * g ^ j * (r * r) := by
      simp only [Nat.mul_assoc, Nat.mul_comm, Nat.mul_left_comm]
    have e2 : r * (r ^ (j + 1) + j * g ^ (j + 1)) = r ^ (j + 2) + j * (r * g ^ (j + 1)) := by
      rw [Nat.mul_add, Nat.pow_succ r (j + 1), Nat.mul_comm (r ^ (j + 1)) r, Nat.mul_left_comm]
    have e3 : (j + 1) * g ^ j * (2 * (r * g)) = (j + 1) * (2 * (r * g ^ (j + 1))) := by
      rw [Nat.pow_succ]
      simp only [Nat.mul_assoc, Nat.mul_comm, Nat.mul_left_comm]
    have e4 : (j + 1) * g ^ j * (r * r + g * g) = (j + 1) * g ^ j * (r * r) + (j + 1) * g ^ (j + 2) := by
      rw [Nat.mul_add, Nat.pow_succ g (j + 1), Nat.pow_succ g j]
      simp only [Nat.mul_assoc]
    rw [e1, e2] at ih
    rw [e3, e4] at sq
    have e5 : (j + 1) * (2 * (r * g ^ (j + 1))) = (j + 2) * (r * g ^ (j + 1)) + j * (r * g ^ (j + 1)) := by
      rw [← Nat.add_mul, Nat.mul_left_comm, ← Nat.mul_assoc]
      congr 1
      omega
    show (j + 2) * (r * g ^ (j + 1)) ≤ r ^ (j + 2) + (j + 1) * g ^ (j + 2)
    omega
/-- the guess below -/
def guess (p k g : Nat) : Nat := ((k - 1) * g + p / g ^ (k - 1)) / k
theorem guess_above {p k g r : Nat} (hk : 0 < k) (hg : 0 < g) (h : r ^ k ≤ p) : r ≤ guess p k g := by
  obtain ⟨j, rfl⟩ : ∃ j, k = j + 1 := ⟨k - 1, by omega⟩
  unfold guess
  rw [Nat.le_div_iff_mul_le hk]
  show r * (j + 1) ≤ j * g + p / g ^ j
  have hG : 0 < g ^ j := Nat.pow_pos hg
  by_cases hr : r * (j + 1) ≤ j * g
  · exact Nat.le_trans hr (Nat.le_add_right _ _)
  · obtain ⟨d, hd⟩ : ∃ d, r * (j + 1) = j * g + d := ⟨r * (j + 1) - j * g, by omega⟩
    have b := bern r g j
    have e1 : (j + 1) * (r * g ^ j) = (r * (j + 1)) * g ^ j := by rw [← Nat.mul_assoc, Nat.mul_comm (j + 1) r]
    have e2 : j * g ^ (j + 1) = (j * g) * g ^ j := by rw [Nat.pow_succ, Nat.mul_comm (g ^ j) g, Nat.mul_assoc]
    rw [e1, e2, hd, Nat.add_mul] at b
    have : d * g ^ j ≤ p := by omega
    have := (Nat.le_div_iff_mul_le hG).mpr this
    omega
theorem guess_stop {p k g : Nat} (hk : 0 < k) (hg : 0 < g) (h : g ≤ guess p k g) : g ^ k ≤ p := by
  obtain ⟨j, rfl⟩ : ∃ j, k = j + 1 := ⟨k - 1, by omega⟩
  unfold guess at h
  rw [Nat.le_div_iff_mul_le hk] at h
  have h : g * (j + 1) ≤ j * g + p / g ^ j := h
  have hG : 0 < g ^ j := Nat.pow_pos hg
  have : g * (j + 1) = j * g + g := by rw [Nat.mul_add, Nat.mul_comm g j, Nat.mul_one]
  have : g ≤ p / g ^ j := by omega
  have := (Nat.le_div_iff_mul_le hG).mp this
  rw [Nat.pow_succ, Nat.mul_comm]
  exact this
/-- the greatest number whose power is at most p gives the least one whose power is at least p -/
theorem root_of_floor {p k f : Nat} (hk : 0 < k) (h1 : f ^ k ≤ p) (h2 : ∀ r, r ^ k ≤ p → r ≤ f) : IsRoot p k (if f ^ k = p then f else f + 1) := by
  split
  · rename_i e
    exact ⟨Nat.le_of_eq e.symm, fun j hj => by rw [← e]; exact Nat.pow_lt_pow_left hj (by omega)⟩
  · rename_i e
    refine ⟨?_, fun j hj => Nat.lt_of_le_of_lt (Nat.pow_le_pow_left (show j ≤ f by omega) k) (by omega)⟩
    have : ¬ (f + 1) ^ k ≤ p := fun z => by have := h2 _ z; omega
    omega
theorem root_small {p k : Nat} (hk : 0 < k) (hp : p ≤ 1) : IsRoot p k p := by
  rcases p with _ | _ | p
  · exact ⟨Nat.zero_le _, fun j hj => by omega⟩
  · refine ⟨by simp, fun j hj => ?_⟩
    have : j = 0 := by omega
    subst this
    rw [Nat.zero_pow hk]
    omega
  · omega
theorem root_two {p k : Nat} (hp : 2 ≤ p) (h : p ≤ 2 ^ k) (hk : 0 < k) : IsRoot p k 2 := by
  refine ⟨h, fun j hj => ?_⟩
  rcases j with _ | _ | j
  · rw [Nat.zero_pow hk]; omega
  · rw [Nat.zero_add, Nat.one_pow]; omega
  · omega
theorem bits_of {p : Nat} (h : 0 < p) : p < 2 ^ Builtin.Int.intBits (p : Int) ∧ 2 ^ (Builtin.Int.intBits (p : Int) - 1) ≤ p ∧ 0 < Builtin.Int.intBits (p : Int) := by
  have e : Builtin.Int.intBits (p : Int) = p.log2 + 1 := by
    unfold Builtin.Int.intBits
    have : ((p : Int) == 0) = false := by
      rw [beq_eq_false_iff_ne]
      omega
    rw [this]
    rfl
  rw [e]
  exact ⟨Nat.lt_log2_self, by rw [Nat.add_sub_cancel]; exact Nat.log2_self_le (by omega), by omega⟩
theorem r_lower_guess : Rd_lower_guess := by
  rintro ds q - ⟨p, k, g, m, rfl, hk, hk2, hg, hgm, hm, hq⟩
  have hG : g ^ (k - 1) < 2 ^ (m * (k - 1) + 1) := by
    have := pow_lt (b := (g : Int)) (m := m) (i := k - 1) (by simpa using hgm)
    rw [Int.natAbs_pow] at this
    simpa using this
  have hmk : m * (k - 1) ≤ m * k := Nat.mul_le_mul_left m (by omega)
  have hmm : m ≤ m * k := Nat.le_mul_of_pos_right m hk
  have c1 : CMulX ((k : Int) - 1) g := cmul_of (p := 12) (r := m) (by omega) (by simpa using hgm) (by omega)
  have hG0 : 0 < g ^ (k - 1) := Nat.pow_pos hg
  simp [t_lower_guess, m_lower_guess, m_power, Pd.e_tSq, Pd.e_tSqW, Pd.e_tSt, Pd.e_tPm, Pd.asgs, Pd.asg, Pd.escape, Pd.e_tCoB, Pd.e_tCo, Pd.e_tN, Pd.e_tV, Pd.e_tK, Pd.e_tOp2, Pd.e_tOp1, Pd.e_two, Pd.e_one, Pd.content, Pd.slotD, R.seal, Pd.e_ans, Pd.e_tBo, Pd.e_tAn, Pd.e_tOr_, Pd.e_tNo, Pd.e_tAnV, Pd.e_tOrV, Pd.e_tNoV, Pd.e_tIfD, Pd.e_tIfE, Pd.e_tRt, Pd.e_tRtN, Pd.e_tDr, Pd.e_tNx, Pd.e_tBk, Pd.e_tCt, Pd.e_tTr, Pd.truD, Pd.fin_val, Pd.fin_new, Pd.fin_al, Pd.retR, Pd.outsAt, Pd.entry, Pd.argSl, Mode.sl, Out.r, Sl.d, Sl.put, Pd.addD, Pd.intOp, Pd.mulD, Pd.negD, Pd.eqD, Pd.neD, Pd.cmD, Pd.dCm_int, Pd.dCm_str, Pd.dEq_nn, Pd.dEq_ii, Pd.dEq_bb, Pd.dEq_ss, Pd.eqOk_i, Pd.eqOk_b, Pd.eqOk_s, Pd.eqOk_n, Pd.cmOk_i, Pd.cmOk_s, Pd.e_tCl, Pd.passOk, Pd.ioS, Pd.apart, Pd.pass, Pd.pass1, Pd.putO, Pd.e_tL, Pd.e_tT, Pd.escapes, Pd.e_many, Pd.e_tBu, Pd.contents, Pd.lenD, Pd.intD, Pd.boolD, Pd.absD, Pd.listD, Pd.tupleD, Pd.isinD, Pd.allD, Pd.bools, Pd.bitsD, Pd.gcdD, Pd.ixD, Pd.isD, Pd.isNotD, Pd.e_tIsiT, Pd.tyName, Pd.isiT, Pd.tyNames, Pd.cellAt, Pd.putAt, Pd.e_tSI, Pd.e_tSF, Pd.e_tFl, Pd.putN, Pd.putX, Pd.e_tMk, Pd.e_tMkK, Pd.e_mkOk, Pd.e_tClK, Pd.ordK, R.isNon, D.lst?, D.int?, Pd.iterD, Pd.items, Pd.iterK, Pd.seqK, Pd.e_iSeq, Pd.e_iR1, Pd.e_iR2, Pd.e_gN, Pd.e_gCo, Pd.e_gNi, Pd.e_gT, Pd.e_settable, Pd.e_freeOf, Pd.wipeD, Pd.backD, Pd.back1, Pd.e_tSlc, Pd.slD, Pd.e_oN, Pd.e_oS, Pd.atI_nat, Pd.atI_lit, Pd.ixN_nat, Pd.ixN_lit, Pd.fdn, Pd.fmn, Pd.fdl, Pd.fml, Cm.i, Pd.tFo_eq, Pd.tLC_eq, Pd.e_tNv, ↓Pd.got_eqI, Pd.gotI_some, Pd.gotI_none, Pd.sizeS, Pd.sIx0, Pd.dfltI, Pd.e_iZ, Pd.e_tAu, Pd.e_tCM, Pd.e_tCMT, Pd.e_tCh, c1]
  rw [show ((k : Int) - 1) = ((k - 1 : Nat) : Int) by omega]
  refine ⟨g, k - 1, m, rfl, by simpa [Sz] using hgm, by rw [Nat.mul_add]; omega, ?_⟩
  rw [← Int.natCast_pow]
  have c2 : CDivA (p : Int) ((g ^ (k - 1) : Nat) : Int) := .inr ⟨by omega, by
    rw [Int.natAbs_natCast]
    exact (Nat.log2_lt (by omega)).mpr (Nat.lt_of_lt_of_le hG (Nat.pow_le_pow_right (by decide) (by omega)))⟩
  have c3 : ∀ z : Int, CDivA z (k : Int) := fun z => cdiv_s (by omega) (by omega)
  rw [Int.natCast_pow] at c2
  simp [c2, c3, Pd.e_tSq, Pd.e_tSqW, Pd.e_tSt, Pd.e_tPm, Pd.asgs, Pd.asg, Pd.escape, Pd.e_tCoB, Pd.e_tCo, Pd.e_tN, Pd.e_tV, Pd.e_tK, Pd.e_tOp2, Pd.e_tOp1, Pd.e_two, Pd.e_one, Pd.content, Pd.slotD, R.seal, Pd.e_ans, Pd.e_tBo, Pd.e_tAn, Pd.e_tOr_, Pd.e_tNo, Pd.e_tAnV, Pd.e_tOrV, Pd.e_tNoV, Pd.e_tIfD, Pd.e_tIfE, Pd.e_tRt, Pd.e_tRtN, Pd.e_tDr, Pd.e_tNx, Pd.e_tBk, Pd.e_tCt, Pd.e_tTr, Pd.truD, Pd.fin_val, Pd.fin_new, Pd.fin_al, Pd.retR, Pd.outsAt, Pd.entry, Pd.argSl, Mode.sl, Out.r, Sl.d, Sl.put, Pd.addD, Pd.intOp, Pd.mulD, Pd.negD, Pd.eqD, Pd.neD, Pd.cmD, Pd.dCm_int, Pd.dCm_str, Pd.dEq_nn, Pd.dEq_ii, Pd.dEq_bb, Pd.dEq_ss, Pd.eqOk_i, Pd.eqOk_b, Pd.eqOk_s, Pd.eqOk_n, Pd.cmOk_i, Pd.cmOk_s, Pd.e_tCl, Pd.passOk, Pd.ioS, Pd.apart, Pd.pass, Pd.pass1, Pd.putO, Pd.e_tL, Pd.e_tT, Pd.escapes, Pd.e_many, Pd.e_tBu, Pd.contents, Pd.lenD, Pd.intD, Pd.boolD, Pd.absD, Pd.listD, Pd.tupleD, Pd.isinD, Pd.allD, Pd.bools, Pd.bitsD, Pd.gcdD, Pd.ixD, Pd.isD, Pd.isNotD, Pd.e_tIsiT, Pd.tyName, Pd.isiT, Pd.tyNames, Pd.cellAt, Pd.putAt, Pd.e_tSI, Pd.e_tSF, Pd.e_tFl, Pd.putN, Pd.putX, Pd.e_tMk, Pd.e_tMkK, Pd.e_mkOk, Pd.e_tClK, Pd.ordK, R.isNon, D.lst?, D.int?, Pd.iterD, Pd.items, Pd.iterK, Pd.seqK, Pd.e_iSeq, Pd.e_iR1, Pd.e_iR2, Pd.e_gN, Pd.e_gCo, Pd.e_gNi, Pd.e_gT, Pd.e_settable, Pd.e_freeOf, Pd.wipeD, Pd.backD, Pd.back1, Pd.e_tSlc, Pd.slD, Pd.e_oN, Pd.e_oS, Pd.atI_nat, Pd.atI_lit, Pd.ixN_nat, Pd.ixN_lit, Pd.fdn, Pd.fmn, Pd.fdl, Pd.fml, Cm.i, Pd.tFo_eq, Pd.tLC_eq, Pd.e_tNv, ↓Pd.got_eqI, Pd.gotI_some, Pd.gotI_none, Pd.sizeS, Pd.sIx0, Pd.dfltI, Pd.e_iZ, Pd.e_tAu, Pd.e_tCM, Pd.e_tCMT, Pd.e_tCh]
  have e : ((((k - 1 : Nat) : Int) * g + (p : Int).fdiv ((g : Int) ^ (k - 1)))).fdiv (k : Int) = ((((k - 1) * g + p / g ^ (k - 1)) / k : Nat) : Int) := by
    rw [← fdn, ← Int.natCast_pow, fdn, ← Int.natCast_mul, ← Int.natCast_add]
  rw [e]
  exact hq
theorem pwI {b e : Int} {m : Nat} {q : List D → R → Prop} (h0 : 0 ≤ e) (hm : Sz m b) (hn : m * (e.toNat + 1) ≤ 60000000) (h : q [] (.val (.int (b ^ e.toNat)))) : sp_power [.int b, .int e] q :=
  ⟨b, e.toNat, m, by rw [Int.toNat_of_nonneg h0], hm, hn, h⟩
theorem beq_bt : (Str.ofString "bottom" == Str.ofString "top") = false := by decide +kernel
theorem szN {n m : Nat} (h : n < 2 ^ m) : Sz m (n : Int) := by simpa [Sz] using h
theorem r_least_power : Rd_least_power := by
  rintro ds q - ⟨n, t, b, rfl, hb, hb2, ht2, hn, hnt, hq⟩
  simp [t_least_power, m_least_power, m_least_root, m_power, Pd.e_tSq, Pd.e_tSqW, Pd.e_tSt, Pd.e_tPm, Pd.asgs, Pd.asg, Pd.escape, Pd.e_tCoB, Pd.e_tCo, Pd.e_tN, Pd.e_tV, Pd.e_tK, Pd.e_tOp2, Pd.e_tOp1, Pd.e_two, Pd.e_one, Pd.content, Pd.slotD, R.seal, Pd.e_ans, Pd.e_tBo, Pd.e_tAn, Pd.e_tOr_, Pd.e_tNo, Pd.e_tAnV, Pd.e_tOrV, Pd.e_tNoV, Pd.e_tIfD, Pd.e_tIfE, Pd.e_tRt, Pd.e_tRtN, Pd.e_tDr, Pd.e_tNx, Pd.e_tBk, Pd.e_tCt, Pd.e_tTr, Pd.truD, Pd.fin_val, Pd.fin_new, Pd.fin_al, Pd.retR, Pd.outsAt, Pd.entry, Pd.argSl, Mode.sl, Out.r, Sl.d, Sl.put, Pd.addD, Pd.intOp, Pd.mulD, Pd.negD, Pd.eqD, Pd.neD, Pd.cmD, Pd.dCm_int, Pd.dCm_str, Pd.dEq_nn, Pd.dEq_ii, Pd.dEq_bb, Pd.dEq_ss, Pd.eqOk_i, Pd.eqOk_b, Pd.eqOk_s, Pd.eqOk_n, Pd.cmOk_i, Pd.cmOk_s, Pd.e_tCl, Pd.passOk, Pd.ioS, Pd.apart, Pd.pass, Pd.pass1, Pd.putO, Pd.e_tL, Pd.e_tT, Pd.escapes, Pd.e_many, Pd.e_tBu, Pd.contents, Pd.lenD, Pd.intD, Pd.boolD, Pd.absD, Pd.listD, Pd.tupleD, Pd.isinD, Pd.allD, Pd.bools, Pd.bitsD, Pd.gcdD, Pd.ixD, Pd.isD, Pd.isNotD, Pd.e_tIsiT, Pd.tyName, Pd.isiT, Pd.tyNames, Pd.cellAt, Pd.putAt, Pd.e_tSI, Pd.e_tSF, Pd.e_tFl, Pd.putN, Pd.putX, Pd.e_tMk, Pd.e_tMkK, Pd.e_mkOk, Pd.e_tClK, Pd.ordK, R.isNon, D.lst?, D.int?, Pd.iterD, Pd.items, Pd.iterK, Pd.seqK, Pd.e_iSeq, Pd.e_iR1, Pd.e_iR2, Pd.e_gN, Pd.e_gCo, Pd.e_gNi, Pd.e_gT, Pd.e_settable, Pd.e_freeOf, Pd.wipeD, Pd.backD, Pd.back1, Pd.e_tSlc, Pd.slD, Pd.e_oN, Pd.e_oS, Pd.atI_nat, Pd.atI_lit, Pd.ixN_nat, Pd.ixN_lit, Pd.fdn, Pd.fmn, Pd.fdl, Pd.fml, Cm.i, Pd.tFo_eq, Pd.tLC_eq, Pd.e_tNv, ↓Pd.got_eqI, Pd.gotI_some, Pd.gotI_none, Pd.sizeS, Pd.sIx0, Pd.dfltI, Pd.e_iZ, Pd.e_tAu, Pd.e_tCM, Pd.e_tCMT, Pd.e_tCh, ratD, top_ne2, List.lookup, beq_bt]
  refine pwI (m := 1200) (by omega) (szN hn) (by omega) ?_
  simp [Pd.e_tSq, Pd.e_tSqW, Pd.e_tSt, Pd.e_tPm, Pd.asgs, Pd.asg, Pd.escape, Pd.e_tCoB, Pd.e_tCo, Pd.e_tN, Pd.e_tV, Pd.e_tK, Pd.e_tOp2, Pd.e_tOp1, Pd.e_two, Pd.e_one, Pd.content, Pd.slotD, R.seal, Pd.e_ans, Pd.e_tBo, Pd.e_tAn, Pd.e_tOr_, Pd.e_tNo, Pd.e_tAnV, Pd.e_tOrV, Pd.e_tNoV, Pd.e_tIfD, Pd.e_tIfE, Pd.e_tRt, Pd.e_tRtN, Pd.e_tDr, Pd.e_tNx, Pd.e_tBk, Pd.e_tCt, Pd.e_tTr, Pd.truD, Pd.fin_val, Pd.fin_new, Pd.fin_al, Pd.retR, Pd.outsAt, Pd.entry, Pd.argSl, Mode.sl, Out.r, Sl.d, Sl.put, Pd.addD, Pd.intOp, Pd.mulD, Pd.negD, Pd.eqD, Pd.neD, Pd.cmD, Pd.dCm_int, Pd.dCm_str, Pd.dEq_nn, Pd.dEq_ii, Pd.dEq_bb, Pd.dEq_ss, Pd.eqOk_i, Pd.eqOk_b, Pd.eqOk_s, Pd.eqOk_n, Pd.cmOk_i, Pd.cmOk_s, Pd.e_tCl, Pd.passOk, Pd.ioS, Pd.apart, Pd.pass, Pd.pass1, Pd.putO, Pd.e_tL, Pd.e_tT, Pd.escapes, Pd.e_many, Pd.e_tBu, Pd.contents, Pd.lenD, Pd.intD, Pd.boolD, Pd.absD, Pd.listD, Pd.tupleD, Pd.isinD, Pd.allD, Pd.bools, Pd.bitsD, Pd.gcdD, Pd.ixD, Pd.isD, Pd.isNotD, Pd.e_tIsiT, Pd.tyName, Pd.isiT, Pd.tyNames, Pd.cellAt, Pd.putAt, Pd.e_tSI, Pd.e_tSF, Pd.e_tFl, Pd.putN, Pd.putX, Pd.e_tMk, Pd.e_tMkK, Pd.e_mkOk, Pd.e_tClK, Pd.ordK, R.isNon, D.lst?, D.int?, Pd.iterD, Pd.items, Pd.iterK, Pd.seqK, Pd.e_iSeq, Pd.e_iR1, Pd.e_iR2, Pd.e_gN, Pd.e_gCo, Pd.e_gNi, Pd.e_gT, Pd.e_settable, Pd.e_freeOf, Pd.wipeD, Pd.backD, Pd.back1, Pd.e_tSlc, Pd.slD, Pd.e_oN, Pd.e_oS, Pd.atI_nat, Pd.atI_lit, Pd.ixN_nat, Pd.ixN_lit, Pd.fdn, Pd.fmn, Pd.fdl, Pd.fml, Cm.i, Pd.tFo_eq, Pd.tLC_eq, Pd.e_tNv, ↓Pd.got_eqI, Pd.gotI_some, Pd.gotI_none, Pd.sizeS, Pd.sIx0, Pd.dfltI, Pd.e_iZ, Pd.e_tAu, Pd.e_tCM, Pd.e_tCMT, Pd.e_tCh, List.lookup, beq_bt]
  refine ⟨n ^ t, b, by simp, hb, hb2, hnt, fun r hr => ?_⟩
  simp [Pd.e_tSq, Pd.e_tSqW, Pd.e_tSt, Pd.e_tPm, Pd.asgs, Pd.asg, Pd.escape, Pd.e_tCoB, Pd.e_tCo, Pd.e_tN, Pd.e_tV, Pd.e_tK, Pd.e_tOp2, Pd.e_tOp1, Pd.e_two, Pd.e_one, Pd.content, Pd.slotD, R.seal, Pd.e_ans, Pd.e_tBo, Pd.e_tAn, Pd.e_tOr_, Pd.e_tNo, Pd.e_tAnV, Pd.e_tOrV, Pd.e_tNoV, Pd.e_tIfD, Pd.e_tIfE, Pd.e_tRt, Pd.e_tRtN, Pd.e_tDr, Pd.e_tNx, Pd.e_tBk, Pd.e_tCt, Pd.e_tTr, Pd.truD, Pd.fin_val, Pd.fin_new, Pd.fin_al, Pd.retR, Pd.outsAt, Pd.entry, Pd.argSl, Mode.sl, Out.r, Sl.d, Sl.put, Pd.addD, Pd.intOp, Pd.mulD, Pd.negD, Pd.eqD, Pd.neD, Pd.cmD, Pd.dCm_int, Pd.dCm_str, Pd.dEq_nn, Pd.dEq_ii, Pd.dEq_bb, Pd.dEq_ss, Pd.eqOk_i, Pd.eqOk_b, Pd.eqOk_s, Pd.eqOk_n, Pd.cmOk_i, Pd.cmOk_s, Pd.e_tCl, Pd.passOk, Pd.ioS, Pd.apart, Pd.pass, Pd.pass1, Pd.putO, Pd.e_tL, Pd.e_tT, Pd.escapes, Pd.e_many, Pd.e_tBu, Pd.contents, Pd.lenD, Pd.intD, Pd.boolD, Pd.absD, Pd.listD, Pd.tupleD, Pd.isinD, Pd.allD, Pd.bools, Pd.bitsD, Pd.gcdD, Pd.ixD, Pd.isD, Pd.isNotD, Pd.e_tIsiT, Pd.tyName, Pd.isiT, Pd.tyNames, Pd.cellAt, Pd.putAt, Pd.e_tSI, Pd.e_tSF, Pd.e_tFl, Pd.putN, Pd.putX, Pd.e_tMk, Pd.e_tMkK, Pd.e_mkOk, Pd.e_tClK, Pd.ordK, R.isNon, D.lst?, D.int?, Pd.iterD, Pd.items, Pd.iterK, Pd.seqK, Pd.e_iSeq, Pd.e_iR1, Pd.e_iR2, Pd.e_gN, Pd.e_gCo, Pd.e_gNi, Pd.e_gT, Pd.e_settable, Pd.e_freeOf, Pd.wipeD, Pd.backD, Pd.back1, Pd.e_tSlc, Pd.slD, Pd.e_oN, Pd.e_oS, Pd.atI_nat, Pd.atI_lit, Pd.ixN_nat, Pd.ixN_lit, Pd.fdn, Pd.fmn, Pd.fdl, Pd.fml, Cm.i, Pd.tFo_eq, Pd.tLC_eq, Pd.e_tNv, ↓Pd.got_eqI, Pd.gotI_some, Pd.gotI_none, Pd.sizeS, Pd.sIx0, Pd.dfltI, Pd.e_iZ, Pd.e_tAu, Pd.e_tCM, Pd.e_tCMT, Pd.e_tCh]
  exact hq r hr
theorem pow_le_one {c b : Nat} (hb : 0 < b) : c ^ b ≤ 1 ↔ c ≤ 1 := by
  constructor
  · intro h
    rcases Nat.lt_or_ge 1 c with z | z
    · have := Nat.one_lt_pow (show b ≠ 0 by omega) z
      omega
    · exact z
  · intro h
    have := Nat.pow_le_pow_left h b
    rwa [Nat.one_pow] at this
theorem pow_small {c b : Nat} (hb : 0 < b) (hc : c ≤ 1) : c ^ b = c := by
  rcases c with _ | _ | c
  · exact Nat.zero_pow hb
  · exact Nat.one_pow b
  · omega
theorem r_within_power : Rd_within_power := by
  rintro ds q - ⟨c, n, t, b, rfl, hb, hb2, ht2, hc, hn, hq⟩
  have hBc : Builtin.Int.intBits (c : Int) ≤ 1200 := bits_lt (by simpa using hc)
  have hBn : Builtin.Int.intBits (n : Int) ≤ 1200 := bits_lt (by simpa using hn)
  have key : ∀ x : Bool, (x = true ↔ c ^ b ≤ n ^ t) → q [] (.val (.bl x)) := fun x hx => by
    have : x = decide (c ^ b ≤ n ^ t) := by
      rw [Bool.eq_iff_iff, hx, decide_eq_true_iff]
    rw [this]
    exact hq
  simp [t_within_power, m_within_power, m_power, Pd.e_tSq, Pd.e_tSqW, Pd.e_tSt, Pd.e_tPm, Pd.asgs, Pd.asg, Pd.escape, Pd.e_tCoB, Pd.e_tCo, Pd.e_tN, Pd.e_tV, Pd.e_tK, Pd.e_tOp2, Pd.e_tOp1, Pd.e_two, Pd.e_one, Pd.content, Pd.slotD, R.seal, Pd.e_ans, Pd.e_tBo, Pd.e_tAn, Pd.e_tOr_, Pd.e_tNo, Pd.e_tAnV, Pd.e_tOrV, Pd.e_tNoV, Pd.e_tIfD, Pd.e_tIfE, Pd.e_tRt, Pd.e_tRtN, Pd.e_tDr, Pd.e_tNx, Pd.e_tBk, Pd.e_tCt, Pd.e_tTr, Pd.truD, Pd.fin_val, Pd.fin_new, Pd.fin_al, Pd.retR, Pd.outsAt, Pd.entry, Pd.argSl, Mode.sl, Out.r, Sl.d, Sl.put, Pd.addD, Pd.intOp, Pd.mulD, Pd.negD, Pd.eqD, Pd.neD, Pd.cmD, Pd.dCm_int, Pd.dCm_str, Pd.dEq_nn, Pd.dEq_ii, Pd.dEq_bb, Pd.dEq_ss, Pd.eqOk_i, Pd.eqOk_b, Pd.eqOk_s, Pd.eqOk_n, Pd.cmOk_i, Pd.cmOk_s, Pd.e_tCl, Pd.passOk, Pd.ioS, Pd.apart, Pd.pass, Pd.pass1, Pd.putO, Pd.e_tL, Pd.e_tT, Pd.escapes, Pd.e_many, Pd.e_tBu, Pd.contents, Pd.lenD, Pd.intD, Pd.boolD, Pd.absD, Pd.listD, Pd.tupleD, Pd.isinD, Pd.allD, Pd.bools, Pd.bitsD, Pd.gcdD, Pd.ixD, Pd.isD, Pd.isNotD, Pd.e_tIsiT, Pd.tyName, Pd.isiT, Pd.tyNames, Pd.cellAt, Pd.putAt, Pd.e_tSI, Pd.e_tSF, Pd.e_tFl, Pd.putN, Pd.putX, Pd.e_tMk, Pd.e_tMkK, Pd.e_mkOk, Pd.e_tClK, Pd.ordK, R.isNon, D.lst?, D.int?, Pd.iterD, Pd.items, Pd.iterK, Pd.seqK, Pd.e_iSeq, Pd.e_iR1, Pd.e_iR2, Pd.e_gN, Pd.e_gCo, Pd.e_gNi, Pd.e_gT, Pd.e_settable, Pd.e_freeOf, Pd.wipeD, Pd.backD, Pd.back1, Pd.e_tSlc, Pd.slD, Pd.e_oN, Pd.e_oS, Pd.atI_nat, Pd.atI_lit, Pd.ixN_nat, Pd.ixN_lit, Pd.fdn, Pd.fmn, Pd.fdl, Pd.fml, Cm.i, Pd.tFo_eq, Pd.tLC_eq, Pd.e_tNv, ↓Pd.got_eqI, Pd.gotI_some, Pd.gotI_none, Pd.sizeS, Pd.sIx0, Pd.dfltI, Pd.e_iZ, Pd.e_tAu, Pd.e_tCM, Pd.e_tCMT, Pd.e_tCh, ratD, top_ne2, List.lookup, beq_bt]
  split
  · rename_i h
    subst h
    refine key _ ?_
    rw [decide_eq_true_iff, Nat.pow_zero, pow_le_one hb]
    omega
  · rename_i h
    split
    · rename_i h2
      refine key _ ?_
      rw [decide_eq_true_iff, pow_small (c := n) (by omega) (by omega)]
      rcases n with _ | _ | n
      · rw [Nat.le_zero, Nat.le_zero, Nat.pow_eq_zero]
        omega
      · exact (pow_le_one hb).symm
      · omega
    · rename_i h2
      split
      · rename_i h3
        refine key _ ?_
        rw [decide_eq_true_iff, pow_small hb (show c ≤ 1 by omega)]
        have : n ≤ n ^ t := Nat.le_self_pow (by omega) n
        have : 1 ≤ n ^ t := Nat.one_le_pow _ _ (by omega)
        omega
      · rename_i h3
        obtain ⟨b1, b2, b3⟩ := bits_of (p := c) (by omega)
        obtain ⟨a1, a2, a3⟩ := bits_of (p := n) (by omega)
        generalize Builtin.Int.intBits (c : Int) = B at *
        generalize Builtin.Int.intBits (n : Int) = A at *
        have m1 : CMulX ((B : Int) - 1) b := cmul_w (by omega) (by omega)
        have m2 : CMulX (A : Int) t := cmul_w (by omega) (by omega)
        have m3 : CMulX (B : Int) b := cmul_w (by omega) (by omega)
        have m4 : CMulX ((A : Int) - 1) t := cmul_w (by omega) (by omega)
        simp only [m1, m2, m3, m4, true_and]
        have eB : ((B : Int) - 1) * b = (((B - 1) * b : Nat) : Int) := by rw [Int.natCast_mul, Int.natCast_sub (by omega)]; rfl
        have eA : ((A : Int) - 1) * t = (((A - 1) * t : Nat) : Int) := by rw [Int.natCast_mul, Int.natCast_sub (by omega)]; rfl
        rw [eA, eB, ← Int.natCast_mul, ← Int.natCast_mul]
        split
        · rename_i h4
          refine key _ ?_
          have h4 : A * t ≤ (B - 1) * b := by omega
          have l1 : n ^ t < (2 ^ A) ^ t := Nat.pow_lt_pow_left a1 h
          have l2 : (2 ^ (B - 1)) ^ b ≤ c ^ b := Nat.pow_le_pow_left b2 b
          rw [← Nat.pow_mul] at l1 l2
          have l3 : 2 ^ (A * t) ≤ 2 ^ ((B - 1) * b) := Nat.pow_le_pow_right (by decide) h4
          simp only [Bool.false_eq_true, false_iff]
          omega
        · split
          · rename_i h4 h5
            refine key _ ?_
            have h5 : B * b ≤ (A - 1) * t := by omega
            have l1 : c ^ b ≤ (2 ^ B) ^ b := Nat.pow_le_pow_left (Nat.le_of_lt b1) b
            have l2 : (2 ^ (A - 1)) ^ t ≤ n ^ t := Nat.pow_le_pow_left a2 t
            rw [← Nat.pow_mul] at l1 l2
            have l3 : 2 ^ (B * b) ≤ 2 ^ ((A - 1) * t) := Nat.pow_le_pow_right (by decide) h5
            simp only [true_iff]
            omega
          · refine pwI (m := 1200) (by omega) (szN hc) (by omega) ?_
            refine pwI (m := 1200) (by omega) (szN hn) (by omega) ?_
            simp [Pd.e_tSq, Pd.e_tSqW, Pd.e_tSt, Pd.e_tPm, Pd.asgs, Pd.asg, Pd.escape, Pd.e_tCoB, Pd.e_tCo, Pd.e_tN, Pd.e_tV, Pd.e_tK, Pd.e_tOp2, Pd.e_tOp1, Pd.e_two, Pd.e_one, Pd.content, Pd.slotD, R.seal, Pd.e_ans, Pd.e_tBo, Pd.e_tAn, Pd.e_tOr_, Pd.e_tNo, Pd.e_tAnV, Pd.e_tOrV, Pd.e_tNoV, Pd.e_tIfD, Pd.e_tIfE, Pd.e_tRt, Pd.e_tRtN, Pd.e_tDr, Pd.e_tNx, Pd.e_tBk, Pd.e_tCt, Pd.e_tTr, Pd.truD, Pd.fin_val, Pd.fin_new, Pd.fin_al, Pd.retR, Pd.outsAt, Pd.entry, Pd.argSl, Mode.sl, Out.r, Sl.d, Sl.put, Pd.addD, Pd.intOp, Pd.mulD, Pd.negD, Pd.eqD, Pd.neD, Pd.cmD, Pd.dCm_int, Pd.dCm_str, Pd.dEq_nn, Pd.dEq_ii, Pd.dEq_bb, Pd.dEq_ss, Pd.eqOk_i, Pd.eqOk_b, Pd.eqOk_s, Pd.eqOk_n, Pd.cmOk_i, Pd.cmOk_s, Pd.e_tCl, Pd.passOk, Pd.ioS, Pd.apart, Pd.pass, Pd.pass1, Pd.putO, Pd.e_tL, Pd.e_tT, Pd.escapes, Pd.e_many, Pd.e_tBu, Pd.contents, Pd.lenD, Pd.intD, Pd.boolD, Pd.absD, Pd.listD, Pd.tupleD, Pd.isinD, Pd.allD, Pd.bools, Pd.bitsD, Pd.gcdD, Pd.ixD, Pd.isD, Pd.isNotD, Pd.e_tIsiT, Pd.tyName, Pd.isiT, Pd.tyNames, Pd.cellAt, Pd.putAt, Pd.e_tSI, Pd.e_tSF, Pd.e_tFl, Pd.putN, Pd.putX, Pd.e_tMk, Pd.e_tMkK, Pd.e_mkOk, Pd.e_tClK, Pd.ordK, R.isNon, D.lst?, D.int?, Pd.iterD, Pd.items, Pd.iterK, Pd.seqK, Pd.e_iSeq, Pd.e_iR1, Pd.e_iR2, Pd.e_gN, Pd.e_gCo, Pd.e_gNi, Pd.e_gT, Pd.e_settable, Pd.e_freeOf, Pd.wipeD, Pd.backD, Pd.back1, Pd.e_tSlc, Pd.slD, Pd.e_oN, Pd.e_oS, Pd.atI_nat, Pd.atI_lit, Pd.ixN_nat, Pd.ixN_lit, Pd.fdn, Pd.fmn, Pd.fdl, Pd.fml, Cm.i, Pd.tFo_eq, Pd.tLC_eq, Pd.e_tNv, ↓Pd.got_eqI, Pd.gotI_some, Pd.gotI_none, Pd.sizeS, Pd.sIx0, Pd.dfltI, Pd.e_iZ, Pd.e_tAu, Pd.e_tCM, Pd.e_tCMT, Pd.e_tCh]
            refine key _ ?_
            rw [decide_eq_true_iff, ← Int.natCast_pow, ← Int.natCast_pow]
            omega
def LeastP (p k F : Nat) (e : Pd.Env) : Prop := ∃ f : Nat, 0 < f ∧ f ≤ F ∧ (∀ r, r ^ k ≤ p → r ≤ f) ∧ e = [.val (.int p), .val (.int k), .val (.int f), .val (.int (guess p k f : Nat))]
theorem r_least_root : Rd_least_root := by
  rintro ds q - ⟨p, k, rfl, hk, hk2, hp, hq⟩
  have ck : ∀ z : Int, CDivA z (k : Int) := fun z => cdiv_s (by omega) (by omega)
  simp [t_least_root, m_least_root, m_lower_guess, m_power, Pd.e_tSq, Pd.e_tSqW, Pd.e_tSt, Pd.e_tPm, Pd.asgs, Pd.asg, Pd.escape, Pd.e_tCoB, Pd.e_tCo, Pd.e_tN, Pd.e_tV, Pd.e_tK, Pd.e_tOp2, Pd.e_tOp1, Pd.e_two, Pd.e_one, Pd.content, Pd.slotD, R.seal, Pd.e_ans, Pd.e_tBo, Pd.e_tAn, Pd.e_tOr_, Pd.e_tNo, Pd.e_tAnV, Pd.e_tOrV, Pd.e_tNoV, Pd.e_tIfD, Pd.e_tIfE, Pd.e_tRt, Pd.e_tRtN, Pd.e_tDr, Pd.e_tNx, Pd.e_tBk, Pd.e_tCt, Pd.e_tTr, Pd.truD, Pd.fin_val, Pd.fin_new, Pd.fin_al, Pd.retR, Pd.outsAt, Pd.entry, Pd.argSl, Mode.sl, Out.r, Sl.d, Sl.put, Pd.addD, Pd.intOp, Pd.mulD, Pd.negD, Pd.eqD, Pd.neD, Pd.cmD, Pd.dCm_int, Pd.dCm_str, Pd.dEq_nn, Pd.dEq_ii, Pd.dEq_bb, Pd.dEq_ss, Pd.eqOk_i, Pd.eqOk_b, Pd.eqOk_s, Pd.eqOk_n, Pd.cmOk_i, Pd.cmOk_s, Pd.e_tCl, Pd.passOk, Pd.ioS, Pd.apart, Pd.pass, Pd.pass1, Pd.putO, Pd.e_tL, Pd.e_tT, Pd.escapes, Pd.e_many, Pd.e_tBu, Pd.contents, Pd.lenD, Pd.intD, Pd.boolD, Pd.absD, Pd.listD, Pd.tupleD, Pd.isinD, Pd.allD, Pd.bools, Pd.bitsD, Pd.gcdD, Pd.ixD, Pd.isD, Pd.isNotD, Pd.e_tIsiT, Pd.tyName, Pd.isiT, Pd.tyNames, Pd.cellAt, Pd.putAt, Pd.e_tSI, Pd.e_tSF, Pd.e_tFl, Pd.putN, Pd.putX, Pd.e_tMk, Pd.e_tMkK, Pd.e_mkOk, Pd.e_tClK, Pd.ordK, R.isNon, D.lst?, D.int?, Pd.iterD, Pd.items, Pd.iterK, Pd.seqK, Pd.e_iSeq, Pd.e_iR1, Pd.e_iR2, Pd.e_gN, Pd.e_gCo, Pd.e_gNi, Pd.e_gT, Pd.e_settable, Pd.e_freeOf, Pd.wipeD, Pd.backD, Pd.back1, Pd.e_tSlc, Pd.slD, Pd.e_oN, Pd.e_oS, Pd.atI_nat, Pd.atI_lit, Pd.ixN_nat, Pd.ixN_lit, Pd.fdn, Pd.fmn, Pd.fdl, Pd.fml, Cm.i, Pd.tFo_eq, Pd.tLC_eq, Pd.e_tNv, ↓Pd.got_eqI, Pd.gotI_some, Pd.gotI_none, Pd.sizeS, Pd.sIx0, Pd.dfltI, Pd.e_iZ, Pd.e_tAu, Pd.e_tCM, Pd.e_tCMT, Pd.e_tCh, ck]
  split
  · rename_i h
    exact hq p (root_small hk (by omega))
  · rename_i h
    have h2 : 2 ≤ p := by omega
    obtain ⟨b1, b2, b3⟩ := bits_of (p := p) (by omega)
    have hB : Builtin.Int.intBits (p : Int) ≤ 3500 := bits_lt (by simpa using hp)
    generalize Builtin.Int.intBits (p : Int) = B at *
    split
    · rename_i h3
      exact hq 2 (root_two h2 (Nat.le_trans (Nat.le_of_lt b1) (Nat.pow_le_pow_right (by decide) h3)) hk)
    · rename_i h3
      have ec : ∃ c : Nat, -((-(B : Int)).fdiv k) = c ∧ B ≤ c * k ∧ c * k < B + k := by
        rw [Int.fdiv_eq_ediv_of_nonneg _ (by omega)]
        have e1 := Int.mul_ediv_add_emod (-(B : Int)) k
        have e2 := Int.emod_nonneg (-(B : Int)) (b := (k : Int)) (by omega)
        have e3 := Int.emod_lt_of_pos (-(B : Int)) (b := (k : Int)) (by omega)
        generalize -(B : Int) / k = x at *
        have hx : x ≤ 0 := by
          rcases Int.lt_or_le 0 x with z | z
          · have : (k : Int) * 1 ≤ k * x := Int.mul_le_mul_of_nonneg_left (by omega) (by omega)
            omega
          · exact z
        have ex : ((-x).toNat : Int) = -x := Int.toNat_of_nonneg (by omega)
        have em : (((-x).toNat * k : Nat) : Int) = -(k * x) := by
          rw [Int.natCast_mul, ex, Int.neg_mul, Int.mul_comm]
        exact ⟨(-x).toNat, ex.symm, by omega, by omega⟩
      obtain ⟨c, ec, c1, c2⟩ := ec
      have cc : c ≤ c * k := Nat.le_mul_of_pos_right c hk
      have cs : CShl 1 (c : Int) := by
        refine ⟨by omega, ?_⟩
        have : Builtin.Int.intBits 1 = 1 := by decide
        rw [this]
        omega
      rw [ec]
      simp [cs]
      have hB2 : c * k < 3700 := by omega
      have e1 : (c + 1) * (k + 1) = c * k + k + (c + 1) := by rw [Nat.mul_add, Nat.add_mul, Nat.mul_one, Nat.one_mul]
      have lg : ∀ {f : Nat} {Q : List D → R → Prop}, 0 < f → f ≤ 2 ^ c → Q [] (.val (.int (guess p k f : Nat))) → sp_lower_guess [.int p, .int k, .int f] Q := fun {f Q} h0 h1 hQ =>
        ⟨p, k, f, c + 1, rfl, hk, by omega, h0, Nat.lt_of_le_of_lt h1 (Nat.pow_lt_pow_right (by decide) (by omega)), by rw [Nat.add_mul]; omega, hQ⟩
      have pk : ∀ r, r ^ k ≤ p → r ≤ 2 ^ c := fun r hr => by
        rcases Nat.lt_or_ge (2 ^ c) r with z | z
        · have l1 : (2 ^ c) ^ k < r ^ k := Nat.pow_lt_pow_left z (by omega)
          rw [← Nat.pow_mul] at l1
          have l2 : 2 ^ B ≤ 2 ^ (c * k) := Nat.pow_le_pow_right (by decide) c1
          omega
        · exact z
      rw [show ((2 : Int) ^ c) = ((2 ^ c : Nat) : Int) by simp]
      have F0 : 0 < 2 ^ c := Nat.pow_pos (by decide)
      have sz : ∀ f : Nat, f ≤ 2 ^ c → Sz (c + 1) (f : Int) := fun f hf => szN (Nat.lt_of_le_of_lt hf (Nat.pow_lt_pow_right (by decide) (by omega)))
      generalize 2 ^ c = F at *
      refine lg F0 (Nat.le_refl _) ?_
      simp [Pd.e_tSq, Pd.e_tSqW, Pd.e_tSt, Pd.e_tPm, Pd.asgs, Pd.asg, Pd.escape, Pd.e_tCoB, Pd.e_tCo, Pd.e_tN, Pd.e_tV, Pd.e_tK, Pd.e_tOp2, Pd.e_tOp1, Pd.e_two, Pd.e_one, Pd.content, Pd.slotD, R.seal, Pd.e_ans, Pd.e_tBo, Pd.e_tAn, Pd.e_tOr_, Pd.e_tNo, Pd.e_tAnV, Pd.e_tOrV, Pd.e_tNoV, Pd.e_tIfD, Pd.e_tIfE, Pd.e_tRt, Pd.e_tRtN, Pd.e_tDr, Pd.e_tNx, Pd.e_tBk, Pd.e_tCt, Pd.e_tTr, Pd.truD, Pd.fin_val, Pd.fin_new, Pd.fin_al, Pd.retR, Pd.outsAt, Pd.entry, Pd.argSl, Mode.sl, Out.r, Sl.d, Sl.put, Pd.addD, Pd.intOp, Pd.mulD, Pd.negD, Pd.eqD, Pd.neD, Pd.cmD, Pd.dCm_int, Pd.dCm_str, Pd.dEq_nn, Pd.dEq_ii, Pd.dEq_bb, Pd.dEq_ss, Pd.eqOk_i, Pd.eqOk_b, Pd.eqOk_s, Pd.eqOk_n, Pd.cmOk_i, Pd.cmOk_s, Pd.e_tCl, Pd.passOk, Pd.ioS, Pd.apart, Pd.pass, Pd.pass1, Pd.putO, Pd.e_tL, Pd.e_tT, Pd.escapes, Pd.e_many, Pd.e_tBu, Pd.contents, Pd.lenD, Pd.intD, Pd.boolD, Pd.absD, Pd.listD, Pd.tupleD, Pd.isinD, Pd.allD, Pd.bools, Pd.bitsD, Pd.gcdD, Pd.ixD, Pd.isD, Pd.isNotD, Pd.e_tIsiT, Pd.tyName, Pd.isiT, Pd.tyNames, Pd.cellAt, Pd.putAt, Pd.e_tSI, Pd.e_tSF, Pd.e_tFl, Pd.putN, Pd.putX, Pd.e_tMk, Pd.e_tMkK, Pd.e_mkOk, Pd.e_tClK, Pd.ordK, R.isNon, D.lst?, D.int?, Pd.iterD, Pd.items, Pd.iterK, Pd.seqK, Pd.e_iSeq, Pd.e_iR1, Pd.e_iR2, Pd.e_gN, Pd.e_gCo, Pd.e_gNi, Pd.e_gT, Pd.e_settable, Pd.e_freeOf, Pd.wipeD, Pd.backD, Pd.back1, Pd.e_tSlc, Pd.slD, Pd.e_oN, Pd.e_oS, Pd.atI_nat, Pd.atI_lit, Pd.ixN_nat, Pd.ixN_lit, Pd.fdn, Pd.fmn, Pd.fdl, Pd.fml, Cm.i, Pd.tFo_eq, Pd.tLC_eq, Pd.e_tNv, ↓Pd.got_eqI, Pd.gotI_some, Pd.gotI_none, Pd.sizeS, Pd.sIx0, Pd.dfltI, Pd.e_iZ, Pd.e_tAu, Pd.e_tCM, Pd.e_tCMT, Pd.e_tCh]
      refine ⟨LeastP p k F, lv 2, ⟨F, F0, Nat.le_refl _, pk, rfl⟩, ?_⟩
      rintro _ ⟨f, f0, f1, f2, rfl⟩
      have gp : 0 < guess p k f := guess_above hk f0 (r := 1) (by rw [Nat.one_pow]; omega)
      simp [Pd.e_tSq, Pd.e_tSqW, Pd.e_tSt, Pd.e_tPm, Pd.asgs, Pd.asg, Pd.escape, Pd.e_tCoB, Pd.e_tCo, Pd.e_tN, Pd.e_tV, Pd.e_tK, Pd.e_tOp2, Pd.e_tOp1, Pd.e_two, Pd.e_one, Pd.content, Pd.slotD, R.seal, Pd.e_ans, Pd.e_tBo, Pd.e_tAn, Pd.e_tOr_, Pd.e_tNo, Pd.e_tAnV, Pd.e_tOrV, Pd.e_tNoV, Pd.e_tIfD, Pd.e_tIfE, Pd.e_tRt, Pd.e_tRtN, Pd.e_tDr, Pd.e_tNx, Pd.e_tBk, Pd.e_tCt, Pd.e_tTr, Pd.truD, Pd.fin_val, Pd.fin_new, Pd.fin_al, Pd.retR, Pd.outsAt, Pd.entry, Pd.argSl, Mode.sl, Out.r, Sl.d, Sl.put, Pd.addD, Pd.intOp, Pd.mulD, Pd.negD, Pd.eqD, Pd.neD, Pd.cmD, Pd.dCm_int, Pd.dCm_str, Pd.dEq_nn, Pd.dEq_ii, Pd.dEq_bb, Pd.dEq_ss, Pd.eqOk_i, Pd.eqOk_b, Pd.eqOk_s, Pd.eqOk_n, Pd.cmOk_i, Pd.cmOk_s, Pd.e_tCl, Pd.passOk, Pd.ioS, Pd.apart, Pd.pass, Pd.pass1, Pd.putO, Pd.e_tL, Pd.e_tT, Pd.escapes, Pd.e_many, Pd.e_tBu, Pd.contents, Pd.lenD, Pd.intD, Pd.boolD, Pd.absD, Pd.listD, Pd.tupleD, Pd.isinD, Pd.allD, Pd.bools, Pd.bitsD, Pd.gcdD, Pd.ixD, Pd.isD, Pd.isNotD, Pd.e_tIsiT, Pd.tyName, Pd.isiT, Pd.tyNames, Pd.cellAt, Pd.putAt, Pd.e_tSI, Pd.e_tSF, Pd.e_tFl, Pd.putN, Pd.putX, Pd.e_tMk, Pd.e_tMkK, Pd.e_mkOk, Pd.e_tClK, Pd.ordK, R.isNon, D.lst?, D.int?, Pd.iterD, Pd.items, Pd.iterK, Pd.seqK, Pd.e_iSeq, Pd.e_iR1, Pd.e_iR2, Pd.e_gN, Pd.e_gCo, Pd.e_gNi, Pd.e_gT, Pd.e_settable, Pd.e_freeOf, Pd.wipeD, Pd.backD, Pd.back1, Pd.e_tSlc, Pd.slD, Pd.e_oN, Pd.e_oS, Pd.atI_nat, Pd.atI_lit, Pd.ixN_nat, Pd.ixN_lit, Pd.fdn, Pd.fmn, Pd.fdl, Pd.fml, Cm.i, Pd.tFo_eq, Pd.tLC_eq, Pd.e_tNv, ↓Pd.got_eqI, Pd.gotI_some, Pd.gotI_none, Pd.sizeS, Pd.sIx0, Pd.dfltI, Pd.e_iZ, Pd.e_tAu, Pd.e_tCM, Pd.e_tCMT, Pd.e_tCh, lv]
      split
      · rename_i hl
        refine lg gp (by omega) ?_
        simp [Pd.e_tSq, Pd.e_tSqW, Pd.e_tSt, Pd.e_tPm, Pd.asgs, Pd.asg, Pd.escape, Pd.e_tCoB, Pd.e_tCo, Pd.e_tN, Pd.e_tV, Pd.e_tK, Pd.e_tOp2, Pd.e_tOp1, Pd.e_two, Pd.e_one, Pd.content, Pd.slotD, R.seal, Pd.e_ans, Pd.e_tBo, Pd.e_tAn, Pd.e_tOr_, Pd.e_tNo, Pd.e_tAnV, Pd.e_tOrV, Pd.e_tNoV, Pd.e_tIfD, Pd.e_tIfE, Pd.e_tRt, Pd.e_tRtN, Pd.e_tDr, Pd.e_tNx, Pd.e_tBk, Pd.e_tCt, Pd.e_tTr, Pd.truD, Pd.fin_val, Pd.fin_new, Pd.fin_al, Pd.retR, Pd.outsAt, Pd.entry, Pd.argSl, Mode.sl, Out.r, Sl.d, Sl.put, Pd.addD, Pd.intOp, Pd.mulD, Pd.negD, Pd.eqD, Pd.neD, Pd.cmD, Pd.dCm_int, Pd.dCm_str, Pd.dEq_nn, Pd.dEq_ii, Pd.dEq_bb, Pd.dEq_ss, Pd.eqOk_i, Pd.eqOk_b, Pd.eqOk_s, Pd.eqOk_n, Pd.cmOk_i, Pd.cmOk_s, Pd.e_tCl, Pd.passOk, Pd.ioS, Pd.apart, Pd.pass, Pd.pass1, Pd.putO, Pd.e_tL, Pd.e_tT, Pd.escapes, Pd.e_many, Pd.e_tBu, Pd.contents, Pd.lenD, Pd.intD, Pd.boolD, Pd.absD, Pd.listD, Pd.tupleD, Pd.isinD, Pd.allD, Pd.bools, Pd.bitsD, Pd.gcdD, Pd.ixD, Pd.isD, Pd.isNotD, Pd.e_tIsiT, Pd.tyName, Pd.isiT, Pd.tyNames, Pd.cellAt, Pd.putAt, Pd.e_tSI, Pd.e_tSF, Pd.e_tFl, Pd.putN, Pd.putX, Pd.e_tMk, Pd.e_tMkK, Pd.e_mkOk, Pd.e_tClK, Pd.ordK, R.isNon, D.lst?, D.int?, Pd.iterD, Pd.items, Pd.iterK, Pd.seqK, Pd.e_iSeq, Pd.e_iR1, Pd.e_iR2, Pd.e_gN, Pd.e_gCo, Pd.e_gNi, Pd.e_gT, Pd.e_settable, Pd.e_freeOf, Pd.wipeD, Pd.backD, Pd.back1, Pd.e_tSlc, Pd.slD, Pd.e_oN, Pd.e_oS, Pd.atI_nat, Pd.atI_lit, Pd.ixN_nat, Pd.ixN_lit, Pd.fdn, Pd.fmn, Pd.fdl, Pd.fml, Cm.i, Pd.tFo_eq, Pd.tLC_eq, Pd.e_tNv, ↓Pd.got_eqI, Pd.gotI_some, Pd.gotI_none, Pd.sizeS, Pd.sIx0, Pd.dfltI, Pd.e_iZ, Pd.e_tAu, Pd.e_tCM, Pd.e_tCMT, Pd.e_tCh, lv]
        exact ⟨⟨guess p k f, gp, by omega, fun r hr => guess_above hk f0 hr, rfl⟩, by omega⟩
      · rename_i hl
        have st := guess_stop (p := p) hk f0 (by omega)
        have rt := root_of_floor hk st f2
        refine pwI (m := c + 1) (by omega) (sz f f1) (by rw [Int.toNat_natCast]; omega) ?_
        simp [Pd.e_tSq, Pd.e_tSqW, Pd.e_tSt, Pd.e_tPm, Pd.asgs, Pd.asg, Pd.escape, Pd.e_tCoB, Pd.e_tCo, Pd.e_tN, Pd.e_tV, Pd.e_tK, Pd.e_tOp2, Pd.e_tOp1, Pd.e_two, Pd.e_one, Pd.content, Pd.slotD, R.seal, Pd.e_ans, Pd.e_tBo, Pd.e_tAn, Pd.e_tOr_, Pd.e_tNo, Pd.e_tAnV, Pd.e_tOrV, Pd.e_tNoV, Pd.e_tIfD, Pd.e_tIfE, Pd.e_tRt, Pd.e_tRtN, Pd.e_tDr, Pd.e_tNx, Pd.e_tBk, Pd.e_tCt, Pd.e_tTr, Pd.truD, Pd.fin_val, Pd.fin_new, Pd.fin_al, Pd.retR, Pd.outsAt, Pd.entry, Pd.argSl, Mode.sl, Out.r, Sl.d, Sl.put, Pd.addD, Pd.intOp, Pd.mulD, Pd.negD, Pd.eqD, Pd.neD, Pd.cmD, Pd.dCm_int, Pd.dCm_str, Pd.dEq_nn, Pd.dEq_ii, Pd.dEq_bb, Pd.dEq_ss, Pd.eqOk_i, Pd.eqOk_b, Pd.eqOk_s, Pd.eqOk_n, Pd.cmOk_i, Pd.cmOk_s, Pd.e_tCl, Pd.passOk, Pd.ioS, Pd.apart, Pd.pass, Pd.pass1, Pd.putO, Pd.e_tL, Pd.e_tT, Pd.escapes, Pd.e_many, Pd.e_tBu, Pd.contents, Pd.lenD, Pd.intD, Pd.boolD, Pd.absD, Pd.listD, Pd.tupleD, Pd.isinD, Pd.allD, Pd.bools, Pd.bitsD, Pd.gcdD, Pd.ixD, Pd.isD, Pd.isNotD, Pd.e_tIsiT, Pd.tyName, Pd.isiT, Pd.tyNames, Pd.cellAt, Pd.putAt, Pd.e_tSI, Pd.e_tSF, Pd.e_tFl, Pd.putN, Pd.putX, Pd.e_tMk, Pd.e_tMkK, Pd.e_mkOk, Pd.e_tClK, Pd.ordK, R.isNon, D.lst?, D.int?, Pd.iterD, Pd.items, Pd.iterK, Pd.seqK, Pd.e_iSeq, Pd.e_iR1, Pd.e_iR2, Pd.e_gN, Pd.e_gCo, Pd.e_gNi, Pd.e_gT, Pd.e_settable, Pd.e_freeOf, Pd.wipeD, Pd.backD, Pd.back1, Pd.e_tSlc, Pd.slD, Pd.e_oN, Pd.e_oS, Pd.atI_nat, Pd.atI_lit, Pd.ixN_nat, Pd.ixN_lit, Pd.fdn, Pd.fmn, Pd.fdl, Pd.fml, Cm.i, Pd.tFo_eq, Pd.tLC_eq, Pd.e_tNv, ↓Pd.got_eqI, Pd.gotI_some, Pd.gotI_none, Pd.sizeS, Pd.sIx0, Pd.dfltI, Pd.e_iZ, Pd.e_tAu, Pd.e_tCM, Pd.e_tCMT, Pd.e_tCh]
        have ei : ((f : Int) ^ k = (p : Int)) = (f ^ k = p) := by rw [← Int.natCast_pow]; exact propext (by omega)
        simp only [ei]
        split
        · rename_i e
          rw [if_pos e] at rt
          exact hq f rt
        · rename_i e
          rw [if_neg e] at rt
          have := hq (f + 1) rt
          rwa [Int.natCast_add] at this

end LW

set_option Elab.async false
set_option linter.all false
set_option maxRecDepth 100000
set_option maxHeartbeats 0
namespace LW
open PySem PySem.Spec PyProof.Rows L2 Pd
def slU (u : Sl) : Prop := u = .un ∨ ∃ z, u = .val z
/-- doubling -/
def HiP (k p : Nat) (i : Nat) (e : Pd.Env) : Prop := ∃ u : Sl, slU u ∧ (∀ j, j < i → (2 ^ j) ^ k < p) ∧ e = [.val (.int k), .val (.int p), .val (.int (2 ^ i : Nat)), u, .un, .un]
/-- halving -/
def LoP (k p m : Nat) (i : Nat) (e : Pd.Env) : Prop := ∃ (L H : Nat) (u v : Sl), slU u ∧ slU v ∧ L ≤ H ∧ H ≤ 2 ^ m ∧ (∀ j, j < L → j ^ k < p) ∧ p ≤ H ^ k ∧ (H - L) * 2 ^ i ≤ 2 ^ m ∧ e = [.val (.int k), .val (.int p), .val (.int H), u, .val (.int ((L : Int) - 1)), v]
theorem pwL {b e : Int} {m : Nat} {q : List D → R → Prop} (h0 : 0 ≤ e) (hm : Sz m b) (hn : m * (e.toNat + 1) ≤ 60000000) (hb : e.toNat < 2 ^ 60) (h : q [] (.val (.int (b ^ e.toNat)))) : sp_law_power [.int b, .int e] q :=
  ⟨b, e.toNat, m, by rw [Int.toNat_of_nonneg h0], hm, hn, hb, h⟩
theorem lap_bound {k p i : Nat} (hk : 0 < k) (hp : p < 2 ^ 1200) (h : (2 ^ i) ^ k < p) : i < 1200 := by
  have h1 : 2 ^ i ≤ (2 ^ i) ^ k := Nat.le_self_pow (by omega) _
  have h2 : 2 ^ i < 2 ^ 1200 := by omega
  exact (Nat.pow_lt_pow_iff_right (by decide)).mp h2
theorem halve {L H i m : Nat} (h : (H - L) * 2 ^ i ≤ 2 ^ m) (x : Nat) (hx : 2 * x ≤ H - L) : x * 2 ^ (i + 1) ≤ 2 ^ m := by
  rw [Nat.pow_succ, ← Nat.mul_assoc, Nat.mul_right_comm]
  exact Nat.le_trans (Nat.mul_le_mul_right _ (by omega)) h
theorem r_law_least : Rd_law_least := by
  rintro ds q - ⟨k, p, rfl, hk, hk2, hp, hq⟩
  simp [t_law_least, m_law_least, m_law_power, Pd.e_tSq, Pd.e_tSqW, Pd.e_tSt, Pd.e_tPm, Pd.asgs, Pd.asg, Pd.escape, Pd.e_tCoB, Pd.e_tCo, Pd.e_tN, Pd.e_tV, Pd.e_tK, Pd.e_tOp2, Pd.e_tOp1, Pd.e_two, Pd.e_one, Pd.content, Pd.slotD, R.seal, Pd.e_ans, Pd.e_tBo, Pd.e_tAn, Pd.e_tOr_, Pd.e_tNo, Pd.e_tAnV, Pd.e_tOrV, Pd.e_tNoV, Pd.e_tIfD, Pd.e_tIfE, Pd.e_tRt, Pd.e_tRtN, Pd.e_tDr, Pd.e_tNx, Pd.e_tBk, Pd.e_tCt, Pd.e_tTr, Pd.truD, Pd.fin_val, Pd.fin_new, Pd.fin_al, Pd.retR, Pd.outsAt, Pd.entry, Pd.argSl, Mode.sl, Out.r, Sl.d, Sl.put, Pd.addD, Pd.intOp, Pd.mulD, Pd.negD, Pd.eqD, Pd.neD, Pd.cmD, Pd.dCm_int, Pd.dCm_str, Pd.dEq_nn, Pd.dEq_ii, Pd.dEq_bb, Pd.dEq_ss, Pd.eqOk_i, Pd.eqOk_b, Pd.eqOk_s, Pd.eqOk_n, Pd.cmOk_i, Pd.cmOk_s, Pd.e_tCl, Pd.passOk, Pd.ioS, Pd.apart, Pd.pass, Pd.pass1, Pd.putO, Pd.e_tL, Pd.e_tT, Pd.escapes, Pd.e_many, Pd.e_tBu, Pd.contents, Pd.lenD, Pd.intD, Pd.boolD, Pd.absD, Pd.listD, Pd.tupleD, Pd.isinD, Pd.allD, Pd.bools, Pd.bitsD, Pd.gcdD, Pd.ixD, Pd.isD, Pd.isNotD, Pd.e_tIsiT, Pd.tyName, Pd.isiT, Pd.tyNames, Pd.cellAt, Pd.putAt, Pd.e_tSI, Pd.e_tSF, Pd.e_tFl, Pd.putN, Pd.putX, Pd.e_tMk, Pd.e_tMkK, Pd.e_mkOk, Pd.e_tClK, Pd.ordK, R.isNon, D.lst?, D.int?, Pd.iterD, Pd.items, Pd.iterK, Pd.seqK, Pd.e_iSeq, Pd.e_iR1, Pd.e_iR2, Pd.e_gN, Pd.e_gCo, Pd.e_gNi, Pd.e_gT, Pd.e_settable, Pd.e_freeOf, Pd.wipeD, Pd.backD, Pd.back1, Pd.e_tSlc, Pd.slD, Pd.e_oN, Pd.e_oS, Pd.atI_nat, Pd.atI_lit, Pd.ixN_nat, Pd.ixN_lit, Pd.fdn, Pd.fmn, Pd.fdl, Pd.fml, Cm.i, Pd.tFo_eq, Pd.tLC_eq, Pd.e_tNv, ↓Pd.got_eqI, Pd.gotI_some, Pd.gotI_none, Pd.sizeS, Pd.sIx0, Pd.dfltI, Pd.e_iZ, Pd.e_tAu, Pd.e_tCM, Pd.e_tCMT, Pd.e_tCh]
  refine ⟨⟨by decide, by decide⟩, HiP k p, ⟨.un, .inl rfl, fun j hj => by omega, by simp⟩, ?_, ?_⟩
  · rintro i d _ hd ⟨u, hu, hi, rfl⟩
    obtain ⟨rfl, hi2⟩ := rangeD_get hd
    have bd : (i + 1) * (k + 1) ≤ 1301 * 101 := Nat.mul_le_mul (by omega) (by omega)
    have szi : Sz (i + 1) ((2 ^ i : Nat) : Int) := szN (Nat.pow_lt_pow_right (by decide) (by omega))
    have go : ∀ u, slU u → p ≤ (2 ^ i) ^ k → tSq (tSt 4 (tOp2 subD (tK (D.int 0)) (tK (D.int 1))))
          (tSq (tFo (iR1 (tCo (tK (D.int 1300)) tN)) (gN 3)
                (tSq (tSt 5 (tOp2 fdivD (tOp2 addD (tOp2 addD (tV 4) (tV 2)) (tK (D.int 1))) (tK (D.int 2))))
                  (tSq (tIfD (tBo (tOp2 (cmD Cm.lt) (tOp2 subD (tV 2) (tV 4)) (tK (D.int 2)))) tBk tNx)
                    (tIfD (tBo (tOp2 (cmD Cm.ge) (tCl [Mode.v, Mode.v] sp_law_power [] (tCo (tV 5) (tCo (tV 0) tN))) (tV 1)))
                      (tSt 2 (tV 5)) (tSt 4 (tV 5))))))
            (tRt (tV 2)))
          { nx := fun e => q [] (R.val D.non), rt := fun e r => fin [Mode.v, Mode.v] q e r }
          [.val (.int k), .val (.int p), .val (.int (2 ^ i : Nat)), u, .un, .un] := fun u hu hpi => by
      have hm : i ≤ 1200 := by
        rcases i with _ | i
        · omega
        · have := lap_bound hk hp (hi i (by omega))
          omega
      have fin_ : ∀ L H : Nat, L ≤ H → H ≤ L → (∀ j, j < L → j ^ k < p) → p ≤ H ^ k → q [] (.val (.int (H : Nat))) := fun L H h1 h2 h3 h4 => hq H ⟨h4, fun j hj => h3 j (by omega)⟩
      generalize hF : 2 ^ i = F at *
      simp [Pd.e_tSq, Pd.e_tSqW, Pd.e_tSt, Pd.e_tPm, Pd.asgs, Pd.asg, Pd.escape, Pd.e_tCoB, Pd.e_tCo, Pd.e_tN, Pd.e_tV, Pd.e_tK, Pd.e_tOp2, Pd.e_tOp1, Pd.e_two, Pd.e_one, Pd.content, Pd.slotD, R.seal, Pd.e_ans, Pd.e_tBo, Pd.e_tAn, Pd.e_tOr_, Pd.e_tNo, Pd.e_tAnV, Pd.e_tOrV, Pd.e_tNoV, Pd.e_tIfD, Pd.e_tIfE, Pd.e_tRt, Pd.e_tRtN, Pd.e_tDr, Pd.e_tNx, Pd.e_tBk, Pd.e_tCt, Pd.e_tTr, Pd.truD, Pd.fin_val, Pd.fin_new, Pd.fin_al, Pd.retR, Pd.outsAt, Pd.entry, Pd.argSl, Mode.sl, Out.r, Sl.d, Sl.put, Pd.addD, Pd.intOp, Pd.mulD, Pd.negD, Pd.eqD, Pd.neD, Pd.cmD, Pd.dCm_int, Pd.dCm_str, Pd.dEq_nn, Pd.dEq_ii, Pd.dEq_bb, Pd.dEq_ss, Pd.eqOk_i, Pd.eqOk_b, Pd.eqOk_s, Pd.eqOk_n, Pd.cmOk_i, Pd.cmOk_s, Pd.e_tCl, Pd.passOk, Pd.ioS, Pd.apart, Pd.pass, Pd.pass1, Pd.putO, Pd.e_tL, Pd.e_tT, Pd.escapes, Pd.e_many, Pd.e_tBu, Pd.contents, Pd.lenD, Pd.intD, Pd.boolD, Pd.absD, Pd.listD, Pd.tupleD, Pd.isinD, Pd.allD, Pd.bools, Pd.bitsD, Pd.gcdD, Pd.ixD, Pd.isD, Pd.isNotD, Pd.e_tIsiT, Pd.tyName, Pd.isiT, Pd.tyNames, Pd.cellAt, Pd.putAt, Pd.e_tSI, Pd.e_tSF, Pd.e_tFl, Pd.putN, Pd.putX, Pd.e_tMk, Pd.e_tMkK, Pd.e_mkOk, Pd.e_tClK, Pd.ordK, R.isNon, D.lst?, D.int?, Pd.iterD, Pd.items, Pd.iterK, Pd.seqK, Pd.e_iSeq, Pd.e_iR1, Pd.e_iR2, Pd.e_gN, Pd.e_gCo, Pd.e_gNi, Pd.e_gT, Pd.e_settable, Pd.e_freeOf, Pd.wipeD, Pd.backD, Pd.back1, Pd.e_tSlc, Pd.slD, Pd.e_oN, Pd.e_oS, Pd.atI_nat, Pd.atI_lit, Pd.ixN_nat, Pd.ixN_lit, Pd.fdn, Pd.fmn, Pd.fdl, Pd.fml, Cm.i, Pd.tFo_eq, Pd.tLC_eq, Pd.e_tNv, ↓Pd.got_eqI, Pd.gotI_some, Pd.gotI_none, Pd.sizeS, Pd.sIx0, Pd.dfltI, Pd.e_iZ, Pd.e_tAu, Pd.e_tCM, Pd.e_tCMT, Pd.e_tCh]
      refine ⟨⟨by decide, by decide⟩, LoP k p i, ⟨0, F, u, .un, hu, .inl rfl, by omega, by omega, fun j hj => by omega, hpi, by simp [hF], by simp⟩, ?_, ?_⟩
      · rintro i' d _ hd ⟨L, H, u, v, hu, hv, h1, h2, h3, h4, h5, rfl⟩
        obtain ⟨rfl, hi3⟩ := rangeD_get hd
        have em : (((L : Int) - 1 + H + 1)).fdiv 2 = (((L + H) / 2 : Nat) : Int) := by
          rw [show ((L : Int) - 1 + H + 1) = ((L + H : Nat) : Int) by omega]
          exact fdn _ 2
        have cd : ∀ z : Int, CDivA z 2 := fun z => cdiv_s (by decide) (by decide)
        have st : settable [Sl.val (.int k), .val (.int p), .val (.int H), u, .val (.int ((L : Int) - 1)), v] 3 := by
          rcases hu with rfl | ⟨z, rfl⟩ <;> simp [Pd.settable]
        rcases hu with rfl | ⟨z, rfl⟩ <;> rcases hv with rfl | ⟨z2, rfl⟩
        all_goals
          simp [Pd.e_tSq, Pd.e_tSqW, Pd.e_tSt, Pd.e_tPm, Pd.asgs, Pd.asg, Pd.escape, Pd.e_tCoB, Pd.e_tCo, Pd.e_tN, Pd.e_tV, Pd.e_tK, Pd.e_tOp2, Pd.e_tOp1, Pd.e_two, Pd.e_one, Pd.content, Pd.slotD, R.seal, Pd.e_ans, Pd.e_tBo, Pd.e_tAn, Pd.e_tOr_, Pd.e_tNo, Pd.e_tAnV, Pd.e_tOrV, Pd.e_tNoV, Pd.e_tIfD, Pd.e_tIfE, Pd.e_tRt, Pd.e_tRtN, Pd.e_tDr, Pd.e_tNx, Pd.e_tBk, Pd.e_tCt, Pd.e_tTr, Pd.truD, Pd.fin_val, Pd.fin_new, Pd.fin_al, Pd.retR, Pd.outsAt, Pd.entry, Pd.argSl, Mode.sl, Out.r, Sl.d, Sl.put, Pd.addD, Pd.intOp, Pd.mulD, Pd.negD, Pd.eqD, Pd.neD, Pd.cmD, Pd.dCm_int, Pd.dCm_str, Pd.dEq_nn, Pd.dEq_ii, Pd.dEq_bb, Pd.dEq_ss, Pd.eqOk_i, Pd.eqOk_b, Pd.eqOk_s, Pd.eqOk_n, Pd.cmOk_i, Pd.cmOk_s, Pd.e_tCl, Pd.passOk, Pd.ioS, Pd.apart, Pd.pass, Pd.pass1, Pd.putO, Pd.e_tL, Pd.e_tT, Pd.escapes, Pd.e_many, Pd.e_tBu, Pd.contents, Pd.lenD, Pd.intD, Pd.boolD, Pd.absD, Pd.listD, Pd.tupleD, Pd.isinD, Pd.allD, Pd.bools, Pd.bitsD, Pd.gcdD, Pd.ixD, Pd.isD, Pd.isNotD, Pd.e_tIsiT, Pd.tyName, Pd.isiT, Pd.tyNames, Pd.cellAt, Pd.putAt, Pd.e_tSI, Pd.e_tSF, Pd.e_tFl, Pd.putN, Pd.putX, Pd.e_tMk, Pd.e_tMkK, Pd.e_mkOk, Pd.e_tClK, Pd.ordK, R.isNon, D.lst?, D.int?, Pd.iterD, Pd.items, Pd.iterK, Pd.seqK, Pd.e_iSeq, Pd.e_iR1, Pd.e_iR2, Pd.e_gN, Pd.e_gCo, Pd.e_gNi, Pd.e_gT, Pd.e_settable, Pd.e_freeOf, Pd.wipeD, Pd.backD, Pd.back1, Pd.e_tSlc, Pd.slD, Pd.e_oN, Pd.e_oS, Pd.atI_nat, Pd.atI_lit, Pd.ixN_nat, Pd.ixN_lit, Pd.fdn, Pd.fmn, Pd.fdl, Pd.fml, Cm.i, Pd.tFo_eq, Pd.tLC_eq, Pd.e_tNv, ↓Pd.got_eqI, Pd.gotI_some, Pd.gotI_none, Pd.sizeS, Pd.sIx0, Pd.dfltI, Pd.e_iZ, Pd.e_tAu, Pd.e_tCM, Pd.e_tCMT, Pd.e_tCh, em, cd]
          split
          · exact fin_ L H h1 (by omega) h3 h4
          · refine pwL (m := i + 1) (by omega) (szN (Nat.lt_of_le_of_lt (show (L + H) / 2 ≤ F by omega) (by rw [← hF]; exact Nat.pow_lt_pow_right (by decide) (by omega)))) (by rw [Int.toNat_natCast]; omega) (by rw [Int.toNat_natCast]; omega) ?_
            simp [Pd.e_tSq, Pd.e_tSqW, Pd.e_tSt, Pd.e_tPm, Pd.asgs, Pd.asg, Pd.escape, Pd.e_tCoB, Pd.e_tCo, Pd.e_tN, Pd.e_tV, Pd.e_tK, Pd.e_tOp2, Pd.e_tOp1, Pd.e_two, Pd.e_one, Pd.content, Pd.slotD, R.seal, Pd.e_ans, Pd.e_tBo, Pd.e_tAn, Pd.e_tOr_, Pd.e_tNo, Pd.e_tAnV, Pd.e_tOrV, Pd.e_tNoV, Pd.e_tIfD, Pd.e_tIfE, Pd.e_tRt, Pd.e_tRtN, Pd.e_tDr, Pd.e_tNx, Pd.e_tBk, Pd.e_tCt, Pd.e_tTr, Pd.truD, Pd.fin_val, Pd.fin_new, Pd.fin_al, Pd.retR, Pd.outsAt, Pd.entry, Pd.argSl, Mode.sl, Out.r, Sl.d, Sl.put, Pd.addD, Pd.intOp, Pd.mulD, Pd.negD, Pd.eqD, Pd.neD, Pd.cmD, Pd.dCm_int, Pd.dCm_str, Pd.dEq_nn, Pd.dEq_ii, Pd.dEq_bb, Pd.dEq_ss, Pd.eqOk_i, Pd.eqOk_b, Pd.eqOk_s, Pd.eqOk_n, Pd.cmOk_i, Pd.cmOk_s, Pd.e_tCl, Pd.passOk, Pd.ioS, Pd.apart, Pd.pass, Pd.pass1, Pd.putO, Pd.e_tL, Pd.e_tT, Pd.escapes, Pd.e_many, Pd.e_tBu, Pd.contents, Pd.lenD, Pd.intD, Pd.boolD, Pd.absD, Pd.listD, Pd.tupleD, Pd.isinD, Pd.allD, Pd.bools, Pd.bitsD, Pd.gcdD, Pd.ixD, Pd.isD, Pd.isNotD, Pd.e_tIsiT, Pd.tyName, Pd.isiT, Pd.tyNames, Pd.cellAt, Pd.putAt, Pd.e_tSI, Pd.e_tSF, Pd.e_tFl, Pd.putN, Pd.putX, Pd.e_tMk, Pd.e_tMkK, Pd.e_mkOk, Pd.e_tClK, Pd.ordK, R.isNon, D.lst?, D.int?, Pd.iterD, Pd.items, Pd.iterK, Pd.seqK, Pd.e_iSeq, Pd.e_iR1, Pd.e_iR2, Pd.e_gN, Pd.e_gCo, Pd.e_gNi, Pd.e_gT, Pd.e_settable, Pd.e_freeOf, Pd.wipeD, Pd.backD, Pd.back1, Pd.e_tSlc, Pd.slD, Pd.e_oN, Pd.e_oS, Pd.atI_nat, Pd.atI_lit, Pd.ixN_nat, Pd.ixN_lit, Pd.fdn, Pd.fmn, Pd.fdl, Pd.fml, Cm.i, Pd.tFo_eq, Pd.tLC_eq, Pd.e_tNv, ↓Pd.got_eqI, Pd.gotI_some, Pd.gotI_none, Pd.sizeS, Pd.sIx0, Pd.dfltI, Pd.e_iZ, Pd.e_tAu, Pd.e_tCM, Pd.e_tCMT, Pd.e_tCh]
            simp only [show (((L : Int) + H) / 2) = (((L + H) / 2 : Nat) : Int) by simp]
            have hM1 : 2 * ((L + H) / 2) ≤ L + H := by omega
            have hM2 : L + H < 2 * ((L + H) / 2) + 2 := by omega
            generalize (L + H) / 2 = M at *
            split
            · rename_i hpM
              exact ⟨L, M, _, _, .inr ⟨_, rfl⟩, .inr ⟨_, rfl⟩, by omega, by omega, h3, by rw [← Int.natCast_pow] at hpM; omega, halve h5 _ (by omega), rfl⟩
            · rename_i hpM
              rw [← Int.natCast_pow] at hpM
              have hpM : M ^ k < p := by omega
              exact ⟨M + 1, H, .val (.int (i' : Int)), .val (.int (M : Int)), .inr ⟨_, rfl⟩, .inr ⟨_, rfl⟩, by omega, h2, fun j hj => Nat.lt_of_le_of_lt (Nat.pow_le_pow_left (by omega) k) hpM, h4, halve h5 _ (by omega), by simp⟩
      · rintro _ ⟨L, H, u, v, hu, hv, h1, h2, h3, h4, h5, rfl⟩
        simp [Pd.e_tSq, Pd.e_tSqW, Pd.e_tSt, Pd.e_tPm, Pd.asgs, Pd.asg, Pd.escape, Pd.e_tCoB, Pd.e_tCo, Pd.e_tN, Pd.e_tV, Pd.e_tK, Pd.e_tOp2, Pd.e_tOp1, Pd.e_two, Pd.e_one, Pd.content, Pd.slotD, R.seal, Pd.e_ans, Pd.e_tBo, Pd.e_tAn, Pd.e_tOr_, Pd.e_tNo, Pd.e_tAnV, Pd.e_tOrV, Pd.e_tNoV, Pd.e_tIfD, Pd.e_tIfE, Pd.e_tRt, Pd.e_tRtN, Pd.e_tDr, Pd.e_tNx, Pd.e_tBk, Pd.e_tCt, Pd.e_tTr, Pd.truD, Pd.fin_val, Pd.fin_new, Pd.fin_al, Pd.retR, Pd.outsAt, Pd.entry, Pd.argSl, Mode.sl, Out.r, Sl.d, Sl.put, Pd.addD, Pd.intOp, Pd.mulD, Pd.negD, Pd.eqD, Pd.neD, Pd.cmD, Pd.dCm_int, Pd.dCm_str, Pd.dEq_nn, Pd.dEq_ii, Pd.dEq_bb, Pd.dEq_ss, Pd.eqOk_i, Pd.eqOk_b, Pd.eqOk_s, Pd.eqOk_n, Pd.cmOk_i, Pd.cmOk_s, Pd.e_tCl, Pd.passOk, Pd.ioS, Pd.apart, Pd.pass, Pd.pass1, Pd.putO, Pd.e_tL, Pd.e_tT, Pd.escapes, Pd.e_many, Pd.e_tBu, Pd.contents, Pd.lenD, Pd.intD, Pd.boolD, Pd.absD, Pd.listD, Pd.tupleD, Pd.isinD, Pd.allD, Pd.bools, Pd.bitsD, Pd.gcdD, Pd.ixD, Pd.isD, Pd.isNotD, Pd.e_tIsiT, Pd.tyName, Pd.isiT, Pd.tyNames, Pd.cellAt, Pd.putAt, Pd.e_tSI, Pd.e_tSF, Pd.e_tFl, Pd.putN, Pd.putX, Pd.e_tMk, Pd.e_tMkK, Pd.e_mkOk, Pd.e_tClK, Pd.ordK, R.isNon, D.lst?, D.int?, Pd.iterD, Pd.items, Pd.iterK, Pd.seqK, Pd.e_iSeq, Pd.e_iR1, Pd.e_iR2, Pd.e_gN, Pd.e_gCo, Pd.e_gNi, Pd.e_gT, Pd.e_settable, Pd.e_freeOf, Pd.wipeD, Pd.backD, Pd.back1, Pd.e_tSlc, Pd.slD, Pd.e_oN, Pd.e_oS, Pd.atI_nat, Pd.atI_lit, Pd.ixN_nat, Pd.ixN_lit, Pd.fdn, Pd.fmn, Pd.fdl, Pd.fml, Cm.i, Pd.tFo_eq, Pd.tLC_eq, Pd.e_tNv, ↓Pd.got_eqI, Pd.gotI_some, Pd.gotI_none, Pd.sizeS, Pd.sIx0, Pd.dfltI, Pd.e_iZ, Pd.e_tAu, Pd.e_tCM, Pd.e_tCMT, Pd.e_tCh]
        refine fin_ L H h1 ?_ h3 h4
        rw [rangeD_len] at h5
        rcases Nat.eq_zero_or_pos (H - L) with z | z
        · omega
        · have l1 : 1 * 2 ^ 1300 ≤ (H - L) * 2 ^ 1300 := Nat.mul_le_mul_right _ z
          have l2 : 2 ^ i < 2 ^ 1300 := Nat.pow_lt_pow_right (by decide) (by omega)
          have h5 : (H - L) * 2 ^ 1300 ≤ 2 ^ i := h5
          omega
    rcases hu with rfl | ⟨z, rfl⟩
    all_goals
      simp [Pd.e_tSq, Pd.e_tSqW, Pd.e_tSt, Pd.e_tPm, Pd.asgs, Pd.asg, Pd.escape, Pd.e_tCoB, Pd.e_tCo, Pd.e_tN, Pd.e_tV, Pd.e_tK, Pd.e_tOp2, Pd.e_tOp1, Pd.e_two, Pd.e_one, Pd.content, Pd.slotD, R.seal, Pd.e_ans, Pd.e_tBo, Pd.e_tAn, Pd.e_tOr_, Pd.e_tNo, Pd.e_tAnV, Pd.e_tOrV, Pd.e_tNoV, Pd.e_tIfD, Pd.e_tIfE, Pd.e_tRt, Pd.e_tRtN, Pd.e_tDr, Pd.e_tNx, Pd.e_tBk, Pd.e_tCt, Pd.e_tTr, Pd.truD, Pd.fin_val, Pd.fin_new, Pd.fin_al, Pd.retR, Pd.outsAt, Pd.entry, Pd.argSl, Mode.sl, Out.r, Sl.d, Sl.put, Pd.addD, Pd.intOp, Pd.mulD, Pd.negD, Pd.eqD, Pd.neD, Pd.cmD, Pd.dCm_int, Pd.dCm_str, Pd.dEq_nn, Pd.dEq_ii, Pd.dEq_bb, Pd.dEq_ss, Pd.eqOk_i, Pd.eqOk_b, Pd.eqOk_s, Pd.eqOk_n, Pd.cmOk_i, Pd.cmOk_s, Pd.e_tCl, Pd.passOk, Pd.ioS, Pd.apart, Pd.pass, Pd.pass1, Pd.putO, Pd.e_tL, Pd.e_tT, Pd.escapes, Pd.e_many, Pd.e_tBu, Pd.contents, Pd.lenD, Pd.intD, Pd.boolD, Pd.absD, Pd.listD, Pd.tupleD, Pd.isinD, Pd.allD, Pd.bools, Pd.bitsD, Pd.gcdD, Pd.ixD, Pd.isD, Pd.isNotD, Pd.e_tIsiT, Pd.tyName, Pd.isiT, Pd.tyNames, Pd.cellAt, Pd.putAt, Pd.e_tSI, Pd.e_tSF, Pd.e_tFl, Pd.putN, Pd.putX, Pd.e_tMk, Pd.e_tMkK, Pd.e_mkOk, Pd.e_tClK, Pd.ordK, R.isNon, D.lst?, D.int?, Pd.iterD, Pd.items, Pd.iterK, Pd.seqK, Pd.e_iSeq, Pd.e_iR1, Pd.e_iR2, Pd.e_gN, Pd.e_gCo, Pd.e_gNi, Pd.e_gT, Pd.e_settable, Pd.e_freeOf, Pd.wipeD, Pd.backD, Pd.back1, Pd.e_tSlc, Pd.slD, Pd.e_oN, Pd.e_oS, Pd.atI_nat, Pd.atI_lit, Pd.ixN_nat, Pd.ixN_lit, Pd.fdn, Pd.fmn, Pd.fdl, Pd.fml, Cm.i, Pd.tFo_eq, Pd.tLC_eq, Pd.e_tNv, ↓Pd.got_eqI, Pd.gotI_some, Pd.gotI_none, Pd.sizeS, Pd.sIx0, Pd.dfltI, Pd.e_iZ, Pd.e_tAu, Pd.e_tCM, Pd.e_tCMT, Pd.e_tCh]
      refine pwL (m := i + 1) (by omega) (by simpa using szi) (by rw [Int.toNat_natCast]; omega) (by rw [Int.toNat_natCast]; omega) ?_
      simp [Pd.e_tSq, Pd.e_tSqW, Pd.e_tSt, Pd.e_tPm, Pd.asgs, Pd.asg, Pd.escape, Pd.e_tCoB, Pd.e_tCo, Pd.e_tN, Pd.e_tV, Pd.e_tK, Pd.e_tOp2, Pd.e_tOp1, Pd.e_two, Pd.e_one, Pd.content, Pd.slotD, R.seal, Pd.e_ans, Pd.e_tBo, Pd.e_tAn, Pd.e_tOr_, Pd.e_tNo, Pd.e_tAnV, Pd.e_tOrV, Pd.e_tNoV, Pd.e_tIfD, Pd.e_tIfE, Pd.e_tRt, Pd.e_tRtN, Pd.e_tDr, Pd.e_tNx, Pd.e_tBk, Pd.e_tCt, Pd.e_tTr, Pd.truD, Pd.fin_val, Pd.fin_new, Pd.fin_al, Pd.retR, Pd.outsAt, Pd.entry, Pd.argSl, Mode.sl, Out.r, Sl.d, Sl.put, Pd.addD, Pd.intOp, Pd.mulD, Pd.negD, Pd.eqD, Pd.neD, Pd.cmD, Pd.dCm_int, Pd.dCm_str, Pd.dEq_nn, Pd.dEq_ii, Pd.dEq_bb, Pd.dEq_ss, Pd.eqOk_i, Pd.eqOk_b, Pd.eqOk_s, Pd.eqOk_n, Pd.cmOk_i, Pd.cmOk_s, Pd.e_tCl, Pd.passOk, Pd.ioS, Pd.apart, Pd.pass, Pd.pass1, Pd.putO, Pd.e_tL, Pd.e_tT, Pd.escapes, Pd.e_many, Pd.e_tBu, Pd.contents, Pd.lenD, Pd.intD, Pd.boolD, Pd.absD, Pd.listD, Pd.tupleD, Pd.isinD, Pd.allD, Pd.bools, Pd.bitsD, Pd.gcdD, Pd.ixD, Pd.isD, Pd.isNotD, Pd.e_tIsiT, Pd.tyName, Pd.isiT, Pd.tyNames, Pd.cellAt, Pd.putAt, Pd.e_tSI, Pd.e_tSF, Pd.e_tFl, Pd.putN, Pd.putX, Pd.e_tMk, Pd.e_tMkK, Pd.e_mkOk, Pd.e_tClK, Pd.ordK, R.isNon, D.lst?, D.int?, Pd.iterD, Pd.items, Pd.iterK, Pd.seqK, Pd.e_iSeq, Pd.e_iR1, Pd.e_iR2, Pd.e_gN, Pd.e_gCo, Pd.e_gNi, Pd.e_gT, Pd.e_settable, Pd.e_freeOf, Pd.wipeD, Pd.backD, Pd.back1, Pd.e_tSlc, Pd.slD, Pd.e_oN, Pd.e_oS, Pd.atI_nat, Pd.atI_lit, Pd.ixN_nat, Pd.ixN_lit, Pd.fdn, Pd.fmn, Pd.fdl, Pd.fml, Cm.i, Pd.tFo_eq, Pd.tLC_eq, Pd.e_tNv, ↓Pd.got_eqI, Pd.gotI_some, Pd.gotI_none, Pd.sizeS, Pd.sIx0, Pd.dfltI, Pd.e_iZ, Pd.e_tAu, Pd.e_tCM, Pd.e_tCMT, Pd.e_tCh]
      split
      · rename_i hpi
        have hpi : (2 ^ i) ^ k < p := by
          have e : (((2 ^ i) ^ k : Nat) : Int) = (2 ^ i) ^ k := by simp
          omega
        refine ⟨by simpa using cmul_of (y := 2) (r := 2) szi (by decide) (by omega), .val (.int (i : Int)), .inr ⟨_, rfl⟩, fun j hj => ?_, by simp [Int.pow_succ]⟩
        rcases Nat.lt_or_ge j i with z | z
        · exact hi j z
        · rw [show j = i by omega]
          exact hpi
      · rename_i hpi
        have hpi : p ≤ (2 ^ i) ^ k := by
          have e : (((2 ^ i) ^ k : Nat) : Int) = (2 ^ i) ^ k := by simp
          omega
        have g := go (.val (.int i)) (.inr ⟨_, rfl⟩) hpi
        simp [Pd.e_tSq, Pd.e_tSqW, Pd.e_tSt, Pd.e_tPm, Pd.asgs, Pd.asg, Pd.escape, Pd.e_tCoB, Pd.e_tCo, Pd.e_tN, Pd.e_tV, Pd.e_tK, Pd.e_tOp2, Pd.e_tOp1, Pd.e_two, Pd.e_one, Pd.content, Pd.slotD, R.seal, Pd.e_ans, Pd.e_tBo, Pd.e_tAn, Pd.e_tOr_, Pd.e_tNo, Pd.e_tAnV, Pd.e_tOrV, Pd.e_tNoV, Pd.e_tIfD, Pd.e_tIfE, Pd.e_tRt, Pd.e_tRtN, Pd.e_tDr, Pd.e_tNx, Pd.e_tBk, Pd.e_tCt, Pd.e_tTr, Pd.truD, Pd.fin_val, Pd.fin_new, Pd.fin_al, Pd.retR, Pd.outsAt, Pd.entry, Pd.argSl, Mode.sl, Out.r, Sl.d, Sl.put, Pd.addD, Pd.intOp, Pd.mulD, Pd.negD, Pd.eqD, Pd.neD, Pd.cmD, Pd.dCm_int, Pd.dCm_str, Pd.dEq_nn, Pd.dEq_ii, Pd.dEq_bb, Pd.dEq_ss, Pd.eqOk_i, Pd.eqOk_b, Pd.eqOk_s, Pd.eqOk_n, Pd.cmOk_i, Pd.cmOk_s, Pd.e_tCl, Pd.passOk, Pd.ioS, Pd.apart, Pd.pass, Pd.pass1, Pd.putO, Pd.e_tL, Pd.e_tT, Pd.escapes, Pd.e_many, Pd.e_tBu, Pd.contents, Pd.lenD, Pd.intD, Pd.boolD, Pd.absD, Pd.listD, Pd.tupleD, Pd.isinD, Pd.allD, Pd.bools, Pd.bitsD, Pd.gcdD, Pd.ixD, Pd.isD, Pd.isNotD, Pd.e_tIsiT, Pd.tyName, Pd.isiT, Pd.tyNames, Pd.cellAt, Pd.putAt, Pd.e_tSI, Pd.e_tSF, Pd.e_tFl, Pd.putN, Pd.putX, Pd.e_tMk, Pd.e_tMkK, Pd.e_mkOk, Pd.e_tClK, Pd.ordK, R.isNon, D.lst?, D.int?, Pd.iterD, Pd.items, Pd.iterK, Pd.seqK, Pd.e_iSeq, Pd.e_iR1, Pd.e_iR2, Pd.e_gN, Pd.e_gCo, Pd.e_gNi, Pd.e_gT, Pd.e_settable, Pd.e_freeOf, Pd.wipeD, Pd.backD, Pd.back1, Pd.e_tSlc, Pd.slD, Pd.e_oN, Pd.e_oS, Pd.atI_nat, Pd.atI_lit, Pd.ixN_nat, Pd.ixN_lit, Pd.fdn, Pd.fmn, Pd.fdl, Pd.fml, Cm.i, Pd.tFo_eq, Pd.tLC_eq, Pd.e_tNv, ↓Pd.got_eqI, Pd.gotI_some, Pd.gotI_none, Pd.sizeS, Pd.sIx0, Pd.dfltI, Pd.e_iZ, Pd.e_tAu, Pd.e_tCM, Pd.e_tCMT, Pd.e_tCh] at g
        exact g
  · rintro _ ⟨u, hu, hi, rfl⟩
    have := lap_bound hk hp (hi 1299 (by rw [rangeD_len]; decide))
    omega
theorem r_law_like0 (spR : SpD) : Rd_law_like spR sp_law_like0 := by
  rintro ds q - ⟨d, rfl, hd, hq⟩
  cases d <;> first | exact hd.elim | skip
  · simp [t_law_like, m_law_like, Pd.e_tSq, Pd.e_tSqW, Pd.e_tSt, Pd.e_tPm, Pd.asgs, Pd.asg, Pd.escape, Pd.e_tCoB, Pd.e_tCo, Pd.e_tN, Pd.e_tV, Pd.e_tK, Pd.e_tOp2, Pd.e_tOp1, Pd.e_two, Pd.e_one, Pd.content, Pd.slotD, R.seal, Pd.e_ans, Pd.e_tBo, Pd.e_tAn, Pd.e_tOr_, Pd.e_tNo, Pd.e_tAnV, Pd.e_tOrV, Pd.e_tNoV, Pd.e_tIfD, Pd.e_tIfE, Pd.e_tRt, Pd.e_tRtN, Pd.e_tDr, Pd.e_tNx, Pd.e_tBk, Pd.e_tCt, Pd.e_tTr, Pd.truD, Pd.fin_val, Pd.fin_new, Pd.fin_al, Pd.retR, Pd.outsAt, Pd.entry, Pd.argSl, Mode.sl, Out.r, Sl.d, Sl.put, Pd.addD, Pd.intOp, Pd.mulD, Pd.negD, Pd.eqD, Pd.neD, Pd.cmD, Pd.dCm_int, Pd.dCm_str, Pd.dEq_nn, Pd.dEq_ii, Pd.dEq_bb, Pd.dEq_ss, Pd.eqOk_i, Pd.eqOk_b, Pd.eqOk_s, Pd.eqOk_n, Pd.cmOk_i, Pd.cmOk_s, Pd.e_tCl, Pd.passOk, Pd.ioS, Pd.apart, Pd.pass, Pd.pass1, Pd.putO, Pd.e_tL, Pd.e_tT, Pd.escapes, Pd.e_many, Pd.e_tBu, Pd.contents, Pd.lenD, Pd.intD, Pd.boolD, Pd.absD, Pd.listD, Pd.tupleD, Pd.isinD, Pd.allD, Pd.bools, Pd.bitsD, Pd.gcdD, Pd.ixD, Pd.isD, Pd.isNotD, Pd.e_tIsiT, Pd.tyName, Pd.isiT, Pd.tyNames, Pd.cellAt, Pd.putAt, Pd.e_tSI, Pd.e_tSF, Pd.e_tFl, Pd.putN, Pd.putX, Pd.e_tMk, Pd.e_tMkK, Pd.e_mkOk, Pd.e_tClK, Pd.ordK, R.isNon, D.lst?, D.int?, Pd.iterD, Pd.items, Pd.iterK, Pd.seqK, Pd.e_iSeq, Pd.e_iR1, Pd.e_iR2, Pd.e_gN, Pd.e_gCo, Pd.e_gNi, Pd.e_gT, Pd.e_settable, Pd.e_freeOf, Pd.wipeD, Pd.backD, Pd.back1, Pd.e_tSlc, Pd.slD, Pd.e_oN, Pd.e_oS, Pd.atI_nat, Pd.atI_lit, Pd.ixN_nat, Pd.ixN_lit, Pd.fdn, Pd.fmn, Pd.fdl, Pd.fml, Cm.i, Pd.tFo_eq, Pd.tLC_eq, Pd.e_tNv, ↓Pd.got_eqI, Pd.gotI_some, Pd.gotI_none, Pd.sizeS, Pd.sIx0, Pd.dfltI, Pd.e_iZ, Pd.e_tAu, Pd.e_tCM, Pd.e_tCMT, Pd.e_tCh]
    exact hq
  · simp [t_law_like, m_law_like, Pd.e_tSq, Pd.e_tSqW, Pd.e_tSt, Pd.e_tPm, Pd.asgs, Pd.asg, Pd.escape, Pd.e_tCoB, Pd.e_tCo, Pd.e_tN, Pd.e_tV, Pd.e_tK, Pd.e_tOp2, Pd.e_tOp1, Pd.e_two, Pd.e_one, Pd.content, Pd.slotD, R.seal, Pd.e_ans, Pd.e_tBo, Pd.e_tAn, Pd.e_tOr_, Pd.e_tNo, Pd.e_tAnV, Pd.e_tOrV, Pd.e_tNoV, Pd.e_tIfD, Pd.e_tIfE, Pd.e_tRt, Pd.e_tRtN, Pd.e_tDr, Pd.e_tNx, Pd.e_tBk, Pd.e_tCt, Pd.e_tTr, Pd.truD, Pd.fin_val, Pd.fin_new, Pd.fin_al, Pd.retR, Pd.outsAt, Pd.entry, Pd.argSl, Mode.sl, Out.r, Sl.d, Sl.put, Pd.addD, Pd.intOp, Pd.mulD, Pd.negD, Pd.eqD, Pd.neD, Pd.cmD, Pd.dCm_int, Pd.dCm_str, Pd.dEq_nn, Pd.dEq_ii, Pd.dEq_bb, Pd.dEq_ss, Pd.eqOk_i, Pd.eqOk_b, Pd.eqOk_s, Pd.eqOk_n, Pd.cmOk_i, Pd.cmOk_s, Pd.e_tCl, Pd.passOk, Pd.ioS, Pd.apart, Pd.pass, Pd.pass1, Pd.putO, Pd.e_tL, Pd.e_tT, Pd.escapes, Pd.e_many, Pd.e_tBu, Pd.contents, Pd.lenD, Pd.intD, Pd.boolD, Pd.absD, Pd.listD, Pd.tupleD, Pd.isinD, Pd.allD, Pd.bools, Pd.bitsD, Pd.gcdD, Pd.ixD, Pd.isD, Pd.isNotD, Pd.e_tIsiT, Pd.tyName, Pd.isiT, Pd.tyNames, Pd.cellAt, Pd.putAt, Pd.e_tSI, Pd.e_tSF, Pd.e_tFl, Pd.putN, Pd.putX, Pd.e_tMk, Pd.e_tMkK, Pd.e_mkOk, Pd.e_tClK, Pd.ordK, R.isNon, D.lst?, D.int?, Pd.iterD, Pd.items, Pd.iterK, Pd.seqK, Pd.e_iSeq, Pd.e_iR1, Pd.e_iR2, Pd.e_gN, Pd.e_gCo, Pd.e_gNi, Pd.e_gT, Pd.e_settable, Pd.e_freeOf, Pd.wipeD, Pd.backD, Pd.back1, Pd.e_tSlc, Pd.slD, Pd.e_oN, Pd.e_oS, Pd.atI_nat, Pd.atI_lit, Pd.ixN_nat, Pd.ixN_lit, Pd.fdn, Pd.fmn, Pd.fdl, Pd.fml, Cm.i, Pd.tFo_eq, Pd.tLC_eq, Pd.e_tNv, ↓Pd.got_eqI, Pd.gotI_some, Pd.gotI_none, Pd.sizeS, Pd.sIx0, Pd.dfltI, Pd.e_iZ, Pd.e_tAu, Pd.e_tCM, Pd.e_tCMT, Pd.e_tCh]
    exact hq
theorem bools_true : ∀ {acc : List D}, (∀ x ∈ acc, x = .bl true) → bools acc = some (acc.map fun _ => true)
  | [], _ => rfl
  | x :: acc, h => by
    rw [h x (by simp)]
    show (bools acc).map (true :: ·) = _
    rw [bools_true fun y hy => h y (by simp [hy])]
    rfl
def LikeP (xs : List D) (i : Nat) (e : Pd.Env) (acc : List D) : Prop := acc.length ≤ i ∧ i ≤ xs.length ∧ (∀ x ∈ acc, x = .bl true) ∧ e = [.val (.lst xs), .val (.lst xs), .un, .un]
theorem zip_self {xs : List D} {i : Nat} {d : D} (h : (zipD xs xs)[i]? = some d) : ∃ x, x ∈ xs ∧ d = .tup [x, x] ∧ i < xs.length := by
  obtain ⟨x, y, h1, h2, rfl⟩ := zipD_get h
  rw [h1] at h2
  cases h2
  exact ⟨x, List.mem_of_getElem? h1, rfl, lt_of_some h1⟩
theorem r_law_like1 : Rd_law_like sp_law_like0 sp_law_like := by
  rintro ds q - ⟨xs, rfl, hs, hl, hq⟩
  simp [t_law_like, m_law_like, Pd.e_tSq, Pd.e_tSqW, Pd.e_tSt, Pd.e_tPm, Pd.asgs, Pd.asg, Pd.escape, Pd.e_tCoB, Pd.e_tCo, Pd.e_tN, Pd.e_tV, Pd.e_tK, Pd.e_tOp2, Pd.e_tOp1, Pd.e_two, Pd.e_one, Pd.content, Pd.slotD, R.seal, Pd.e_ans, Pd.e_tBo, Pd.e_tAn, Pd.e_tOr_, Pd.e_tNo, Pd.e_tAnV, Pd.e_tOrV, Pd.e_tNoV, Pd.e_tIfD, Pd.e_tIfE, Pd.e_tRt, Pd.e_tRtN, Pd.e_tDr, Pd.e_tNx, Pd.e_tBk, Pd.e_tCt, Pd.e_tTr, Pd.truD, Pd.fin_val, Pd.fin_new, Pd.fin_al, Pd.retR, Pd.outsAt, Pd.entry, Pd.argSl, Mode.sl, Out.r, Sl.d, Sl.put, Pd.addD, Pd.intOp, Pd.mulD, Pd.negD, Pd.eqD, Pd.neD, Pd.cmD, Pd.dCm_int, Pd.dCm_str, Pd.dEq_nn, Pd.dEq_ii, Pd.dEq_bb, Pd.dEq_ss, Pd.eqOk_i, Pd.eqOk_b, Pd.eqOk_s, Pd.eqOk_n, Pd.cmOk_i, Pd.cmOk_s, Pd.e_tCl, Pd.passOk, Pd.ioS, Pd.apart, Pd.pass, Pd.pass1, Pd.putO, Pd.e_tL, Pd.e_tT, Pd.escapes, Pd.e_many, Pd.e_tBu, Pd.contents, Pd.lenD, Pd.intD, Pd.boolD, Pd.absD, Pd.listD, Pd.tupleD, Pd.isinD, Pd.allD, Pd.bools, Pd.bitsD, Pd.gcdD, Pd.ixD, Pd.isD, Pd.isNotD, Pd.e_tIsiT, Pd.tyName, Pd.isiT, Pd.tyNames, Pd.cellAt, Pd.putAt, Pd.e_tSI, Pd.e_tSF, Pd.e_tFl, Pd.putN, Pd.putX, Pd.e_tMk, Pd.e_tMkK, Pd.e_mkOk, Pd.e_tClK, Pd.ordK, R.isNon, D.lst?, D.int?, Pd.iterD, Pd.items, Pd.iterK, Pd.seqK, Pd.e_iSeq, Pd.e_iR1, Pd.e_iR2, Pd.e_gN, Pd.e_gCo, Pd.e_gNi, Pd.e_gT, Pd.e_settable, Pd.e_freeOf, Pd.wipeD, Pd.backD, Pd.back1, Pd.e_tSlc, Pd.slD, Pd.e_oN, Pd.e_oS, Pd.atI_nat, Pd.atI_lit, Pd.ixN_nat, Pd.ixN_lit, Pd.fdn, Pd.fmn, Pd.fdl, Pd.fml, Cm.i, Pd.tFo_eq, Pd.tLC_eq, Pd.e_tNv, ↓Pd.got_eqI, Pd.gotI_some, Pd.gotI_none, Pd.sizeS, Pd.sIx0, Pd.dfltI, Pd.e_iZ, Pd.e_tAu, Pd.e_tCM, Pd.e_tCMT, Pd.e_tCh]
  refine ⟨LikeP xs, ⟨by simp, by omega, by simp, by simp [Pd.e_tSq, Pd.e_tSqW, Pd.e_tSt, Pd.e_tPm, Pd.asgs, Pd.asg, Pd.escape, Pd.e_tCoB, Pd.e_tCo, Pd.e_tN, Pd.e_tV, Pd.e_tK, Pd.e_tOp2, Pd.e_tOp1, Pd.e_two, Pd.e_one, Pd.content, Pd.slotD, R.seal, Pd.e_ans, Pd.e_tBo, Pd.e_tAn, Pd.e_tOr_, Pd.e_tNo, Pd.e_tAnV, Pd.e_tOrV, Pd.e_tNoV, Pd.e_tIfD, Pd.e_tIfE, Pd.e_tRt, Pd.e_tRtN, Pd.e_tDr, Pd.e_tNx, Pd.e_tBk, Pd.e_tCt, Pd.e_tTr, Pd.truD, Pd.fin_val, Pd.fin_new, Pd.fin_al, Pd.retR, Pd.outsAt, Pd.entry, Pd.argSl, Mode.sl, Out.r, Sl.d, Sl.put, Pd.addD, Pd.intOp, Pd.mulD, Pd.negD, Pd.eqD, Pd.neD, Pd.cmD, Pd.dCm_int, Pd.dCm_str, Pd.dEq_nn, Pd.dEq_ii, Pd.dEq_bb, Pd.dEq_ss, Pd.eqOk_i, Pd.eqOk_b, Pd.eqOk_s, Pd.eqOk_n, Pd.cmOk_i, Pd.cmOk_s, Pd.e_tCl, Pd.passOk, Pd.ioS, Pd.apart, Pd.pass, Pd.pass1, Pd.putO, Pd.e_tL, Pd.e_tT, Pd.escapes, Pd.e_many, Pd.e_tBu, Pd.contents, Pd.lenD, Pd.intD, Pd.boolD, Pd.absD, Pd.listD, Pd.tupleD, Pd.isinD, Pd.allD, Pd.bools, Pd.bitsD, Pd.gcdD, Pd.ixD, Pd.isD, Pd.isNotD, Pd.e_tIsiT, Pd.tyName, Pd.isiT, Pd.tyNames, Pd.cellAt, Pd.putAt, Pd.e_tSI, Pd.e_tSF, Pd.e_tFl, Pd.putN, Pd.putX, Pd.e_tMk, Pd.e_tMkK, Pd.e_mkOk, Pd.e_tClK, Pd.ordK, R.isNon, D.lst?, D.int?, Pd.iterD, Pd.items, Pd.iterK, Pd.seqK, Pd.e_iSeq, Pd.e_iR1, Pd.e_iR2, Pd.e_gN, Pd.e_gCo, Pd.e_gNi, Pd.e_gT, Pd.e_settable, Pd.e_freeOf, Pd.wipeD, Pd.backD, Pd.back1, Pd.e_tSlc, Pd.slD, Pd.e_oN, Pd.e_oS, Pd.atI_nat, Pd.atI_lit, Pd.ixN_nat, Pd.ixN_lit, Pd.fdn, Pd.fmn, Pd.fdl, Pd.fml, Cm.i, Pd.tFo_eq, Pd.tLC_eq, Pd.e_tNv, ↓Pd.got_eqI, Pd.gotI_some, Pd.gotI_none, Pd.sizeS, Pd.sIx0, Pd.dfltI, Pd.e_iZ, Pd.e_tAu, Pd.e_tCM, Pd.e_tCMT, Pd.e_tCh]⟩, ?_, ?_⟩
  · rintro i d _ acc hd ⟨h1, h2, h3, rfl⟩
    obtain ⟨x, hx, rfl, hi⟩ := zip_self hd
    simp [Pd.e_tSq, Pd.e_tSqW, Pd.e_tSt, Pd.e_tPm, Pd.asgs, Pd.asg, Pd.escape, Pd.e_tCoB, Pd.e_tCo, Pd.e_tN, Pd.e_tV, Pd.e_tK, Pd.e_tOp2, Pd.e_tOp1, Pd.e_two, Pd.e_one, Pd.content, Pd.slotD, R.seal, Pd.e_ans, Pd.e_tBo, Pd.e_tAn, Pd.e_tOr_, Pd.e_tNo, Pd.e_tAnV, Pd.e_tOrV, Pd.e_tNoV, Pd.e_tIfD, Pd.e_tIfE, Pd.e_tRt, Pd.e_tRtN, Pd.e_tDr, Pd.e_tNx, Pd.e_tBk, Pd.e_tCt, Pd.e_tTr, Pd.truD, Pd.fin_val, Pd.fin_new, Pd.fin_al, Pd.retR, Pd.outsAt, Pd.entry, Pd.argSl, Mode.sl, Out.r, Sl.d, Sl.put, Pd.addD, Pd.intOp, Pd.mulD, Pd.negD, Pd.eqD, Pd.neD, Pd.cmD, Pd.dCm_int, Pd.dCm_str, Pd.dEq_nn, Pd.dEq_ii, Pd.dEq_bb, Pd.dEq_ss, Pd.eqOk_i, Pd.eqOk_b, Pd.eqOk_s, Pd.eqOk_n, Pd.cmOk_i, Pd.cmOk_s, Pd.e_tCl, Pd.passOk, Pd.ioS, Pd.apart, Pd.pass, Pd.pass1, Pd.putO, Pd.e_tL, Pd.e_tT, Pd.escapes, Pd.e_many, Pd.e_tBu, Pd.contents, Pd.lenD, Pd.intD, Pd.boolD, Pd.absD, Pd.listD, Pd.tupleD, Pd.isinD, Pd.allD, Pd.bools, Pd.bitsD, Pd.gcdD, Pd.ixD, Pd.isD, Pd.isNotD, Pd.e_tIsiT, Pd.tyName, Pd.isiT, Pd.tyNames, Pd.cellAt, Pd.putAt, Pd.e_tSI, Pd.e_tSF, Pd.e_tFl, Pd.putN, Pd.putX, Pd.e_tMk, Pd.e_tMkK, Pd.e_mkOk, Pd.e_tClK, Pd.ordK, R.isNon, D.lst?, D.int?, Pd.iterD, Pd.items, Pd.iterK, Pd.seqK, Pd.e_iSeq, Pd.e_iR1, Pd.e_iR2, Pd.e_gN, Pd.e_gCo, Pd.e_gNi, Pd.e_gT, Pd.e_settable, Pd.e_freeOf, Pd.wipeD, Pd.backD, Pd.back1, Pd.e_tSlc, Pd.slD, Pd.e_oN, Pd.e_oS, Pd.atI_nat, Pd.atI_lit, Pd.ixN_nat, Pd.ixN_lit, Pd.fdn, Pd.fmn, Pd.fdl, Pd.fml, Cm.i, Pd.tFo_eq, Pd.tLC_eq, Pd.e_tNv, ↓Pd.got_eqI, Pd.gotI_some, Pd.gotI_none, Pd.sizeS, Pd.sIx0, Pd.dfltI, Pd.e_iZ, Pd.e_tAu, Pd.e_tCM, Pd.e_tCMT, Pd.e_tCh]
    refine ⟨x, rfl, hs x hx, ?_⟩
    simp [Pd.e_tSq, Pd.e_tSqW, Pd.e_tSt, Pd.e_tPm, Pd.asgs, Pd.asg, Pd.escape, Pd.e_tCoB, Pd.e_tCo, Pd.e_tN, Pd.e_tV, Pd.e_tK, Pd.e_tOp2, Pd.e_tOp1, Pd.e_two, Pd.e_one, Pd.content, Pd.slotD, R.seal, Pd.e_ans, Pd.e_tBo, Pd.e_tAn, Pd.e_tOr_, Pd.e_tNo, Pd.e_tAnV, Pd.e_tOrV, Pd.e_tNoV, Pd.e_tIfD, Pd.e_tIfE, Pd.e_tRt, Pd.e_tRtN, Pd.e_tDr, Pd.e_tNx, Pd.e_tBk, Pd.e_tCt, Pd.e_tTr, Pd.truD, Pd.fin_val, Pd.fin_new, Pd.fin_al, Pd.retR, Pd.outsAt, Pd.entry, Pd.argSl, Mode.sl, Out.r, Sl.d, Sl.put, Pd.addD, Pd.intOp, Pd.mulD, Pd.negD, Pd.eqD, Pd.neD, Pd.cmD, Pd.dCm_int, Pd.dCm_str, Pd.dEq_nn, Pd.dEq_ii, Pd.dEq_bb, Pd.dEq_ss, Pd.eqOk_i, Pd.eqOk_b, Pd.eqOk_s, Pd.eqOk_n, Pd.cmOk_i, Pd.cmOk_s, Pd.e_tCl, Pd.passOk, Pd.ioS, Pd.apart, Pd.pass, Pd.pass1, Pd.putO, Pd.e_tL, Pd.e_tT, Pd.escapes, Pd.e_many, Pd.e_tBu, Pd.contents, Pd.lenD, Pd.intD, Pd.boolD, Pd.absD, Pd.listD, Pd.tupleD, Pd.isinD, Pd.allD, Pd.bools, Pd.bitsD, Pd.gcdD, Pd.ixD, Pd.isD, Pd.isNotD, Pd.e_tIsiT, Pd.tyName, Pd.isiT, Pd.tyNames, Pd.cellAt, Pd.putAt, Pd.e_tSI, Pd.e_tSF, Pd.e_tFl, Pd.putN, Pd.putX, Pd.e_tMk, Pd.e_tMkK, Pd.e_mkOk, Pd.e_tClK, Pd.ordK, R.isNon, D.lst?, D.int?, Pd.iterD, Pd.items, Pd.iterK, Pd.seqK, Pd.e_iSeq, Pd.e_iR1, Pd.e_iR2, Pd.e_gN, Pd.e_gCo, Pd.e_gNi, Pd.e_gT, Pd.e_settable, Pd.e_freeOf, Pd.wipeD, Pd.backD, Pd.back1, Pd.e_tSlc, Pd.slD, Pd.e_oN, Pd.e_oS, Pd.atI_nat, Pd.atI_lit, Pd.ixN_nat, Pd.ixN_lit, Pd.fdn, Pd.fmn, Pd.fdl, Pd.fml, Cm.i, Pd.tFo_eq, Pd.tLC_eq, Pd.e_tNv, ↓Pd.got_eqI, Pd.gotI_some, Pd.gotI_none, Pd.sizeS, Pd.sIx0, Pd.dfltI, Pd.e_iZ, Pd.e_tAu, Pd.e_tCM, Pd.e_tCMT, Pd.e_tCh]
    exact ⟨by rw [sizeLine_eq]; omega, by simp; omega, by omega, fun y hy => by
      rcases List.mem_append.mp hy with z | z
      · exact h3 y z
      · exact List.mem_singleton.mp z, rfl⟩
  · rintro _ acc ⟨h1, h2, h3, rfl⟩
    have e : (acc.all fun _ => true) = true := by simp
    simp [Pd.e_tSq, Pd.e_tSqW, Pd.e_tSt, Pd.e_tPm, Pd.asgs, Pd.asg, Pd.escape, Pd.e_tCoB, Pd.e_tCo, Pd.e_tN, Pd.e_tV, Pd.e_tK, Pd.e_tOp2, Pd.e_tOp1, Pd.e_two, Pd.e_one, Pd.content, Pd.slotD, R.seal, Pd.e_ans, Pd.e_tBo, Pd.e_tAn, Pd.e_tOr_, Pd.e_tNo, Pd.e_tAnV, Pd.e_tOrV, Pd.e_tNoV, Pd.e_tIfD, Pd.e_tIfE, Pd.e_tRt, Pd.e_tRtN, Pd.e_tDr, Pd.e_tNx, Pd.e_tBk, Pd.e_tCt, Pd.e_tTr, Pd.truD, Pd.fin_val, Pd.fin_new, Pd.fin_al, Pd.retR, Pd.outsAt, Pd.entry, Pd.argSl, Mode.sl, Out.r, Sl.d, Sl.put, Pd.addD, Pd.intOp, Pd.mulD, Pd.negD, Pd.eqD, Pd.neD, Pd.cmD, Pd.dCm_int, Pd.dCm_str, Pd.dEq_nn, Pd.dEq_ii, Pd.dEq_bb, Pd.dEq_ss, Pd.eqOk_i, Pd.eqOk_b, Pd.eqOk_s, Pd.eqOk_n, Pd.cmOk_i, Pd.cmOk_s, Pd.e_tCl, Pd.passOk, Pd.ioS, Pd.apart, Pd.pass, Pd.pass1, Pd.putO, Pd.e_tL, Pd.e_tT, Pd.escapes, Pd.e_many, Pd.e_tBu, Pd.contents, Pd.lenD, Pd.intD, Pd.boolD, Pd.absD, Pd.listD, Pd.tupleD, Pd.isinD, Pd.allD, Pd.bools, Pd.bitsD, Pd.gcdD, Pd.ixD, Pd.isD, Pd.isNotD, Pd.e_tIsiT, Pd.tyName, Pd.isiT, Pd.tyNames, Pd.cellAt, Pd.putAt, Pd.e_tSI, Pd.e_tSF, Pd.e_tFl, Pd.putN, Pd.putX, Pd.e_tMk, Pd.e_tMkK, Pd.e_mkOk, Pd.e_tClK, Pd.ordK, R.isNon, D.lst?, D.int?, Pd.iterD, Pd.items, Pd.iterK, Pd.seqK, Pd.e_iSeq, Pd.e_iR1, Pd.e_iR2, Pd.e_gN, Pd.e_gCo, Pd.e_gNi, Pd.e_gT, Pd.e_settable, Pd.e_freeOf, Pd.wipeD, Pd.backD, Pd.back1, Pd.e_tSlc, Pd.slD, Pd.e_oN, Pd.e_oS, Pd.atI_nat, Pd.atI_lit, Pd.ixN_nat, Pd.ixN_lit, Pd.fdn, Pd.fmn, Pd.fdl, Pd.fml, Cm.i, Pd.tFo_eq, Pd.tLC_eq, Pd.e_tNv, ↓Pd.got_eqI, Pd.gotI_some, Pd.gotI_none, Pd.sizeS, Pd.sIx0, Pd.dfltI, Pd.e_iZ, Pd.e_tAu, Pd.e_tCM, Pd.e_tCMT, Pd.e_tCh, bools_true h3]
    rw [e]
    exact hq

end LW

set_option Elab.async false
set_option linter.all false
set_option maxRecDepth 100000
set_option maxHeartbeats 0
namespace LW
open PySem PySem.Spec PyProof.Rows L2 Pd
def N20 : Int := 100000000000000000000
theorem pow20 : powD (.int 10) (.int 20) = some (True, .v (.int N20)) := by
  have e : ((10 : Int) ^ (20 : Int).toNat) = N20 := by decide +kernel
  have c : CPow 10 20 = True := eq_true ⟨by decide, by decide, by decide⟩
  show some (CPow 10 20, Out.v (.int ((10 : Int) ^ (20 : Int).toNat))) = _
  rw [e, c]
theorem n20 (b : Nat) : ((b : Int) < N20 ∧ b < 10 ^ 20) ∨ (¬ (b : Int) < N20 ∧ ¬ b < 10 ^ 20) := by
  have hN : N20 = ((10 ^ 20 : Nat) : Int) := by decide +kernel
  generalize N20 = N at *
  generalize 10 ^ 20 = M at *
  omega
theorem great {n : Nat} {d : D} {q : List D → R → Prop} (hb : BagOk n d) (hn : n < 2 ^ 50) (h : ∀ (d' : D) (k : Nat), BagOk (n + 10) d' → k < 10 ^ 39 → q [d'] (.val (.int k))) : sp_law_great [d] q := ⟨d, n, rfl, hb, hn, h⟩
theorem rootI {i : Int} {p k : Nat} {q : List D → R → Prop} (h0 : 0 ≤ i) (hk : 0 < k) (hk2 : k ≤ 100) (hp : p < 2 ^ 1200) (h : ∀ r : Nat, IsRoot p k r → q [] (.val (.int r))) : sp_law_root [.int i, .int p, .int k] q :=
  ⟨i.toNat, p, k, by rw [Int.toNat_of_nonneg h0], hk, hk2, hp, h⟩
theorem lrootI {p k : Nat} {q : List D → R → Prop} (hk : 0 < k) (hk2 : k ≤ 100) (hp : p < 2 ^ 1200) (h : ∀ r : Nat, IsRoot p k r → q [] (.val (.int r))) : sp_least_root [.int p, .int k] q := ⟨p, k, rfl, hk, hk2, lt35 hp, h⟩
theorem lleastI {p k : Nat} {q : List D → R → Prop} (hk : 0 < k) (hk2 : k ≤ 100) (hp : p < 2 ^ 1200) (h : ∀ r : Nat, IsRoot p k r → q [] (.val (.int r))) : sp_law_least [.int k, .int p] q := ⟨k, p, rfl, hk, hk2, hp, h⟩
theorem least_ex {P : Nat → Prop} : ∀ n, P n → ∃ r, P r ∧ r ≤ n ∧ ∀ j, j < r → ¬ P j := fun n => by
  induction n using Nat.strongRecOn with
  | _ n ih =>
    intro h
    by_cases e : ∃ j, j < n ∧ P j
    · obtain ⟨j, hj, pj⟩ := e
      obtain ⟨r, h1, h2, h3⟩ := ih j hj pj
      exact ⟨r, h1, by omega, h3⟩
    · exact ⟨n, h, Nat.le_refl _, fun j hj pj => e ⟨j, hj, pj⟩⟩
theorem root_ex (p : Nat) {k : Nat} (hk : 0 < k) : ∃ r, IsRoot p k r := by
  obtain ⟨r, h1, _, h3⟩ := least_ex (P := fun r => p ≤ r ^ k) p (Nat.le_self_pow (by omega) p)
  exact ⟨r, h1, fun j hj => by have := h3 j hj; omega⟩
theorem root_uniq {p k r s : Nat} (h1 : IsRoot p k r) (h2 : IsRoot p k s) : r = s := by
  rcases Nat.lt_trichotomy r s with z | z | z
  · have := h2.2 r z; have := h1.1; omega
  · exact z
  · have := h1.2 s z; have := h2.1; omega
theorem root_le {p k r : Nat} (hk : 0 < k) (h : IsRoot p k r) : r ≤ p := by
  rcases Nat.lt_or_ge p r with z | z
  · have := h.2 p z
    have := Nat.le_self_pow (show k ≠ 0 by omega) p
    omega
  · exact z
theorem root_pow {b k : Nat} (hk : 0 < k) : IsRoot (b ^ k) k b := ⟨Nat.le_refl _, fun j hj => Nat.pow_lt_pow_left hj (by omega)⟩
theorem root_pow1 {b k : Nat} (hk : 0 < k) : IsRoot (b ^ k + 1) k (b + 1) :=
  ⟨Nat.pow_lt_pow_left (Nat.lt_succ_self b) (by omega), fun j hj => Nat.lt_succ_of_le (Nat.pow_le_pow_left (by omega) k)⟩
theorem pwL2 {b e : Nat} {q : List D → R → Prop} (hb : b < 2 ^ 1200) (he : e ≤ 100) (h : q [] (.val (.int (b ^ e : Nat)))) : sp_law_power [.int b, .int e] q :=
  pwL (m := 1200) (by omega) (szN hb) (by rw [Int.toNat_natCast]; omega) (by rw [Int.toNat_natCast]; omega) (by rw [Int.toNat_natCast, ← Int.natCast_pow]; exact h)
theorem bagSo {n m k : Nat} {d : D} {q : List D → R → Prop} (hq : ∀ d' : D, BagOk (n + m) d' → q [d'] (.val (.bl true))) (hb : BagOk k d) (h : k ≤ n + m) : q [d] (.val (.bl true)) := hq d (hb.mono h)
theorem likeI {xs : List D} {q : List D → R → Prop} (h : ∀ x ∈ xs, scal x) (hl : xs.length ≤ 1000) (hq : q [] (.val (.bl true))) : sp_law_like [.lst xs, .lst xs] q := ⟨xs, rfl, h, hl, hq⟩
def RootsP (n t b e : Nat) (i : Nat) (env : Pd.Env) : Prop := i ≤ 7 ∧ ∃ (d : D) (u v : Sl), BagOk (n + 30 + i) d ∧ slU u ∧ slU v ∧ env = [.io d, .val (.int t), .val (.int b), .val (.int e), u, v]
theorem roots_loop {n t b e : Nat} {d : D} {E E2 : EndsD} {ws : List D} (hE2 : E2.rt = E.rt) (hb : BagOk (n + 30) d) (hn : n < 2 ^ 40) (t0 : 0 < t) (t1 : t ≤ 12) (hws : ∀ x ∈ ws, ∃ w : Nat, x = .int w ∧ w < 2 ^ 1200) (hl : ws.length = 7)
    (hend : ∀ (d : D) (u v : Sl), BagOk (n + 40) d → E2.nx [.io d, .val (.int t), .val (.int b), .val (.int e), u, v]) :
    Loop (gN 4) (tSq (tSt 5 (tCl m_law_root sp_law_root [] (tCo (tCl m_law_draw sp_law_draw [] (tCo (tV 0) (tCo (tK (D.int 3)) tN))) (tCo (tV 4) (tCo (tV 1) tN))))) t_law_roots_so_6) E2
      [Sl.io d, Sl.val (D.int ↑t), Sl.val (D.int ↑b), Sl.val (D.int ↑e), Sl.un, Sl.un] ws := by
  refine ⟨RootsP n t b e, ⟨by omega, d, .un, .un, hb.mono (by omega), .inl rfl, .inl rfl, rfl⟩, ?_, ?_⟩
  · rintro i x _ hx ⟨hi, d, u, v, hb, hu, hv, rfl⟩
    obtain ⟨w, rfl, hw⟩ := hws x (List.mem_of_getElem? hx)
    have hi7 : i < 7 := by have := lt_of_some hx; omega
    rcases hu with rfl | ⟨z, rfl⟩ <;> rcases hv with rfl | ⟨z2, rfl⟩
    all_goals
      simp [m_law_root, m_law_draw, Pd.e_tSq, Pd.e_tSqW, Pd.e_tSt, Pd.e_tPm, Pd.asgs, Pd.asg, Pd.escape, Pd.e_tCoB, Pd.e_tCo, Pd.e_tN, Pd.e_tV, Pd.e_tK, Pd.e_tOp2, Pd.e_tOp1, Pd.e_two, Pd.e_one, Pd.content, Pd.slotD, R.seal, Pd.e_ans, Pd.e_tBo, Pd.e_tAn, Pd.e_tOr_, Pd.e_tNo, Pd.e_tAnV, Pd.e_tOrV, Pd.e_tNoV, Pd.e_tIfD, Pd.e_tIfE, Pd.e_tRt, Pd.e_tRtN, Pd.e_tDr, Pd.e_tNx, Pd.e_tBk, Pd.e_tCt, Pd.e_tTr, Pd.truD, Pd.fin_val, Pd.fin_new, Pd.fin_al, Pd.retR, Pd.outsAt, Pd.entry, Pd.argSl, Mode.sl, Out.r, Sl.d, Sl.put, Pd.addD, Pd.intOp, Pd.mulD, Pd.negD, Pd.eqD, Pd.neD, Pd.cmD, Pd.dCm_int, Pd.dCm_str, Pd.dEq_nn, Pd.dEq_ii, Pd.dEq_bb, Pd.dEq_ss, Pd.eqOk_i, Pd.eqOk_b, Pd.eqOk_s, Pd.eqOk_n, Pd.cmOk_i, Pd.cmOk_s, Pd.e_tClI, Pd.passOk, Pd.ioS, Pd.apart, Pd.pass, Pd.pass1, Pd.putO, Pd.e_tL, Pd.e_tT, Pd.escapes, Pd.e_many, Pd.e_tBu, Pd.contents, Pd.lenD, Pd.intD, Pd.boolD, Pd.absD, Pd.listD, Pd.tupleD, Pd.isinD, Pd.allD, Pd.bools, Pd.bitsD, Pd.gcdD, Pd.ixD, Pd.isD, Pd.isNotD, Pd.e_tIsiT, Pd.tyName, Pd.isiT, Pd.tyNames, Pd.cellAt, Pd.putAt, Pd.e_tSI, Pd.e_tSF, Pd.e_tFl, Pd.putN, Pd.putX, Pd.e_tMk, Pd.e_tMkK, Pd.e_mkOkI, Pd.e_tClKI, Pd.ordK, R.isNon, D.lst?, D.int?, Pd.iterD, Pd.items, Pd.iterK, Pd.seqK, Pd.e_iSeq, Pd.e_iR1, Pd.e_iR2, Pd.e_gN, Pd.e_gCo, Pd.e_gNi, Pd.e_gT, Pd.e_settable, Pd.e_freeOf, Pd.wipeD, Pd.backD, Pd.back1, Pd.e_tSlc, Pd.slD, Pd.e_oN, Pd.e_oS, Pd.atI_nat, Pd.atI_lit, Pd.ixN_nat, Pd.ixN_lit, Pd.fdn, Pd.fmn, Pd.fdl, Pd.fml, Cm.i, Pd.tFo_eq, Pd.tLC_eq, Pd.e_tNv, ↓Pd.got_eqI, Pd.gotI_some, Pd.gotI_none, Pd.sizeS, Pd.sIx0, Pd.dfltI, Pd.e_iZ, Pd.e_tAu, Pd.e_tCM, Pd.e_tCMT, Pd.e_tCh]
      refine draw hb (by omega) (by omega) (by omega) fun d1 k1 hb1 hk1 => ?_
      simp [Pd.e_tSq, Pd.e_tSqW, Pd.e_tSt, Pd.e_tPm, Pd.asgs, Pd.asg, Pd.escape, Pd.e_tCoB, Pd.e_tCo, Pd.e_tN, Pd.e_tV, Pd.e_tK, Pd.e_tOp2, Pd.e_tOp1, Pd.e_two, Pd.e_one, Pd.content, Pd.slotD, R.seal, Pd.e_ans, Pd.e_tBo, Pd.e_tAn, Pd.e_tOr_, Pd.e_tNo, Pd.e_tAnV, Pd.e_tOrV, Pd.e_tNoV, Pd.e_tIfD, Pd.e_tIfE, Pd.e_tRt, Pd.e_tRtN, Pd.e_tDr, Pd.e_tNx, Pd.e_tBk, Pd.e_tCt, Pd.e_tTr, Pd.truD, Pd.fin_val, Pd.fin_new, Pd.fin_al, Pd.retR, Pd.outsAt, Pd.entry, Pd.argSl, Mode.sl, Out.r, Sl.d, Sl.put, Pd.addD, Pd.intOp, Pd.mulD, Pd.negD, Pd.eqD, Pd.neD, Pd.cmD, Pd.dCm_int, Pd.dCm_str, Pd.dEq_nn, Pd.dEq_ii, Pd.dEq_bb, Pd.dEq_ss, Pd.eqOk_i, Pd.eqOk_b, Pd.eqOk_s, Pd.eqOk_n, Pd.cmOk_i, Pd.cmOk_s, Pd.e_tClI, Pd.passOk, Pd.ioS, Pd.apart, Pd.pass, Pd.pass1, Pd.putO, Pd.e_tL, Pd.e_tT, Pd.escapes, Pd.e_many, Pd.e_tBu, Pd.contents, Pd.lenD, Pd.intD, Pd.boolD, Pd.absD, Pd.listD, Pd.tupleD, Pd.isinD, Pd.allD, Pd.bools, Pd.bitsD, Pd.gcdD, Pd.ixD, Pd.isD, Pd.isNotD, Pd.e_tIsiT, Pd.tyName, Pd.isiT, Pd.tyNames, Pd.cellAt, Pd.putAt, Pd.e_tSI, Pd.e_tSF, Pd.e_tFl, Pd.putN, Pd.putX, Pd.e_tMk, Pd.e_tMkK, Pd.e_mkOkI, Pd.e_tClKI, Pd.ordK, R.isNon, D.lst?, D.int?, Pd.iterD, Pd.items, Pd.iterK, Pd.seqK, Pd.e_iSeq, Pd.e_iR1, Pd.e_iR2, Pd.e_gN, Pd.e_gCo, Pd.e_gNi, Pd.e_gT, Pd.e_settable, Pd.e_freeOf, Pd.wipeD, Pd.backD, Pd.back1, Pd.e_tSlc, Pd.slD, Pd.e_oN, Pd.e_oS, Pd.atI_nat, Pd.atI_lit, Pd.ixN_nat, Pd.ixN_lit, Pd.fdn, Pd.fmn, Pd.fdl, Pd.fml, Cm.i, Pd.tFo_eq, Pd.tLC_eq, Pd.e_tNv, ↓Pd.got_eqI, Pd.gotI_some, Pd.gotI_none, Pd.sizeS, Pd.sIx0, Pd.dfltI, Pd.e_iZ, Pd.e_tAu, Pd.e_tCM, Pd.e_tCMT, Pd.e_tCh]
      refine rootI (by omega) t0 (by omega) hw fun r hr => ?_
      have hr2 : r < 2 ^ 1200 := Nat.lt_of_le_of_lt (root_le t0 hr) hw
      simp [t_law_roots_so_6, m_law_power, Pd.e_tSq, Pd.e_tSqW, Pd.e_tSt, Pd.e_tPm, Pd.asgs, Pd.asg, Pd.escape, Pd.e_tCoB, Pd.e_tCo, Pd.e_tN, Pd.e_tV, Pd.e_tK, Pd.e_tOp2, Pd.e_tOp1, Pd.e_two, Pd.e_one, Pd.content, Pd.slotD, R.seal, Pd.e_ans, Pd.e_tBo, Pd.e_tAn, Pd.e_tOr_, Pd.e_tNo, Pd.e_tAnV, Pd.e_tOrV, Pd.e_tNoV, Pd.e_tIfD, Pd.e_tIfE, Pd.e_tRt, Pd.e_tRtN, Pd.e_tDr, Pd.e_tNx, Pd.e_tBk, Pd.e_tCt, Pd.e_tTr, Pd.truD, Pd.fin_val, Pd.fin_new, Pd.fin_al, Pd.retR, Pd.outsAt, Pd.entry, Pd.argSl, Mode.sl, Out.r, Sl.d, Sl.put, Pd.addD, Pd.intOp, Pd.mulD, Pd.negD, Pd.eqD, Pd.neD, Pd.cmD, Pd.dCm_int, Pd.dCm_str, Pd.dEq_nn, Pd.dEq_ii, Pd.dEq_bb, Pd.dEq_ss, Pd.eqOk_i, Pd.eqOk_b, Pd.eqOk_s, Pd.eqOk_n, Pd.cmOk_i, Pd.cmOk_s, Pd.e_tClI, Pd.passOk, Pd.ioS, Pd.apart, Pd.pass, Pd.pass1, Pd.putO, Pd.e_tL, Pd.e_tT, Pd.escapes, Pd.e_many, Pd.e_tBu, Pd.contents, Pd.lenD, Pd.intD, Pd.boolD, Pd.absD, Pd.listD, Pd.tupleD, Pd.isinD, Pd.allD, Pd.bools, Pd.bitsD, Pd.gcdD, Pd.ixD, Pd.isD, Pd.isNotD, Pd.e_tIsiT, Pd.tyName, Pd.isiT, Pd.tyNames, Pd.cellAt, Pd.putAt, Pd.e_tSI, Pd.e_tSF, Pd.e_tFl, Pd.putN, Pd.putX, Pd.e_tMk, Pd.e_tMkK, Pd.e_mkOkI, Pd.e_tClKI, Pd.ordK, R.isNon, D.lst?, D.int?, Pd.iterD, Pd.items, Pd.iterK, Pd.seqK, Pd.e_iSeq, Pd.e_iR1, Pd.e_iR2, Pd.e_gN, Pd.e_gCo, Pd.e_gNi, Pd.e_gT, Pd.e_settable, Pd.e_freeOf, Pd.wipeD, Pd.backD, Pd.back1, Pd.e_tSlc, Pd.slD, Pd.e_oN, Pd.e_oS, Pd.atI_nat, Pd.atI_lit, Pd.ixN_nat, Pd.ixN_lit, Pd.fdn, Pd.fmn, Pd.fdl, Pd.fml, Cm.i, Pd.tFo_eq, Pd.tLC_eq, Pd.e_tNv, ↓Pd.got_eqI, Pd.gotI_some, Pd.gotI_none, Pd.sizeS, Pd.sIx0, Pd.dfltI, Pd.e_iZ, Pd.e_tAu, Pd.e_tCM, Pd.e_tCMT, Pd.e_tCh]
      refine pwL2 hr2 (by omega) ?_
      have h1 := hr.1
      have h1' : ¬ ((r : Int) ^ t < (w : Int)) := by rw [← Int.natCast_pow]; omega
      simp [t_law_roots_so_8, m_law_power, Pd.e_tSq, Pd.e_tSqW, Pd.e_tSt, Pd.e_tPm, Pd.asgs, Pd.asg, Pd.escape, Pd.e_tCoB, Pd.e_tCo, Pd.e_tN, Pd.e_tV, Pd.e_tK, Pd.e_tOp2, Pd.e_tOp1, Pd.e_two, Pd.e_one, Pd.content, Pd.slotD, R.seal, Pd.e_ans, Pd.e_tBo, Pd.e_tAn, Pd.e_tOr_, Pd.e_tNo, Pd.e_tAnV, Pd.e_tOrV, Pd.e_tNoV, Pd.e_tIfD, Pd.e_tIfE, Pd.e_tRt, Pd.e_tRtN, Pd.e_tDr, Pd.e_tNx, Pd.e_tBk, Pd.e_tCt, Pd.e_tTr, Pd.truD, Pd.fin_val, Pd.fin_new, Pd.fin_al, Pd.retR, Pd.outsAt, Pd.entry, Pd.argSl, Mode.sl, Out.r, Sl.d, Sl.put, Pd.addD, Pd.intOp, Pd.mulD, Pd.negD, Pd.eqD, Pd.neD, Pd.cmD, Pd.dCm_int, Pd.dCm_str, Pd.dEq_nn, Pd.dEq_ii, Pd.dEq_bb, Pd.dEq_ss, Pd.eqOk_i, Pd.eqOk_b, Pd.eqOk_s, Pd.eqOk_n, Pd.cmOk_i, Pd.cmOk_s, Pd.e_tClI, Pd.passOk, Pd.ioS, Pd.apart, Pd.pass, Pd.pass1, Pd.putO, Pd.e_tL, Pd.e_tT, Pd.escapes, Pd.e_many, Pd.e_tBu, Pd.contents, Pd.lenD, Pd.intD, Pd.boolD, Pd.absD, Pd.listD, Pd.tupleD, Pd.isinD, Pd.allD, Pd.bools, Pd.bitsD, Pd.gcdD, Pd.ixD, Pd.isD, Pd.isNotD, Pd.e_tIsiT, Pd.tyName, Pd.isiT, Pd.tyNames, Pd.cellAt, Pd.putAt, Pd.e_tSI, Pd.e_tSF, Pd.e_tFl, Pd.putN, Pd.putX, Pd.e_tMk, Pd.e_tMkK, Pd.e_mkOkI, Pd.e_tClKI, Pd.ordK, R.isNon, D.lst?, D.int?, Pd.iterD, Pd.items, Pd.iterK, Pd.seqK, Pd.e_iSeq, Pd.e_iR1, Pd.e_iR2, Pd.e_gN, Pd.e_gCo, Pd.e_gNi, Pd.e_gT, Pd.e_settable, Pd.e_freeOf, Pd.wipeD, Pd.backD, Pd.back1, Pd.e_tSlc, Pd.slD, Pd.e_oN, Pd.e_oS, Pd.atI_nat, Pd.atI_lit, Pd.ixN_nat, Pd.ixN_lit, Pd.fdn, Pd.fmn, Pd.fdl, Pd.fml, Cm.i, Pd.tFo_eq, Pd.tLC_eq, Pd.e_tNv, ↓Pd.got_eqI, Pd.gotI_some, Pd.gotI_none, Pd.sizeS, Pd.sIx0, Pd.dfltI, Pd.e_iZ, Pd.e_tAu, Pd.e_tCM, Pd.e_tCMT, Pd.e_tCh, h1']
      split
      · obtain ⟨s, hs⟩ : ∃ s, s = r - 1 := ⟨_, rfl⟩
        have h2 := hr.2 s (by omega)
        have h2' : ¬ ((w : Int) ≤ (s : Int) ^ t) := by rw [← Int.natCast_pow]; omega
        rw [show ((r : Int) - 1) = (s : Int) by omega]
        refine pwL2 (by omega) (by omega) ?_
        simp [Pd.e_tSq, Pd.e_tSqW, Pd.e_tSt, Pd.e_tPm, Pd.asgs, Pd.asg, Pd.escape, Pd.e_tCoB, Pd.e_tCo, Pd.e_tN, Pd.e_tV, Pd.e_tK, Pd.e_tOp2, Pd.e_tOp1, Pd.e_two, Pd.e_one, Pd.content, Pd.slotD, R.seal, Pd.e_ans, Pd.e_tBo, Pd.e_tAn, Pd.e_tOr_, Pd.e_tNo, Pd.e_tAnV, Pd.e_tOrV, Pd.e_tNoV, Pd.e_tIfD, Pd.e_tIfE, Pd.e_tRt, Pd.e_tRtN, Pd.e_tDr, Pd.e_tNx, Pd.e_tBk, Pd.e_tCt, Pd.e_tTr, Pd.truD, Pd.fin_val, Pd.fin_new, Pd.fin_al, Pd.retR, Pd.outsAt, Pd.entry, Pd.argSl, Mode.sl, Out.r, Sl.d, Sl.put, Pd.addD, Pd.intOp, Pd.mulD, Pd.negD, Pd.eqD, Pd.neD, Pd.cmD, Pd.dCm_int, Pd.dCm_str, Pd.dEq_nn, Pd.dEq_ii, Pd.dEq_bb, Pd.dEq_ss, Pd.eqOk_i, Pd.eqOk_b, Pd.eqOk_s, Pd.eqOk_n, Pd.cmOk_i, Pd.cmOk_s, Pd.e_tClI, Pd.passOk, Pd.ioS, Pd.apart, Pd.pass, Pd.pass1, Pd.putO, Pd.e_tL, Pd.e_tT, Pd.escapes, Pd.e_many, Pd.e_tBu, Pd.contents, Pd.lenD, Pd.intD, Pd.boolD, Pd.absD, Pd.listD, Pd.tupleD, Pd.isinD, Pd.allD, Pd.bools, Pd.bitsD, Pd.gcdD, Pd.ixD, Pd.isD, Pd.isNotD, Pd.e_tIsiT, Pd.tyName, Pd.isiT, Pd.tyNames, Pd.cellAt, Pd.putAt, Pd.e_tSI, Pd.e_tSF, Pd.e_tFl, Pd.putN, Pd.putX, Pd.e_tMk, Pd.e_tMkK, Pd.e_mkOkI, Pd.e_tClKI, Pd.ordK, R.isNon, D.lst?, D.int?, Pd.iterD, Pd.items, Pd.iterK, Pd.seqK, Pd.e_iSeq, Pd.e_iR1, Pd.e_iR2, Pd.e_gN, Pd.e_gCo, Pd.e_gNi, Pd.e_gT, Pd.e_settable, Pd.e_freeOf, Pd.wipeD, Pd.backD, Pd.back1, Pd.e_tSlc, Pd.slD, Pd.e_oN, Pd.e_oS, Pd.atI_nat, Pd.atI_lit, Pd.ixN_nat, Pd.ixN_lit, Pd.fdn, Pd.fmn, Pd.fdl, Pd.fml, Cm.i, Pd.tFo_eq, Pd.tLC_eq, Pd.e_tNv, ↓Pd.got_eqI, Pd.gotI_some, Pd.gotI_none, Pd.sizeS, Pd.sIx0, Pd.dfltI, Pd.e_iZ, Pd.e_tAu, Pd.e_tCM, Pd.e_tCMT, Pd.e_tCh, h2']
        exact ⟨by omega, d1, .val (.int w), .val (.int r), hb1.mono (by omega), .inr ⟨_, rfl⟩, .inr ⟨_, rfl⟩, rfl⟩
      · exact ⟨by omega, d1, .val (.int w), .val (.int r), hb1.mono (by omega), .inr ⟨_, rfl⟩, .inr ⟨_, rfl⟩, rfl⟩
  · rintro _ ⟨hi, d, u, v, hb, hu, hv, rfl⟩
    exact hend d u v (hb.mono (by omega))
theorem roots_tail {n t b e : Nat} {d : D} {q : List D → R → Prop} {E : EndsD} (hE : E.rt = fun e r => fin m_law_roots_so q e r) (hb : BagOk (n + 12) d) (hn : n < 2 ^ 40) (t0 : 0 < t) (t1 : t ≤ 12) (hb2 : b < 10 ^ 39) (he : e < 2 ^ 1100) (hbe : b < 10 ^ 20 → e = b ^ t)
    (hq : ∀ d' : D, BagOk (n + 1000) d' → q [d'] (.val (.bl true))) : t_law_roots_so_4 E [.io d, .val (.int t), .val (.int b), .val (.int e), .un, .un] := by
  have pe : 2 ^ 1100 < 2 ^ 1200 := Nat.pow_lt_pow_right (by decide) (by decide)
  have p3 : 10 ^ 39 < 2 ^ 1100 := Nat.lt_of_lt_of_le (show 10 ^ 39 < 2 ^ 130 by decide) (Nat.pow_le_pow_right (by decide) (by decide))
  have hend : ∀ (d : D) (u v : Sl), BagOk (n + 40) d → t_law_roots_so_10 E [.io d, .val (.int t), .val (.int b), .val (.int e), u, v] := fun d u v hb => by
    obtain ⟨r, hr⟩ := root_ex e t0
    have he1 : e + 1 < 2 ^ 1200 := by omega
    have fin2 : t_law_roots_so_12 E [.io d, .val (.int t), .val (.int b), .val (.int e), u, v] := by
      simp [t_law_roots_so_12, m_law_like, m_least_root, m_law_least, Pd.e_tSq, Pd.e_tSqW, Pd.e_tSt, Pd.e_tPm, Pd.asgs, Pd.asg, Pd.escape, Pd.e_tCoB, Pd.e_tCo, Pd.e_tN, Pd.e_tV, Pd.e_tK, Pd.e_tOp2, Pd.e_tOp1, Pd.e_two, Pd.e_one, Pd.content, Pd.slotD, R.seal, Pd.e_ans, Pd.e_tBo, Pd.e_tAn, Pd.e_tOr_, Pd.e_tNo, Pd.e_tAnV, Pd.e_tOrV, Pd.e_tNoV, Pd.e_tIfD, Pd.e_tIfE, Pd.e_tRt, Pd.e_tRtN, Pd.e_tDr, Pd.e_tNx, Pd.e_tBk, Pd.e_tCt, Pd.e_tTr, Pd.truD, Pd.fin_val, Pd.fin_new, Pd.fin_al, Pd.retR, Pd.outsAt, Pd.entry, Pd.argSl, Mode.sl, Out.r, Sl.d, Sl.put, Pd.addD, Pd.intOp, Pd.mulD, Pd.negD, Pd.eqD, Pd.neD, Pd.cmD, Pd.dCm_int, Pd.dCm_str, Pd.dEq_nn, Pd.dEq_ii, Pd.dEq_bb, Pd.dEq_ss, Pd.eqOk_i, Pd.eqOk_b, Pd.eqOk_s, Pd.eqOk_n, Pd.cmOk_i, Pd.cmOk_s, Pd.e_tClI, Pd.passOk, Pd.ioS, Pd.apart, Pd.pass, Pd.pass1, Pd.putO, Pd.e_tL, Pd.e_tT, Pd.escapes, Pd.e_many, Pd.e_tBu, Pd.contents, Pd.lenD, Pd.intD, Pd.boolD, Pd.absD, Pd.listD, Pd.tupleD, Pd.isinD, Pd.allD, Pd.bools, Pd.bitsD, Pd.gcdD, Pd.ixD, Pd.isD, Pd.isNotD, Pd.e_tIsiT, Pd.tyName, Pd.isiT, Pd.tyNames, Pd.cellAt, Pd.putAt, Pd.e_tSI, Pd.e_tSF, Pd.e_tFl, Pd.putN, Pd.putX, Pd.e_tMk, Pd.e_tMkK, Pd.e_mkOkI, Pd.e_tClKI, Pd.ordK, R.isNon, D.lst?, D.int?, Pd.iterD, Pd.items, Pd.iterK, Pd.seqK, Pd.e_iSeq, Pd.e_iR1, Pd.e_iR2, Pd.e_gN, Pd.e_gCo, Pd.e_gNi, Pd.e_gT, Pd.e_settable, Pd.e_freeOf, Pd.wipeD, Pd.backD, Pd.back1, Pd.e_tSlc, Pd.slD, Pd.e_oN, Pd.e_oS, Pd.atI_nat, Pd.atI_lit, Pd.ixN_nat, Pd.ixN_lit, Pd.fdn, Pd.fmn, Pd.fdl, Pd.fml, Cm.i, Pd.tFo_eq, Pd.tLC_eq, Pd.e_tNv, ↓Pd.got_eqI, Pd.gotI_some, Pd.gotI_none, Pd.sizeS, Pd.sIx0, Pd.dfltI, Pd.e_iZ, Pd.e_tAu, Pd.e_tCM, Pd.e_tCMT, Pd.e_tCh]
      refine lrootI (p := b) (k := 1) (by decide) (by decide) (by omega) fun s hs => ?_
      have e1 : IsRoot b 1 b := by have := root_pow (b := b) (k := 1) (by decide); rwa [Nat.pow_one] at this
      have e2 := root_uniq hs e1
      subst e2
      simp [Pd.e_tSq, Pd.e_tSqW, Pd.e_tSt, Pd.e_tPm, Pd.asgs, Pd.asg, Pd.escape, Pd.e_tCoB, Pd.e_tCo, Pd.e_tN, Pd.e_tV, Pd.e_tK, Pd.e_tOp2, Pd.e_tOp1, Pd.e_two, Pd.e_one, Pd.content, Pd.slotD, R.seal, Pd.e_ans, Pd.e_tBo, Pd.e_tAn, Pd.e_tOr_, Pd.e_tNo, Pd.e_tAnV, Pd.e_tOrV, Pd.e_tNoV, Pd.e_tIfD, Pd.e_tIfE, Pd.e_tRt, Pd.e_tRtN, Pd.e_tDr, Pd.e_tNx, Pd.e_tBk, Pd.e_tCt, Pd.e_tTr, Pd.truD, Pd.fin_val, Pd.fin_new, Pd.fin_al, Pd.retR, Pd.outsAt, Pd.entry, Pd.argSl, Mode.sl, Out.r, Sl.d, Sl.put, Pd.addD, Pd.intOp, Pd.mulD, Pd.negD, Pd.eqD, Pd.neD, Pd.cmD, Pd.dCm_int, Pd.dCm_str, Pd.dEq_nn, Pd.dEq_ii, Pd.dEq_bb, Pd.dEq_ss, Pd.eqOk_i, Pd.eqOk_b, Pd.eqOk_s, Pd.eqOk_n, Pd.cmOk_i, Pd.cmOk_s, Pd.e_tClI, Pd.passOk, Pd.ioS, Pd.apart, Pd.pass, Pd.pass1, Pd.putO, Pd.e_tL, Pd.e_tT, Pd.escapes, Pd.e_many, Pd.e_tBu, Pd.contents, Pd.lenD, Pd.intD, Pd.boolD, Pd.absD, Pd.listD, Pd.tupleD, Pd.isinD, Pd.allD, Pd.bools, Pd.bitsD, Pd.gcdD, Pd.ixD, Pd.isD, Pd.isNotD, Pd.e_tIsiT, Pd.tyName, Pd.isiT, Pd.tyNames, Pd.cellAt, Pd.putAt, Pd.e_tSI, Pd.e_tSF, Pd.e_tFl, Pd.putN, Pd.putX, Pd.e_tMk, Pd.e_tMkK, Pd.e_mkOkI, Pd.e_tClKI, Pd.ordK, R.isNon, D.lst?, D.int?, Pd.iterD, Pd.items, Pd.iterK, Pd.seqK, Pd.e_iSeq, Pd.e_iR1, Pd.e_iR2, Pd.e_gN, Pd.e_gCo, Pd.e_gNi, Pd.e_gT, Pd.e_settable, Pd.e_freeOf, Pd.wipeD, Pd.backD, Pd.back1, Pd.e_tSlc, Pd.slD, Pd.e_oN, Pd.e_oS, Pd.atI_nat, Pd.atI_lit, Pd.ixN_nat, Pd.ixN_lit, Pd.fdn, Pd.fmn, Pd.fdl, Pd.fml, Cm.i, Pd.tFo_eq, Pd.tLC_eq, Pd.e_tNv, ↓Pd.got_eqI, Pd.gotI_some, Pd.gotI_none, Pd.sizeS, Pd.sIx0, Pd.dfltI, Pd.e_iZ, Pd.e_tAu, Pd.e_tCM, Pd.e_tCMT, Pd.e_tCh]
      refine lrootI t0 (by omega) (by omega) fun s2 hs2 => ?_
      simp [Pd.e_tSq, Pd.e_tSqW, Pd.e_tSt, Pd.e_tPm, Pd.asgs, Pd.asg, Pd.escape, Pd.e_tCoB, Pd.e_tCo, Pd.e_tN, Pd.e_tV, Pd.e_tK, Pd.e_tOp2, Pd.e_tOp1, Pd.e_two, Pd.e_one, Pd.content, Pd.slotD, R.seal, Pd.e_ans, Pd.e_tBo, Pd.e_tAn, Pd.e_tOr_, Pd.e_tNo, Pd.e_tAnV, Pd.e_tOrV, Pd.e_tNoV, Pd.e_tIfD, Pd.e_tIfE, Pd.e_tRt, Pd.e_tRtN, Pd.e_tDr, Pd.e_tNx, Pd.e_tBk, Pd.e_tCt, Pd.e_tTr, Pd.truD, Pd.fin_val, Pd.fin_new, Pd.fin_al, Pd.retR, Pd.outsAt, Pd.entry, Pd.argSl, Mode.sl, Out.r, Sl.d, Sl.put, Pd.addD, Pd.intOp, Pd.mulD, Pd.negD, Pd.eqD, Pd.neD, Pd.cmD, Pd.dCm_int, Pd.dCm_str, Pd.dEq_nn, Pd.dEq_ii, Pd.dEq_bb, Pd.dEq_ss, Pd.eqOk_i, Pd.eqOk_b, Pd.eqOk_s, Pd.eqOk_n, Pd.cmOk_i, Pd.cmOk_s, Pd.e_tClI, Pd.passOk, Pd.ioS, Pd.apart, Pd.pass, Pd.pass1, Pd.putO, Pd.e_tL, Pd.e_tT, Pd.escapes, Pd.e_many, Pd.e_tBu, Pd.contents, Pd.lenD, Pd.intD, Pd.boolD, Pd.absD, Pd.listD, Pd.tupleD, Pd.isinD, Pd.allD, Pd.bools, Pd.bitsD, Pd.gcdD, Pd.ixD, Pd.isD, Pd.isNotD, Pd.e_tIsiT, Pd.tyName, Pd.isiT, Pd.tyNames, Pd.cellAt, Pd.putAt, Pd.e_tSI, Pd.e_tSF, Pd.e_tFl, Pd.putN, Pd.putX, Pd.e_tMk, Pd.e_tMkK, Pd.e_mkOkI, Pd.e_tClKI, Pd.ordK, R.isNon, D.lst?, D.int?, Pd.iterD, Pd.items, Pd.iterK, Pd.seqK, Pd.e_iSeq, Pd.e_iR1, Pd.e_iR2, Pd.e_gN, Pd.e_gCo, Pd.e_gNi, Pd.e_gT, Pd.e_settable, Pd.e_freeOf, Pd.wipeD, Pd.backD, Pd.back1, Pd.e_tSlc, Pd.slD, Pd.e_oN, Pd.e_oS, Pd.atI_nat, Pd.atI_lit, Pd.ixN_nat, Pd.ixN_lit, Pd.fdn, Pd.fmn, Pd.fdl, Pd.fml, Cm.i, Pd.tFo_eq, Pd.tLC_eq, Pd.e_tNv, ↓Pd.got_eqI, Pd.gotI_some, Pd.gotI_none, Pd.sizeS, Pd.sIx0, Pd.dfltI, Pd.e_iZ, Pd.e_tAu, Pd.e_tCM, Pd.e_tCMT, Pd.e_tCh]
      refine lleastI t0 (by omega) (by omega) fun s3 hs3 => ?_
      have e3 := root_uniq hs2 hs3
      subst e3
      simp [Pd.e_tSq, Pd.e_tSqW, Pd.e_tSt, Pd.e_tPm, Pd.asgs, Pd.asg, Pd.escape, Pd.e_tCoB, Pd.e_tCo, Pd.e_tN, Pd.e_tV, Pd.e_tK, Pd.e_tOp2, Pd.e_tOp1, Pd.e_two, Pd.e_one, Pd.content, Pd.slotD, R.seal, Pd.e_ans, Pd.e_tBo, Pd.e_tAn, Pd.e_tOr_, Pd.e_tNo, Pd.e_tAnV, Pd.e_tOrV, Pd.e_tNoV, Pd.e_tIfD, Pd.e_tIfE, Pd.e_tRt, Pd.e_tRtN, Pd.e_tDr, Pd.e_tNx, Pd.e_tBk, Pd.e_tCt, Pd.e_tTr, Pd.truD, Pd.fin_val, Pd.fin_new, Pd.fin_al, Pd.retR, Pd.outsAt, Pd.entry, Pd.argSl, Mode.sl, Out.r, Sl.d, Sl.put, Pd.addD, Pd.intOp, Pd.mulD, Pd.negD, Pd.eqD, Pd.neD, Pd.cmD, Pd.dCm_int, Pd.dCm_str, Pd.dEq_nn, Pd.dEq_ii, Pd.dEq_bb, Pd.dEq_ss, Pd.eqOk_i, Pd.eqOk_b, Pd.eqOk_s, Pd.eqOk_n, Pd.cmOk_i, Pd.cmOk_s, Pd.e_tClI, Pd.passOk, Pd.ioS, Pd.apart, Pd.pass, Pd.pass1, Pd.putO, Pd.e_tL, Pd.e_tT, Pd.escapes, Pd.e_many, Pd.e_tBu, Pd.contents, Pd.lenD, Pd.intD, Pd.boolD, Pd.absD, Pd.listD, Pd.tupleD, Pd.isinD, Pd.allD, Pd.bools, Pd.bitsD, Pd.gcdD, Pd.ixD, Pd.isD, Pd.isNotD, Pd.e_tIsiT, Pd.tyName, Pd.isiT, Pd.tyNames, Pd.cellAt, Pd.putAt, Pd.e_tSI, Pd.e_tSF, Pd.e_tFl, Pd.putN, Pd.putX, Pd.e_tMk, Pd.e_tMkK, Pd.e_mkOkI, Pd.e_tClKI, Pd.ordK, R.isNon, D.lst?, D.int?, Pd.iterD, Pd.items, Pd.iterK, Pd.seqK, Pd.e_iSeq, Pd.e_iR1, Pd.e_iR2, Pd.e_gN, Pd.e_gCo, Pd.e_gNi, Pd.e_gT, Pd.e_settable, Pd.e_freeOf, Pd.wipeD, Pd.backD, Pd.back1, Pd.e_tSlc, Pd.slD, Pd.e_oN, Pd.e_oS, Pd.atI_nat, Pd.atI_lit, Pd.ixN_nat, Pd.ixN_lit, Pd.fdn, Pd.fmn, Pd.fdl, Pd.fml, Cm.i, Pd.tFo_eq, Pd.tLC_eq, Pd.e_tNv, ↓Pd.got_eqI, Pd.gotI_some, Pd.gotI_none, Pd.sizeS, Pd.sIx0, Pd.dfltI, Pd.e_iZ, Pd.e_tAu, Pd.e_tCM, Pd.e_tCMT, Pd.e_tCh]
      refine likeI (by simp [scal]) (by simp) ?_
      simp [Pd.e_tSq, Pd.e_tSqW, Pd.e_tSt, Pd.e_tPm, Pd.asgs, Pd.asg, Pd.escape, Pd.e_tCoB, Pd.e_tCo, Pd.e_tN, Pd.e_tV, Pd.e_tK, Pd.e_tOp2, Pd.e_tOp1, Pd.e_two, Pd.e_one, Pd.content, Pd.slotD, R.seal, Pd.e_ans, Pd.e_tBo, Pd.e_tAn, Pd.e_tOr_, Pd.e_tNo, Pd.e_tAnV, Pd.e_tOrV, Pd.e_tNoV, Pd.e_tIfD, Pd.e_tIfE, Pd.e_tRt, Pd.e_tRtN, Pd.e_tDr, Pd.e_tNx, Pd.e_tBk, Pd.e_tCt, Pd.e_tTr, Pd.truD, Pd.fin_val, Pd.fin_new, Pd.fin_al, Pd.retR, Pd.outsAt, Pd.entry, Pd.argSl, Mode.sl, Out.r, Sl.d, Sl.put, Pd.addD, Pd.intOp, Pd.mulD, Pd.negD, Pd.eqD, Pd.neD, Pd.cmD, Pd.dCm_int, Pd.dCm_str, Pd.dEq_nn, Pd.dEq_ii, Pd.dEq_bb, Pd.dEq_ss, Pd.eqOk_i, Pd.eqOk_b, Pd.eqOk_s, Pd.eqOk_n, Pd.cmOk_i, Pd.cmOk_s, Pd.e_tClI, Pd.passOk, Pd.ioS, Pd.apart, Pd.pass, Pd.pass1, Pd.putO, Pd.e_tL, Pd.e_tT, Pd.escapes, Pd.e_many, Pd.e_tBu, Pd.contents, Pd.lenD, Pd.intD, Pd.boolD, Pd.absD, Pd.listD, Pd.tupleD, Pd.isinD, Pd.allD, Pd.bools, Pd.bitsD, Pd.gcdD, Pd.ixD, Pd.isD, Pd.isNotD, Pd.e_tIsiT, Pd.tyName, Pd.isiT, Pd.tyNames, Pd.cellAt, Pd.putAt, Pd.e_tSI, Pd.e_tSF, Pd.e_tFl, Pd.putN, Pd.putX, Pd.e_tMk, Pd.e_tMkK, Pd.e_mkOkI, Pd.e_tClKI, Pd.ordK, R.isNon, D.lst?, D.int?, Pd.iterD, Pd.items, Pd.iterK, Pd.seqK, Pd.e_iSeq, Pd.e_iR1, Pd.e_iR2, Pd.e_gN, Pd.e_gCo, Pd.e_gNi, Pd.e_gT, Pd.e_settable, Pd.e_freeOf, Pd.wipeD, Pd.backD, Pd.back1, Pd.e_tSlc, Pd.slD, Pd.e_oN, Pd.e_oS, Pd.atI_nat, Pd.atI_lit, Pd.ixN_nat, Pd.ixN_lit, Pd.fdn, Pd.fmn, Pd.fdl, Pd.fml, Cm.i, Pd.tFo_eq, Pd.tLC_eq, Pd.e_tNv, ↓Pd.got_eqI, Pd.gotI_some, Pd.gotI_none, Pd.sizeS, Pd.sIx0, Pd.dfltI, Pd.e_iZ, Pd.e_tAu, Pd.e_tCM, Pd.e_tCMT, Pd.e_tCh, hE]
      exact hq _ (hb.mono (by omega))
    rcases n20 b with ⟨hN, hs⟩ | ⟨hN, hs⟩
    · have hbt := hbe hs
      simp [t_law_roots_so_10, m_law_like, m_least_root, Pd.e_tSq, Pd.e_tSqW, Pd.e_tSt, Pd.e_tPm, Pd.asgs, Pd.asg, Pd.escape, Pd.e_tCoB, Pd.e_tCo, Pd.e_tN, Pd.e_tV, Pd.e_tK, Pd.e_tOp2, Pd.e_tOp1, Pd.e_two, Pd.e_one, Pd.content, Pd.slotD, R.seal, Pd.e_ans, Pd.e_tBo, Pd.e_tAn, Pd.e_tOr_, Pd.e_tNo, Pd.e_tAnV, Pd.e_tOrV, Pd.e_tNoV, Pd.e_tIfD, Pd.e_tIfE, Pd.e_tRt, Pd.e_tRtN, Pd.e_tDr, Pd.e_tNx, Pd.e_tBk, Pd.e_tCt, Pd.e_tTr, Pd.truD, Pd.fin_val, Pd.fin_new, Pd.fin_al, Pd.retR, Pd.outsAt, Pd.entry, Pd.argSl, Mode.sl, Out.r, Sl.d, Sl.put, Pd.addD, Pd.intOp, Pd.mulD, Pd.negD, Pd.eqD, Pd.neD, Pd.cmD, Pd.dCm_int, Pd.dCm_str, Pd.dEq_nn, Pd.dEq_ii, Pd.dEq_bb, Pd.dEq_ss, Pd.eqOk_i, Pd.eqOk_b, Pd.eqOk_s, Pd.eqOk_n, Pd.cmOk_i, Pd.cmOk_s, Pd.e_tClI, Pd.passOk, Pd.ioS, Pd.apart, Pd.pass, Pd.pass1, Pd.putO, Pd.e_tL, Pd.e_tT, Pd.escapes, Pd.e_many, Pd.e_tBu, Pd.contents, Pd.lenD, Pd.intD, Pd.boolD, Pd.absD, Pd.listD, Pd.tupleD, Pd.isinD, Pd.allD, Pd.bools, Pd.bitsD, Pd.gcdD, Pd.ixD, Pd.isD, Pd.isNotD, Pd.e_tIsiT, Pd.tyName, Pd.isiT, Pd.tyNames, Pd.cellAt, Pd.putAt, Pd.e_tSI, Pd.e_tSF, Pd.e_tFl, Pd.putN, Pd.putX, Pd.e_tMk, Pd.e_tMkK, Pd.e_mkOkI, Pd.e_tClKI, Pd.ordK, R.isNon, D.lst?, D.int?, Pd.iterD, Pd.items, Pd.iterK, Pd.seqK, Pd.e_iSeq, Pd.e_iR1, Pd.e_iR2, Pd.e_gN, Pd.e_gCo, Pd.e_gNi, Pd.e_gT, Pd.e_settable, Pd.e_freeOf, Pd.wipeD, Pd.backD, Pd.back1, Pd.e_tSlc, Pd.slD, Pd.e_oN, Pd.e_oS, Pd.atI_nat, Pd.atI_lit, Pd.ixN_nat, Pd.ixN_lit, Pd.fdn, Pd.fmn, Pd.fdl, Pd.fml, Cm.i, Pd.tFo_eq, Pd.tLC_eq, Pd.e_tNv, ↓Pd.got_eqI, Pd.gotI_some, Pd.gotI_none, Pd.sizeS, Pd.sIx0, Pd.dfltI, Pd.e_iZ, Pd.e_tAu, Pd.e_tCM, Pd.e_tCMT, Pd.e_tCh, ↓pow20, hN]
      refine lrootI t0 (by omega) (by omega) fun s2 hs2 => ?_
      have e2 := root_uniq hs2 (by rw [hbt]; exact root_pow t0)
      subst e2
      simp [Pd.e_tSq, Pd.e_tSqW, Pd.e_tSt, Pd.e_tPm, Pd.asgs, Pd.asg, Pd.escape, Pd.e_tCoB, Pd.e_tCo, Pd.e_tN, Pd.e_tV, Pd.e_tK, Pd.e_tOp2, Pd.e_tOp1, Pd.e_two, Pd.e_one, Pd.content, Pd.slotD, R.seal, Pd.e_ans, Pd.e_tBo, Pd.e_tAn, Pd.e_tOr_, Pd.e_tNo, Pd.e_tAnV, Pd.e_tOrV, Pd.e_tNoV, Pd.e_tIfD, Pd.e_tIfE, Pd.e_tRt, Pd.e_tRtN, Pd.e_tDr, Pd.e_tNx, Pd.e_tBk, Pd.e_tCt, Pd.e_tTr, Pd.truD, Pd.fin_val, Pd.fin_new, Pd.fin_al, Pd.retR, Pd.outsAt, Pd.entry, Pd.argSl, Mode.sl, Out.r, Sl.d, Sl.put, Pd.addD, Pd.intOp, Pd.mulD, Pd.negD, Pd.eqD, Pd.neD, Pd.cmD, Pd.dCm_int, Pd.dCm_str, Pd.dEq_nn, Pd.dEq_ii, Pd.dEq_bb, Pd.dEq_ss, Pd.eqOk_i, Pd.eqOk_b, Pd.eqOk_s, Pd.eqOk_n, Pd.cmOk_i, Pd.cmOk_s, Pd.e_tClI, Pd.passOk, Pd.ioS, Pd.apart, Pd.pass, Pd.pass1, Pd.putO, Pd.e_tL, Pd.e_tT, Pd.escapes, Pd.e_many, Pd.e_tBu, Pd.contents, Pd.lenD, Pd.intD, Pd.boolD, Pd.absD, Pd.listD, Pd.tupleD, Pd.isinD, Pd.allD, Pd.bools, Pd.bitsD, Pd.gcdD, Pd.ixD, Pd.isD, Pd.isNotD, Pd.e_tIsiT, Pd.tyName, Pd.isiT, Pd.tyNames, Pd.cellAt, Pd.putAt, Pd.e_tSI, Pd.e_tSF, Pd.e_tFl, Pd.putN, Pd.putX, Pd.e_tMk, Pd.e_tMkK, Pd.e_mkOkI, Pd.e_tClKI, Pd.ordK, R.isNon, D.lst?, D.int?, Pd.iterD, Pd.items, Pd.iterK, Pd.seqK, Pd.e_iSeq, Pd.e_iR1, Pd.e_iR2, Pd.e_gN, Pd.e_gCo, Pd.e_gNi, Pd.e_gT, Pd.e_settable, Pd.e_freeOf, Pd.wipeD, Pd.backD, Pd.back1, Pd.e_tSlc, Pd.slD, Pd.e_oN, Pd.e_oS, Pd.atI_nat, Pd.atI_lit, Pd.ixN_nat, Pd.ixN_lit, Pd.fdn, Pd.fmn, Pd.fdl, Pd.fml, Cm.i, Pd.tFo_eq, Pd.tLC_eq, Pd.e_tNv, ↓Pd.got_eqI, Pd.gotI_some, Pd.gotI_none, Pd.sizeS, Pd.sIx0, Pd.dfltI, Pd.e_iZ, Pd.e_tAu, Pd.e_tCM, Pd.e_tCMT, Pd.e_tCh]
      rw [show ((e : Int) + 1) = ((e + 1 : Nat) : Int) from rfl]
      refine lrootI t0 (by omega) (by omega) fun s3 hs3 => ?_
      have e3 := root_uniq hs3 (by rw [hbt]; exact root_pow1 t0)
      subst e3
      simp [Pd.e_tSq, Pd.e_tSqW, Pd.e_tSt, Pd.e_tPm, Pd.asgs, Pd.asg, Pd.escape, Pd.e_tCoB, Pd.e_tCo, Pd.e_tN, Pd.e_tV, Pd.e_tK, Pd.e_tOp2, Pd.e_tOp1, Pd.e_two, Pd.e_one, Pd.content, Pd.slotD, R.seal, Pd.e_ans, Pd.e_tBo, Pd.e_tAn, Pd.e_tOr_, Pd.e_tNo, Pd.e_tAnV, Pd.e_tOrV, Pd.e_tNoV, Pd.e_tIfD, Pd.e_tIfE, Pd.e_tRt, Pd.e_tRtN, Pd.e_tDr, Pd.e_tNx, Pd.e_tBk, Pd.e_tCt, Pd.e_tTr, Pd.truD, Pd.fin_val, Pd.fin_new, Pd.fin_al, Pd.retR, Pd.outsAt, Pd.entry, Pd.argSl, Mode.sl, Out.r, Sl.d, Sl.put, Pd.addD, Pd.intOp, Pd.mulD, Pd.negD, Pd.eqD, Pd.neD, Pd.cmD, Pd.dCm_int, Pd.dCm_str, Pd.dEq_nn, Pd.dEq_ii, Pd.dEq_bb, Pd.dEq_ss, Pd.eqOk_i, Pd.eqOk_b, Pd.eqOk_s, Pd.eqOk_n, Pd.cmOk_i, Pd.cmOk_s, Pd.e_tClI, Pd.passOk, Pd.ioS, Pd.apart, Pd.pass, Pd.pass1, Pd.putO, Pd.e_tL, Pd.e_tT, Pd.escapes, Pd.e_many, Pd.e_tBu, Pd.contents, Pd.lenD, Pd.intD, Pd.boolD, Pd.absD, Pd.listD, Pd.tupleD, Pd.isinD, Pd.allD, Pd.bools, Pd.bitsD, Pd.gcdD, Pd.ixD, Pd.isD, Pd.isNotD, Pd.e_tIsiT, Pd.tyName, Pd.isiT, Pd.tyNames, Pd.cellAt, Pd.putAt, Pd.e_tSI, Pd.e_tSF, Pd.e_tFl, Pd.putN, Pd.putX, Pd.e_tMk, Pd.e_tMkK, Pd.e_mkOkI, Pd.e_tClKI, Pd.ordK, R.isNon, D.lst?, D.int?, Pd.iterD, Pd.items, Pd.iterK, Pd.seqK, Pd.e_iSeq, Pd.e_iR1, Pd.e_iR2, Pd.e_gN, Pd.e_gCo, Pd.e_gNi, Pd.e_gT, Pd.e_settable, Pd.e_freeOf, Pd.wipeD, Pd.backD, Pd.back1, Pd.e_tSlc, Pd.slD, Pd.e_oN, Pd.e_oS, Pd.atI_nat, Pd.atI_lit, Pd.ixN_nat, Pd.ixN_lit, Pd.fdn, Pd.fmn, Pd.fdl, Pd.fml, Cm.i, Pd.tFo_eq, Pd.tLC_eq, Pd.e_tNv, ↓Pd.got_eqI, Pd.gotI_some, Pd.gotI_none, Pd.sizeS, Pd.sIx0, Pd.dfltI, Pd.e_iZ, Pd.e_tAu, Pd.e_tCM, Pd.e_tCMT, Pd.e_tCh]
      rw [Int.add_comm 1]
      refine likeI (by simp [scal]) (by simp) ?_
      simp [Pd.e_tSq, Pd.e_tSqW, Pd.e_tSt, Pd.e_tPm, Pd.asgs, Pd.asg, Pd.escape, Pd.e_tCoB, Pd.e_tCo, Pd.e_tN, Pd.e_tV, Pd.e_tK, Pd.e_tOp2, Pd.e_tOp1, Pd.e_two, Pd.e_one, Pd.content, Pd.slotD, R.seal, Pd.e_ans, Pd.e_tBo, Pd.e_tAn, Pd.e_tOr_, Pd.e_tNo, Pd.e_tAnV, Pd.e_tOrV, Pd.e_tNoV, Pd.e_tIfD, Pd.e_tIfE, Pd.e_tRt, Pd.e_tRtN, Pd.e_tDr, Pd.e_tNx, Pd.e_tBk, Pd.e_tCt, Pd.e_tTr, Pd.truD, Pd.fin_val, Pd.fin_new, Pd.fin_al, Pd.retR, Pd.outsAt, Pd.entry, Pd.argSl, Mode.sl, Out.r, Sl.d, Sl.put, Pd.addD, Pd.intOp, Pd.mulD, Pd.negD, Pd.eqD, Pd.neD, Pd.cmD, Pd.dCm_int, Pd.dCm_str, Pd.dEq_nn, Pd.dEq_ii, Pd.dEq_bb, Pd.dEq_ss, Pd.eqOk_i, Pd.eqOk_b, Pd.eqOk_s, Pd.eqOk_n, Pd.cmOk_i, Pd.cmOk_s, Pd.e_tClI, Pd.passOk, Pd.ioS, Pd.apart, Pd.pass, Pd.pass1, Pd.putO, Pd.e_tL, Pd.e_tT, Pd.escapes, Pd.e_many, Pd.e_tBu, Pd.contents, Pd.lenD, Pd.intD, Pd.boolD, Pd.absD, Pd.listD, Pd.tupleD, Pd.isinD, Pd.allD, Pd.bools, Pd.bitsD, Pd.gcdD, Pd.ixD, Pd.isD, Pd.isNotD, Pd.e_tIsiT, Pd.tyName, Pd.isiT, Pd.tyNames, Pd.cellAt, Pd.putAt, Pd.e_tSI, Pd.e_tSF, Pd.e_tFl, Pd.putN, Pd.putX, Pd.e_tMk, Pd.e_tMkK, Pd.e_mkOkI, Pd.e_tClKI, Pd.ordK, R.isNon, D.lst?, D.int?, Pd.iterD, Pd.items, Pd.iterK, Pd.seqK, Pd.e_iSeq, Pd.e_iR1, Pd.e_iR2, Pd.e_gN, Pd.e_gCo, Pd.e_gNi, Pd.e_gT, Pd.e_settable, Pd.e_freeOf, Pd.wipeD, Pd.backD, Pd.back1, Pd.e_tSlc, Pd.slD, Pd.e_oN, Pd.e_oS, Pd.atI_nat, Pd.atI_lit, Pd.ixN_nat, Pd.ixN_lit, Pd.fdn, Pd.fmn, Pd.fdl, Pd.fml, Cm.i, Pd.tFo_eq, Pd.tLC_eq, Pd.e_tNv, ↓Pd.got_eqI, Pd.gotI_some, Pd.gotI_none, Pd.sizeS, Pd.sIx0, Pd.dfltI, Pd.e_iZ, Pd.e_tAu, Pd.e_tCM, Pd.e_tCMT, Pd.e_tCh]
      exact fin2
    · simp [t_law_roots_so_10, m_law_like, m_least_root, Pd.e_tSq, Pd.e_tSqW, Pd.e_tSt, Pd.e_tPm, Pd.asgs, Pd.asg, Pd.escape, Pd.e_tCoB, Pd.e_tCo, Pd.e_tN, Pd.e_tV, Pd.e_tK, Pd.e_tOp2, Pd.e_tOp1, Pd.e_two, Pd.e_one, Pd.content, Pd.slotD, R.seal, Pd.e_ans, Pd.e_tBo, Pd.e_tAn, Pd.e_tOr_, Pd.e_tNo, Pd.e_tAnV, Pd.e_tOrV, Pd.e_tNoV, Pd.e_tIfD, Pd.e_tIfE, Pd.e_tRt, Pd.e_tRtN, Pd.e_tDr, Pd.e_tNx, Pd.e_tBk, Pd.e_tCt, Pd.e_tTr, Pd.truD, Pd.fin_val, Pd.fin_new, Pd.fin_al, Pd.retR, Pd.outsAt, Pd.entry, Pd.argSl, Mode.sl, Out.r, Sl.d, Sl.put, Pd.addD, Pd.intOp, Pd.mulD, Pd.negD, Pd.eqD, Pd.neD, Pd.cmD, Pd.dCm_int, Pd.dCm_str, Pd.dEq_nn, Pd.dEq_ii, Pd.dEq_bb, Pd.dEq_ss, Pd.eqOk_i, Pd.eqOk_b, Pd.eqOk_s, Pd.eqOk_n, Pd.cmOk_i, Pd.cmOk_s, Pd.e_tClI, Pd.passOk, Pd.ioS, Pd.apart, Pd.pass, Pd.pass1, Pd.putO, Pd.e_tL, Pd.e_tT, Pd.escapes, Pd.e_many, Pd.e_tBu, Pd.contents, Pd.lenD, Pd.intD, Pd.boolD, Pd.absD, Pd.listD, Pd.tupleD, Pd.isinD, Pd.allD, Pd.bools, Pd.bitsD, Pd.gcdD, Pd.ixD, Pd.isD, Pd.isNotD, Pd.e_tIsiT, Pd.tyName, Pd.isiT, Pd.tyNames, Pd.cellAt, Pd.putAt, Pd.e_tSI, Pd.e_tSF, Pd.e_tFl, Pd.putN, Pd.putX, Pd.e_tMk, Pd.e_tMkK, Pd.e_mkOkI, Pd.e_tClKI, Pd.ordK, R.isNon, D.lst?, D.int?, Pd.iterD, Pd.items, Pd.iterK, Pd.seqK, Pd.e_iSeq, Pd.e_iR1, Pd.e_iR2, Pd.e_gN, Pd.e_gCo, Pd.e_gNi, Pd.e_gT, Pd.e_settable, Pd.e_freeOf, Pd.wipeD, Pd.backD, Pd.back1, Pd.e_tSlc, Pd.slD, Pd.e_oN, Pd.e_oS, Pd.atI_nat, Pd.atI_lit, Pd.ixN_nat, Pd.ixN_lit, Pd.fdn, Pd.fmn, Pd.fdl, Pd.fml, Cm.i, Pd.tFo_eq, Pd.tLC_eq, Pd.e_tNv, ↓Pd.got_eqI, Pd.gotI_some, Pd.gotI_none, Pd.sizeS, Pd.sIx0, Pd.dfltI, Pd.e_iZ, Pd.e_tAu, Pd.e_tCM, Pd.e_tCMT, Pd.e_tCh, ↓pow20, hN]
      exact fin2
  have w0 : ∀ w : Nat, w < 2 ^ 1200 → ∃ w' : Nat, D.int w = .int w' ∧ w' < 2 ^ 1200 := fun w h => ⟨w, rfl, h⟩
  simp [t_law_roots_so_4, m_law_great, Pd.e_tSq, Pd.e_tSqW, Pd.e_tSt, Pd.e_tPm, Pd.asgs, Pd.asg, Pd.escape, Pd.e_tCoB, Pd.e_tCo, Pd.e_tN, Pd.e_tV, Pd.e_tK, Pd.e_tOp2, Pd.e_tOp1, Pd.e_two, Pd.e_one, Pd.content, Pd.slotD, R.seal, Pd.e_ans, Pd.e_tBo, Pd.e_tAn, Pd.e_tOr_, Pd.e_tNo, Pd.e_tAnV, Pd.e_tOrV, Pd.e_tNoV, Pd.e_tIfD, Pd.e_tIfE, Pd.e_tRt, Pd.e_tRtN, Pd.e_tDr, Pd.e_tNx, Pd.e_tBk, Pd.e_tCt, Pd.e_tTr, Pd.truD, Pd.fin_val, Pd.fin_new, Pd.fin_al, Pd.retR, Pd.outsAt, Pd.entry, Pd.argSl, Mode.sl, Out.r, Sl.d, Sl.put, Pd.addD, Pd.intOp, Pd.mulD, Pd.negD, Pd.eqD, Pd.neD, Pd.cmD, Pd.dCm_int, Pd.dCm_str, Pd.dEq_nn, Pd.dEq_ii, Pd.dEq_bb, Pd.dEq_ss, Pd.eqOk_i, Pd.eqOk_b, Pd.eqOk_s, Pd.eqOk_n, Pd.cmOk_i, Pd.cmOk_s, Pd.e_tClI, Pd.passOk, Pd.ioS, Pd.apart, Pd.pass, Pd.pass1, Pd.putO, Pd.e_tL, Pd.e_tT, Pd.escapes, Pd.e_many, Pd.e_tBu, Pd.contents, Pd.lenD, Pd.intD, Pd.boolD, Pd.absD, Pd.listD, Pd.tupleD, Pd.isinD, Pd.allD, Pd.bools, Pd.bitsD, Pd.gcdD, Pd.ixD, Pd.isD, Pd.isNotD, Pd.e_tIsiT, Pd.tyName, Pd.isiT, Pd.tyNames, Pd.cellAt, Pd.putAt, Pd.e_tSI, Pd.e_tSF, Pd.e_tFl, Pd.putN, Pd.putX, Pd.e_tMk, Pd.e_tMkK, Pd.e_mkOkI, Pd.e_tClKI, Pd.ordK, R.isNon, D.lst?, D.int?, Pd.iterD, Pd.items, Pd.iterK, Pd.seqK, Pd.e_iSeq, Pd.e_iR1, Pd.e_iR2, Pd.e_gN, Pd.e_gCo, Pd.e_gNi, Pd.e_gT, Pd.e_settable, Pd.e_freeOf, Pd.wipeD, Pd.backD, Pd.back1, Pd.e_tSlc, Pd.slD, Pd.e_oN, Pd.e_oS, Pd.atI_nat, Pd.atI_lit, Pd.ixN_nat, Pd.ixN_lit, Pd.fdn, Pd.fmn, Pd.fdl, Pd.fml, Cm.i, Pd.tFo_eq, Pd.tLC_eq, Pd.e_tNv, ↓Pd.got_eqI, Pd.gotI_some, Pd.gotI_none, Pd.sizeS, Pd.sIx0, Pd.dfltI, Pd.e_iZ, Pd.e_tAu, Pd.e_tCM, Pd.e_tCMT, Pd.e_tCh]
  refine great hb (by omega) fun d1 w hb1 hw => ?_
  simp [Pd.e_tSq, Pd.e_tSqW, Pd.e_tSt, Pd.e_tPm, Pd.asgs, Pd.asg, Pd.escape, Pd.e_tCoB, Pd.e_tCo, Pd.e_tN, Pd.e_tV, Pd.e_tK, Pd.e_tOp2, Pd.e_tOp1, Pd.e_two, Pd.e_one, Pd.content, Pd.slotD, R.seal, Pd.e_ans, Pd.e_tBo, Pd.e_tAn, Pd.e_tOr_, Pd.e_tNo, Pd.e_tAnV, Pd.e_tOrV, Pd.e_tNoV, Pd.e_tIfD, Pd.e_tIfE, Pd.e_tRt, Pd.e_tRtN, Pd.e_tDr, Pd.e_tNx, Pd.e_tBk, Pd.e_tCt, Pd.e_tTr, Pd.truD, Pd.fin_val, Pd.fin_new, Pd.fin_al, Pd.retR, Pd.outsAt, Pd.entry, Pd.argSl, Mode.sl, Out.r, Sl.d, Sl.put, Pd.addD, Pd.intOp, Pd.mulD, Pd.negD, Pd.eqD, Pd.neD, Pd.cmD, Pd.dCm_int, Pd.dCm_str, Pd.dEq_nn, Pd.dEq_ii, Pd.dEq_bb, Pd.dEq_ss, Pd.eqOk_i, Pd.eqOk_b, Pd.eqOk_s, Pd.eqOk_n, Pd.cmOk_i, Pd.cmOk_s, Pd.e_tClI, Pd.passOk, Pd.ioS, Pd.apart, Pd.pass, Pd.pass1, Pd.putO, Pd.e_tL, Pd.e_tT, Pd.escapes, Pd.e_many, Pd.e_tBu, Pd.contents, Pd.lenD, Pd.intD, Pd.boolD, Pd.absD, Pd.listD, Pd.tupleD, Pd.isinD, Pd.allD, Pd.bools, Pd.bitsD, Pd.gcdD, Pd.ixD, Pd.isD, Pd.isNotD, Pd.e_tIsiT, Pd.tyName, Pd.isiT, Pd.tyNames, Pd.cellAt, Pd.putAt, Pd.e_tSI, Pd.e_tSF, Pd.e_tFl, Pd.putN, Pd.putX, Pd.e_tMk, Pd.e_tMkK, Pd.e_mkOkI, Pd.e_tClKI, Pd.ordK, R.isNon, D.lst?, D.int?, Pd.iterD, Pd.items, Pd.iterK, Pd.seqK, Pd.e_iSeq, Pd.e_iR1, Pd.e_iR2, Pd.e_gN, Pd.e_gCo, Pd.e_gNi, Pd.e_gT, Pd.e_settable, Pd.e_freeOf, Pd.wipeD, Pd.backD, Pd.back1, Pd.e_tSlc, Pd.slD, Pd.e_oN, Pd.e_oS, Pd.atI_nat, Pd.atI_lit, Pd.ixN_nat, Pd.ixN_lit, Pd.fdn, Pd.fmn, Pd.fdl, Pd.fml, Cm.i, Pd.tFo_eq, Pd.tLC_eq, Pd.e_tNv, ↓Pd.got_eqI, Pd.gotI_some, Pd.gotI_none, Pd.sizeS, Pd.sIx0, Pd.dfltI, Pd.e_iZ, Pd.e_tAu, Pd.e_tCM, Pd.e_tCMT, Pd.e_tCh]
  split
  · rename_i h0
    refine roots_loop (n := n) (E := E) rfl (hb1.mono (by omega)) hn t0 t1 (fun x hx => ?_) rfl fun d u v hb => hend d u v hb
    simp at hx
    rcases hx with rfl | rfl | rfl | rfl | rfl | rfl | rfl
    · exact w0 _ (by omega)
    · exact w0 _ (by omega)
    · exact ⟨e + 1, by simp, by omega⟩
    · exact ⟨e - 1, by rw [Int.natCast_sub h0]; rfl, by omega⟩
    · exact w0 0 (by omega)
    · exact w0 1 (by omega)
    · exact w0 2 (by omega)
  · refine roots_loop (n := n) (E := E) rfl (hb1.mono (by omega)) hn t0 t1 (fun x hx => ?_) rfl fun d u v hb => hend d u v hb
    simp at hx
    rcases hx with rfl | rfl | rfl | rfl | rfl | rfl
    · exact w0 _ (by omega)
    · exact w0 _ (by omega)
    · exact ⟨e + 1, by simp, by omega⟩
    · exact w0 0 (by omega)
    · exact w0 1 (by omega)
    · exact w0 2 (by omega)
theorem r_law_roots_so : Rd_law_roots_so := by
  rintro ds q - ⟨d, n, rfl, hb, hn, hq⟩
  simp [t_law_roots_so, m_law_draw, m_law_of, Pd.e_tSq, Pd.e_tSqW, Pd.e_tSt, Pd.e_tPm, Pd.asgs, Pd.asg, Pd.escape, Pd.e_tCoB, Pd.e_tCo, Pd.e_tN, Pd.e_tV, Pd.e_tK, Pd.e_tOp2, Pd.e_tOp1, Pd.e_two, Pd.e_one, Pd.content, Pd.slotD, R.seal, Pd.e_ans, Pd.e_tBo, Pd.e_tAn, Pd.e_tOr_, Pd.e_tNo, Pd.e_tAnV, Pd.e_tOrV, Pd.e_tNoV, Pd.e_tIfD, Pd.e_tIfE, Pd.e_tRt, Pd.e_tRtN, Pd.e_tDr, Pd.e_tNx, Pd.e_tBk, Pd.e_tCt, Pd.e_tTr, Pd.truD, Pd.fin_val, Pd.fin_new, Pd.fin_al, Pd.retR, Pd.outsAt, Pd.entry, Pd.argSl, Mode.sl, Out.r, Sl.d, Sl.put, Pd.addD, Pd.intOp, Pd.mulD, Pd.negD, Pd.eqD, Pd.neD, Pd.cmD, Pd.dCm_int, Pd.dCm_str, Pd.dEq_nn, Pd.dEq_ii, Pd.dEq_bb, Pd.dEq_ss, Pd.eqOk_i, Pd.eqOk_b, Pd.eqOk_s, Pd.eqOk_n, Pd.cmOk_i, Pd.cmOk_s, Pd.e_tClI, Pd.passOk, Pd.ioS, Pd.apart, Pd.pass, Pd.pass1, Pd.putO, Pd.e_tL, Pd.e_tT, Pd.escapes, Pd.e_many, Pd.e_tBu, Pd.contents, Pd.lenD, Pd.intD, Pd.boolD, Pd.absD, Pd.listD, Pd.tupleD, Pd.isinD, Pd.allD, Pd.bools, Pd.bitsD, Pd.gcdD, Pd.ixD, Pd.isD, Pd.isNotD, Pd.e_tIsiT, Pd.tyName, Pd.isiT, Pd.tyNames, Pd.cellAt, Pd.putAt, Pd.e_tSI, Pd.e_tSF, Pd.e_tFl, Pd.putN, Pd.putX, Pd.e_tMk, Pd.e_tMkK, Pd.e_mkOkI, Pd.e_tClKI, Pd.ordK, R.isNon, D.lst?, D.int?, Pd.iterD, Pd.items, Pd.iterK, Pd.seqK, Pd.e_iSeq, Pd.e_iR1, Pd.e_iR2, Pd.e_gN, Pd.e_gCo, Pd.e_gNi, Pd.e_gT, Pd.e_settable, Pd.e_freeOf, Pd.wipeD, Pd.backD, Pd.back1, Pd.e_tSlc, Pd.slD, Pd.e_oN, Pd.e_oS, Pd.atI_nat, Pd.atI_lit, Pd.ixN_nat, Pd.ixN_lit, Pd.fdn, Pd.fmn, Pd.fdl, Pd.fml, Cm.i, Pd.tFo_eq, Pd.tLC_eq, Pd.e_tNv, ↓Pd.got_eqI, Pd.gotI_some, Pd.gotI_none, Pd.sizeS, Pd.sIx0, Pd.dfltI, Pd.e_iZ, Pd.e_tAu, Pd.e_tCM, Pd.e_tCMT, Pd.e_tCh]
  refine draw hb (by omega) (by omega) (by omega) fun d1 k1 hb1 hk1 => ?_
  simp [Pd.e_tSq, Pd.e_tSqW, Pd.e_tSt, Pd.e_tPm, Pd.asgs, Pd.asg, Pd.escape, Pd.e_tCoB, Pd.e_tCo, Pd.e_tN, Pd.e_tV, Pd.e_tK, Pd.e_tOp2, Pd.e_tOp1, Pd.e_two, Pd.e_one, Pd.content, Pd.slotD, R.seal, Pd.e_ans, Pd.e_tBo, Pd.e_tAn, Pd.e_tOr_, Pd.e_tNo, Pd.e_tAnV, Pd.e_tOrV, Pd.e_tNoV, Pd.e_tIfD, Pd.e_tIfE, Pd.e_tRt, Pd.e_tRtN, Pd.e_tDr, Pd.e_tNx, Pd.e_tBk, Pd.e_tCt, Pd.e_tTr, Pd.truD, Pd.fin_val, Pd.fin_new, Pd.fin_al, Pd.retR, Pd.outsAt, Pd.entry, Pd.argSl, Mode.sl, Out.r, Sl.d, Sl.put, Pd.addD, Pd.intOp, Pd.mulD, Pd.negD, Pd.eqD, Pd.neD, Pd.cmD, Pd.dCm_int, Pd.dCm_str, Pd.dEq_nn, Pd.dEq_ii, Pd.dEq_bb, Pd.dEq_ss, Pd.eqOk_i, Pd.eqOk_b, Pd.eqOk_s, Pd.eqOk_n, Pd.cmOk_i, Pd.cmOk_s, Pd.e_tClI, Pd.passOk, Pd.ioS, Pd.apart, Pd.pass, Pd.pass1, Pd.putO, Pd.e_tL, Pd.e_tT, Pd.escapes, Pd.e_many, Pd.e_tBu, Pd.contents, Pd.lenD, Pd.intD, Pd.boolD, Pd.absD, Pd.listD, Pd.tupleD, Pd.isinD, Pd.allD, Pd.bools, Pd.bitsD, Pd.gcdD, Pd.ixD, Pd.isD, Pd.isNotD, Pd.e_tIsiT, Pd.tyName, Pd.isiT, Pd.tyNames, Pd.cellAt, Pd.putAt, Pd.e_tSI, Pd.e_tSF, Pd.e_tFl, Pd.putN, Pd.putX, Pd.e_tMk, Pd.e_tMkK, Pd.e_mkOkI, Pd.e_tClKI, Pd.ordK, R.isNon, D.lst?, D.int?, Pd.iterD, Pd.items, Pd.iterK, Pd.seqK, Pd.e_iSeq, Pd.e_iR1, Pd.e_iR2, Pd.e_gN, Pd.e_gCo, Pd.e_gNi, Pd.e_gT, Pd.e_settable, Pd.e_freeOf, Pd.wipeD, Pd.backD, Pd.back1, Pd.e_tSlc, Pd.slD, Pd.e_oN, Pd.e_oS, Pd.atI_nat, Pd.atI_lit, Pd.ixN_nat, Pd.ixN_lit, Pd.fdn, Pd.fmn, Pd.fdl, Pd.fml, Cm.i, Pd.tFo_eq, Pd.tLC_eq, Pd.e_tNv, ↓Pd.got_eqI, Pd.gotI_some, Pd.gotI_none, Pd.sizeS, Pd.sIx0, Pd.dfltI, Pd.e_iZ, Pd.e_tAu, Pd.e_tCM, Pd.e_tCMT, Pd.e_tCh]
  refine drawOf hb1 (by omega) ?_ ?_ fun d2 x hb2 hx => ?_
  · simp
  · simp
  have ht : ∃ t : Nat, x = .int t ∧ 0 < t ∧ t ≤ 12 := by
    simp at hx
    rcases hx with rfl | rfl | rfl | rfl | rfl | rfl | rfl
    · exact ⟨2, rfl, by omega, by omega⟩
    · exact ⟨3, rfl, by omega, by omega⟩
    · exact ⟨1, rfl, by omega, by omega⟩
    · exact ⟨4, rfl, by omega, by omega⟩
    · exact ⟨5, rfl, by omega, by omega⟩
    · exact ⟨7, rfl, by omega, by omega⟩
    · exact ⟨1 + k1, by simp, by omega, by omega⟩
  obtain ⟨t, rfl, t0, t1⟩ := ht
  simp [t_law_roots_so_2, m_law_great, Pd.e_tSq, Pd.e_tSqW, Pd.e_tSt, Pd.e_tPm, Pd.asgs, Pd.asg, Pd.escape, Pd.e_tCoB, Pd.e_tCo, Pd.e_tN, Pd.e_tV, Pd.e_tK, Pd.e_tOp2, Pd.e_tOp1, Pd.e_two, Pd.e_one, Pd.content, Pd.slotD, R.seal, Pd.e_ans, Pd.e_tBo, Pd.e_tAn, Pd.e_tOr_, Pd.e_tNo, Pd.e_tAnV, Pd.e_tOrV, Pd.e_tNoV, Pd.e_tIfD, Pd.e_tIfE, Pd.e_tRt, Pd.e_tRtN, Pd.e_tDr, Pd.e_tNx, Pd.e_tBk, Pd.e_tCt, Pd.e_tTr, Pd.truD, Pd.fin_val, Pd.fin_new, Pd.fin_al, Pd.retR, Pd.outsAt, Pd.entry, Pd.argSl, Mode.sl, Out.r, Sl.d, Sl.put, Pd.addD, Pd.intOp, Pd.mulD, Pd.negD, Pd.eqD, Pd.neD, Pd.cmD, Pd.dCm_int, Pd.dCm_str, Pd.dEq_nn, Pd.dEq_ii, Pd.dEq_bb, Pd.dEq_ss, Pd.eqOk_i, Pd.eqOk_b, Pd.eqOk_s, Pd.eqOk_n, Pd.cmOk_i, Pd.cmOk_s, Pd.e_tClI, Pd.passOk, Pd.ioS, Pd.apart, Pd.pass, Pd.pass1, Pd.putO, Pd.e_tL, Pd.e_tT, Pd.escapes, Pd.e_many, Pd.e_tBu, Pd.contents, Pd.lenD, Pd.intD, Pd.boolD, Pd.absD, Pd.listD, Pd.tupleD, Pd.isinD, Pd.allD, Pd.bools, Pd.bitsD, Pd.gcdD, Pd.ixD, Pd.isD, Pd.isNotD, Pd.e_tIsiT, Pd.tyName, Pd.isiT, Pd.tyNames, Pd.cellAt, Pd.putAt, Pd.e_tSI, Pd.e_tSF, Pd.e_tFl, Pd.putN, Pd.putX, Pd.e_tMk, Pd.e_tMkK, Pd.e_mkOkI, Pd.e_tClKI, Pd.ordK, R.isNon, D.lst?, D.int?, Pd.iterD, Pd.items, Pd.iterK, Pd.seqK, Pd.e_iSeq, Pd.e_iR1, Pd.e_iR2, Pd.e_gN, Pd.e_gCo, Pd.e_gNi, Pd.e_gT, Pd.e_settable, Pd.e_freeOf, Pd.wipeD, Pd.backD, Pd.back1, Pd.e_tSlc, Pd.slD, Pd.e_oN, Pd.e_oS, Pd.atI_nat, Pd.atI_lit, Pd.ixN_nat, Pd.ixN_lit, Pd.fdn, Pd.fmn, Pd.fdl, Pd.fml, Cm.i, Pd.tFo_eq, Pd.tLC_eq, Pd.e_tNv, ↓Pd.got_eqI, Pd.gotI_some, Pd.gotI_none, Pd.sizeS, Pd.sIx0, Pd.dfltI, Pd.e_iZ, Pd.e_tAu, Pd.e_tCM, Pd.e_tCMT, Pd.e_tCh]
  refine great hb2 (by omega) fun d3 b hb3 hb' => ?_
  rcases n20 b with ⟨hN, hs⟩ | ⟨hN, hs⟩
  · simp [t_law_roots_so_3, m_law_power, Pd.e_tSq, Pd.e_tSqW, Pd.e_tSt, Pd.e_tPm, Pd.asgs, Pd.asg, Pd.escape, Pd.e_tCoB, Pd.e_tCo, Pd.e_tN, Pd.e_tV, Pd.e_tK, Pd.e_tOp2, Pd.e_tOp1, Pd.e_two, Pd.e_one, Pd.content, Pd.slotD, R.seal, Pd.e_ans, Pd.e_tBo, Pd.e_tAn, Pd.e_tOr_, Pd.e_tNo, Pd.e_tAnV, Pd.e_tOrV, Pd.e_tNoV, Pd.e_tIfD, Pd.e_tIfE, Pd.e_tRt, Pd.e_tRtN, Pd.e_tDr, Pd.e_tNx, Pd.e_tBk, Pd.e_tCt, Pd.e_tTr, Pd.truD, Pd.fin_val, Pd.fin_new, Pd.fin_al, Pd.retR, Pd.outsAt, Pd.entry, Pd.argSl, Mode.sl, Out.r, Sl.d, Sl.put, Pd.addD, Pd.intOp, Pd.mulD, Pd.negD, Pd.eqD, Pd.neD, Pd.cmD, Pd.dCm_int, Pd.dCm_str, Pd.dEq_nn, Pd.dEq_ii, Pd.dEq_bb, Pd.dEq_ss, Pd.eqOk_i, Pd.eqOk_b, Pd.eqOk_s, Pd.eqOk_n, Pd.cmOk_i, Pd.cmOk_s, Pd.e_tClI, Pd.passOk, Pd.ioS, Pd.apart, Pd.pass, Pd.pass1, Pd.putO, Pd.e_tL, Pd.e_tT, Pd.escapes, Pd.e_many, Pd.e_tBu, Pd.contents, Pd.lenD, Pd.intD, Pd.boolD, Pd.absD, Pd.listD, Pd.tupleD, Pd.isinD, Pd.allD, Pd.bools, Pd.bitsD, Pd.gcdD, Pd.ixD, Pd.isD, Pd.isNotD, Pd.e_tIsiT, Pd.tyName, Pd.isiT, Pd.tyNames, Pd.cellAt, Pd.putAt, Pd.e_tSI, Pd.e_tSF, Pd.e_tFl, Pd.putN, Pd.putX, Pd.e_tMk, Pd.e_tMkK, Pd.e_mkOkI, Pd.e_tClKI, Pd.ordK, R.isNon, D.lst?, D.int?, Pd.iterD, Pd.items, Pd.iterK, Pd.seqK, Pd.e_iSeq, Pd.e_iR1, Pd.e_iR2, Pd.e_gN, Pd.e_gCo, Pd.e_gNi, Pd.e_gT, Pd.e_settable, Pd.e_freeOf, Pd.wipeD, Pd.backD, Pd.back1, Pd.e_tSlc, Pd.slD, Pd.e_oN, Pd.e_oS, Pd.atI_nat, Pd.atI_lit, Pd.ixN_nat, Pd.ixN_lit, Pd.fdn, Pd.fmn, Pd.fdl, Pd.fml, Cm.i, Pd.tFo_eq, Pd.tLC_eq, Pd.e_tNv, ↓Pd.got_eqI, Pd.gotI_some, Pd.gotI_none, Pd.sizeS, Pd.sIx0, Pd.dfltI, Pd.e_iZ, Pd.e_tAu, Pd.e_tCM, Pd.e_tCMT, Pd.e_tCh, ↓pow20, hN]
    refine pwL2 (by omega) (by omega) ?_
    have h67 : b < 2 ^ 67 := by omega
    have l1 : b ^ t < 2 ^ 1100 := by
      have l2 : b ^ t ≤ (2 ^ 67) ^ t := Nat.pow_le_pow_left (Nat.le_of_lt h67) t
      rw [← Nat.pow_mul] at l2
      exact Nat.lt_of_le_of_lt l2 (Nat.pow_lt_pow_right (by decide) (by omega))
    generalize hbt : b ^ t = e at *
    simp [Pd.e_tSq, Pd.e_tSqW, Pd.e_tSt, Pd.e_tPm, Pd.asgs, Pd.asg, Pd.escape, Pd.e_tCoB, Pd.e_tCo, Pd.e_tN, Pd.e_tV, Pd.e_tK, Pd.e_tOp2, Pd.e_tOp1, Pd.e_two, Pd.e_one, Pd.content, Pd.slotD, R.seal, Pd.e_ans, Pd.e_tBo, Pd.e_tAn, Pd.e_tOr_, Pd.e_tNo, Pd.e_tAnV, Pd.e_tOrV, Pd.e_tNoV, Pd.e_tIfD, Pd.e_tIfE, Pd.e_tRt, Pd.e_tRtN, Pd.e_tDr, Pd.e_tNx, Pd.e_tBk, Pd.e_tCt, Pd.e_tTr, Pd.truD, Pd.fin_val, Pd.fin_new, Pd.fin_al, Pd.retR, Pd.outsAt, Pd.entry, Pd.argSl, Mode.sl, Out.r, Sl.d, Sl.put, Pd.addD, Pd.intOp, Pd.mulD, Pd.negD, Pd.eqD, Pd.neD, Pd.cmD, Pd.dCm_int, Pd.dCm_str, Pd.dEq_nn, Pd.dEq_ii, Pd.dEq_bb, Pd.dEq_ss, Pd.eqOk_i, Pd.eqOk_b, Pd.eqOk_s, Pd.eqOk_n, Pd.cmOk_i, Pd.cmOk_s, Pd.e_tClI, Pd.passOk, Pd.ioS, Pd.apart, Pd.pass, Pd.pass1, Pd.putO, Pd.e_tL, Pd.e_tT, Pd.escapes, Pd.e_many, Pd.e_tBu, Pd.contents, Pd.lenD, Pd.intD, Pd.boolD, Pd.absD, Pd.listD, Pd.tupleD, Pd.isinD, Pd.allD, Pd.bools, Pd.bitsD, Pd.gcdD, Pd.ixD, Pd.isD, Pd.isNotD, Pd.e_tIsiT, Pd.tyName, Pd.isiT, Pd.tyNames, Pd.cellAt, Pd.putAt, Pd.e_tSI, Pd.e_tSF, Pd.e_tFl, Pd.putN, Pd.putX, Pd.e_tMk, Pd.e_tMkK, Pd.e_mkOkI, Pd.e_tClKI, Pd.ordK, R.isNon, D.lst?, D.int?, Pd.iterD, Pd.items, Pd.iterK, Pd.seqK, Pd.e_iSeq, Pd.e_iR1, Pd.e_iR2, Pd.e_gN, Pd.e_gCo, Pd.e_gNi, Pd.e_gT, Pd.e_settable, Pd.e_freeOf, Pd.wipeD, Pd.backD, Pd.back1, Pd.e_tSlc, Pd.slD, Pd.e_oN, Pd.e_oS, Pd.atI_nat, Pd.atI_lit, Pd.ixN_nat, Pd.ixN_lit, Pd.fdn, Pd.fmn, Pd.fdl, Pd.fml, Cm.i, Pd.tFo_eq, Pd.tLC_eq, Pd.e_tNv, ↓Pd.got_eqI, Pd.gotI_some, Pd.gotI_none, Pd.sizeS, Pd.sIx0, Pd.dfltI, Pd.e_iZ, Pd.e_tAu, Pd.e_tCM, Pd.e_tCMT, Pd.e_tCh]
    exact roots_tail rfl (hb3.mono (by omega)) hn t0 t1 hb' l1 (fun _ => hbt.symm) hq
  · simp [t_law_roots_so_3, m_law_power, Pd.e_tSq, Pd.e_tSqW, Pd.e_tSt, Pd.e_tPm, Pd.asgs, Pd.asg, Pd.escape, Pd.e_tCoB, Pd.e_tCo, Pd.e_tN, Pd.e_tV, Pd.e_tK, Pd.e_tOp2, Pd.e_tOp1, Pd.e_two, Pd.e_one, Pd.content, Pd.slotD, R.seal, Pd.e_ans, Pd.e_tBo, Pd.e_tAn, Pd.e_tOr_, Pd.e_tNo, Pd.e_tAnV, Pd.e_tOrV, Pd.e_tNoV, Pd.e_tIfD, Pd.e_tIfE, Pd.e_tRt, Pd.e_tRtN, Pd.e_tDr, Pd.e_tNx, Pd.e_tBk, Pd.e_tCt, Pd.e_tTr, Pd.truD, Pd.fin_val, Pd.fin_new, Pd.fin_al, Pd.retR, Pd.outsAt, Pd.entry, Pd.argSl, Mode.sl, Out.r, Sl.d, Sl.put, Pd.addD, Pd.intOp, Pd.mulD, Pd.negD, Pd.eqD, Pd.neD, Pd.cmD, Pd.dCm_int, Pd.dCm_str, Pd.dEq_nn, Pd.dEq_ii, Pd.dEq_bb, Pd.dEq_ss, Pd.eqOk_i, Pd.eqOk_b, Pd.eqOk_s, Pd.eqOk_n, Pd.cmOk_i, Pd.cmOk_s, Pd.e_tClI, Pd.passOk, Pd.ioS, Pd.apart, Pd.pass, Pd.pass1, Pd.putO, Pd.e_tL, Pd.e_tT, Pd.escapes, Pd.e_many, Pd.e_tBu, Pd.contents, Pd.lenD, Pd.intD, Pd.boolD, Pd.absD, Pd.listD, Pd.tupleD, Pd.isinD, Pd.allD, Pd.bools, Pd.bitsD, Pd.gcdD, Pd.ixD, Pd.isD, Pd.isNotD, Pd.e_tIsiT, Pd.tyName, Pd.isiT, Pd.tyNames, Pd.cellAt, Pd.putAt, Pd.e_tSI, Pd.e_tSF, Pd.e_tFl, Pd.putN, Pd.putX, Pd.e_tMk, Pd.e_tMkK, Pd.e_mkOkI, Pd.e_tClKI, Pd.ordK, R.isNon, D.lst?, D.int?, Pd.iterD, Pd.items, Pd.iterK, Pd.seqK, Pd.e_iSeq, Pd.e_iR1, Pd.e_iR2, Pd.e_gN, Pd.e_gCo, Pd.e_gNi, Pd.e_gT, Pd.e_settable, Pd.e_freeOf, Pd.wipeD, Pd.backD, Pd.back1, Pd.e_tSlc, Pd.slD, Pd.e_oN, Pd.e_oS, Pd.atI_nat, Pd.atI_lit, Pd.ixN_nat, Pd.ixN_lit, Pd.fdn, Pd.fmn, Pd.fdl, Pd.fml, Cm.i, Pd.tFo_eq, Pd.tLC_eq, Pd.e_tNv, ↓Pd.got_eqI, Pd.gotI_some, Pd.gotI_none, Pd.sizeS, Pd.sIx0, Pd.dfltI, Pd.e_iZ, Pd.e_tAu, Pd.e_tCM, Pd.e_tCMT, Pd.e_tCh, ↓pow20, hN]
    exact roots_tail rfl (hb3.mono (by omega)) hn t0 t1 hb' (Nat.lt_of_lt_of_le (Nat.lt_trans hb' (show 10 ^ 39 < 2 ^ 130 by decide)) (Nat.pow_le_pow_right (by decide) (by decide))) (fun h => absurd h hs) hq

end LW

set_option Elab.async false
set_option linter.all false
set_option maxRecDepth 100000
set_option maxHeartbeats 0
namespace LW
open PySem PySem.Spec PyProof.Rows L2 Pd
theorem pairI {n : Nat} {d : D} {q : List D → R → Prop} (hb : BagOk n d) (hn : n < 2 ^ 50) (h : ∀ (d' : D) (t b : Nat), BagOk (n + 10) d' → t ≤ 7 → 0 < b → b ≤ 7 → Nat.gcd t b = 1 → q [d'] (.val (.tup [.int t, .int b]))) : sp_law_pair [d] q := ⟨d, n, rfl, hb, hn, h⟩
theorem ratI {t b : Nat} {q : List D → R → Prop} (hb : 0 < b) (hg : Nat.gcd t b = 1) (h : q [ratD t b] (.val .non)) : sp_Ratio_init [.obj "Ratio" [] [], .int t, .int b] q := ⟨t, b, rfl, by omega, by simpa using hg, h⟩
theorem lpowI {n t b : Nat} {q : List D → R → Prop} (hb : 0 < b) (hb2 : b ≤ 100) (ht : t ≤ 100) (hn : n < 2 ^ 1200) (hnt : n ^ t < 2 ^ 3500) (h : ∀ r : Nat, IsRoot (n ^ t) b r → q [] (.val (.int r))) : sp_least_power [.int n, ratD t b] q := ⟨n, t, b, rfl, hb, hb2, ht, hn, hnt, h⟩
theorem withI {c n t b : Nat} {q : List D → R → Prop} (hb : 0 < b) (hb2 : b ≤ 100) (ht : t ≤ 100) (hc : c < 2 ^ 1200) (hn : n < 2 ^ 1200) (h : q [] (.val (.bl (decide (c ^ b ≤ n ^ t))))) : sp_within_power [.int c, .int n, ratD t b] q := ⟨c, n, t, b, rfl, hb, hb2, ht, hc, hn, h⟩
theorem powers_tail {n t b k w r : Nat} {d : D} {q : List D → R → Prop} {E : EndsD} (hE : E.rt = fun e r => fin m_law_powers_so q e r) (hb : BagOk (n + 30) d) (ht : t ≤ 7) (b0 : 0 < b) (b1 : b ≤ 7) (hk2 : k < 2 ^ 130) (hw : k ^ t = w) (hw2 : w < 2 ^ 1200) (hr : IsRoot w b r)
    (hq : ∀ d' : D, BagOk (n + 1000) d' → q [d'] (.val (.bl true))) : t_law_powers_so_9 E [.io d, .val (ratD t b), .val (.int w), .val (.int r), .un, .un, .val (.tup [.int t, .int b]), .val (.int k)] := by
  have k12 : k < 2 ^ 1200 := Nat.lt_trans hk2 (Nat.pow_lt_pow_right (by decide) (by decide))
  have fin3 : ∀ x y : Nat, x < 2 ^ 1200 → x ^ t < 2 ^ 3500 → IsRoot (x ^ t) b y → t_law_powers_so_13 E [.io d, .val (ratD t b), .val (.int w), .val (.int r), .val (.int x), .val (.int y), .val (.tup [.int t, .int b]), .val (.int k)] := fun x y hx hxt hy => by
    simp [t_law_powers_so_13, m_least_power, m_Ratio_init, m_law_like, Pd.e_tSq, Pd.e_tSqW, Pd.e_tSt, Pd.e_tPm, Pd.asgs, Pd.asg, Pd.escape, Pd.e_tCoB, Pd.e_tCo, Pd.e_tN, Pd.e_tV, Pd.e_tK, Pd.e_tOp2, Pd.e_tOp1, Pd.e_two, Pd.e_one, Pd.content, Pd.slotD, R.seal, Pd.e_ans, Pd.e_tBo, Pd.e_tAn, Pd.e_tOr_, Pd.e_tNo, Pd.e_tAnV, Pd.e_tOrV, Pd.e_tNoV, Pd.e_tIfD, Pd.e_tIfE, Pd.e_tRt, Pd.e_tRtN, Pd.e_tDr, Pd.e_tNx, Pd.e_tBk, Pd.e_tCt, Pd.e_tTr, Pd.truD, Pd.fin_val, Pd.fin_new, Pd.fin_al, Pd.retR, Pd.outsAt, Pd.entry, Pd.argSl, Mode.sl, Out.r, Sl.d, Sl.put, Pd.addD, Pd.intOp, Pd.mulD, Pd.negD, Pd.eqD, Pd.neD, Pd.cmD, Pd.dCm_int, Pd.dCm_str, Pd.dEq_nn, Pd.dEq_ii, Pd.dEq_bb, Pd.dEq_ss, Pd.eqOk_i, Pd.eqOk_b, Pd.eqOk_s, Pd.eqOk_n, Pd.cmOk_i, Pd.cmOk_s, Pd.e_tClI, Pd.passOk, Pd.ioS, Pd.apart, Pd.pass, Pd.pass1, Pd.putO, Pd.e_tL, Pd.e_tT, Pd.escapes, Pd.e_many, Pd.e_tBu, Pd.contents, Pd.lenD, Pd.intD, Pd.boolD, Pd.absD, Pd.listD, Pd.tupleD, Pd.isinD, Pd.allD, Pd.bools, Pd.bitsD, Pd.gcdD, Pd.ixD, Pd.isD, Pd.isNotD, Pd.e_tIsiT, Pd.tyName, Pd.isiT, Pd.tyNames, Pd.cellAt, Pd.putAt, Pd.e_tSI, Pd.e_tSF, Pd.e_tFl, Pd.putN, Pd.putX, Pd.e_tMk, Pd.e_tMkK, Pd.e_mkOkI, Pd.e_tClKI, Pd.ordK, R.isNon, D.lst?, D.int?, Pd.iterD, Pd.items, Pd.iterK, Pd.seqK, Pd.e_iSeq, Pd.e_iR1, Pd.e_iR2, Pd.e_gN, Pd.e_gCo, Pd.e_gNi, Pd.e_gT, Pd.e_settable, Pd.e_freeOf, Pd.wipeD, Pd.backD, Pd.back1, Pd.e_tSlc, Pd.slD, Pd.e_oN, Pd.e_oS, Pd.atI_nat, Pd.atI_lit, Pd.ixN_nat, Pd.ixN_lit, Pd.fdn, Pd.fmn, Pd.fdl, Pd.fml, Cm.i, Pd.tFo_eq, Pd.tLC_eq, Pd.e_tNv, ↓Pd.got_eqI, Pd.gotI_some, Pd.gotI_none, Pd.sizeS, Pd.sIx0, Pd.dfltI, Pd.e_iZ, Pd.e_tAu, Pd.e_tCM, Pd.e_tCMT, Pd.e_tCh]
    refine lpowI b0 (by omega) (by omega) hx hxt fun r1 hr1 => ?_
    have e1 := root_uniq hr1 hy
    subst e1
    simp [Pd.e_tSq, Pd.e_tSqW, Pd.e_tSt, Pd.e_tPm, Pd.asgs, Pd.asg, Pd.escape, Pd.e_tCoB, Pd.e_tCo, Pd.e_tN, Pd.e_tV, Pd.e_tK, Pd.e_tOp2, Pd.e_tOp1, Pd.e_two, Pd.e_one, Pd.content, Pd.slotD, R.seal, Pd.e_ans, Pd.e_tBo, Pd.e_tAn, Pd.e_tOr_, Pd.e_tNo, Pd.e_tAnV, Pd.e_tOrV, Pd.e_tNoV, Pd.e_tIfD, Pd.e_tIfE, Pd.e_tRt, Pd.e_tRtN, Pd.e_tDr, Pd.e_tNx, Pd.e_tBk, Pd.e_tCt, Pd.e_tTr, Pd.truD, Pd.fin_val, Pd.fin_new, Pd.fin_al, Pd.retR, Pd.outsAt, Pd.entry, Pd.argSl, Mode.sl, Out.r, Sl.d, Sl.put, Pd.addD, Pd.intOp, Pd.mulD, Pd.negD, Pd.eqD, Pd.neD, Pd.cmD, Pd.dCm_int, Pd.dCm_str, Pd.dEq_nn, Pd.dEq_ii, Pd.dEq_bb, Pd.dEq_ss, Pd.eqOk_i, Pd.eqOk_b, Pd.eqOk_s, Pd.eqOk_n, Pd.cmOk_i, Pd.cmOk_s, Pd.e_tClI, Pd.passOk, Pd.ioS, Pd.apart, Pd.pass, Pd.pass1, Pd.putO, Pd.e_tL, Pd.e_tT, Pd.escapes, Pd.e_many, Pd.e_tBu, Pd.contents, Pd.lenD, Pd.intD, Pd.boolD, Pd.absD, Pd.listD, Pd.tupleD, Pd.isinD, Pd.allD, Pd.bools, Pd.bitsD, Pd.gcdD, Pd.ixD, Pd.isD, Pd.isNotD, Pd.e_tIsiT, Pd.tyName, Pd.isiT, Pd.tyNames, Pd.cellAt, Pd.putAt, Pd.e_tSI, Pd.e_tSF, Pd.e_tFl, Pd.putN, Pd.putX, Pd.e_tMk, Pd.e_tMkK, Pd.e_mkOkI, Pd.e_tClKI, Pd.ordK, R.isNon, D.lst?, D.int?, Pd.iterD, Pd.items, Pd.iterK, Pd.seqK, Pd.e_iSeq, Pd.e_iR1, Pd.e_iR2, Pd.e_gN, Pd.e_gCo, Pd.e_gNi, Pd.e_gT, Pd.e_settable, Pd.e_freeOf, Pd.wipeD, Pd.backD, Pd.back1, Pd.e_tSlc, Pd.slD, Pd.e_oN, Pd.e_oS, Pd.atI_nat, Pd.atI_lit, Pd.ixN_nat, Pd.ixN_lit, Pd.fdn, Pd.fmn, Pd.fdl, Pd.fml, Cm.i, Pd.tFo_eq, Pd.tLC_eq, Pd.e_tNv, ↓Pd.got_eqI, Pd.gotI_some, Pd.gotI_none, Pd.sizeS, Pd.sIx0, Pd.dfltI, Pd.e_iZ, Pd.e_tAu, Pd.e_tCM, Pd.e_tCMT, Pd.e_tCh]
    refine ratI (t := 1) (b := 1) (by decide) (by decide) ?_
    simp [Pd.e_tSq, Pd.e_tSqW, Pd.e_tSt, Pd.e_tPm, Pd.asgs, Pd.asg, Pd.escape, Pd.e_tCoB, Pd.e_tCo, Pd.e_tN, Pd.e_tV, Pd.e_tK, Pd.e_tOp2, Pd.e_tOp1, Pd.e_two, Pd.e_one, Pd.content, Pd.slotD, R.seal, Pd.e_ans, Pd.e_tBo, Pd.e_tAn, Pd.e_tOr_, Pd.e_tNo, Pd.e_tAnV, Pd.e_tOrV, Pd.e_tNoV, Pd.e_tIfD, Pd.e_tIfE, Pd.e_tRt, Pd.e_tRtN, Pd.e_tDr, Pd.e_tNx, Pd.e_tBk, Pd.e_tCt, Pd.e_tTr, Pd.truD, Pd.fin_val, Pd.fin_new, Pd.fin_al, Pd.retR, Pd.outsAt, Pd.entry, Pd.argSl, Mode.sl, Out.r, Sl.d, Sl.put, Pd.addD, Pd.intOp, Pd.mulD, Pd.negD, Pd.eqD, Pd.neD, Pd.cmD, Pd.dCm_int, Pd.dCm_str, Pd.dEq_nn, Pd.dEq_ii, Pd.dEq_bb, Pd.dEq_ss, Pd.eqOk_i, Pd.eqOk_b, Pd.eqOk_s, Pd.eqOk_n, Pd.cmOk_i, Pd.cmOk_s, Pd.e_tClI, Pd.passOk, Pd.ioS, Pd.apart, Pd.pass, Pd.pass1, Pd.putO, Pd.e_tL, Pd.e_tT, Pd.escapes, Pd.e_many, Pd.e_tBu, Pd.contents, Pd.lenD, Pd.intD, Pd.boolD, Pd.absD, Pd.listD, Pd.tupleD, Pd.isinD, Pd.allD, Pd.bools, Pd.bitsD, Pd.gcdD, Pd.ixD, Pd.isD, Pd.isNotD, Pd.e_tIsiT, Pd.tyName, Pd.isiT, Pd.tyNames, Pd.cellAt, Pd.putAt, Pd.e_tSI, Pd.e_tSF, Pd.e_tFl, Pd.putN, Pd.putX, Pd.e_tMk, Pd.e_tMkK, Pd.e_mkOkI, Pd.e_tClKI, Pd.ordK, R.isNon, D.lst?, D.int?, Pd.iterD, Pd.items, Pd.iterK, Pd.seqK, Pd.e_iSeq, Pd.e_iR1, Pd.e_iR2, Pd.e_gN, Pd.e_gCo, Pd.e_gNi, Pd.e_gT, Pd.e_settable, Pd.e_freeOf, Pd.wipeD, Pd.backD, Pd.back1, Pd.e_tSlc, Pd.slD, Pd.e_oN, Pd.e_oS, Pd.atI_nat, Pd.atI_lit, Pd.ixN_nat, Pd.ixN_lit, Pd.fdn, Pd.fmn, Pd.fdl, Pd.fml, Cm.i, Pd.tFo_eq, Pd.tLC_eq, Pd.e_tNv, ↓Pd.got_eqI, Pd.gotI_some, Pd.gotI_none, Pd.sizeS, Pd.sIx0, Pd.dfltI, Pd.e_iZ, Pd.e_tAu, Pd.e_tCM, Pd.e_tCMT, Pd.e_tCh]
    refine ⟨[.io _, .val _, .val _, .val _, .val _, .val _, .val _, .val _], _, rfl, ?_⟩
    try simp [Pd.e_tSq, Pd.e_tSqW, Pd.e_tSt, Pd.e_tPm, Pd.asgs, Pd.asg, Pd.escape, Pd.e_tCoB, Pd.e_tCo, Pd.e_tN, Pd.e_tV, Pd.e_tK, Pd.e_tOp2, Pd.e_tOp1, Pd.e_two, Pd.e_one, Pd.content, Pd.slotD, R.seal, Pd.e_ans, Pd.e_tBo, Pd.e_tAn, Pd.e_tOr_, Pd.e_tNo, Pd.e_tAnV, Pd.e_tOrV, Pd.e_tNoV, Pd.e_tIfD, Pd.e_tIfE, Pd.e_tRt, Pd.e_tRtN, Pd.e_tDr, Pd.e_tNx, Pd.e_tBk, Pd.e_tCt, Pd.e_tTr, Pd.truD, Pd.fin_val, Pd.fin_new, Pd.fin_al, Pd.retR, Pd.outsAt, Pd.entry, Pd.argSl, Mode.sl, Out.r, Sl.d, Sl.put, Pd.addD, Pd.intOp, Pd.mulD, Pd.negD, Pd.eqD, Pd.neD, Pd.cmD, Pd.dCm_int, Pd.dCm_str, Pd.dEq_nn, Pd.dEq_ii, Pd.dEq_bb, Pd.dEq_ss, Pd.eqOk_i, Pd.eqOk_b, Pd.eqOk_s, Pd.eqOk_n, Pd.cmOk_i, Pd.cmOk_s, Pd.e_tClI, Pd.passOk, Pd.ioS, Pd.apart, Pd.pass, Pd.pass1, Pd.putO, Pd.e_tL, Pd.e_tT, Pd.escapes, Pd.e_many, Pd.e_tBu, Pd.contents, Pd.lenD, Pd.intD, Pd.boolD, Pd.absD, Pd.listD, Pd.tupleD, Pd.isinD, Pd.allD, Pd.bools, Pd.bitsD, Pd.gcdD, Pd.ixD, Pd.isD, Pd.isNotD, Pd.e_tIsiT, Pd.tyName, Pd.isiT, Pd.tyNames, Pd.cellAt, Pd.putAt, Pd.e_tSI, Pd.e_tSF, Pd.e_tFl, Pd.putN, Pd.putX, Pd.e_tMk, Pd.e_tMkK, Pd.e_mkOkI, Pd.e_tClKI, Pd.ordK, R.isNon, D.lst?, D.int?, Pd.iterD, Pd.items, Pd.iterK, Pd.seqK, Pd.e_iSeq, Pd.e_iR1, Pd.e_iR2, Pd.e_gN, Pd.e_gCo, Pd.e_gNi, Pd.e_gT, Pd.e_settable, Pd.e_freeOf, Pd.wipeD, Pd.backD, Pd.back1, Pd.e_tSlc, Pd.slD, Pd.e_oN, Pd.e_oS, Pd.atI_nat, Pd.atI_lit, Pd.ixN_nat, Pd.ixN_lit, Pd.fdn, Pd.fmn, Pd.fdl, Pd.fml, Cm.i, Pd.tFo_eq, Pd.tLC_eq, Pd.e_tNv, ↓Pd.got_eqI, Pd.gotI_some, Pd.gotI_none, Pd.sizeS, Pd.sIx0, Pd.dfltI, Pd.e_iZ, Pd.e_tAu, Pd.e_tCM, Pd.e_tCMT, Pd.e_tCh]
    refine lpowI (t := 1) (b := 1) (by decide) (by decide) (by decide) k12 (by rw [Nat.pow_one]; exact lt35 k12) fun r2 hr2 => ?_
    have e2 : IsRoot (k ^ 1) 1 k := root_pow (b := k) (k := 1) (by decide)
    have e3 := root_uniq hr2 e2
    subst e3
    simp [Pd.e_tSq, Pd.e_tSqW, Pd.e_tSt, Pd.e_tPm, Pd.asgs, Pd.asg, Pd.escape, Pd.e_tCoB, Pd.e_tCo, Pd.e_tN, Pd.e_tV, Pd.e_tK, Pd.e_tOp2, Pd.e_tOp1, Pd.e_two, Pd.e_one, Pd.content, Pd.slotD, R.seal, Pd.e_ans, Pd.e_tBo, Pd.e_tAn, Pd.e_tOr_, Pd.e_tNo, Pd.e_tAnV, Pd.e_tOrV, Pd.e_tNoV, Pd.e_tIfD, Pd.e_tIfE, Pd.e_tRt, Pd.e_tRtN, Pd.e_tDr, Pd.e_tNx, Pd.e_tBk, Pd.e_tCt, Pd.e_tTr, Pd.truD, Pd.fin_val, Pd.fin_new, Pd.fin_al, Pd.retR, Pd.outsAt, Pd.entry, Pd.argSl, Mode.sl, Out.r, Sl.d, Sl.put, Pd.addD, Pd.intOp, Pd.mulD, Pd.negD, Pd.eqD, Pd.neD, Pd.cmD, Pd.dCm_int, Pd.dCm_str, Pd.dEq_nn, Pd.dEq_ii, Pd.dEq_bb, Pd.dEq_ss, Pd.eqOk_i, Pd.eqOk_b, Pd.eqOk_s, Pd.eqOk_n, Pd.cmOk_i, Pd.cmOk_s, Pd.e_tClI, Pd.passOk, Pd.ioS, Pd.apart, Pd.pass, Pd.pass1, Pd.putO, Pd.e_tL, Pd.e_tT, Pd.escapes, Pd.e_many, Pd.e_tBu, Pd.contents, Pd.lenD, Pd.intD, Pd.boolD, Pd.absD, Pd.listD, Pd.tupleD, Pd.isinD, Pd.allD, Pd.bools, Pd.bitsD, Pd.gcdD, Pd.ixD, Pd.isD, Pd.isNotD, Pd.e_tIsiT, Pd.tyName, Pd.isiT, Pd.tyNames, Pd.cellAt, Pd.putAt, Pd.e_tSI, Pd.e_tSF, Pd.e_tFl, Pd.putN, Pd.putX, Pd.e_tMk, Pd.e_tMkK, Pd.e_mkOkI, Pd.e_tClKI, Pd.ordK, R.isNon, D.lst?, D.int?, Pd.iterD, Pd.items, Pd.iterK, Pd.seqK, Pd.e_iSeq, Pd.e_iR1, Pd.e_iR2, Pd.e_gN, Pd.e_gCo, Pd.e_gNi, Pd.e_gT, Pd.e_settable, Pd.e_freeOf, Pd.wipeD, Pd.backD, Pd.back1, Pd.e_tSlc, Pd.slD, Pd.e_oN, Pd.e_oS, Pd.atI_nat, Pd.atI_lit, Pd.ixN_nat, Pd.ixN_lit, Pd.fdn, Pd.fmn, Pd.fdl, Pd.fml, Cm.i, Pd.tFo_eq, Pd.tLC_eq, Pd.e_tNv, ↓Pd.got_eqI, Pd.gotI_some, Pd.gotI_none, Pd.sizeS, Pd.sIx0, Pd.dfltI, Pd.e_iZ, Pd.e_tAu, Pd.e_tCM, Pd.e_tCMT, Pd.e_tCh]
    refine ratI (t := 0) (b := 1) (by decide) (by decide) ?_
    simp [Pd.e_tSq, Pd.e_tSqW, Pd.e_tSt, Pd.e_tPm, Pd.asgs, Pd.asg, Pd.escape, Pd.e_tCoB, Pd.e_tCo, Pd.e_tN, Pd.e_tV, Pd.e_tK, Pd.e_tOp2, Pd.e_tOp1, Pd.e_two, Pd.e_one, Pd.content, Pd.slotD, R.seal, Pd.e_ans, Pd.e_tBo, Pd.e_tAn, Pd.e_tOr_, Pd.e_tNo, Pd.e_tAnV, Pd.e_tOrV, Pd.e_tNoV, Pd.e_tIfD, Pd.e_tIfE, Pd.e_tRt, Pd.e_tRtN, Pd.e_tDr, Pd.e_tNx, Pd.e_tBk, Pd.e_tCt, Pd.e_tTr, Pd.truD, Pd.fin_val, Pd.fin_new, Pd.fin_al, Pd.retR, Pd.outsAt, Pd.entry, Pd.argSl, Mode.sl, Out.r, Sl.d, Sl.put, Pd.addD, Pd.intOp, Pd.mulD, Pd.negD, Pd.eqD, Pd.neD, Pd.cmD, Pd.dCm_int, Pd.dCm_str, Pd.dEq_nn, Pd.dEq_ii, Pd.dEq_bb, Pd.dEq_ss, Pd.eqOk_i, Pd.eqOk_b, Pd.eqOk_s, Pd.eqOk_n, Pd.cmOk_i, Pd.cmOk_s, Pd.e_tClI, Pd.passOk, Pd.ioS, Pd.apart, Pd.pass, Pd.pass1, Pd.putO, Pd.e_tL, Pd.e_tT, Pd.escapes, Pd.e_many, Pd.e_tBu, Pd.contents, Pd.lenD, Pd.intD, Pd.boolD, Pd.absD, Pd.listD, Pd.tupleD, Pd.isinD, Pd.allD, Pd.bools, Pd.bitsD, Pd.gcdD, Pd.ixD, Pd.isD, Pd.isNotD, Pd.e_tIsiT, Pd.tyName, Pd.isiT, Pd.tyNames, Pd.cellAt, Pd.putAt, Pd.e_tSI, Pd.e_tSF, Pd.e_tFl, Pd.putN, Pd.putX, Pd.e_tMk, Pd.e_tMkK, Pd.e_mkOkI, Pd.e_tClKI, Pd.ordK, R.isNon, D.lst?, D.int?, Pd.iterD, Pd.items, Pd.iterK, Pd.seqK, Pd.e_iSeq, Pd.e_iR1, Pd.e_iR2, Pd.e_gN, Pd.e_gCo, Pd.e_gNi, Pd.e_gT, Pd.e_settable, Pd.e_freeOf, Pd.wipeD, Pd.backD, Pd.back1, Pd.e_tSlc, Pd.slD, Pd.e_oN, Pd.e_oS, Pd.atI_nat, Pd.atI_lit, Pd.ixN_nat, Pd.ixN_lit, Pd.fdn, Pd.fmn, Pd.fdl, Pd.fml, Cm.i, Pd.tFo_eq, Pd.tLC_eq, Pd.e_tNv, ↓Pd.got_eqI, Pd.gotI_some, Pd.gotI_none, Pd.sizeS, Pd.sIx0, Pd.dfltI, Pd.e_iZ, Pd.e_tAu, Pd.e_tCM, Pd.e_tCMT, Pd.e_tCh]
    refine ⟨[.io _, .val _, .val _, .val _, .val _, .val _, .val _, .val _], _, rfl, ?_⟩
    try simp [Pd.e_tSq, Pd.e_tSqW, Pd.e_tSt, Pd.e_tPm, Pd.asgs, Pd.asg, Pd.escape, Pd.e_tCoB, Pd.e_tCo, Pd.e_tN, Pd.e_tV, Pd.e_tK, Pd.e_tOp2, Pd.e_tOp1, Pd.e_two, Pd.e_one, Pd.content, Pd.slotD, R.seal, Pd.e_ans, Pd.e_tBo, Pd.e_tAn, Pd.e_tOr_, Pd.e_tNo, Pd.e_tAnV, Pd.e_tOrV, Pd.e_tNoV, Pd.e_tIfD, Pd.e_tIfE, Pd.e_tRt, Pd.e_tRtN, Pd.e_tDr, Pd.e_tNx, Pd.e_tBk, Pd.e_tCt, Pd.e_tTr, Pd.truD, Pd.fin_val, Pd.fin_new, Pd.fin_al, Pd.retR, Pd.outsAt, Pd.entry, Pd.argSl, Mode.sl, Out.r, Sl.d, Sl.put, Pd.addD, Pd.intOp, Pd.mulD, Pd.negD, Pd.eqD, Pd.neD, Pd.cmD, Pd.dCm_int, Pd.dCm_str, Pd.dEq_nn, Pd.dEq_ii, Pd.dEq_bb, Pd.dEq_ss, Pd.eqOk_i, Pd.eqOk_b, Pd.eqOk_s, Pd.eqOk_n, Pd.cmOk_i, Pd.cmOk_s, Pd.e_tClI, Pd.passOk, Pd.ioS, Pd.apart, Pd.pass, Pd.pass1, Pd.putO, Pd.e_tL, Pd.e_tT, Pd.escapes, Pd.e_many, Pd.e_tBu, Pd.contents, Pd.lenD, Pd.intD, Pd.boolD, Pd.absD, Pd.listD, Pd.tupleD, Pd.isinD, Pd.allD, Pd.bools, Pd.bitsD, Pd.gcdD, Pd.ixD, Pd.isD, Pd.isNotD, Pd.e_tIsiT, Pd.tyName, Pd.isiT, Pd.tyNames, Pd.cellAt, Pd.putAt, Pd.e_tSI, Pd.e_tSF, Pd.e_tFl, Pd.putN, Pd.putX, Pd.e_tMk, Pd.e_tMkK, Pd.e_mkOkI, Pd.e_tClKI, Pd.ordK, R.isNon, D.lst?, D.int?, Pd.iterD, Pd.items, Pd.iterK, Pd.seqK, Pd.e_iSeq, Pd.e_iR1, Pd.e_iR2, Pd.e_gN, Pd.e_gCo, Pd.e_gNi, Pd.e_gT, Pd.e_settable, Pd.e_freeOf, Pd.wipeD, Pd.backD, Pd.back1, Pd.e_tSlc, Pd.slD, Pd.e_oN, Pd.e_oS, Pd.atI_nat, Pd.atI_lit, Pd.ixN_nat, Pd.ixN_lit, Pd.fdn, Pd.fmn, Pd.fdl, Pd.fml, Cm.i, Pd.tFo_eq, Pd.tLC_eq, Pd.e_tNv, ↓Pd.got_eqI, Pd.gotI_some, Pd.gotI_none, Pd.sizeS, Pd.sIx0, Pd.dfltI, Pd.e_iZ, Pd.e_tAu, Pd.e_tCM, Pd.e_tCMT, Pd.e_tCh]
    refine lpowI (t := 0) (b := 1) (by decide) (by decide) (by decide) k12 (by rw [Nat.pow_zero]; exact Nat.one_lt_pow (by decide) (by decide)) fun r3 hr3 => ?_
    have e4 : IsRoot (r2 ^ 0) 1 1 := by rw [Nat.pow_zero]; exact root_small (by decide) (Nat.le_refl 1)
    have e5 := root_uniq hr3 e4
    subst e5
    simp [Pd.e_tSq, Pd.e_tSqW, Pd.e_tSt, Pd.e_tPm, Pd.asgs, Pd.asg, Pd.escape, Pd.e_tCoB, Pd.e_tCo, Pd.e_tN, Pd.e_tV, Pd.e_tK, Pd.e_tOp2, Pd.e_tOp1, Pd.e_two, Pd.e_one, Pd.content, Pd.slotD, R.seal, Pd.e_ans, Pd.e_tBo, Pd.e_tAn, Pd.e_tOr_, Pd.e_tNo, Pd.e_tAnV, Pd.e_tOrV, Pd.e_tNoV, Pd.e_tIfD, Pd.e_tIfE, Pd.e_tRt, Pd.e_tRtN, Pd.e_tDr, Pd.e_tNx, Pd.e_tBk, Pd.e_tCt, Pd.e_tTr, Pd.truD, Pd.fin_val, Pd.fin_new, Pd.fin_al, Pd.retR, Pd.outsAt, Pd.entry, Pd.argSl, Mode.sl, Out.r, Sl.d, Sl.put, Pd.addD, Pd.intOp, Pd.mulD, Pd.negD, Pd.eqD, Pd.neD, Pd.cmD, Pd.dCm_int, Pd.dCm_str, Pd.dEq_nn, Pd.dEq_ii, Pd.dEq_bb, Pd.dEq_ss, Pd.eqOk_i, Pd.eqOk_b, Pd.eqOk_s, Pd.eqOk_n, Pd.cmOk_i, Pd.cmOk_s, Pd.e_tClI, Pd.passOk, Pd.ioS, Pd.apart, Pd.pass, Pd.pass1, Pd.putO, Pd.e_tL, Pd.e_tT, Pd.escapes, Pd.e_many, Pd.e_tBu, Pd.contents, Pd.lenD, Pd.intD, Pd.boolD, Pd.absD, Pd.listD, Pd.tupleD, Pd.isinD, Pd.allD, Pd.bools, Pd.bitsD, Pd.gcdD, Pd.ixD, Pd.isD, Pd.isNotD, Pd.e_tIsiT, Pd.tyName, Pd.isiT, Pd.tyNames, Pd.cellAt, Pd.putAt, Pd.e_tSI, Pd.e_tSF, Pd.e_tFl, Pd.putN, Pd.putX, Pd.e_tMk, Pd.e_tMkK, Pd.e_mkOkI, Pd.e_tClKI, Pd.ordK, R.isNon, D.lst?, D.int?, Pd.iterD, Pd.items, Pd.iterK, Pd.seqK, Pd.e_iSeq, Pd.e_iR1, Pd.e_iR2, Pd.e_gN, Pd.e_gCo, Pd.e_gNi, Pd.e_gT, Pd.e_settable, Pd.e_freeOf, Pd.wipeD, Pd.backD, Pd.back1, Pd.e_tSlc, Pd.slD, Pd.e_oN, Pd.e_oS, Pd.atI_nat, Pd.atI_lit, Pd.ixN_nat, Pd.ixN_lit, Pd.fdn, Pd.fmn, Pd.fdl, Pd.fml, Cm.i, Pd.tFo_eq, Pd.tLC_eq, Pd.e_tNv, ↓Pd.got_eqI, Pd.gotI_some, Pd.gotI_none, Pd.sizeS, Pd.sIx0, Pd.dfltI, Pd.e_iZ, Pd.e_tAu, Pd.e_tCM, Pd.e_tCMT, Pd.e_tCh]
    refine likeI (by simp [scal]) (by simp) ?_
    simp [Pd.e_tSq, Pd.e_tSqW, Pd.e_tSt, Pd.e_tPm, Pd.asgs, Pd.asg, Pd.escape, Pd.e_tCoB, Pd.e_tCo, Pd.e_tN, Pd.e_tV, Pd.e_tK, Pd.e_tOp2, Pd.e_tOp1, Pd.e_two, Pd.e_one, Pd.content, Pd.slotD, R.seal, Pd.e_ans, Pd.e_tBo, Pd.e_tAn, Pd.e_tOr_, Pd.e_tNo, Pd.e_tAnV, Pd.e_tOrV, Pd.e_tNoV, Pd.e_tIfD, Pd.e_tIfE, Pd.e_tRt, Pd.e_tRtN, Pd.e_tDr, Pd.e_tNx, Pd.e_tBk, Pd.e_tCt, Pd.e_tTr, Pd.truD, Pd.fin_val, Pd.fin_new, Pd.fin_al, Pd.retR, Pd.outsAt, Pd.entry, Pd.argSl, Mode.sl, Out.r, Sl.d, Sl.put, Pd.addD, Pd.intOp, Pd.mulD, Pd.negD, Pd.eqD, Pd.neD, Pd.cmD, Pd.dCm_int, Pd.dCm_str, Pd.dEq_nn, Pd.dEq_ii, Pd.dEq_bb, Pd.dEq_ss, Pd.eqOk_i, Pd.eqOk_b, Pd.eqOk_s, Pd.eqOk_n, Pd.cmOk_i, Pd.cmOk_s, Pd.e_tClI, Pd.passOk, Pd.ioS, Pd.apart, Pd.pass, Pd.pass1, Pd.putO, Pd.e_tL, Pd.e_tT, Pd.escapes, Pd.e_many, Pd.e_tBu, Pd.contents, Pd.lenD, Pd.intD, Pd.boolD, Pd.absD, Pd.listD, Pd.tupleD, Pd.isinD, Pd.allD, Pd.bools, Pd.bitsD, Pd.gcdD, Pd.ixD, Pd.isD, Pd.isNotD, Pd.e_tIsiT, Pd.tyName, Pd.isiT, Pd.tyNames, Pd.cellAt, Pd.putAt, Pd.e_tSI, Pd.e_tSF, Pd.e_tFl, Pd.putN, Pd.putX, Pd.e_tMk, Pd.e_tMkK, Pd.e_mkOkI, Pd.e_tClKI, Pd.ordK, R.isNon, D.lst?, D.int?, Pd.iterD, Pd.items, Pd.iterK, Pd.seqK, Pd.e_iSeq, Pd.e_iR1, Pd.e_iR2, Pd.e_gN, Pd.e_gCo, Pd.e_gNi, Pd.e_gT, Pd.e_settable, Pd.e_freeOf, Pd.wipeD, Pd.backD, Pd.back1, Pd.e_tSlc, Pd.slD, Pd.e_oN, Pd.e_oS, Pd.atI_nat, Pd.atI_lit, Pd.ixN_nat, Pd.ixN_lit, Pd.fdn, Pd.fmn, Pd.fdl, Pd.fml, Cm.i, Pd.tFo_eq, Pd.tLC_eq, Pd.e_tNv, ↓Pd.got_eqI, Pd.gotI_some, Pd.gotI_none, Pd.sizeS, Pd.sIx0, Pd.dfltI, Pd.e_iZ, Pd.e_tAu, Pd.e_tCM, Pd.e_tCMT, Pd.e_tCh, hE]
    exact hq _ (hb.mono (by omega))
  simp [t_law_powers_so_9, m_least_power, m_least_root, m_law_like, Pd.e_tSq, Pd.e_tSqW, Pd.e_tSt, Pd.e_tPm, Pd.asgs, Pd.asg, Pd.escape, Pd.e_tCoB, Pd.e_tCo, Pd.e_tN, Pd.e_tV, Pd.e_tK, Pd.e_tOp2, Pd.e_tOp1, Pd.e_two, Pd.e_one, Pd.content, Pd.slotD, R.seal, Pd.e_ans, Pd.e_tBo, Pd.e_tAn, Pd.e_tOr_, Pd.e_tNo, Pd.e_tAnV, Pd.e_tOrV, Pd.e_tNoV, Pd.e_tIfD, Pd.e_tIfE, Pd.e_tRt, Pd.e_tRtN, Pd.e_tDr, Pd.e_tNx, Pd.e_tBk, Pd.e_tCt, Pd.e_tTr, Pd.truD, Pd.fin_val, Pd.fin_new, Pd.fin_al, Pd.retR, Pd.outsAt, Pd.entry, Pd.argSl, Mode.sl, Out.r, Sl.d, Sl.put, Pd.addD, Pd.intOp, Pd.mulD, Pd.negD, Pd.eqD, Pd.neD, Pd.cmD, Pd.dCm_int, Pd.dCm_str, Pd.dEq_nn, Pd.dEq_ii, Pd.dEq_bb, Pd.dEq_ss, Pd.eqOk_i, Pd.eqOk_b, Pd.eqOk_s, Pd.eqOk_n, Pd.cmOk_i, Pd.cmOk_s, Pd.e_tClI, Pd.passOk, Pd.ioS, Pd.apart, Pd.pass, Pd.pass1, Pd.putO, Pd.e_tL, Pd.e_tT, Pd.escapes, Pd.e_many, Pd.e_tBu, Pd.contents, Pd.lenD, Pd.intD, Pd.boolD, Pd.absD, Pd.listD, Pd.tupleD, Pd.isinD, Pd.allD, Pd.bools, Pd.bitsD, Pd.gcdD, Pd.ixD, Pd.isD, Pd.isNotD, Pd.e_tIsiT, Pd.tyName, Pd.isiT, Pd.tyNames, Pd.cellAt, Pd.putAt, Pd.e_tSI, Pd.e_tSF, Pd.e_tFl, Pd.putN, Pd.putX, Pd.e_tMk, Pd.e_tMkK, Pd.e_mkOkI, Pd.e_tClKI, Pd.ordK, R.isNon, D.lst?, D.int?, Pd.iterD, Pd.items, Pd.iterK, Pd.seqK, Pd.e_iSeq, Pd.e_iR1, Pd.e_iR2, Pd.e_gN, Pd.e_gCo, Pd.e_gNi, Pd.e_gT, Pd.e_settable, Pd.e_freeOf, Pd.wipeD, Pd.backD, Pd.back1, Pd.e_tSlc, Pd.slD, Pd.e_oN, Pd.e_oS, Pd.atI_nat, Pd.atI_lit, Pd.ixN_nat, Pd.ixN_lit, Pd.fdn, Pd.fmn, Pd.fdl, Pd.fml, Cm.i, Pd.tFo_eq, Pd.tLC_eq, Pd.e_tNv, ↓Pd.got_eqI, Pd.gotI_some, Pd.gotI_none, Pd.sizeS, Pd.sIx0, Pd.dfltI, Pd.e_iZ, Pd.e_tAu, Pd.e_tCM, Pd.e_tCMT, Pd.e_tCh]
  refine lpowI b0 (by omega) (by omega) k12 (by rw [hw]; exact lt35 hw2) fun r1 hr1 => ?_
  rw [hw] at hr1
  have e1 := root_uniq hr1 hr
  subst e1
  simp [Pd.e_tSq, Pd.e_tSqW, Pd.e_tSt, Pd.e_tPm, Pd.asgs, Pd.asg, Pd.escape, Pd.e_tCoB, Pd.e_tCo, Pd.e_tN, Pd.e_tV, Pd.e_tK, Pd.e_tOp2, Pd.e_tOp1, Pd.e_two, Pd.e_one, Pd.content, Pd.slotD, R.seal, Pd.e_ans, Pd.e_tBo, Pd.e_tAn, Pd.e_tOr_, Pd.e_tNo, Pd.e_tAnV, Pd.e_tOrV, Pd.e_tNoV, Pd.e_tIfD, Pd.e_tIfE, Pd.e_tRt, Pd.e_tRtN, Pd.e_tDr, Pd.e_tNx, Pd.e_tBk, Pd.e_tCt, Pd.e_tTr, Pd.truD, Pd.fin_val, Pd.fin_new, Pd.fin_al, Pd.retR, Pd.outsAt, Pd.entry, Pd.argSl, Mode.sl, Out.r, Sl.d, Sl.put, Pd.addD, Pd.intOp, Pd.mulD, Pd.negD, Pd.eqD, Pd.neD, Pd.cmD, Pd.dCm_int, Pd.dCm_str, Pd.dEq_nn, Pd.dEq_ii, Pd.dEq_bb, Pd.dEq_ss, Pd.eqOk_i, Pd.eqOk_b, Pd.eqOk_s, Pd.eqOk_n, Pd.cmOk_i, Pd.cmOk_s, Pd.e_tClI, Pd.passOk, Pd.ioS, Pd.apart, Pd.pass, Pd.pass1, Pd.putO, Pd.e_tL, Pd.e_tT, Pd.escapes, Pd.e_many, Pd.e_tBu, Pd.contents, Pd.lenD, Pd.intD, Pd.boolD, Pd.absD, Pd.listD, Pd.tupleD, Pd.isinD, Pd.allD, Pd.bools, Pd.bitsD, Pd.gcdD, Pd.ixD, Pd.isD, Pd.isNotD, Pd.e_tIsiT, Pd.tyName, Pd.isiT, Pd.tyNames, Pd.cellAt, Pd.putAt, Pd.e_tSI, Pd.e_tSF, Pd.e_tFl, Pd.putN, Pd.putX, Pd.e_tMk, Pd.e_tMkK, Pd.e_mkOkI, Pd.e_tClKI, Pd.ordK, R.isNon, D.lst?, D.int?, Pd.iterD, Pd.items, Pd.iterK, Pd.seqK, Pd.e_iSeq, Pd.e_iR1, Pd.e_iR2, Pd.e_gN, Pd.e_gCo, Pd.e_gNi, Pd.e_gT, Pd.e_settable, Pd.e_freeOf, Pd.wipeD, Pd.backD, Pd.back1, Pd.e_tSlc, Pd.slD, Pd.e_oN, Pd.e_oS, Pd.atI_nat, Pd.atI_lit, Pd.ixN_nat, Pd.ixN_lit, Pd.fdn, Pd.fmn, Pd.fdl, Pd.fml, Cm.i, Pd.tFo_eq, Pd.tLC_eq, Pd.e_tNv, ↓Pd.got_eqI, Pd.gotI_some, Pd.gotI_none, Pd.sizeS, Pd.sIx0, Pd.dfltI, Pd.e_iZ, Pd.e_tAu, Pd.e_tCM, Pd.e_tCMT, Pd.e_tCh]
  refine lpowI b0 (by omega) (by omega) k12 (by rw [hw]; exact lt35 hw2) fun r2 hr2 => ?_
  rw [hw] at hr2
  have e2 := root_uniq hr2 hr
  subst e2
  simp [Pd.e_tSq, Pd.e_tSqW, Pd.e_tSt, Pd.e_tPm, Pd.asgs, Pd.asg, Pd.escape, Pd.e_tCoB, Pd.e_tCo, Pd.e_tN, Pd.e_tV, Pd.e_tK, Pd.e_tOp2, Pd.e_tOp1, Pd.e_two, Pd.e_one, Pd.content, Pd.slotD, R.seal, Pd.e_ans, Pd.e_tBo, Pd.e_tAn, Pd.e_tOr_, Pd.e_tNo, Pd.e_tAnV, Pd.e_tOrV, Pd.e_tNoV, Pd.e_tIfD, Pd.e_tIfE, Pd.e_tRt, Pd.e_tRtN, Pd.e_tDr, Pd.e_tNx, Pd.e_tBk, Pd.e_tCt, Pd.e_tTr, Pd.truD, Pd.fin_val, Pd.fin_new, Pd.fin_al, Pd.retR, Pd.outsAt, Pd.entry, Pd.argSl, Mode.sl, Out.r, Sl.d, Sl.put, Pd.addD, Pd.intOp, Pd.mulD, Pd.negD, Pd.eqD, Pd.neD, Pd.cmD, Pd.dCm_int, Pd.dCm_str, Pd.dEq_nn, Pd.dEq_ii, Pd.dEq_bb, Pd.dEq_ss, Pd.eqOk_i, Pd.eqOk_b, Pd.eqOk_s, Pd.eqOk_n, Pd.cmOk_i, Pd.cmOk_s, Pd.e_tClI, Pd.passOk, Pd.ioS, Pd.apart, Pd.pass, Pd.pass1, Pd.putO, Pd.e_tL, Pd.e_tT, Pd.escapes, Pd.e_many, Pd.e_tBu, Pd.contents, Pd.lenD, Pd.intD, Pd.boolD, Pd.absD, Pd.listD, Pd.tupleD, Pd.isinD, Pd.allD, Pd.bools, Pd.bitsD, Pd.gcdD, Pd.ixD, Pd.isD, Pd.isNotD, Pd.e_tIsiT, Pd.tyName, Pd.isiT, Pd.tyNames, Pd.cellAt, Pd.putAt, Pd.e_tSI, Pd.e_tSF, Pd.e_tFl, Pd.putN, Pd.putX, Pd.e_tMk, Pd.e_tMkK, Pd.e_mkOkI, Pd.e_tClKI, Pd.ordK, R.isNon, D.lst?, D.int?, Pd.iterD, Pd.items, Pd.iterK, Pd.seqK, Pd.e_iSeq, Pd.e_iR1, Pd.e_iR2, Pd.e_gN, Pd.e_gCo, Pd.e_gNi, Pd.e_gT, Pd.e_settable, Pd.e_freeOf, Pd.wipeD, Pd.backD, Pd.back1, Pd.e_tSlc, Pd.slD, Pd.e_oN, Pd.e_oS, Pd.atI_nat, Pd.atI_lit, Pd.ixN_nat, Pd.ixN_lit, Pd.fdn, Pd.fmn, Pd.fdl, Pd.fml, Cm.i, Pd.tFo_eq, Pd.tLC_eq, Pd.e_tNv, ↓Pd.got_eqI, Pd.gotI_some, Pd.gotI_none, Pd.sizeS, Pd.sIx0, Pd.dfltI, Pd.e_iZ, Pd.e_tAu, Pd.e_tCM, Pd.e_tCMT, Pd.e_tCh]
  refine lrootI b0 (by omega) hw2 fun r3 hr3 => ?_
  have e3 := root_uniq hr3 hr
  subst e3
  simp [Pd.e_tSq, Pd.e_tSqW, Pd.e_tSt, Pd.e_tPm, Pd.asgs, Pd.asg, Pd.escape, Pd.e_tCoB, Pd.e_tCo, Pd.e_tN, Pd.e_tV, Pd.e_tK, Pd.e_tOp2, Pd.e_tOp1, Pd.e_two, Pd.e_one, Pd.content, Pd.slotD, R.seal, Pd.e_ans, Pd.e_tBo, Pd.e_tAn, Pd.e_tOr_, Pd.e_tNo, Pd.e_tAnV, Pd.e_tOrV, Pd.e_tNoV, Pd.e_tIfD, Pd.e_tIfE, Pd.e_tRt, Pd.e_tRtN, Pd.e_tDr, Pd.e_tNx, Pd.e_tBk, Pd.e_tCt, Pd.e_tTr, Pd.truD, Pd.fin_val, Pd.fin_new, Pd.fin_al, Pd.retR, Pd.outsAt, Pd.entry, Pd.argSl, Mode.sl, Out.r, Sl.d, Sl.put, Pd.addD, Pd.intOp, Pd.mulD, Pd.negD, Pd.eqD, Pd.neD, Pd.cmD, Pd.dCm_int, Pd.dCm_str, Pd.dEq_nn, Pd.dEq_ii, Pd.dEq_bb, Pd.dEq_ss, Pd.eqOk_i, Pd.eqOk_b, Pd.eqOk_s, Pd.eqOk_n, Pd.cmOk_i, Pd.cmOk_s, Pd.e_tClI, Pd.passOk, Pd.ioS, Pd.apart, Pd.pass, Pd.pass1, Pd.putO, Pd.e_tL, Pd.e_tT, Pd.escapes, Pd.e_many, Pd.e_tBu, Pd.contents, Pd.lenD, Pd.intD, Pd.boolD, Pd.absD, Pd.listD, Pd.tupleD, Pd.isinD, Pd.allD, Pd.bools, Pd.bitsD, Pd.gcdD, Pd.ixD, Pd.isD, Pd.isNotD, Pd.e_tIsiT, Pd.tyName, Pd.isiT, Pd.tyNames, Pd.cellAt, Pd.putAt, Pd.e_tSI, Pd.e_tSF, Pd.e_tFl, Pd.putN, Pd.putX, Pd.e_tMk, Pd.e_tMkK, Pd.e_mkOkI, Pd.e_tClKI, Pd.ordK, R.isNon, D.lst?, D.int?, Pd.iterD, Pd.items, Pd.iterK, Pd.seqK, Pd.e_iSeq, Pd.e_iR1, Pd.e_iR2, Pd.e_gN, Pd.e_gCo, Pd.e_gNi, Pd.e_gT, Pd.e_settable, Pd.e_freeOf, Pd.wipeD, Pd.backD, Pd.back1, Pd.e_tSlc, Pd.slD, Pd.e_oN, Pd.e_oS, Pd.atI_nat, Pd.atI_lit, Pd.ixN_nat, Pd.ixN_lit, Pd.fdn, Pd.fmn, Pd.fdl, Pd.fml, Cm.i, Pd.tFo_eq, Pd.tLC_eq, Pd.e_tNv, ↓Pd.got_eqI, Pd.gotI_some, Pd.gotI_none, Pd.sizeS, Pd.sIx0, Pd.dfltI, Pd.e_iZ, Pd.e_tAu, Pd.e_tCM, Pd.e_tCMT, Pd.e_tCh]
  refine likeI (by simp [scal]) (by simp) ?_
  rcases n20 k with ⟨hN, hs⟩ | ⟨hN, hs⟩
  · simp [t_law_powers_so_11, t_law_powers_so_12, m_law_power, Pd.e_tSq, Pd.e_tSqW, Pd.e_tSt, Pd.e_tPm, Pd.asgs, Pd.asg, Pd.escape, Pd.e_tCoB, Pd.e_tCo, Pd.e_tN, Pd.e_tV, Pd.e_tK, Pd.e_tOp2, Pd.e_tOp1, Pd.e_two, Pd.e_one, Pd.content, Pd.slotD, R.seal, Pd.e_ans, Pd.e_tBo, Pd.e_tAn, Pd.e_tOr_, Pd.e_tNo, Pd.e_tAnV, Pd.e_tOrV, Pd.e_tNoV, Pd.e_tIfD, Pd.e_tIfE, Pd.e_tRt, Pd.e_tRtN, Pd.e_tDr, Pd.e_tNx, Pd.e_tBk, Pd.e_tCt, Pd.e_tTr, Pd.truD, Pd.fin_val, Pd.fin_new, Pd.fin_al, Pd.retR, Pd.outsAt, Pd.entry, Pd.argSl, Mode.sl, Out.r, Sl.d, Sl.put, Pd.addD, Pd.intOp, Pd.mulD, Pd.negD, Pd.eqD, Pd.neD, Pd.cmD, Pd.dCm_int, Pd.dCm_str, Pd.dEq_nn, Pd.dEq_ii, Pd.dEq_bb, Pd.dEq_ss, Pd.eqOk_i, Pd.eqOk_b, Pd.eqOk_s, Pd.eqOk_n, Pd.cmOk_i, Pd.cmOk_s, Pd.e_tClI, Pd.passOk, Pd.ioS, Pd.apart, Pd.pass, Pd.pass1, Pd.putO, Pd.e_tL, Pd.e_tT, Pd.escapes, Pd.e_many, Pd.e_tBu, Pd.contents, Pd.lenD, Pd.intD, Pd.boolD, Pd.absD, Pd.listD, Pd.tupleD, Pd.isinD, Pd.allD, Pd.bools, Pd.bitsD, Pd.gcdD, Pd.ixD, Pd.isD, Pd.isNotD, Pd.e_tIsiT, Pd.tyName, Pd.isiT, Pd.tyNames, Pd.cellAt, Pd.putAt, Pd.e_tSI, Pd.e_tSF, Pd.e_tFl, Pd.putN, Pd.putX, Pd.e_tMk, Pd.e_tMkK, Pd.e_mkOkI, Pd.e_tClKI, Pd.ordK, R.isNon, D.lst?, D.int?, Pd.iterD, Pd.items, Pd.iterK, Pd.seqK, Pd.e_iSeq, Pd.e_iR1, Pd.e_iR2, Pd.e_gN, Pd.e_gCo, Pd.e_gNi, Pd.e_gT, Pd.e_settable, Pd.e_freeOf, Pd.wipeD, Pd.backD, Pd.back1, Pd.e_tSlc, Pd.slD, Pd.e_oN, Pd.e_oS, Pd.atI_nat, Pd.atI_lit, Pd.ixN_nat, Pd.ixN_lit, Pd.fdn, Pd.fmn, Pd.fdl, Pd.fml, Cm.i, Pd.tFo_eq, Pd.tLC_eq, Pd.e_tNv, ↓Pd.got_eqI, Pd.gotI_some, Pd.gotI_none, Pd.sizeS, Pd.sIx0, Pd.dfltI, Pd.e_iZ, Pd.e_tAu, Pd.e_tCM, Pd.e_tCMT, Pd.e_tCh, ↓pow20, hN]
    have h67 : k < 2 ^ 67 := by omega
    refine pwL2 k12 (by omega) ?_
    have l0 : ∀ j, k ^ j ≤ 2 ^ (67 * j) := fun j => by
      rw [Nat.pow_mul]
      exact Nat.pow_le_pow_left (Nat.le_of_lt h67) j
    have l1 : k ^ b < 2 ^ 1200 := Nat.lt_of_le_of_lt (l0 b) (Nat.pow_lt_pow_right (by decide) (by omega))
    have l2 : (k ^ b) ^ t < 2 ^ 3500 := by
      rw [← Nat.pow_mul]
      have : b * t ≤ 7 * 7 := Nat.mul_le_mul b1 ht
      exact Nat.lt_of_le_of_lt (l0 _) (Nat.pow_lt_pow_right (by decide) (by omega))
    have l3 : IsRoot ((k ^ b) ^ t) b (k ^ t) := by
      rw [← Nat.pow_mul, Nat.mul_comm, Nat.pow_mul]
      exact root_pow b0
    generalize k ^ b = x at *
    simp [t_law_powers_so_12, m_law_power, Pd.e_tSq, Pd.e_tSqW, Pd.e_tSt, Pd.e_tPm, Pd.asgs, Pd.asg, Pd.escape, Pd.e_tCoB, Pd.e_tCo, Pd.e_tN, Pd.e_tV, Pd.e_tK, Pd.e_tOp2, Pd.e_tOp1, Pd.e_two, Pd.e_one, Pd.content, Pd.slotD, R.seal, Pd.e_ans, Pd.e_tBo, Pd.e_tAn, Pd.e_tOr_, Pd.e_tNo, Pd.e_tAnV, Pd.e_tOrV, Pd.e_tNoV, Pd.e_tIfD, Pd.e_tIfE, Pd.e_tRt, Pd.e_tRtN, Pd.e_tDr, Pd.e_tNx, Pd.e_tBk, Pd.e_tCt, Pd.e_tTr, Pd.truD, Pd.fin_val, Pd.fin_new, Pd.fin_al, Pd.retR, Pd.outsAt, Pd.entry, Pd.argSl, Mode.sl, Out.r, Sl.d, Sl.put, Pd.addD, Pd.intOp, Pd.mulD, Pd.negD, Pd.eqD, Pd.neD, Pd.cmD, Pd.dCm_int, Pd.dCm_str, Pd.dEq_nn, Pd.dEq_ii, Pd.dEq_bb, Pd.dEq_ss, Pd.eqOk_i, Pd.eqOk_b, Pd.eqOk_s, Pd.eqOk_n, Pd.cmOk_i, Pd.cmOk_s, Pd.e_tClI, Pd.passOk, Pd.ioS, Pd.apart, Pd.pass, Pd.pass1, Pd.putO, Pd.e_tL, Pd.e_tT, Pd.escapes, Pd.e_many, Pd.e_tBu, Pd.contents, Pd.lenD, Pd.intD, Pd.boolD, Pd.absD, Pd.listD, Pd.tupleD, Pd.isinD, Pd.allD, Pd.bools, Pd.bitsD, Pd.gcdD, Pd.ixD, Pd.isD, Pd.isNotD, Pd.e_tIsiT, Pd.tyName, Pd.isiT, Pd.tyNames, Pd.cellAt, Pd.putAt, Pd.e_tSI, Pd.e_tSF, Pd.e_tFl, Pd.putN, Pd.putX, Pd.e_tMk, Pd.e_tMkK, Pd.e_mkOkI, Pd.e_tClKI, Pd.ordK, R.isNon, D.lst?, D.int?, Pd.iterD, Pd.items, Pd.iterK, Pd.seqK, Pd.e_iSeq, Pd.e_iR1, Pd.e_iR2, Pd.e_gN, Pd.e_gCo, Pd.e_gNi, Pd.e_gT, Pd.e_settable, Pd.e_freeOf, Pd.wipeD, Pd.backD, Pd.back1, Pd.e_tSlc, Pd.slD, Pd.e_oN, Pd.e_oS, Pd.atI_nat, Pd.atI_lit, Pd.ixN_nat, Pd.ixN_lit, Pd.fdn, Pd.fmn, Pd.fdl, Pd.fml, Cm.i, Pd.tFo_eq, Pd.tLC_eq, Pd.e_tNv, ↓Pd.got_eqI, Pd.gotI_some, Pd.gotI_none, Pd.sizeS, Pd.sIx0, Pd.dfltI, Pd.e_iZ, Pd.e_tAu, Pd.e_tCM, Pd.e_tCMT, Pd.e_tCh, ↓pow20, hN]
    refine pwL2 k12 (by omega) ?_
    rw [hw] at *
    simp [Pd.e_tSq, Pd.e_tSqW, Pd.e_tSt, Pd.e_tPm, Pd.asgs, Pd.asg, Pd.escape, Pd.e_tCoB, Pd.e_tCo, Pd.e_tN, Pd.e_tV, Pd.e_tK, Pd.e_tOp2, Pd.e_tOp1, Pd.e_two, Pd.e_one, Pd.content, Pd.slotD, R.seal, Pd.e_ans, Pd.e_tBo, Pd.e_tAn, Pd.e_tOr_, Pd.e_tNo, Pd.e_tAnV, Pd.e_tOrV, Pd.e_tNoV, Pd.e_tIfD, Pd.e_tIfE, Pd.e_tRt, Pd.e_tRtN, Pd.e_tDr, Pd.e_tNx, Pd.e_tBk, Pd.e_tCt, Pd.e_tTr, Pd.truD, Pd.fin_val, Pd.fin_new, Pd.fin_al, Pd.retR, Pd.outsAt, Pd.entry, Pd.argSl, Mode.sl, Out.r, Sl.d, Sl.put, Pd.addD, Pd.intOp, Pd.mulD, Pd.negD, Pd.eqD, Pd.neD, Pd.cmD, Pd.dCm_int, Pd.dCm_str, Pd.dEq_nn, Pd.dEq_ii, Pd.dEq_bb, Pd.dEq_ss, Pd.eqOk_i, Pd.eqOk_b, Pd.eqOk_s, Pd.eqOk_n, Pd.cmOk_i, Pd.cmOk_s, Pd.e_tClI, Pd.passOk, Pd.ioS, Pd.apart, Pd.pass, Pd.pass1, Pd.putO, Pd.e_tL, Pd.e_tT, Pd.escapes, Pd.e_many, Pd.e_tBu, Pd.contents, Pd.lenD, Pd.intD, Pd.boolD, Pd.absD, Pd.listD, Pd.tupleD, Pd.isinD, Pd.allD, Pd.bools, Pd.bitsD, Pd.gcdD, Pd.ixD, Pd.isD, Pd.isNotD, Pd.e_tIsiT, Pd.tyName, Pd.isiT, Pd.tyNames, Pd.cellAt, Pd.putAt, Pd.e_tSI, Pd.e_tSF, Pd.e_tFl, Pd.putN, Pd.putX, Pd.e_tMk, Pd.e_tMkK, Pd.e_mkOkI, Pd.e_tClKI, Pd.ordK, R.isNon, D.lst?, D.int?, Pd.iterD, Pd.items, Pd.iterK, Pd.seqK, Pd.e_iSeq, Pd.e_iR1, Pd.e_iR2, Pd.e_gN, Pd.e_gCo, Pd.e_gNi, Pd.e_gT, Pd.e_settable, Pd.e_freeOf, Pd.wipeD, Pd.backD, Pd.back1, Pd.e_tSlc, Pd.slD, Pd.e_oN, Pd.e_oS, Pd.atI_nat, Pd.atI_lit, Pd.ixN_nat, Pd.ixN_lit, Pd.fdn, Pd.fmn, Pd.fdl, Pd.fml, Cm.i, Pd.tFo_eq, Pd.tLC_eq, Pd.e_tNv, ↓Pd.got_eqI, Pd.gotI_some, Pd.gotI_none, Pd.sizeS, Pd.sIx0, Pd.dfltI, Pd.e_iZ, Pd.e_tAu, Pd.e_tCM, Pd.e_tCMT, Pd.e_tCh]
    exact fin3 x w l1 l2 l3
  · simp [t_law_powers_so_11, t_law_powers_so_12, m_law_power, Pd.e_tSq, Pd.e_tSqW, Pd.e_tSt, Pd.e_tPm, Pd.asgs, Pd.asg, Pd.escape, Pd.e_tCoB, Pd.e_tCo, Pd.e_tN, Pd.e_tV, Pd.e_tK, Pd.e_tOp2, Pd.e_tOp1, Pd.e_two, Pd.e_one, Pd.content, Pd.slotD, R.seal, Pd.e_ans, Pd.e_tBo, Pd.e_tAn, Pd.e_tOr_, Pd.e_tNo, Pd.e_tAnV, Pd.e_tOrV, Pd.e_tNoV, Pd.e_tIfD, Pd.e_tIfE, Pd.e_tRt, Pd.e_tRtN, Pd.e_tDr, Pd.e_tNx, Pd.e_tBk, Pd.e_tCt, Pd.e_tTr, Pd.truD, Pd.fin_val, Pd.fin_new, Pd.fin_al, Pd.retR, Pd.outsAt, Pd.entry, Pd.argSl, Mode.sl, Out.r, Sl.d, Sl.put, Pd.addD, Pd.intOp, Pd.mulD, Pd.negD, Pd.eqD, Pd.neD, Pd.cmD, Pd.dCm_int, Pd.dCm_str, Pd.dEq_nn, Pd.dEq_ii, Pd.dEq_bb, Pd.dEq_ss, Pd.eqOk_i, Pd.eqOk_b, Pd.eqOk_s, Pd.eqOk_n, Pd.cmOk_i, Pd.cmOk_s, Pd.e_tClI, Pd.passOk, Pd.ioS, Pd.apart, Pd.pass, Pd.pass1, Pd.putO, Pd.e_tL, Pd.e_tT, Pd.escapes, Pd.e_many, Pd.e_tBu, Pd.contents, Pd.lenD, Pd.intD, Pd.boolD, Pd.absD, Pd.listD, Pd.tupleD, Pd.isinD, Pd.allD, Pd.bools, Pd.bitsD, Pd.gcdD, Pd.ixD, Pd.isD, Pd.isNotD, Pd.e_tIsiT, Pd.tyName, Pd.isiT, Pd.tyNames, Pd.cellAt, Pd.putAt, Pd.e_tSI, Pd.e_tSF, Pd.e_tFl, Pd.putN, Pd.putX, Pd.e_tMk, Pd.e_tMkK, Pd.e_mkOkI, Pd.e_tClKI, Pd.ordK, R.isNon, D.lst?, D.int?, Pd.iterD, Pd.items, Pd.iterK, Pd.seqK, Pd.e_iSeq, Pd.e_iR1, Pd.e_iR2, Pd.e_gN, Pd.e_gCo, Pd.e_gNi, Pd.e_gT, Pd.e_settable, Pd.e_freeOf, Pd.wipeD, Pd.backD, Pd.back1, Pd.e_tSlc, Pd.slD, Pd.e_oN, Pd.e_oS, Pd.atI_nat, Pd.atI_lit, Pd.ixN_nat, Pd.ixN_lit, Pd.fdn, Pd.fmn, Pd.fdl, Pd.fml, Cm.i, Pd.tFo_eq, Pd.tLC_eq, Pd.e_tNv, ↓Pd.got_eqI, Pd.gotI_some, Pd.gotI_none, Pd.sizeS, Pd.sIx0, Pd.dfltI, Pd.e_iZ, Pd.e_tAu, Pd.e_tCM, Pd.e_tCMT, Pd.e_tCh, ↓pow20, hN]
    exact fin3 1 1 (Nat.one_lt_pow (by decide) (by decide)) (by rw [Nat.one_pow]; exact Nat.one_lt_pow (by decide) (by decide)) (by rw [Nat.one_pow]; exact root_small b0 (Nat.le_refl 1))
theorem r_law_powers_so : Rd_law_powers_so := by
  rintro ds q - ⟨d, n, rfl, hb, hn, hq⟩
  simp [t_law_powers_so, m_law_pair, m_law_great, Pd.e_tSq, Pd.e_tSqW, Pd.e_tSt, Pd.e_tPm, Pd.asgs, Pd.asg, Pd.escape, Pd.e_tCoB, Pd.e_tCo, Pd.e_tN, Pd.e_tV, Pd.e_tK, Pd.e_tOp2, Pd.e_tOp1, Pd.e_two, Pd.e_one, Pd.content, Pd.slotD, R.seal, Pd.e_ans, Pd.e_tBo, Pd.e_tAn, Pd.e_tOr_, Pd.e_tNo, Pd.e_tAnV, Pd.e_tOrV, Pd.e_tNoV, Pd.e_tIfD, Pd.e_tIfE, Pd.e_tRt, Pd.e_tRtN, Pd.e_tDr, Pd.e_tNx, Pd.e_tBk, Pd.e_tCt, Pd.e_tTr, Pd.truD, Pd.fin_val, Pd.fin_new, Pd.fin_al, Pd.retR, Pd.outsAt, Pd.entry, Pd.argSl, Mode.sl, Out.r, Sl.d, Sl.put, Pd.addD, Pd.intOp, Pd.mulD, Pd.negD, Pd.eqD, Pd.neD, Pd.cmD, Pd.dCm_int, Pd.dCm_str, Pd.dEq_nn, Pd.dEq_ii, Pd.dEq_bb, Pd.dEq_ss, Pd.eqOk_i, Pd.eqOk_b, Pd.eqOk_s, Pd.eqOk_n, Pd.cmOk_i, Pd.cmOk_s, Pd.e_tClI, Pd.passOk, Pd.ioS, Pd.apart, Pd.pass, Pd.pass1, Pd.putO, Pd.e_tL, Pd.e_tT, Pd.escapes, Pd.e_many, Pd.e_tBu, Pd.contents, Pd.lenD, Pd.intD, Pd.boolD, Pd.absD, Pd.listD, Pd.tupleD, Pd.isinD, Pd.allD, Pd.bools, Pd.bitsD, Pd.gcdD, Pd.ixD, Pd.isD, Pd.isNotD, Pd.e_tIsiT, Pd.tyName, Pd.isiT, Pd.tyNames, Pd.cellAt, Pd.putAt, Pd.e_tSI, Pd.e_tSF, Pd.e_tFl, Pd.putN, Pd.putX, Pd.e_tMk, Pd.e_tMkK, Pd.e_mkOkI, Pd.e_tClKI, Pd.ordK, R.isNon, D.lst?, D.int?, Pd.iterD, Pd.items, Pd.iterK, Pd.seqK, Pd.e_iSeq, Pd.e_iR1, Pd.e_iR2, Pd.e_gN, Pd.e_gCo, Pd.e_gNi, Pd.e_gT, Pd.e_settable, Pd.e_freeOf, Pd.wipeD, Pd.backD, Pd.back1, Pd.e_tSlc, Pd.slD, Pd.e_oN, Pd.e_oS, Pd.atI_nat, Pd.atI_lit, Pd.ixN_nat, Pd.ixN_lit, Pd.fdn, Pd.fmn, Pd.fdl, Pd.fml, Cm.i, Pd.tFo_eq, Pd.tLC_eq, Pd.e_tNv, ↓Pd.got_eqI, Pd.gotI_some, Pd.gotI_none, Pd.sizeS, Pd.sIx0, Pd.dfltI, Pd.e_iZ, Pd.e_tAu, Pd.e_tCM, Pd.e_tCMT, Pd.e_tCh]
  refine pairI hb (by omega) fun d1 t b hb1 ht b0 b1 hg => ?_
  simp [Pd.e_tSq, Pd.e_tSqW, Pd.e_tSt, Pd.e_tPm, Pd.asgs, Pd.asg, Pd.escape, Pd.e_tCoB, Pd.e_tCo, Pd.e_tN, Pd.e_tV, Pd.e_tK, Pd.e_tOp2, Pd.e_tOp1, Pd.e_two, Pd.e_one, Pd.content, Pd.slotD, R.seal, Pd.e_ans, Pd.e_tBo, Pd.e_tAn, Pd.e_tOr_, Pd.e_tNo, Pd.e_tAnV, Pd.e_tOrV, Pd.e_tNoV, Pd.e_tIfD, Pd.e_tIfE, Pd.e_tRt, Pd.e_tRtN, Pd.e_tDr, Pd.e_tNx, Pd.e_tBk, Pd.e_tCt, Pd.e_tTr, Pd.truD, Pd.fin_val, Pd.fin_new, Pd.fin_al, Pd.retR, Pd.outsAt, Pd.entry, Pd.argSl, Mode.sl, Out.r, Sl.d, Sl.put, Pd.addD, Pd.intOp, Pd.mulD, Pd.negD, Pd.eqD, Pd.neD, Pd.cmD, Pd.dCm_int, Pd.dCm_str, Pd.dEq_nn, Pd.dEq_ii, Pd.dEq_bb, Pd.dEq_ss, Pd.eqOk_i, Pd.eqOk_b, Pd.eqOk_s, Pd.eqOk_n, Pd.cmOk_i, Pd.cmOk_s, Pd.e_tClI, Pd.passOk, Pd.ioS, Pd.apart, Pd.pass, Pd.pass1, Pd.putO, Pd.e_tL, Pd.e_tT, Pd.escapes, Pd.e_many, Pd.e_tBu, Pd.contents, Pd.lenD, Pd.intD, Pd.boolD, Pd.absD, Pd.listD, Pd.tupleD, Pd.isinD, Pd.allD, Pd.bools, Pd.bitsD, Pd.gcdD, Pd.ixD, Pd.isD, Pd.isNotD, Pd.e_tIsiT, Pd.tyName, Pd.isiT, Pd.tyNames, Pd.cellAt, Pd.putAt, Pd.e_tSI, Pd.e_tSF, Pd.e_tFl, Pd.putN, Pd.putX, Pd.e_tMk, Pd.e_tMkK, Pd.e_mkOkI, Pd.e_tClKI, Pd.ordK, R.isNon, D.lst?, D.int?, Pd.iterD, Pd.items, Pd.iterK, Pd.seqK, Pd.e_iSeq, Pd.e_iR1, Pd.e_iR2, Pd.e_gN, Pd.e_gCo, Pd.e_gNi, Pd.e_gT, Pd.e_settable, Pd.e_freeOf, Pd.wipeD, Pd.backD, Pd.back1, Pd.e_tSlc, Pd.slD, Pd.e_oN, Pd.e_oS, Pd.atI_nat, Pd.atI_lit, Pd.ixN_nat, Pd.ixN_lit, Pd.fdn, Pd.fmn, Pd.fdl, Pd.fml, Cm.i, Pd.tFo_eq, Pd.tLC_eq, Pd.e_tNv, ↓Pd.got_eqI, Pd.gotI_some, Pd.gotI_none, Pd.sizeS, Pd.sIx0, Pd.dfltI, Pd.e_iZ, Pd.e_tAu, Pd.e_tCM, Pd.e_tCMT, Pd.e_tCh]
  refine great hb1 (by omega) fun d2 k hb2 hk => ?_
  have hk2 : k < 2 ^ 130 := Nat.lt_of_lt_of_le hk (by decide)
  have l1 : ∀ j, j ≤ 7 → k ^ j < 2 ^ 1200 := fun j hj => by
    have l2 : k ^ j ≤ (2 ^ 130) ^ j := Nat.pow_le_pow_left (Nat.le_of_lt hk2) j
    rw [← Nat.pow_mul] at l2
    exact Nat.lt_of_le_of_lt l2 (Nat.pow_lt_pow_right (by decide) (by omega))
  have k12 : k < 2 ^ 1200 := Nat.lt_trans hk2 (Nat.pow_lt_pow_right (by decide) (by decide))
  simp [t_law_powers_so_2, m_Ratio_init, Pd.e_tSq, Pd.e_tSqW, Pd.e_tSt, Pd.e_tPm, Pd.asgs, Pd.asg, Pd.escape, Pd.e_tCoB, Pd.e_tCo, Pd.e_tN, Pd.e_tV, Pd.e_tK, Pd.e_tOp2, Pd.e_tOp1, Pd.e_two, Pd.e_one, Pd.content, Pd.slotD, R.seal, Pd.e_ans, Pd.e_tBo, Pd.e_tAn, Pd.e_tOr_, Pd.e_tNo, Pd.e_tAnV, Pd.e_tOrV, Pd.e_tNoV, Pd.e_tIfD, Pd.e_tIfE, Pd.e_tRt, Pd.e_tRtN, Pd.e_tDr, Pd.e_tNx, Pd.e_tBk, Pd.e_tCt, Pd.e_tTr, Pd.truD, Pd.fin_val, Pd.fin_new, Pd.fin_al, Pd.retR, Pd.outsAt, Pd.entry, Pd.argSl, Mode.sl, Out.r, Sl.d, Sl.put, Pd.addD, Pd.intOp, Pd.mulD, Pd.negD, Pd.eqD, Pd.neD, Pd.cmD, Pd.dCm_int, Pd.dCm_str, Pd.dEq_nn, Pd.dEq_ii, Pd.dEq_bb, Pd.dEq_ss, Pd.eqOk_i, Pd.eqOk_b, Pd.eqOk_s, Pd.eqOk_n, Pd.cmOk_i, Pd.cmOk_s, Pd.e_tClI, Pd.passOk, Pd.ioS, Pd.apart, Pd.pass, Pd.pass1, Pd.putO, Pd.e_tL, Pd.e_tT, Pd.escapes, Pd.e_many, Pd.e_tBu, Pd.contents, Pd.lenD, Pd.intD, Pd.boolD, Pd.absD, Pd.listD, Pd.tupleD, Pd.isinD, Pd.allD, Pd.bools, Pd.bitsD, Pd.gcdD, Pd.ixD, Pd.isD, Pd.isNotD, Pd.e_tIsiT, Pd.tyName, Pd.isiT, Pd.tyNames, Pd.cellAt, Pd.putAt, Pd.e_tSI, Pd.e_tSF, Pd.e_tFl, Pd.putN, Pd.putX, Pd.e_tMk, Pd.e_tMkK, Pd.e_mkOkI, Pd.e_tClKI, Pd.ordK, R.isNon, D.lst?, D.int?, Pd.iterD, Pd.items, Pd.iterK, Pd.seqK, Pd.e_iSeq, Pd.e_iR1, Pd.e_iR2, Pd.e_gN, Pd.e_gCo, Pd.e_gNi, Pd.e_gT, Pd.e_settable, Pd.e_freeOf, Pd.wipeD, Pd.backD, Pd.back1, Pd.e_tSlc, Pd.slD, Pd.e_oN, Pd.e_oS, Pd.atI_nat, Pd.atI_lit, Pd.ixN_nat, Pd.ixN_lit, Pd.fdn, Pd.fmn, Pd.fdl, Pd.fml, Cm.i, Pd.tFo_eq, Pd.tLC_eq, Pd.e_tNv, ↓Pd.got_eqI, Pd.gotI_some, Pd.gotI_none, Pd.sizeS, Pd.sIx0, Pd.dfltI, Pd.e_iZ, Pd.e_tAu, Pd.e_tCM, Pd.e_tCMT, Pd.e_tCh]
  refine ratI b0 hg ?_
  simp [Pd.e_tSq, Pd.e_tSqW, Pd.e_tSt, Pd.e_tPm, Pd.asgs, Pd.asg, Pd.escape, Pd.e_tCoB, Pd.e_tCo, Pd.e_tN, Pd.e_tV, Pd.e_tK, Pd.e_tOp2, Pd.e_tOp1, Pd.e_two, Pd.e_one, Pd.content, Pd.slotD, R.seal, Pd.e_ans, Pd.e_tBo, Pd.e_tAn, Pd.e_tOr_, Pd.e_tNo, Pd.e_tAnV, Pd.e_tOrV, Pd.e_tNoV, Pd.e_tIfD, Pd.e_tIfE, Pd.e_tRt, Pd.e_tRtN, Pd.e_tDr, Pd.e_tNx, Pd.e_tBk, Pd.e_tCt, Pd.e_tTr, Pd.truD, Pd.fin_val, Pd.fin_new, Pd.fin_al, Pd.retR, Pd.outsAt, Pd.entry, Pd.argSl, Mode.sl, Out.r, Sl.d, Sl.put, Pd.addD, Pd.intOp, Pd.mulD, Pd.negD, Pd.eqD, Pd.neD, Pd.cmD, Pd.dCm_int, Pd.dCm_str, Pd.dEq_nn, Pd.dEq_ii, Pd.dEq_bb, Pd.dEq_ss, Pd.eqOk_i, Pd.eqOk_b, Pd.eqOk_s, Pd.eqOk_n, Pd.cmOk_i, Pd.cmOk_s, Pd.e_tClI, Pd.passOk, Pd.ioS, Pd.apart, Pd.pass, Pd.pass1, Pd.putO, Pd.e_tL, Pd.e_tT, Pd.escapes, Pd.e_many, Pd.e_tBu, Pd.contents, Pd.lenD, Pd.intD, Pd.boolD, Pd.absD, Pd.listD, Pd.tupleD, Pd.isinD, Pd.allD, Pd.bools, Pd.bitsD, Pd.gcdD, Pd.ixD, Pd.isD, Pd.isNotD, Pd.e_tIsiT, Pd.tyName, Pd.isiT, Pd.tyNames, Pd.cellAt, Pd.putAt, Pd.e_tSI, Pd.e_tSF, Pd.e_tFl, Pd.putN, Pd.putX, Pd.e_tMk, Pd.e_tMkK, Pd.e_mkOkI, Pd.e_tClKI, Pd.ordK, R.isNon, D.lst?, D.int?, Pd.iterD, Pd.items, Pd.iterK, Pd.seqK, Pd.e_iSeq, Pd.e_iR1, Pd.e_iR2, Pd.e_gN, Pd.e_gCo, Pd.e_gNi, Pd.e_gT, Pd.e_settable, Pd.e_freeOf, Pd.wipeD, Pd.backD, Pd.back1, Pd.e_tSlc, Pd.slD, Pd.e_oN, Pd.e_oS, Pd.atI_nat, Pd.atI_lit, Pd.ixN_nat, Pd.ixN_lit, Pd.fdn, Pd.fmn, Pd.fdl, Pd.fml, Cm.i, Pd.tFo_eq, Pd.tLC_eq, Pd.e_tNv, ↓Pd.got_eqI, Pd.gotI_some, Pd.gotI_none, Pd.sizeS, Pd.sIx0, Pd.dfltI, Pd.e_iZ, Pd.e_tAu, Pd.e_tCM, Pd.e_tCMT, Pd.e_tCh]
  refine ⟨[.io d2, .un, .un, .un, .un, .un, .val _, .val _], ratD t b, rfl, ?_⟩
  simp [t_law_powers_so_3, m_law_power, Pd.e_tSq, Pd.e_tSqW, Pd.e_tSt, Pd.e_tPm, Pd.asgs, Pd.asg, Pd.escape, Pd.e_tCoB, Pd.e_tCo, Pd.e_tN, Pd.e_tV, Pd.e_tK, Pd.e_tOp2, Pd.e_tOp1, Pd.e_two, Pd.e_one, Pd.content, Pd.slotD, R.seal, Pd.e_ans, Pd.e_tBo, Pd.e_tAn, Pd.e_tOr_, Pd.e_tNo, Pd.e_tAnV, Pd.e_tOrV, Pd.e_tNoV, Pd.e_tIfD, Pd.e_tIfE, Pd.e_tRt, Pd.e_tRtN, Pd.e_tDr, Pd.e_tNx, Pd.e_tBk, Pd.e_tCt, Pd.e_tTr, Pd.truD, Pd.fin_val, Pd.fin_new, Pd.fin_al, Pd.retR, Pd.outsAt, Pd.entry, Pd.argSl, Mode.sl, Out.r, Sl.d, Sl.put, Pd.addD, Pd.intOp, Pd.mulD, Pd.negD, Pd.eqD, Pd.neD, Pd.cmD, Pd.dCm_int, Pd.dCm_str, Pd.dEq_nn, Pd.dEq_ii, Pd.dEq_bb, Pd.dEq_ss, Pd.eqOk_i, Pd.eqOk_b, Pd.eqOk_s, Pd.eqOk_n, Pd.cmOk_i, Pd.cmOk_s, Pd.e_tClI, Pd.passOk, Pd.ioS, Pd.apart, Pd.pass, Pd.pass1, Pd.putO, Pd.e_tL, Pd.e_tT, Pd.escapes, Pd.e_many, Pd.e_tBu, Pd.contents, Pd.lenD, Pd.intD, Pd.boolD, Pd.absD, Pd.listD, Pd.tupleD, Pd.isinD, Pd.allD, Pd.bools, Pd.bitsD, Pd.gcdD, Pd.ixD, Pd.isD, Pd.isNotD, Pd.e_tIsiT, Pd.tyName, Pd.isiT, Pd.tyNames, Pd.cellAt, Pd.putAt, Pd.e_tSI, Pd.e_tSF, Pd.e_tFl, Pd.putN, Pd.putX, Pd.e_tMk, Pd.e_tMkK, Pd.e_mkOkI, Pd.e_tClKI, Pd.ordK, R.isNon, D.lst?, D.int?, Pd.iterD, Pd.items, Pd.iterK, Pd.seqK, Pd.e_iSeq, Pd.e_iR1, Pd.e_iR2, Pd.e_gN, Pd.e_gCo, Pd.e_gNi, Pd.e_gT, Pd.e_settable, Pd.e_freeOf, Pd.wipeD, Pd.backD, Pd.back1, Pd.e_tSlc, Pd.slD, Pd.e_oN, Pd.e_oS, Pd.atI_nat, Pd.atI_lit, Pd.ixN_nat, Pd.ixN_lit, Pd.fdn, Pd.fmn, Pd.fdl, Pd.fml, Cm.i, Pd.tFo_eq, Pd.tLC_eq, Pd.e_tNv, ↓Pd.got_eqI, Pd.gotI_some, Pd.gotI_none, Pd.sizeS, Pd.sIx0, Pd.dfltI, Pd.e_iZ, Pd.e_tAu, Pd.e_tCM, Pd.e_tCMT, Pd.e_tCh]
  refine pwL2 k12 (by omega) ?_
  have hw2 := l1 _ ht
  generalize hw : k ^ t = w at hw2 ⊢
  simp [t_law_powers_so_4, m_least_power, Pd.e_tSq, Pd.e_tSqW, Pd.e_tSt, Pd.e_tPm, Pd.asgs, Pd.asg, Pd.escape, Pd.e_tCoB, Pd.e_tCo, Pd.e_tN, Pd.e_tV, Pd.e_tK, Pd.e_tOp2, Pd.e_tOp1, Pd.e_two, Pd.e_one, Pd.content, Pd.slotD, R.seal, Pd.e_ans, Pd.e_tBo, Pd.e_tAn, Pd.e_tOr_, Pd.e_tNo, Pd.e_tAnV, Pd.e_tOrV, Pd.e_tNoV, Pd.e_tIfD, Pd.e_tIfE, Pd.e_tRt, Pd.e_tRtN, Pd.e_tDr, Pd.e_tNx, Pd.e_tBk, Pd.e_tCt, Pd.e_tTr, Pd.truD, Pd.fin_val, Pd.fin_new, Pd.fin_al, Pd.retR, Pd.outsAt, Pd.entry, Pd.argSl, Mode.sl, Out.r, Sl.d, Sl.put, Pd.addD, Pd.intOp, Pd.mulD, Pd.negD, Pd.eqD, Pd.neD, Pd.cmD, Pd.dCm_int, Pd.dCm_str, Pd.dEq_nn, Pd.dEq_ii, Pd.dEq_bb, Pd.dEq_ss, Pd.eqOk_i, Pd.eqOk_b, Pd.eqOk_s, Pd.eqOk_n, Pd.cmOk_i, Pd.cmOk_s, Pd.e_tClI, Pd.passOk, Pd.ioS, Pd.apart, Pd.pass, Pd.pass1, Pd.putO, Pd.e_tL, Pd.e_tT, Pd.escapes, Pd.e_many, Pd.e_tBu, Pd.contents, Pd.lenD, Pd.intD, Pd.boolD, Pd.absD, Pd.listD, Pd.tupleD, Pd.isinD, Pd.allD, Pd.bools, Pd.bitsD, Pd.gcdD, Pd.ixD, Pd.isD, Pd.isNotD, Pd.e_tIsiT, Pd.tyName, Pd.isiT, Pd.tyNames, Pd.cellAt, Pd.putAt, Pd.e_tSI, Pd.e_tSF, Pd.e_tFl, Pd.putN, Pd.putX, Pd.e_tMk, Pd.e_tMkK, Pd.e_mkOkI, Pd.e_tClKI, Pd.ordK, R.isNon, D.lst?, D.int?, Pd.iterD, Pd.items, Pd.iterK, Pd.seqK, Pd.e_iSeq, Pd.e_iR1, Pd.e_iR2, Pd.e_gN, Pd.e_gCo, Pd.e_gNi, Pd.e_gT, Pd.e_settable, Pd.e_freeOf, Pd.wipeD, Pd.backD, Pd.back1, Pd.e_tSlc, Pd.slD, Pd.e_oN, Pd.e_oS, Pd.atI_nat, Pd.atI_lit, Pd.ixN_nat, Pd.ixN_lit, Pd.fdn, Pd.fmn, Pd.fdl, Pd.fml, Cm.i, Pd.tFo_eq, Pd.tLC_eq, Pd.e_tNv, ↓Pd.got_eqI, Pd.gotI_some, Pd.gotI_none, Pd.sizeS, Pd.sIx0, Pd.dfltI, Pd.e_iZ, Pd.e_tAu, Pd.e_tCM, Pd.e_tCMT, Pd.e_tCh]
  refine lpowI b0 (by omega) (by omega) k12 (by rw [hw]; exact lt35 hw2) fun r hr => ?_
  rw [hw] at hr
  have hrw : r < 2 ^ 1200 := Nat.lt_of_le_of_lt (root_le b0 hr) hw2
  have h1 := hr.1
  have h1' : ¬ ((r : Int) ^ b < (w : Int)) := by rw [← Int.natCast_pow]; omega
  simp [t_law_powers_so_5, m_law_power, Pd.e_tSq, Pd.e_tSqW, Pd.e_tSt, Pd.e_tPm, Pd.asgs, Pd.asg, Pd.escape, Pd.e_tCoB, Pd.e_tCo, Pd.e_tN, Pd.e_tV, Pd.e_tK, Pd.e_tOp2, Pd.e_tOp1, Pd.e_two, Pd.e_one, Pd.content, Pd.slotD, R.seal, Pd.e_ans, Pd.e_tBo, Pd.e_tAn, Pd.e_tOr_, Pd.e_tNo, Pd.e_tAnV, Pd.e_tOrV, Pd.e_tNoV, Pd.e_tIfD, Pd.e_tIfE, Pd.e_tRt, Pd.e_tRtN, Pd.e_tDr, Pd.e_tNx, Pd.e_tBk, Pd.e_tCt, Pd.e_tTr, Pd.truD, Pd.fin_val, Pd.fin_new, Pd.fin_al, Pd.retR, Pd.outsAt, Pd.entry, Pd.argSl, Mode.sl, Out.r, Sl.d, Sl.put, Pd.addD, Pd.intOp, Pd.mulD, Pd.negD, Pd.eqD, Pd.neD, Pd.cmD, Pd.dCm_int, Pd.dCm_str, Pd.dEq_nn, Pd.dEq_ii, Pd.dEq_bb, Pd.dEq_ss, Pd.eqOk_i, Pd.eqOk_b, Pd.eqOk_s, Pd.eqOk_n, Pd.cmOk_i, Pd.cmOk_s, Pd.e_tClI, Pd.passOk, Pd.ioS, Pd.apart, Pd.pass, Pd.pass1, Pd.putO, Pd.e_tL, Pd.e_tT, Pd.escapes, Pd.e_many, Pd.e_tBu, Pd.contents, Pd.lenD, Pd.intD, Pd.boolD, Pd.absD, Pd.listD, Pd.tupleD, Pd.isinD, Pd.allD, Pd.bools, Pd.bitsD, Pd.gcdD, Pd.ixD, Pd.isD, Pd.isNotD, Pd.e_tIsiT, Pd.tyName, Pd.isiT, Pd.tyNames, Pd.cellAt, Pd.putAt, Pd.e_tSI, Pd.e_tSF, Pd.e_tFl, Pd.putN, Pd.putX, Pd.e_tMk, Pd.e_tMkK, Pd.e_mkOkI, Pd.e_tClKI, Pd.ordK, R.isNon, D.lst?, D.int?, Pd.iterD, Pd.items, Pd.iterK, Pd.seqK, Pd.e_iSeq, Pd.e_iR1, Pd.e_iR2, Pd.e_gN, Pd.e_gCo, Pd.e_gNi, Pd.e_gT, Pd.e_settable, Pd.e_freeOf, Pd.wipeD, Pd.backD, Pd.back1, Pd.e_tSlc, Pd.slD, Pd.e_oN, Pd.e_oS, Pd.atI_nat, Pd.atI_lit, Pd.ixN_nat, Pd.ixN_lit, Pd.fdn, Pd.fmn, Pd.fdl, Pd.fml, Cm.i, Pd.tFo_eq, Pd.tLC_eq, Pd.e_tNv, ↓Pd.got_eqI, Pd.gotI_some, Pd.gotI_none, Pd.sizeS, Pd.sIx0, Pd.dfltI, Pd.e_iZ, Pd.e_tAu, Pd.e_tCM, Pd.e_tCMT, Pd.e_tCh]
  refine pwL2 hrw (by omega) ?_
  simp [Pd.e_tSq, Pd.e_tSqW, Pd.e_tSt, Pd.e_tPm, Pd.asgs, Pd.asg, Pd.escape, Pd.e_tCoB, Pd.e_tCo, Pd.e_tN, Pd.e_tV, Pd.e_tK, Pd.e_tOp2, Pd.e_tOp1, Pd.e_two, Pd.e_one, Pd.content, Pd.slotD, R.seal, Pd.e_ans, Pd.e_tBo, Pd.e_tAn, Pd.e_tOr_, Pd.e_tNo, Pd.e_tAnV, Pd.e_tOrV, Pd.e_tNoV, Pd.e_tIfD, Pd.e_tIfE, Pd.e_tRt, Pd.e_tRtN, Pd.e_tDr, Pd.e_tNx, Pd.e_tBk, Pd.e_tCt, Pd.e_tTr, Pd.truD, Pd.fin_val, Pd.fin_new, Pd.fin_al, Pd.retR, Pd.outsAt, Pd.entry, Pd.argSl, Mode.sl, Out.r, Sl.d, Sl.put, Pd.addD, Pd.intOp, Pd.mulD, Pd.negD, Pd.eqD, Pd.neD, Pd.cmD, Pd.dCm_int, Pd.dCm_str, Pd.dEq_nn, Pd.dEq_ii, Pd.dEq_bb, Pd.dEq_ss, Pd.eqOk_i, Pd.eqOk_b, Pd.eqOk_s, Pd.eqOk_n, Pd.cmOk_i, Pd.cmOk_s, Pd.e_tClI, Pd.passOk, Pd.ioS, Pd.apart, Pd.pass, Pd.pass1, Pd.putO, Pd.e_tL, Pd.e_tT, Pd.escapes, Pd.e_many, Pd.e_tBu, Pd.contents, Pd.lenD, Pd.intD, Pd.boolD, Pd.absD, Pd.listD, Pd.tupleD, Pd.isinD, Pd.allD, Pd.bools, Pd.bitsD, Pd.gcdD, Pd.ixD, Pd.isD, Pd.isNotD, Pd.e_tIsiT, Pd.tyName, Pd.isiT, Pd.tyNames, Pd.cellAt, Pd.putAt, Pd.e_tSI, Pd.e_tSF, Pd.e_tFl, Pd.putN, Pd.putX, Pd.e_tMk, Pd.e_tMkK, Pd.e_mkOkI, Pd.e_tClKI, Pd.ordK, R.isNon, D.lst?, D.int?, Pd.iterD, Pd.items, Pd.iterK, Pd.seqK, Pd.e_iSeq, Pd.e_iR1, Pd.e_iR2, Pd.e_gN, Pd.e_gCo, Pd.e_gNi, Pd.e_gT, Pd.e_settable, Pd.e_freeOf, Pd.wipeD, Pd.backD, Pd.back1, Pd.e_tSlc, Pd.slD, Pd.e_oN, Pd.e_oS, Pd.atI_nat, Pd.atI_lit, Pd.ixN_nat, Pd.ixN_lit, Pd.fdn, Pd.fmn, Pd.fdl, Pd.fml, Cm.i, Pd.tFo_eq, Pd.tLC_eq, Pd.e_tNv, ↓Pd.got_eqI, Pd.gotI_some, Pd.gotI_none, Pd.sizeS, Pd.sIx0, Pd.dfltI, Pd.e_iZ, Pd.e_tAu, Pd.e_tCM, Pd.e_tCMT, Pd.e_tCh, h1', t_law_powers_so_7, m_law_power]
  split
  · obtain ⟨s, hs⟩ : ∃ s, s = r - 1 := ⟨_, rfl⟩
    have h2 := hr.2 s (by omega)
    have h2' : ¬ ((w : Int) ≤ (s : Int) ^ b) := by rw [← Int.natCast_pow]; omega
    rw [show ((r : Int) - 1) = (s : Int) by omega]
    refine pwL2 (by omega) (by omega) ?_
    simp [Pd.e_tSq, Pd.e_tSqW, Pd.e_tSt, Pd.e_tPm, Pd.asgs, Pd.asg, Pd.escape, Pd.e_tCoB, Pd.e_tCo, Pd.e_tN, Pd.e_tV, Pd.e_tK, Pd.e_tOp2, Pd.e_tOp1, Pd.e_two, Pd.e_one, Pd.content, Pd.slotD, R.seal, Pd.e_ans, Pd.e_tBo, Pd.e_tAn, Pd.e_tOr_, Pd.e_tNo, Pd.e_tAnV, Pd.e_tOrV, Pd.e_tNoV, Pd.e_tIfD, Pd.e_tIfE, Pd.e_tRt, Pd.e_tRtN, Pd.e_tDr, Pd.e_tNx, Pd.e_tBk, Pd.e_tCt, Pd.e_tTr, Pd.truD, Pd.fin_val, Pd.fin_new, Pd.fin_al, Pd.retR, Pd.outsAt, Pd.entry, Pd.argSl, Mode.sl, Out.r, Sl.d, Sl.put, Pd.addD, Pd.intOp, Pd.mulD, Pd.negD, Pd.eqD, Pd.neD, Pd.cmD, Pd.dCm_int, Pd.dCm_str, Pd.dEq_nn, Pd.dEq_ii, Pd.dEq_bb, Pd.dEq_ss, Pd.eqOk_i, Pd.eqOk_b, Pd.eqOk_s, Pd.eqOk_n, Pd.cmOk_i, Pd.cmOk_s, Pd.e_tClI, Pd.passOk, Pd.ioS, Pd.apart, Pd.pass, Pd.pass1, Pd.putO, Pd.e_tL, Pd.e_tT, Pd.escapes, Pd.e_many, Pd.e_tBu, Pd.contents, Pd.lenD, Pd.intD, Pd.boolD, Pd.absD, Pd.listD, Pd.tupleD, Pd.isinD, Pd.allD, Pd.bools, Pd.bitsD, Pd.gcdD, Pd.ixD, Pd.isD, Pd.isNotD, Pd.e_tIsiT, Pd.tyName, Pd.isiT, Pd.tyNames, Pd.cellAt, Pd.putAt, Pd.e_tSI, Pd.e_tSF, Pd.e_tFl, Pd.putN, Pd.putX, Pd.e_tMk, Pd.e_tMkK, Pd.e_mkOkI, Pd.e_tClKI, Pd.ordK, R.isNon, D.lst?, D.int?, Pd.iterD, Pd.items, Pd.iterK, Pd.seqK, Pd.e_iSeq, Pd.e_iR1, Pd.e_iR2, Pd.e_gN, Pd.e_gCo, Pd.e_gNi, Pd.e_gT, Pd.e_settable, Pd.e_freeOf, Pd.wipeD, Pd.backD, Pd.back1, Pd.e_tSlc, Pd.slD, Pd.e_oN, Pd.e_oS, Pd.atI_nat, Pd.atI_lit, Pd.ixN_nat, Pd.ixN_lit, Pd.fdn, Pd.fmn, Pd.fdl, Pd.fml, Cm.i, Pd.tFo_eq, Pd.tLC_eq, Pd.e_tNv, ↓Pd.got_eqI, Pd.gotI_some, Pd.gotI_none, Pd.sizeS, Pd.sIx0, Pd.dfltI, Pd.e_iZ, Pd.e_tAu, Pd.e_tCM, Pd.e_tCMT, Pd.e_tCh, h2']
    exact powers_tail rfl (hb2.mono (by omega)) ht b0 b1 hk2 hw hw2 hr hq
  · exact powers_tail rfl (hb2.mono (by omega)) ht b0 b1 hk2 hw hw2 hr hq

end LW

set_option Elab.async false
set_option linter.all false
set_option maxRecDepth 100000
set_option maxHeartbeats 0
namespace LW
open PySem PySem.Spec PyProof.Rows L2 Pd
def WithP (n t b r k : Nat) (i : Nat) (env : Pd.Env) : Prop := i ≤ 7 ∧ ∃ (d : D) (m u v : Sl), BagOk (n + 40) d ∧ (m = .own (ratD t b) ∨ m = .val (ratD t b)) ∧ slU u ∧ slU v ∧ env = [.io d, m, .val (.int r), u, .val (.tup [.int t, .int b]), .val (.int k), v]
theorem with_loop {n t b r k : Nat} {d : D} {E : EndsD} {ws : List D} (hb : BagOk (n + 40) d) (ht : t ≤ 7) (b0 : 0 < b) (b1 : b ≤ 7) (k12 : k < 2 ^ 1200) (hws : ∀ x ∈ ws, ∃ w : Nat, x = .int w ∧ w < 2 ^ 1200) (hl : ws.length = 7)
    (hend : ∀ (d : D) (m u v : Sl), BagOk (n + 40) d → (m = .own (ratD t b) ∨ m = .val (ratD t b)) → slU u → slU v → t_law_within_so_8 E [.io d, m, .val (.int r), u, .val (.tup [.int t, .int b]), .val (.int k), v]) (g : TGD) (hg : g = gN 3) (tb : TSD) (htb : tb = tSq (tSt 6 (tOp2 (cmD .le) (tCl m_law_power sp_law_power [] (tCo (tV 3) (tCo (tOp2 ixD (tV 4) (tK (.int 1))) tN))) (tCl m_law_power sp_law_power [] (tCo (tV 5) (tCo (tOp2 ixD (tV 4) (tK (.int 0))) tN))))) t_law_within_so_6) :
    Loop g tb { E with nx := t_law_within_so_8 E } [Sl.io d, .own (ratD t b), Sl.val (D.int ↑r), Sl.un, Sl.val (.tup [.int t, .int b]), Sl.val (D.int ↑k), Sl.un] ws := by
  subst hg htb
  refine ⟨WithP n t b r k, ⟨by omega, d, _, .un, .un, hb, .inl rfl, .inl rfl, .inl rfl, rfl⟩, ?_, ?_⟩
  · rintro i x _ hx ⟨hi, d, m, u, v, hb, hm, hu, hv, rfl⟩
    obtain ⟨w, rfl, hw⟩ := hws x (List.mem_of_getElem? hx)
    have hi7 : i < 7 := by have := lt_of_some hx; omega
    rcases hm with rfl | rfl <;> rcases hu with rfl | ⟨z, rfl⟩ <;> rcases hv with rfl | ⟨z2, rfl⟩
    all_goals
      simp [m_law_power, Pd.e_tSq, Pd.e_tSqW, Pd.e_tSt, Pd.e_tPm, Pd.asgs, Pd.asg, Pd.escape, Pd.e_tCoB, Pd.e_tCo, Pd.e_tN, Pd.e_tV, Pd.e_tK, Pd.e_tOp2, Pd.e_tOp1, Pd.e_two, Pd.e_one, Pd.content, Pd.slotD, R.seal, Pd.e_ans, Pd.e_tBo, Pd.e_tAn, Pd.e_tOr_, Pd.e_tNo, Pd.e_tAnV, Pd.e_tOrV, Pd.e_tNoV, Pd.e_tIfD, Pd.e_tIfE, Pd.e_tRt, Pd.e_tRtN, Pd.e_tDr, Pd.e_tNx, Pd.e_tBk, Pd.e_tCt, Pd.e_tTr, Pd.truD, Pd.fin_val, Pd.fin_new, Pd.fin_al, Pd.retR, Pd.outsAt, Pd.entry, Pd.argSl, Mode.sl, Out.r, Sl.d, Sl.put, Pd.addD, Pd.intOp, Pd.mulD, Pd.negD, Pd.eqD, Pd.neD, Pd.cmD, Pd.dCm_int, Pd.dCm_str, Pd.dEq_nn, Pd.dEq_ii, Pd.dEq_bb, Pd.dEq_ss, Pd.eqOk_i, Pd.eqOk_b, Pd.eqOk_s, Pd.eqOk_n, Pd.cmOk_i, Pd.cmOk_s, Pd.e_tClI, Pd.passOk, Pd.ioS, Pd.apart, Pd.pass, Pd.pass1, Pd.putO, Pd.e_tL, Pd.e_tT, Pd.escapes, Pd.e_many, Pd.e_tBu, Pd.contents, Pd.lenD, Pd.intD, Pd.boolD, Pd.absD, Pd.listD, Pd.tupleD, Pd.isinD, Pd.allD, Pd.bools, Pd.bitsD, Pd.gcdD, Pd.ixD, Pd.isD, Pd.isNotD, Pd.e_tIsiT, Pd.tyName, Pd.isiT, Pd.tyNames, Pd.cellAt, Pd.putAt, Pd.e_tSI, Pd.e_tSF, Pd.e_tFl, Pd.putN, Pd.putX, Pd.e_tMk, Pd.e_tMkK, Pd.e_mkOkI, Pd.e_tClKI, Pd.ordK, R.isNon, D.lst?, D.int?, Pd.iterD, Pd.items, Pd.iterK, Pd.seqK, Pd.e_iSeq, Pd.e_iR1, Pd.e_iR2, Pd.e_gN, Pd.e_gCo, Pd.e_gNi, Pd.e_gT, Pd.e_settable, Pd.e_freeOf, Pd.wipeD, Pd.backD, Pd.back1, Pd.e_tSlc, Pd.slD, Pd.e_oN, Pd.e_oS, Pd.atI_nat, Pd.atI_lit, Pd.ixN_nat, Pd.ixN_lit, Pd.fdn, Pd.fmn, Pd.fdl, Pd.fml, Cm.i, Pd.tFo_eq, Pd.tLC_eq, Pd.e_tNv, ↓Pd.got_eqI, Pd.gotI_some, Pd.gotI_none, Pd.sizeS, Pd.sIx0, Pd.dfltI, Pd.e_iZ, Pd.e_tAu, Pd.e_tCM, Pd.e_tCMT, Pd.e_tCh]
      refine pwL2 hw (by omega) ?_
      have wi := fun {Q : List D → R → Prop} h => withI (q := Q) (t := t) b0 (by omega) (by omega) hw k12 h
      generalize w ^ b = x at *
      simp [Pd.e_tSq, Pd.e_tSqW, Pd.e_tSt, Pd.e_tPm, Pd.asgs, Pd.asg, Pd.escape, Pd.e_tCoB, Pd.e_tCo, Pd.e_tN, Pd.e_tV, Pd.e_tK, Pd.e_tOp2, Pd.e_tOp1, Pd.e_two, Pd.e_one, Pd.content, Pd.slotD, R.seal, Pd.e_ans, Pd.e_tBo, Pd.e_tAn, Pd.e_tOr_, Pd.e_tNo, Pd.e_tAnV, Pd.e_tOrV, Pd.e_tNoV, Pd.e_tIfD, Pd.e_tIfE, Pd.e_tRt, Pd.e_tRtN, Pd.e_tDr, Pd.e_tNx, Pd.e_tBk, Pd.e_tCt, Pd.e_tTr, Pd.truD, Pd.fin_val, Pd.fin_new, Pd.fin_al, Pd.retR, Pd.outsAt, Pd.entry, Pd.argSl, Mode.sl, Out.r, Sl.d, Sl.put, Pd.addD, Pd.intOp, Pd.mulD, Pd.negD, Pd.eqD, Pd.neD, Pd.cmD, Pd.dCm_int, Pd.dCm_str, Pd.dEq_nn, Pd.dEq_ii, Pd.dEq_bb, Pd.dEq_ss, Pd.eqOk_i, Pd.eqOk_b, Pd.eqOk_s, Pd.eqOk_n, Pd.cmOk_i, Pd.cmOk_s, Pd.e_tClI, Pd.passOk, Pd.ioS, Pd.apart, Pd.pass, Pd.pass1, Pd.putO, Pd.e_tL, Pd.e_tT, Pd.escapes, Pd.e_many, Pd.e_tBu, Pd.contents, Pd.lenD, Pd.intD, Pd.boolD, Pd.absD, Pd.listD, Pd.tupleD, Pd.isinD, Pd.allD, Pd.bools, Pd.bitsD, Pd.gcdD, Pd.ixD, Pd.isD, Pd.isNotD, Pd.e_tIsiT, Pd.tyName, Pd.isiT, Pd.tyNames, Pd.cellAt, Pd.putAt, Pd.e_tSI, Pd.e_tSF, Pd.e_tFl, Pd.putN, Pd.putX, Pd.e_tMk, Pd.e_tMkK, Pd.e_mkOkI, Pd.e_tClKI, Pd.ordK, R.isNon, D.lst?, D.int?, Pd.iterD, Pd.items, Pd.iterK, Pd.seqK, Pd.e_iSeq, Pd.e_iR1, Pd.e_iR2, Pd.e_gN, Pd.e_gCo, Pd.e_gNi, Pd.e_gT, Pd.e_settable, Pd.e_freeOf, Pd.wipeD, Pd.backD, Pd.back1, Pd.e_tSlc, Pd.slD, Pd.e_oN, Pd.e_oS, Pd.atI_nat, Pd.atI_lit, Pd.ixN_nat, Pd.ixN_lit, Pd.fdn, Pd.fmn, Pd.fdl, Pd.fml, Cm.i, Pd.tFo_eq, Pd.tLC_eq, Pd.e_tNv, ↓Pd.got_eqI, Pd.gotI_some, Pd.gotI_none, Pd.sizeS, Pd.sIx0, Pd.dfltI, Pd.e_iZ, Pd.e_tAu, Pd.e_tCM, Pd.e_tCMT, Pd.e_tCh]
      refine pwL2 k12 (by omega) ?_
      generalize k ^ t = y at *
      simp [t_law_within_so_6, m_within_power, m_law_like, Pd.e_tSq, Pd.e_tSqW, Pd.e_tSt, Pd.e_tPm, Pd.asgs, Pd.asg, Pd.escape, Pd.e_tCoB, Pd.e_tCo, Pd.e_tN, Pd.e_tV, Pd.e_tK, Pd.e_tOp2, Pd.e_tOp1, Pd.e_two, Pd.e_one, Pd.content, Pd.slotD, R.seal, Pd.e_ans, Pd.e_tBo, Pd.e_tAn, Pd.e_tOr_, Pd.e_tNo, Pd.e_tAnV, Pd.e_tOrV, Pd.e_tNoV, Pd.e_tIfD, Pd.e_tIfE, Pd.e_tRt, Pd.e_tRtN, Pd.e_tDr, Pd.e_tNx, Pd.e_tBk, Pd.e_tCt, Pd.e_tTr, Pd.truD, Pd.fin_val, Pd.fin_new, Pd.fin_al, Pd.retR, Pd.outsAt, Pd.entry, Pd.argSl, Mode.sl, Out.r, Sl.d, Sl.put, Pd.addD, Pd.intOp, Pd.mulD, Pd.negD, Pd.eqD, Pd.neD, Pd.cmD, Pd.dCm_int, Pd.dCm_str, Pd.dEq_nn, Pd.dEq_ii, Pd.dEq_bb, Pd.dEq_ss, Pd.eqOk_i, Pd.eqOk_b, Pd.eqOk_s, Pd.eqOk_n, Pd.cmOk_i, Pd.cmOk_s, Pd.e_tClI, Pd.passOk, Pd.ioS, Pd.apart, Pd.pass, Pd.pass1, Pd.putO, Pd.e_tL, Pd.e_tT, Pd.escapes, Pd.e_many, Pd.e_tBu, Pd.contents, Pd.lenD, Pd.intD, Pd.boolD, Pd.absD, Pd.listD, Pd.tupleD, Pd.isinD, Pd.allD, Pd.bools, Pd.bitsD, Pd.gcdD, Pd.ixD, Pd.isD, Pd.isNotD, Pd.e_tIsiT, Pd.tyName, Pd.isiT, Pd.tyNames, Pd.cellAt, Pd.putAt, Pd.e_tSI, Pd.e_tSF, Pd.e_tFl, Pd.putN, Pd.putX, Pd.e_tMk, Pd.e_tMkK, Pd.e_mkOkI, Pd.e_tClKI, Pd.ordK, R.isNon, D.lst?, D.int?, Pd.iterD, Pd.items, Pd.iterK, Pd.seqK, Pd.e_iSeq, Pd.e_iR1, Pd.e_iR2, Pd.e_gN, Pd.e_gCo, Pd.e_gNi, Pd.e_gT, Pd.e_settable, Pd.e_freeOf, Pd.wipeD, Pd.backD, Pd.back1, Pd.e_tSlc, Pd.slD, Pd.e_oN, Pd.e_oS, Pd.atI_nat, Pd.atI_lit, Pd.ixN_nat, Pd.ixN_lit, Pd.fdn, Pd.fmn, Pd.fdl, Pd.fml, Cm.i, Pd.tFo_eq, Pd.tLC_eq, Pd.e_tNv, ↓Pd.got_eqI, Pd.gotI_some, Pd.gotI_none, Pd.sizeS, Pd.sIx0, Pd.dfltI, Pd.e_iZ, Pd.e_tAu, Pd.e_tCM, Pd.e_tCMT, Pd.e_tCh]
      refine wi ?_
      simp [Pd.e_tSq, Pd.e_tSqW, Pd.e_tSt, Pd.e_tPm, Pd.asgs, Pd.asg, Pd.escape, Pd.e_tCoB, Pd.e_tCo, Pd.e_tN, Pd.e_tV, Pd.e_tK, Pd.e_tOp2, Pd.e_tOp1, Pd.e_two, Pd.e_one, Pd.content, Pd.slotD, R.seal, Pd.e_ans, Pd.e_tBo, Pd.e_tAn, Pd.e_tOr_, Pd.e_tNo, Pd.e_tAnV, Pd.e_tOrV, Pd.e_tNoV, Pd.e_tIfD, Pd.e_tIfE, Pd.e_tRt, Pd.e_tRtN, Pd.e_tDr, Pd.e_tNx, Pd.e_tBk, Pd.e_tCt, Pd.e_tTr, Pd.truD, Pd.fin_val, Pd.fin_new, Pd.fin_al, Pd.retR, Pd.outsAt, Pd.entry, Pd.argSl, Mode.sl, Out.r, Sl.d, Sl.put, Pd.addD, Pd.intOp, Pd.mulD, Pd.negD, Pd.eqD, Pd.neD, Pd.cmD, Pd.dCm_int, Pd.dCm_str, Pd.dEq_nn, Pd.dEq_ii, Pd.dEq_bb, Pd.dEq_ss, Pd.eqOk_i, Pd.eqOk_b, Pd.eqOk_s, Pd.eqOk_n, Pd.cmOk_i, Pd.cmOk_s, Pd.e_tClI, Pd.passOk, Pd.ioS, Pd.apart, Pd.pass, Pd.pass1, Pd.putO, Pd.e_tL, Pd.e_tT, Pd.escapes, Pd.e_many, Pd.e_tBu, Pd.contents, Pd.lenD, Pd.intD, Pd.boolD, Pd.absD, Pd.listD, Pd.tupleD, Pd.isinD, Pd.allD, Pd.bools, Pd.bitsD, Pd.gcdD, Pd.ixD, Pd.isD, Pd.isNotD, Pd.e_tIsiT, Pd.tyName, Pd.isiT, Pd.tyNames, Pd.cellAt, Pd.putAt, Pd.e_tSI, Pd.e_tSF, Pd.e_tFl, Pd.putN, Pd.putX, Pd.e_tMk, Pd.e_tMkK, Pd.e_mkOkI, Pd.e_tClKI, Pd.ordK, R.isNon, D.lst?, D.int?, Pd.iterD, Pd.items, Pd.iterK, Pd.seqK, Pd.e_iSeq, Pd.e_iR1, Pd.e_iR2, Pd.e_gN, Pd.e_gCo, Pd.e_gNi, Pd.e_gT, Pd.e_settable, Pd.e_freeOf, Pd.wipeD, Pd.backD, Pd.back1, Pd.e_tSlc, Pd.slD, Pd.e_oN, Pd.e_oS, Pd.atI_nat, Pd.atI_lit, Pd.ixN_nat, Pd.ixN_lit, Pd.fdn, Pd.fmn, Pd.fdl, Pd.fml, Cm.i, Pd.tFo_eq, Pd.tLC_eq, Pd.e_tNv, ↓Pd.got_eqI, Pd.gotI_some, Pd.gotI_none, Pd.sizeS, Pd.sIx0, Pd.dfltI, Pd.e_iZ, Pd.e_tAu, Pd.e_tCM, Pd.e_tCMT, Pd.e_tCh]
      refine wi ?_
      simp [Pd.e_tSq, Pd.e_tSqW, Pd.e_tSt, Pd.e_tPm, Pd.asgs, Pd.asg, Pd.escape, Pd.e_tCoB, Pd.e_tCo, Pd.e_tN, Pd.e_tV, Pd.e_tK, Pd.e_tOp2, Pd.e_tOp1, Pd.e_two, Pd.e_one, Pd.content, Pd.slotD, R.seal, Pd.e_ans, Pd.e_tBo, Pd.e_tAn, Pd.e_tOr_, Pd.e_tNo, Pd.e_tAnV, Pd.e_tOrV, Pd.e_tNoV, Pd.e_tIfD, Pd.e_tIfE, Pd.e_tRt, Pd.e_tRtN, Pd.e_tDr, Pd.e_tNx, Pd.e_tBk, Pd.e_tCt, Pd.e_tTr, Pd.truD, Pd.fin_val, Pd.fin_new, Pd.fin_al, Pd.retR, Pd.outsAt, Pd.entry, Pd.argSl, Mode.sl, Out.r, Sl.d, Sl.put, Pd.addD, Pd.intOp, Pd.mulD, Pd.negD, Pd.eqD, Pd.neD, Pd.cmD, Pd.dCm_int, Pd.dCm_str, Pd.dEq_nn, Pd.dEq_ii, Pd.dEq_bb, Pd.dEq_ss, Pd.eqOk_i, Pd.eqOk_b, Pd.eqOk_s, Pd.eqOk_n, Pd.cmOk_i, Pd.cmOk_s, Pd.e_tClI, Pd.passOk, Pd.ioS, Pd.apart, Pd.pass, Pd.pass1, Pd.putO, Pd.e_tL, Pd.e_tT, Pd.escapes, Pd.e_many, Pd.e_tBu, Pd.contents, Pd.lenD, Pd.intD, Pd.boolD, Pd.absD, Pd.listD, Pd.tupleD, Pd.isinD, Pd.allD, Pd.bools, Pd.bitsD, Pd.gcdD, Pd.ixD, Pd.isD, Pd.isNotD, Pd.e_tIsiT, Pd.tyName, Pd.isiT, Pd.tyNames, Pd.cellAt, Pd.putAt, Pd.e_tSI, Pd.e_tSF, Pd.e_tFl, Pd.putN, Pd.putX, Pd.e_tMk, Pd.e_tMkK, Pd.e_mkOkI, Pd.e_tClKI, Pd.ordK, R.isNon, D.lst?, D.int?, Pd.iterD, Pd.items, Pd.iterK, Pd.seqK, Pd.e_iSeq, Pd.e_iR1, Pd.e_iR2, Pd.e_gN, Pd.e_gCo, Pd.e_gNi, Pd.e_gT, Pd.e_settable, Pd.e_freeOf, Pd.wipeD, Pd.backD, Pd.back1, Pd.e_tSlc, Pd.slD, Pd.e_oN, Pd.e_oS, Pd.atI_nat, Pd.atI_lit, Pd.ixN_nat, Pd.ixN_lit, Pd.fdn, Pd.fmn, Pd.fdl, Pd.fml, Cm.i, Pd.tFo_eq, Pd.tLC_eq, Pd.e_tNv, ↓Pd.got_eqI, Pd.gotI_some, Pd.gotI_none, Pd.sizeS, Pd.sIx0, Pd.dfltI, Pd.e_iZ, Pd.e_tAu, Pd.e_tCM, Pd.e_tCMT, Pd.e_tCh]
      refine likeI (by simp [scal]) (by simp) ?_
      simp [Pd.e_tSq, Pd.e_tSqW, Pd.e_tSt, Pd.e_tPm, Pd.asgs, Pd.asg, Pd.escape, Pd.e_tCoB, Pd.e_tCo, Pd.e_tN, Pd.e_tV, Pd.e_tK, Pd.e_tOp2, Pd.e_tOp1, Pd.e_two, Pd.e_one, Pd.content, Pd.slotD, R.seal, Pd.e_ans, Pd.e_tBo, Pd.e_tAn, Pd.e_tOr_, Pd.e_tNo, Pd.e_tAnV, Pd.e_tOrV, Pd.e_tNoV, Pd.e_tIfD, Pd.e_tIfE, Pd.e_tRt, Pd.e_tRtN, Pd.e_tDr, Pd.e_tNx, Pd.e_tBk, Pd.e_tCt, Pd.e_tTr, Pd.truD, Pd.fin_val, Pd.fin_new, Pd.fin_al, Pd.retR, Pd.outsAt, Pd.entry, Pd.argSl, Mode.sl, Out.r, Sl.d, Sl.put, Pd.addD, Pd.intOp, Pd.mulD, Pd.negD, Pd.eqD, Pd.neD, Pd.cmD, Pd.dCm_int, Pd.dCm_str, Pd.dEq_nn, Pd.dEq_ii, Pd.dEq_bb, Pd.dEq_ss, Pd.eqOk_i, Pd.eqOk_b, Pd.eqOk_s, Pd.eqOk_n, Pd.cmOk_i, Pd.cmOk_s, Pd.e_tClI, Pd.passOk, Pd.ioS, Pd.apart, Pd.pass, Pd.pass1, Pd.putO, Pd.e_tL, Pd.e_tT, Pd.escapes, Pd.e_many, Pd.e_tBu, Pd.contents, Pd.lenD, Pd.intD, Pd.boolD, Pd.absD, Pd.listD, Pd.tupleD, Pd.isinD, Pd.allD, Pd.bools, Pd.bitsD, Pd.gcdD, Pd.ixD, Pd.isD, Pd.isNotD, Pd.e_tIsiT, Pd.tyName, Pd.isiT, Pd.tyNames, Pd.cellAt, Pd.putAt, Pd.e_tSI, Pd.e_tSF, Pd.e_tFl, Pd.putN, Pd.putX, Pd.e_tMk, Pd.e_tMkK, Pd.e_mkOkI, Pd.e_tClKI, Pd.ordK, R.isNon, D.lst?, D.int?, Pd.iterD, Pd.items, Pd.iterK, Pd.seqK, Pd.e_iSeq, Pd.e_iR1, Pd.e_iR2, Pd.e_gN, Pd.e_gCo, Pd.e_gNi, Pd.e_gT, Pd.e_settable, Pd.e_freeOf, Pd.wipeD, Pd.backD, Pd.back1, Pd.e_tSlc, Pd.slD, Pd.e_oN, Pd.e_oS, Pd.atI_nat, Pd.atI_lit, Pd.ixN_nat, Pd.ixN_lit, Pd.fdn, Pd.fmn, Pd.fdl, Pd.fml, Cm.i, Pd.tFo_eq, Pd.tLC_eq, Pd.e_tNv, ↓Pd.got_eqI, Pd.gotI_some, Pd.gotI_none, Pd.sizeS, Pd.sIx0, Pd.dfltI, Pd.e_iZ, Pd.e_tAu, Pd.e_tCM, Pd.e_tCMT, Pd.e_tCh]
      exact ⟨by omega, d, _, .val (.int w), .val (.bl (decide (x ≤ y))), hb, .inr rfl, .inr ⟨_, rfl⟩, .inr ⟨_, rfl⟩, rfl⟩
  · rintro _ ⟨hi, d, m, u, v, hb, hm, hu, hv, rfl⟩
    exact hend d m u v hb hm hu hv
theorem with_end {n t b r k : Nat} {d : D} {q : List D → R → Prop} {E : EndsD} {m u v : Sl} (hE : E.rt = fun e r => fin m_law_within_so q e r) (hb : BagOk (n + 40) d) (hn : n < 2 ^ 40) (ht : t ≤ 7) (b0 : 0 < b) (b1 : b ≤ 7) (hm : m = .own (ratD t b) ∨ m = .val (ratD t b)) (hu : slU u) (hv : slU v)
    (hq : ∀ d' : D, BagOk (n + 1000) d' → q [d'] (.val (.bl true))) : t_law_within_so_8 E [.io d, m, .val (.int r), u, .val (.tup [.int t, .int b]), .val (.int k), v] := by
  have z12 : 0 < 2 ^ 1200 := Nat.pow_pos (by decide)
  rcases hm with rfl | rfl <;> rcases hu with rfl | ⟨z, rfl⟩ <;> rcases hv with rfl | ⟨z2, rfl⟩
  all_goals
    simp [t_law_within_so_8, m_law_great, Pd.e_tSq, Pd.e_tSqW, Pd.e_tSt, Pd.e_tPm, Pd.asgs, Pd.asg, Pd.escape, Pd.e_tCoB, Pd.e_tCo, Pd.e_tN, Pd.e_tV, Pd.e_tK, Pd.e_tOp2, Pd.e_tOp1, Pd.e_two, Pd.e_one, Pd.content, Pd.slotD, R.seal, Pd.e_ans, Pd.e_tBo, Pd.e_tAn, Pd.e_tOr_, Pd.e_tNo, Pd.e_tAnV, Pd.e_tOrV, Pd.e_tNoV, Pd.e_tIfD, Pd.e_tIfE, Pd.e_tRt, Pd.e_tRtN, Pd.e_tDr, Pd.e_tNx, Pd.e_tBk, Pd.e_tCt, Pd.e_tTr, Pd.truD, Pd.fin_val, Pd.fin_new, Pd.fin_al, Pd.retR, Pd.outsAt, Pd.entry, Pd.argSl, Mode.sl, Out.r, Sl.d, Sl.put, Pd.addD, Pd.intOp, Pd.mulD, Pd.negD, Pd.eqD, Pd.neD, Pd.cmD, Pd.dCm_int, Pd.dCm_str, Pd.dEq_nn, Pd.dEq_ii, Pd.dEq_bb, Pd.dEq_ss, Pd.eqOk_i, Pd.eqOk_b, Pd.eqOk_s, Pd.eqOk_n, Pd.cmOk_i, Pd.cmOk_s, Pd.e_tClI, Pd.passOk, Pd.ioS, Pd.apart, Pd.pass, Pd.pass1, Pd.putO, Pd.e_tL, Pd.e_tT, Pd.escapes, Pd.e_many, Pd.e_tBu, Pd.contents, Pd.lenD, Pd.intD, Pd.boolD, Pd.absD, Pd.listD, Pd.tupleD, Pd.isinD, Pd.allD, Pd.bools, Pd.bitsD, Pd.gcdD, Pd.ixD, Pd.isD, Pd.isNotD, Pd.e_tIsiT, Pd.tyName, Pd.isiT, Pd.tyNames, Pd.cellAt, Pd.putAt, Pd.e_tSI, Pd.e_tSF, Pd.e_tFl, Pd.putN, Pd.putX, Pd.e_tMk, Pd.e_tMkK, Pd.e_mkOkI, Pd.e_tClKI, Pd.ordK, R.isNon, D.lst?, D.int?, Pd.iterD, Pd.items, Pd.iterK, Pd.seqK, Pd.e_iSeq, Pd.e_iR1, Pd.e_iR2, Pd.e_gN, Pd.e_gCo, Pd.e_gNi, Pd.e_gT, Pd.e_settable, Pd.e_freeOf, Pd.wipeD, Pd.backD, Pd.back1, Pd.e_tSlc, Pd.slD, Pd.e_oN, Pd.e_oS, Pd.atI_nat, Pd.atI_lit, Pd.ixN_nat, Pd.ixN_lit, Pd.fdn, Pd.fmn, Pd.fdl, Pd.fml, Cm.i, Pd.tFo_eq, Pd.tLC_eq, Pd.e_tNv, ↓Pd.got_eqI, Pd.gotI_some, Pd.gotI_none, Pd.sizeS, Pd.sIx0, Pd.dfltI, Pd.e_iZ, Pd.e_tAu, Pd.e_tCM, Pd.e_tCMT, Pd.e_tCh]
    refine great hb (by omega) fun d1 s hb1 hs => ?_
    have hs2 : s < 2 ^ 1200 := Nat.lt_trans (Nat.lt_of_lt_of_le hs (show 10 ^ 39 ≤ 2 ^ 130 by decide)) (Nat.pow_lt_pow_right (by decide) (by decide))
    simp [t_law_within_so_9, m_within_power, m_Ratio_init, m_law_like, Pd.e_tSq, Pd.e_tSqW, Pd.e_tSt, Pd.e_tPm, Pd.asgs, Pd.asg, Pd.escape, Pd.e_tCoB, Pd.e_tCo, Pd.e_tN, Pd.e_tV, Pd.e_tK, Pd.e_tOp2, Pd.e_tOp1, Pd.e_two, Pd.e_one, Pd.content, Pd.slotD, R.seal, Pd.e_ans, Pd.e_tBo, Pd.e_tAn, Pd.e_tOr_, Pd.e_tNo, Pd.e_tAnV, Pd.e_tOrV, Pd.e_tNoV, Pd.e_tIfD, Pd.e_tIfE, Pd.e_tRt, Pd.e_tRtN, Pd.e_tDr, Pd.e_tNx, Pd.e_tBk, Pd.e_tCt, Pd.e_tTr, Pd.truD, Pd.fin_val, Pd.fin_new, Pd.fin_al, Pd.retR, Pd.outsAt, Pd.entry, Pd.argSl, Mode.sl, Out.r, Sl.d, Sl.put, Pd.addD, Pd.intOp, Pd.mulD, Pd.negD, Pd.eqD, Pd.neD, Pd.cmD, Pd.dCm_int, Pd.dCm_str, Pd.dEq_nn, Pd.dEq_ii, Pd.dEq_bb, Pd.dEq_ss, Pd.eqOk_i, Pd.eqOk_b, Pd.eqOk_s, Pd.eqOk_n, Pd.cmOk_i, Pd.cmOk_s, Pd.e_tClI, Pd.passOk, Pd.ioS, Pd.apart, Pd.pass, Pd.pass1, Pd.putO, Pd.e_tL, Pd.e_tT, Pd.escapes, Pd.e_many, Pd.e_tBu, Pd.contents, Pd.lenD, Pd.intD, Pd.boolD, Pd.absD, Pd.listD, Pd.tupleD, Pd.isinD, Pd.allD, Pd.bools, Pd.bitsD, Pd.gcdD, Pd.ixD, Pd.isD, Pd.isNotD, Pd.e_tIsiT, Pd.tyName, Pd.isiT, Pd.tyNames, Pd.cellAt, Pd.putAt, Pd.e_tSI, Pd.e_tSF, Pd.e_tFl, Pd.putN, Pd.putX, Pd.e_tMk, Pd.e_tMkK, Pd.e_mkOkI, Pd.e_tClKI, Pd.ordK, R.isNon, D.lst?, D.int?, Pd.iterD, Pd.items, Pd.iterK, Pd.seqK, Pd.e_iSeq, Pd.e_iR1, Pd.e_iR2, Pd.e_gN, Pd.e_gCo, Pd.e_gNi, Pd.e_gT, Pd.e_settable, Pd.e_freeOf, Pd.wipeD, Pd.backD, Pd.back1, Pd.e_tSlc, Pd.slD, Pd.e_oN, Pd.e_oS, Pd.atI_nat, Pd.atI_lit, Pd.ixN_nat, Pd.ixN_lit, Pd.fdn, Pd.fmn, Pd.fdl, Pd.fml, Cm.i, Pd.tFo_eq, Pd.tLC_eq, Pd.e_tNv, ↓Pd.got_eqI, Pd.gotI_some, Pd.gotI_none, Pd.sizeS, Pd.sIx0, Pd.dfltI, Pd.e_iZ, Pd.e_tAu, Pd.e_tCM, Pd.e_tCMT, Pd.e_tCh]
    refine ratI (t := 1) (b := 1) (by decide) (by decide) ?_
    simp [Pd.e_tSq, Pd.e_tSqW, Pd.e_tSt, Pd.e_tPm, Pd.asgs, Pd.asg, Pd.escape, Pd.e_tCoB, Pd.e_tCo, Pd.e_tN, Pd.e_tV, Pd.e_tK, Pd.e_tOp2, Pd.e_tOp1, Pd.e_two, Pd.e_one, Pd.content, Pd.slotD, R.seal, Pd.e_ans, Pd.e_tBo, Pd.e_tAn, Pd.e_tOr_, Pd.e_tNo, Pd.e_tAnV, Pd.e_tOrV, Pd.e_tNoV, Pd.e_tIfD, Pd.e_tIfE, Pd.e_tRt, Pd.e_tRtN, Pd.e_tDr, Pd.e_tNx, Pd.e_tBk, Pd.e_tCt, Pd.e_tTr, Pd.truD, Pd.fin_val, Pd.fin_new, Pd.fin_al, Pd.retR, Pd.outsAt, Pd.entry, Pd.argSl, Mode.sl, Out.r, Sl.d, Sl.put, Pd.addD, Pd.intOp, Pd.mulD, Pd.negD, Pd.eqD, Pd.neD, Pd.cmD, Pd.dCm_int, Pd.dCm_str, Pd.dEq_nn, Pd.dEq_ii, Pd.dEq_bb, Pd.dEq_ss, Pd.eqOk_i, Pd.eqOk_b, Pd.eqOk_s, Pd.eqOk_n, Pd.cmOk_i, Pd.cmOk_s, Pd.e_tClI, Pd.passOk, Pd.ioS, Pd.apart, Pd.pass, Pd.pass1, Pd.putO, Pd.e_tL, Pd.e_tT, Pd.escapes, Pd.e_many, Pd.e_tBu, Pd.contents, Pd.lenD, Pd.intD, Pd.boolD, Pd.absD, Pd.listD, Pd.tupleD, Pd.isinD, Pd.allD, Pd.bools, Pd.bitsD, Pd.gcdD, Pd.ixD, Pd.isD, Pd.isNotD, Pd.e_tIsiT, Pd.tyName, Pd.isiT, Pd.tyNames, Pd.cellAt, Pd.putAt, Pd.e_tSI, Pd.e_tSF, Pd.e_tFl, Pd.putN, Pd.putX, Pd.e_tMk, Pd.e_tMkK, Pd.e_mkOkI, Pd.e_tClKI, Pd.ordK, R.isNon, D.lst?, D.int?, Pd.iterD, Pd.items, Pd.iterK, Pd.seqK, Pd.e_iSeq, Pd.e_iR1, Pd.e_iR2, Pd.e_gN, Pd.e_gCo, Pd.e_gNi, Pd.e_gT, Pd.e_settable, Pd.e_freeOf, Pd.wipeD, Pd.backD, Pd.back1, Pd.e_tSlc, Pd.slD, Pd.e_oN, Pd.e_oS, Pd.atI_nat, Pd.atI_lit, Pd.ixN_nat, Pd.ixN_lit, Pd.fdn, Pd.fmn, Pd.fdl, Pd.fml, Cm.i, Pd.tFo_eq, Pd.tLC_eq, Pd.e_tNv, ↓Pd.got_eqI, Pd.gotI_some, Pd.gotI_none, Pd.sizeS, Pd.sIx0, Pd.dfltI, Pd.e_iZ, Pd.e_tAu, Pd.e_tCM, Pd.e_tCMT, Pd.e_tCh]
    refine ⟨[.io _, _, .val _, .val _, .val _, .val _, _], _, rfl, ?_⟩
    try simp [Pd.e_tSq, Pd.e_tSqW, Pd.e_tSt, Pd.e_tPm, Pd.asgs, Pd.asg, Pd.escape, Pd.e_tCoB, Pd.e_tCo, Pd.e_tN, Pd.e_tV, Pd.e_tK, Pd.e_tOp2, Pd.e_tOp1, Pd.e_two, Pd.e_one, Pd.content, Pd.slotD, R.seal, Pd.e_ans, Pd.e_tBo, Pd.e_tAn, Pd.e_tOr_, Pd.e_tNo, Pd.e_tAnV, Pd.e_tOrV, Pd.e_tNoV, Pd.e_tIfD, Pd.e_tIfE, Pd.e_tRt, Pd.e_tRtN, Pd.e_tDr, Pd.e_tNx, Pd.e_tBk, Pd.e_tCt, Pd.e_tTr, Pd.truD, Pd.fin_val, Pd.fin_new, Pd.fin_al, Pd.retR, Pd.outsAt, Pd.entry, Pd.argSl, Mode.sl, Out.r, Sl.d, Sl.put, Pd.addD, Pd.intOp, Pd.mulD, Pd.negD, Pd.eqD, Pd.neD, Pd.cmD, Pd.dCm_int, Pd.dCm_str, Pd.dEq_nn, Pd.dEq_ii, Pd.dEq_bb, Pd.dEq_ss, Pd.eqOk_i, Pd.eqOk_b, Pd.eqOk_s, Pd.eqOk_n, Pd.cmOk_i, Pd.cmOk_s, Pd.e_tClI, Pd.passOk, Pd.ioS, Pd.apart, Pd.pass, Pd.pass1, Pd.putO, Pd.e_tL, Pd.e_tT, Pd.escapes, Pd.e_many, Pd.e_tBu, Pd.contents, Pd.lenD, Pd.intD, Pd.boolD, Pd.absD, Pd.listD, Pd.tupleD, Pd.isinD, Pd.allD, Pd.bools, Pd.bitsD, Pd.gcdD, Pd.ixD, Pd.isD, Pd.isNotD, Pd.e_tIsiT, Pd.tyName, Pd.isiT, Pd.tyNames, Pd.cellAt, Pd.putAt, Pd.e_tSI, Pd.e_tSF, Pd.e_tFl, Pd.putN, Pd.putX, Pd.e_tMk, Pd.e_tMkK, Pd.e_mkOkI, Pd.e_tClKI, Pd.ordK, R.isNon, D.lst?, D.int?, Pd.iterD, Pd.items, Pd.iterK, Pd.seqK, Pd.e_iSeq, Pd.e_iR1, Pd.e_iR2, Pd.e_gN, Pd.e_gCo, Pd.e_gNi, Pd.e_gT, Pd.e_settable, Pd.e_freeOf, Pd.wipeD, Pd.backD, Pd.back1, Pd.e_tSlc, Pd.slD, Pd.e_oN, Pd.e_oS, Pd.atI_nat, Pd.atI_lit, Pd.ixN_nat, Pd.ixN_lit, Pd.fdn, Pd.fmn, Pd.fdl, Pd.fml, Cm.i, Pd.tFo_eq, Pd.tLC_eq, Pd.e_tNv, ↓Pd.got_eqI, Pd.gotI_some, Pd.gotI_none, Pd.sizeS, Pd.sIx0, Pd.dfltI, Pd.e_iZ, Pd.e_tAu, Pd.e_tCM, Pd.e_tCMT, Pd.e_tCh]
    refine withI (t := 1) (b := 1) (by decide) (by decide) (by decide) hs2 hs2 ?_
    simp [Pd.e_tSq, Pd.e_tSqW, Pd.e_tSt, Pd.e_tPm, Pd.asgs, Pd.asg, Pd.escape, Pd.e_tCoB, Pd.e_tCo, Pd.e_tN, Pd.e_tV, Pd.e_tK, Pd.e_tOp2, Pd.e_tOp1, Pd.e_two, Pd.e_one, Pd.content, Pd.slotD, R.seal, Pd.e_ans, Pd.e_tBo, Pd.e_tAn, Pd.e_tOr_, Pd.e_tNo, Pd.e_tAnV, Pd.e_tOrV, Pd.e_tNoV, Pd.e_tIfD, Pd.e_tIfE, Pd.e_tRt, Pd.e_tRtN, Pd.e_tDr, Pd.e_tNx, Pd.e_tBk, Pd.e_tCt, Pd.e_tTr, Pd.truD, Pd.fin_val, Pd.fin_new, Pd.fin_al, Pd.retR, Pd.outsAt, Pd.entry, Pd.argSl, Mode.sl, Out.r, Sl.d, Sl.put, Pd.addD, Pd.intOp, Pd.mulD, Pd.negD, Pd.eqD, Pd.neD, Pd.cmD, Pd.dCm_int, Pd.dCm_str, Pd.dEq_nn, Pd.dEq_ii, Pd.dEq_bb, Pd.dEq_ss, Pd.eqOk_i, Pd.eqOk_b, Pd.eqOk_s, Pd.eqOk_n, Pd.cmOk_i, Pd.cmOk_s, Pd.e_tClI, Pd.passOk, Pd.ioS, Pd.apart, Pd.pass, Pd.pass1, Pd.putO, Pd.e_tL, Pd.e_tT, Pd.escapes, Pd.e_many, Pd.e_tBu, Pd.contents, Pd.lenD, Pd.intD, Pd.boolD, Pd.absD, Pd.listD, Pd.tupleD, Pd.isinD, Pd.allD, Pd.bools, Pd.bitsD, Pd.gcdD, Pd.ixD, Pd.isD, Pd.isNotD, Pd.e_tIsiT, Pd.tyName, Pd.isiT, Pd.tyNames, Pd.cellAt, Pd.putAt, Pd.e_tSI, Pd.e_tSF, Pd.e_tFl, Pd.putN, Pd.putX, Pd.e_tMk, Pd.e_tMkK, Pd.e_mkOkI, Pd.e_tClKI, Pd.ordK, R.isNon, D.lst?, D.int?, Pd.iterD, Pd.items, Pd.iterK, Pd.seqK, Pd.e_iSeq, Pd.e_iR1, Pd.e_iR2, Pd.e_gN, Pd.e_gCo, Pd.e_gNi, Pd.e_gT, Pd.e_settable, Pd.e_freeOf, Pd.wipeD, Pd.backD, Pd.back1, Pd.e_tSlc, Pd.slD, Pd.e_oN, Pd.e_oS, Pd.atI_nat, Pd.atI_lit, Pd.ixN_nat, Pd.ixN_lit, Pd.fdn, Pd.fmn, Pd.fdl, Pd.fml, Cm.i, Pd.tFo_eq, Pd.tLC_eq, Pd.e_tNv, ↓Pd.got_eqI, Pd.gotI_some, Pd.gotI_none, Pd.sizeS, Pd.sIx0, Pd.dfltI, Pd.e_iZ, Pd.e_tAu, Pd.e_tCM, Pd.e_tCMT, Pd.e_tCh]
    refine ratI (t := 0) (b := 1) (by decide) (by decide) ?_
    simp [Pd.e_tSq, Pd.e_tSqW, Pd.e_tSt, Pd.e_tPm, Pd.asgs, Pd.asg, Pd.escape, Pd.e_tCoB, Pd.e_tCo, Pd.e_tN, Pd.e_tV, Pd.e_tK, Pd.e_tOp2, Pd.e_tOp1, Pd.e_two, Pd.e_one, Pd.content, Pd.slotD, R.seal, Pd.e_ans, Pd.e_tBo, Pd.e_tAn, Pd.e_tOr_, Pd.e_tNo, Pd.e_tAnV, Pd.e_tOrV, Pd.e_tNoV, Pd.e_tIfD, Pd.e_tIfE, Pd.e_tRt, Pd.e_tRtN, Pd.e_tDr, Pd.e_tNx, Pd.e_tBk, Pd.e_tCt, Pd.e_tTr, Pd.truD, Pd.fin_val, Pd.fin_new, Pd.fin_al, Pd.retR, Pd.outsAt, Pd.entry, Pd.argSl, Mode.sl, Out.r, Sl.d, Sl.put, Pd.addD, Pd.intOp, Pd.mulD, Pd.negD, Pd.eqD, Pd.neD, Pd.cmD, Pd.dCm_int, Pd.dCm_str, Pd.dEq_nn, Pd.dEq_ii, Pd.dEq_bb, Pd.dEq_ss, Pd.eqOk_i, Pd.eqOk_b, Pd.eqOk_s, Pd.eqOk_n, Pd.cmOk_i, Pd.cmOk_s, Pd.e_tClI, Pd.passOk, Pd.ioS, Pd.apart, Pd.pass, Pd.pass1, Pd.putO, Pd.e_tL, Pd.e_tT, Pd.escapes, Pd.e_many, Pd.e_tBu, Pd.contents, Pd.lenD, Pd.intD, Pd.boolD, Pd.absD, Pd.listD, Pd.tupleD, Pd.isinD, Pd.allD, Pd.bools, Pd.bitsD, Pd.gcdD, Pd.ixD, Pd.isD, Pd.isNotD, Pd.e_tIsiT, Pd.tyName, Pd.isiT, Pd.tyNames, Pd.cellAt, Pd.putAt, Pd.e_tSI, Pd.e_tSF, Pd.e_tFl, Pd.putN, Pd.putX, Pd.e_tMk, Pd.e_tMkK, Pd.e_mkOkI, Pd.e_tClKI, Pd.ordK, R.isNon, D.lst?, D.int?, Pd.iterD, Pd.items, Pd.iterK, Pd.seqK, Pd.e_iSeq, Pd.e_iR1, Pd.e_iR2, Pd.e_gN, Pd.e_gCo, Pd.e_gNi, Pd.e_gT, Pd.e_settable, Pd.e_freeOf, Pd.wipeD, Pd.backD, Pd.back1, Pd.e_tSlc, Pd.slD, Pd.e_oN, Pd.e_oS, Pd.atI_nat, Pd.atI_lit, Pd.ixN_nat, Pd.ixN_lit, Pd.fdn, Pd.fmn, Pd.fdl, Pd.fml, Cm.i, Pd.tFo_eq, Pd.tLC_eq, Pd.e_tNv, ↓Pd.got_eqI, Pd.gotI_some, Pd.gotI_none, Pd.sizeS, Pd.sIx0, Pd.dfltI, Pd.e_iZ, Pd.e_tAu, Pd.e_tCM, Pd.e_tCMT, Pd.e_tCh]
    refine ⟨[.io _, _, .val _, .val _, .val _, .val _, _], _, rfl, ?_⟩
    try simp [Pd.e_tSq, Pd.e_tSqW, Pd.e_tSt, Pd.e_tPm, Pd.asgs, Pd.asg, Pd.escape, Pd.e_tCoB, Pd.e_tCo, Pd.e_tN, Pd.e_tV, Pd.e_tK, Pd.e_tOp2, Pd.e_tOp1, Pd.e_two, Pd.e_one, Pd.content, Pd.slotD, R.seal, Pd.e_ans, Pd.e_tBo, Pd.e_tAn, Pd.e_tOr_, Pd.e_tNo, Pd.e_tAnV, Pd.e_tOrV, Pd.e_tNoV, Pd.e_tIfD, Pd.e_tIfE, Pd.e_tRt, Pd.e_tRtN, Pd.e_tDr, Pd.e_tNx, Pd.e_tBk, Pd.e_tCt, Pd.e_tTr, Pd.truD, Pd.fin_val, Pd.fin_new, Pd.fin_al, Pd.retR, Pd.outsAt, Pd.entry, Pd.argSl, Mode.sl, Out.r, Sl.d, Sl.put, Pd.addD, Pd.intOp, Pd.mulD, Pd.negD, Pd.eqD, Pd.neD, Pd.cmD, Pd.dCm_int, Pd.dCm_str, Pd.dEq_nn, Pd.dEq_ii, Pd.dEq_bb, Pd.dEq_ss, Pd.eqOk_i, Pd.eqOk_b, Pd.eqOk_s, Pd.eqOk_n, Pd.cmOk_i, Pd.cmOk_s, Pd.e_tClI, Pd.passOk, Pd.ioS, Pd.apart, Pd.pass, Pd.pass1, Pd.putO, Pd.e_tL, Pd.e_tT, Pd.escapes, Pd.e_many, Pd.e_tBu, Pd.contents, Pd.lenD, Pd.intD, Pd.boolD, Pd.absD, Pd.listD, Pd.tupleD, Pd.isinD, Pd.allD, Pd.bools, Pd.bitsD, Pd.gcdD, Pd.ixD, Pd.isD, Pd.isNotD, Pd.e_tIsiT, Pd.tyName, Pd.isiT, Pd.tyNames, Pd.cellAt, Pd.putAt, Pd.e_tSI, Pd.e_tSF, Pd.e_tFl, Pd.putN, Pd.putX, Pd.e_tMk, Pd.e_tMkK, Pd.e_mkOkI, Pd.e_tClKI, Pd.ordK, R.isNon, D.lst?, D.int?, Pd.iterD, Pd.items, Pd.iterK, Pd.seqK, Pd.e_iSeq, Pd.e_iR1, Pd.e_iR2, Pd.e_gN, Pd.e_gCo, Pd.e_gNi, Pd.e_gT, Pd.e_settable, Pd.e_freeOf, Pd.wipeD, Pd.backD, Pd.back1, Pd.e_tSlc, Pd.slD, Pd.e_oN, Pd.e_oS, Pd.atI_nat, Pd.atI_lit, Pd.ixN_nat, Pd.ixN_lit, Pd.fdn, Pd.fmn, Pd.fdl, Pd.fml, Cm.i, Pd.tFo_eq, Pd.tLC_eq, Pd.e_tNv, ↓Pd.got_eqI, Pd.gotI_some, Pd.gotI_none, Pd.sizeS, Pd.sIx0, Pd.dfltI, Pd.e_iZ, Pd.e_tAu, Pd.e_tCM, Pd.e_tCMT, Pd.e_tCh]
    refine withI (n := 0) (t := 0) (b := 1) (by decide) (by decide) (by decide) hs2 z12 ?_
    simp [Pd.e_tSq, Pd.e_tSqW, Pd.e_tSt, Pd.e_tPm, Pd.asgs, Pd.asg, Pd.escape, Pd.e_tCoB, Pd.e_tCo, Pd.e_tN, Pd.e_tV, Pd.e_tK, Pd.e_tOp2, Pd.e_tOp1, Pd.e_two, Pd.e_one, Pd.content, Pd.slotD, R.seal, Pd.e_ans, Pd.e_tBo, Pd.e_tAn, Pd.e_tOr_, Pd.e_tNo, Pd.e_tAnV, Pd.e_tOrV, Pd.e_tNoV, Pd.e_tIfD, Pd.e_tIfE, Pd.e_tRt, Pd.e_tRtN, Pd.e_tDr, Pd.e_tNx, Pd.e_tBk, Pd.e_tCt, Pd.e_tTr, Pd.truD, Pd.fin_val, Pd.fin_new, Pd.fin_al, Pd.retR, Pd.outsAt, Pd.entry, Pd.argSl, Mode.sl, Out.r, Sl.d, Sl.put, Pd.addD, Pd.intOp, Pd.mulD, Pd.negD, Pd.eqD, Pd.neD, Pd.cmD, Pd.dCm_int, Pd.dCm_str, Pd.dEq_nn, Pd.dEq_ii, Pd.dEq_bb, Pd.dEq_ss, Pd.eqOk_i, Pd.eqOk_b, Pd.eqOk_s, Pd.eqOk_n, Pd.cmOk_i, Pd.cmOk_s, Pd.e_tClI, Pd.passOk, Pd.ioS, Pd.apart, Pd.pass, Pd.pass1, Pd.putO, Pd.e_tL, Pd.e_tT, Pd.escapes, Pd.e_many, Pd.e_tBu, Pd.contents, Pd.lenD, Pd.intD, Pd.boolD, Pd.absD, Pd.listD, Pd.tupleD, Pd.isinD, Pd.allD, Pd.bools, Pd.bitsD, Pd.gcdD, Pd.ixD, Pd.isD, Pd.isNotD, Pd.e_tIsiT, Pd.tyName, Pd.isiT, Pd.tyNames, Pd.cellAt, Pd.putAt, Pd.e_tSI, Pd.e_tSF, Pd.e_tFl, Pd.putN, Pd.putX, Pd.e_tMk, Pd.e_tMkK, Pd.e_mkOkI, Pd.e_tClKI, Pd.ordK, R.isNon, D.lst?, D.int?, Pd.iterD, Pd.items, Pd.iterK, Pd.seqK, Pd.e_iSeq, Pd.e_iR1, Pd.e_iR2, Pd.e_gN, Pd.e_gCo, Pd.e_gNi, Pd.e_gT, Pd.e_settable, Pd.e_freeOf, Pd.wipeD, Pd.backD, Pd.back1, Pd.e_tSlc, Pd.slD, Pd.e_oN, Pd.e_oS, Pd.atI_nat, Pd.atI_lit, Pd.ixN_nat, Pd.ixN_lit, Pd.fdn, Pd.fmn, Pd.fdl, Pd.fml, Cm.i, Pd.tFo_eq, Pd.tLC_eq, Pd.e_tNv, ↓Pd.got_eqI, Pd.gotI_some, Pd.gotI_none, Pd.sizeS, Pd.sIx0, Pd.dfltI, Pd.e_iZ, Pd.e_tAu, Pd.e_tCM, Pd.e_tCMT, Pd.e_tCh]
    refine withI (c := 0) (n := 0) b0 (by omega) (by omega) z12 z12 ?_
    have e0 : (0 ^ b ≤ 0 ^ t) = True := eq_true (by rw [Nat.zero_pow b0]; exact Nat.zero_le _)
    have e1 : (s ≤ 1) = (s < 2) := propext (by omega)
    have e2 : ((s : Int) < 2) = (s < 2) := propext (by omega)
    simp [Pd.e_tSq, Pd.e_tSqW, Pd.e_tSt, Pd.e_tPm, Pd.asgs, Pd.asg, Pd.escape, Pd.e_tCoB, Pd.e_tCo, Pd.e_tN, Pd.e_tV, Pd.e_tK, Pd.e_tOp2, Pd.e_tOp1, Pd.e_two, Pd.e_one, Pd.content, Pd.slotD, R.seal, Pd.e_ans, Pd.e_tBo, Pd.e_tAn, Pd.e_tOr_, Pd.e_tNo, Pd.e_tAnV, Pd.e_tOrV, Pd.e_tNoV, Pd.e_tIfD, Pd.e_tIfE, Pd.e_tRt, Pd.e_tRtN, Pd.e_tDr, Pd.e_tNx, Pd.e_tBk, Pd.e_tCt, Pd.e_tTr, Pd.truD, Pd.fin_val, Pd.fin_new, Pd.fin_al, Pd.retR, Pd.outsAt, Pd.entry, Pd.argSl, Mode.sl, Out.r, Sl.d, Sl.put, Pd.addD, Pd.intOp, Pd.mulD, Pd.negD, Pd.eqD, Pd.neD, Pd.cmD, Pd.dCm_int, Pd.dCm_str, Pd.dEq_nn, Pd.dEq_ii, Pd.dEq_bb, Pd.dEq_ss, Pd.eqOk_i, Pd.eqOk_b, Pd.eqOk_s, Pd.eqOk_n, Pd.cmOk_i, Pd.cmOk_s, Pd.e_tClI, Pd.passOk, Pd.ioS, Pd.apart, Pd.pass, Pd.pass1, Pd.putO, Pd.e_tL, Pd.e_tT, Pd.escapes, Pd.e_many, Pd.e_tBu, Pd.contents, Pd.lenD, Pd.intD, Pd.boolD, Pd.absD, Pd.listD, Pd.tupleD, Pd.isinD, Pd.allD, Pd.bools, Pd.bitsD, Pd.gcdD, Pd.ixD, Pd.isD, Pd.isNotD, Pd.e_tIsiT, Pd.tyName, Pd.isiT, Pd.tyNames, Pd.cellAt, Pd.putAt, Pd.e_tSI, Pd.e_tSF, Pd.e_tFl, Pd.putN, Pd.putX, Pd.e_tMk, Pd.e_tMkK, Pd.e_mkOkI, Pd.e_tClKI, Pd.ordK, R.isNon, D.lst?, D.int?, Pd.iterD, Pd.items, Pd.iterK, Pd.seqK, Pd.e_iSeq, Pd.e_iR1, Pd.e_iR2, Pd.e_gN, Pd.e_gCo, Pd.e_gNi, Pd.e_gT, Pd.e_settable, Pd.e_freeOf, Pd.wipeD, Pd.backD, Pd.back1, Pd.e_tSlc, Pd.slD, Pd.e_oN, Pd.e_oS, Pd.atI_nat, Pd.atI_lit, Pd.ixN_nat, Pd.ixN_lit, Pd.fdn, Pd.fmn, Pd.fdl, Pd.fml, Cm.i, Pd.tFo_eq, Pd.tLC_eq, Pd.e_tNv, ↓Pd.got_eqI, Pd.gotI_some, Pd.gotI_none, Pd.sizeS, Pd.sIx0, Pd.dfltI, Pd.e_iZ, Pd.e_tAu, Pd.e_tCM, Pd.e_tCMT, Pd.e_tCh, e0, e1]
    simp only [e2]
    refine likeI (by simp [scal]) (by simp) ?_
    simp [Pd.e_tSq, Pd.e_tSqW, Pd.e_tSt, Pd.e_tPm, Pd.asgs, Pd.asg, Pd.escape, Pd.e_tCoB, Pd.e_tCo, Pd.e_tN, Pd.e_tV, Pd.e_tK, Pd.e_tOp2, Pd.e_tOp1, Pd.e_two, Pd.e_one, Pd.content, Pd.slotD, R.seal, Pd.e_ans, Pd.e_tBo, Pd.e_tAn, Pd.e_tOr_, Pd.e_tNo, Pd.e_tAnV, Pd.e_tOrV, Pd.e_tNoV, Pd.e_tIfD, Pd.e_tIfE, Pd.e_tRt, Pd.e_tRtN, Pd.e_tDr, Pd.e_tNx, Pd.e_tBk, Pd.e_tCt, Pd.e_tTr, Pd.truD, Pd.fin_val, Pd.fin_new, Pd.fin_al, Pd.retR, Pd.outsAt, Pd.entry, Pd.argSl, Mode.sl, Out.r, Sl.d, Sl.put, Pd.addD, Pd.intOp, Pd.mulD, Pd.negD, Pd.eqD, Pd.neD, Pd.cmD, Pd.dCm_int, Pd.dCm_str, Pd.dEq_nn, Pd.dEq_ii, Pd.dEq_bb, Pd.dEq_ss, Pd.eqOk_i, Pd.eqOk_b, Pd.eqOk_s, Pd.eqOk_n, Pd.cmOk_i, Pd.cmOk_s, Pd.e_tClI, Pd.passOk, Pd.ioS, Pd.apart, Pd.pass, Pd.pass1, Pd.putO, Pd.e_tL, Pd.e_tT, Pd.escapes, Pd.e_many, Pd.e_tBu, Pd.contents, Pd.lenD, Pd.intD, Pd.boolD, Pd.absD, Pd.listD, Pd.tupleD, Pd.isinD, Pd.allD, Pd.bools, Pd.bitsD, Pd.gcdD, Pd.ixD, Pd.isD, Pd.isNotD, Pd.e_tIsiT, Pd.tyName, Pd.isiT, Pd.tyNames, Pd.cellAt, Pd.putAt, Pd.e_tSI, Pd.e_tSF, Pd.e_tFl, Pd.putN, Pd.putX, Pd.e_tMk, Pd.e_tMkK, Pd.e_mkOkI, Pd.e_tClKI, Pd.ordK, R.isNon, D.lst?, D.int?, Pd.iterD, Pd.items, Pd.iterK, Pd.seqK, Pd.e_iSeq, Pd.e_iR1, Pd.e_iR2, Pd.e_gN, Pd.e_gCo, Pd.e_gNi, Pd.e_gT, Pd.e_settable, Pd.e_freeOf, Pd.wipeD, Pd.backD, Pd.back1, Pd.e_tSlc, Pd.slD, Pd.e_oN, Pd.e_oS, Pd.atI_nat, Pd.atI_lit, Pd.ixN_nat, Pd.ixN_lit, Pd.fdn, Pd.fmn, Pd.fdl, Pd.fml, Cm.i, Pd.tFo_eq, Pd.tLC_eq, Pd.e_tNv, ↓Pd.got_eqI, Pd.gotI_some, Pd.gotI_none, Pd.sizeS, Pd.sIx0, Pd.dfltI, Pd.e_iZ, Pd.e_tAu, Pd.e_tCM, Pd.e_tCMT, Pd.e_tCh, t_law_within_so_11, m_law_like, ratD, List.lookup, beq_bt]
    refine likeI (by simp [scal]) (by simp) ?_
    simp [Pd.e_tSq, Pd.e_tSqW, Pd.e_tSt, Pd.e_tPm, Pd.asgs, Pd.asg, Pd.escape, Pd.e_tCoB, Pd.e_tCo, Pd.e_tN, Pd.e_tV, Pd.e_tK, Pd.e_tOp2, Pd.e_tOp1, Pd.e_two, Pd.e_one, Pd.content, Pd.slotD, R.seal, Pd.e_ans, Pd.e_tBo, Pd.e_tAn, Pd.e_tOr_, Pd.e_tNo, Pd.e_tAnV, Pd.e_tOrV, Pd.e_tNoV, Pd.e_tIfD, Pd.e_tIfE, Pd.e_tRt, Pd.e_tRtN, Pd.e_tDr, Pd.e_tNx, Pd.e_tBk, Pd.e_tCt, Pd.e_tTr, Pd.truD, Pd.fin_val, Pd.fin_new, Pd.fin_al, Pd.retR, Pd.outsAt, Pd.entry, Pd.argSl, Mode.sl, Out.r, Sl.d, Sl.put, Pd.addD, Pd.intOp, Pd.mulD, Pd.negD, Pd.eqD, Pd.neD, Pd.cmD, Pd.dCm_int, Pd.dCm_str, Pd.dEq_nn, Pd.dEq_ii, Pd.dEq_bb, Pd.dEq_ss, Pd.eqOk_i, Pd.eqOk_b, Pd.eqOk_s, Pd.eqOk_n, Pd.cmOk_i, Pd.cmOk_s, Pd.e_tClI, Pd.passOk, Pd.ioS, Pd.apart, Pd.pass, Pd.pass1, Pd.putO, Pd.e_tL, Pd.e_tT, Pd.escapes, Pd.e_many, Pd.e_tBu, Pd.contents, Pd.lenD, Pd.intD, Pd.boolD, Pd.absD, Pd.listD, Pd.tupleD, Pd.isinD, Pd.allD, Pd.bools, Pd.bitsD, Pd.gcdD, Pd.ixD, Pd.isD, Pd.isNotD, Pd.e_tIsiT, Pd.tyName, Pd.isiT, Pd.tyNames, Pd.cellAt, Pd.putAt, Pd.e_tSI, Pd.e_tSF, Pd.e_tFl, Pd.putN, Pd.putX, Pd.e_tMk, Pd.e_tMkK, Pd.e_mkOkI, Pd.e_tClKI, Pd.ordK, R.isNon, D.lst?, D.int?, Pd.iterD, Pd.items, Pd.iterK, Pd.seqK, Pd.e_iSeq, Pd.e_iR1, Pd.e_iR2, Pd.e_gN, Pd.e_gCo, Pd.e_gNi, Pd.e_gT, Pd.e_settable, Pd.e_freeOf, Pd.wipeD, Pd.backD, Pd.back1, Pd.e_tSlc, Pd.slD, Pd.e_oN, Pd.e_oS, Pd.atI_nat, Pd.atI_lit, Pd.ixN_nat, Pd.ixN_lit, Pd.fdn, Pd.fmn, Pd.fdl, Pd.fml, Cm.i, Pd.tFo_eq, Pd.tLC_eq, Pd.e_tNv, ↓Pd.got_eqI, Pd.gotI_some, Pd.gotI_none, Pd.sizeS, Pd.sIx0, Pd.dfltI, Pd.e_iZ, Pd.e_tAu, Pd.e_tCM, Pd.e_tCMT, Pd.e_tCh, hE]
    exact hq _ (hb1.mono (by omega))
theorem r_law_within_so : Rd_law_within_so := by
  rintro ds q - ⟨d, n, rfl, hb, hn, hq⟩
  simp [t_law_within_so, m_law_pair, m_law_great, Pd.e_tSq, Pd.e_tSqW, Pd.e_tSt, Pd.e_tPm, Pd.asgs, Pd.asg, Pd.escape, Pd.e_tCoB, Pd.e_tCo, Pd.e_tN, Pd.e_tV, Pd.e_tK, Pd.e_tOp2, Pd.e_tOp1, Pd.e_two, Pd.e_one, Pd.content, Pd.slotD, R.seal, Pd.e_ans, Pd.e_tBo, Pd.e_tAn, Pd.e_tOr_, Pd.e_tNo, Pd.e_tAnV, Pd.e_tOrV, Pd.e_tNoV, Pd.e_tIfD, Pd.e_tIfE, Pd.e_tRt, Pd.e_tRtN, Pd.e_tDr, Pd.e_tNx, Pd.e_tBk, Pd.e_tCt, Pd.e_tTr, Pd.truD, Pd.fin_val, Pd.fin_new, Pd.fin_al, Pd.retR, Pd.outsAt, Pd.entry, Pd.argSl, Mode.sl, Out.r, Sl.d, Sl.put, Pd.addD, Pd.intOp, Pd.mulD, Pd.negD, Pd.eqD, Pd.neD, Pd.cmD, Pd.dCm_int, Pd.dCm_str, Pd.dEq_nn, Pd.dEq_ii, Pd.dEq_bb, Pd.dEq_ss, Pd.eqOk_i, Pd.eqOk_b, Pd.eqOk_s, Pd.eqOk_n, Pd.cmOk_i, Pd.cmOk_s, Pd.e_tClI, Pd.passOk, Pd.ioS, Pd.apart, Pd.pass, Pd.pass1, Pd.putO, Pd.e_tL, Pd.e_tT, Pd.escapes, Pd.e_many, Pd.e_tBu, Pd.contents, Pd.lenD, Pd.intD, Pd.boolD, Pd.absD, Pd.listD, Pd.tupleD, Pd.isinD, Pd.allD, Pd.bools, Pd.bitsD, Pd.gcdD, Pd.ixD, Pd.isD, Pd.isNotD, Pd.e_tIsiT, Pd.tyName, Pd.isiT, Pd.tyNames, Pd.cellAt, Pd.putAt, Pd.e_tSI, Pd.e_tSF, Pd.e_tFl, Pd.putN, Pd.putX, Pd.e_tMk, Pd.e_tMkK, Pd.e_mkOkI, Pd.e_tClKI, Pd.ordK, R.isNon, D.lst?, D.int?, Pd.iterD, Pd.items, Pd.iterK, Pd.seqK, Pd.e_iSeq, Pd.e_iR1, Pd.e_iR2, Pd.e_gN, Pd.e_gCo, Pd.e_gNi, Pd.e_gT, Pd.e_settable, Pd.e_freeOf, Pd.wipeD, Pd.backD, Pd.back1, Pd.e_tSlc, Pd.slD, Pd.e_oN, Pd.e_oS, Pd.atI_nat, Pd.atI_lit, Pd.ixN_nat, Pd.ixN_lit, Pd.fdn, Pd.fmn, Pd.fdl, Pd.fml, Cm.i, Pd.tFo_eq, Pd.tLC_eq, Pd.e_tNv, ↓Pd.got_eqI, Pd.gotI_some, Pd.gotI_none, Pd.sizeS, Pd.sIx0, Pd.dfltI, Pd.e_iZ, Pd.e_tAu, Pd.e_tCM, Pd.e_tCMT, Pd.e_tCh]
  refine pairI hb (by omega) fun d1 t b hb1 ht b0 b1 hg => ?_
  simp [Pd.e_tSq, Pd.e_tSqW, Pd.e_tSt, Pd.e_tPm, Pd.asgs, Pd.asg, Pd.escape, Pd.e_tCoB, Pd.e_tCo, Pd.e_tN, Pd.e_tV, Pd.e_tK, Pd.e_tOp2, Pd.e_tOp1, Pd.e_two, Pd.e_one, Pd.content, Pd.slotD, R.seal, Pd.e_ans, Pd.e_tBo, Pd.e_tAn, Pd.e_tOr_, Pd.e_tNo, Pd.e_tAnV, Pd.e_tOrV, Pd.e_tNoV, Pd.e_tIfD, Pd.e_tIfE, Pd.e_tRt, Pd.e_tRtN, Pd.e_tDr, Pd.e_tNx, Pd.e_tBk, Pd.e_tCt, Pd.e_tTr, Pd.truD, Pd.fin_val, Pd.fin_new, Pd.fin_al, Pd.retR, Pd.outsAt, Pd.entry, Pd.argSl, Mode.sl, Out.r, Sl.d, Sl.put, Pd.addD, Pd.intOp, Pd.mulD, Pd.negD, Pd.eqD, Pd.neD, Pd.cmD, Pd.dCm_int, Pd.dCm_str, Pd.dEq_nn, Pd.dEq_ii, Pd.dEq_bb, Pd.dEq_ss, Pd.eqOk_i, Pd.eqOk_b, Pd.eqOk_s, Pd.eqOk_n, Pd.cmOk_i, Pd.cmOk_s, Pd.e_tClI, Pd.passOk, Pd.ioS, Pd.apart, Pd.pass, Pd.pass1, Pd.putO, Pd.e_tL, Pd.e_tT, Pd.escapes, Pd.e_many, Pd.e_tBu, Pd.contents, Pd.lenD, Pd.intD, Pd.boolD, Pd.absD, Pd.listD, Pd.tupleD, Pd.isinD, Pd.allD, Pd.bools, Pd.bitsD, Pd.gcdD, Pd.ixD, Pd.isD, Pd.isNotD, Pd.e_tIsiT, Pd.tyName, Pd.isiT, Pd.tyNames, Pd.cellAt, Pd.putAt, Pd.e_tSI, Pd.e_tSF, Pd.e_tFl, Pd.putN, Pd.putX, Pd.e_tMk, Pd.e_tMkK, Pd.e_mkOkI, Pd.e_tClKI, Pd.ordK, R.isNon, D.lst?, D.int?, Pd.iterD, Pd.items, Pd.iterK, Pd.seqK, Pd.e_iSeq, Pd.e_iR1, Pd.e_iR2, Pd.e_gN, Pd.e_gCo, Pd.e_gNi, Pd.e_gT, Pd.e_settable, Pd.e_freeOf, Pd.wipeD, Pd.backD, Pd.back1, Pd.e_tSlc, Pd.slD, Pd.e_oN, Pd.e_oS, Pd.atI_nat, Pd.atI_lit, Pd.ixN_nat, Pd.ixN_lit, Pd.fdn, Pd.fmn, Pd.fdl, Pd.fml, Cm.i, Pd.tFo_eq, Pd.tLC_eq, Pd.e_tNv, ↓Pd.got_eqI, Pd.gotI_some, Pd.gotI_none, Pd.sizeS, Pd.sIx0, Pd.dfltI, Pd.e_iZ, Pd.e_tAu, Pd.e_tCM, Pd.e_tCMT, Pd.e_tCh]
  refine great hb1 (by omega) fun d2 k hb2 hk => ?_
  have hk2 : k < 2 ^ 130 := Nat.lt_of_lt_of_le hk (by decide)
  have l1 : ∀ j, j ≤ 7 → k ^ j < 2 ^ 1000 := fun j hj => by
    have l2 : k ^ j ≤ (2 ^ 130) ^ j := Nat.pow_le_pow_left (Nat.le_of_lt hk2) j
    rw [← Nat.pow_mul] at l2
    exact Nat.lt_of_le_of_lt l2 (Nat.pow_lt_pow_right (by decide) (by omega))
  have k12 : k < 2 ^ 1200 := Nat.lt_trans hk2 (Nat.pow_lt_pow_right (by decide) (by decide))
  simp [t_law_within_so_2, m_Ratio_init, Pd.e_tSq, Pd.e_tSqW, Pd.e_tSt, Pd.e_tPm, Pd.asgs, Pd.asg, Pd.escape, Pd.e_tCoB, Pd.e_tCo, Pd.e_tN, Pd.e_tV, Pd.e_tK, Pd.e_tOp2, Pd.e_tOp1, Pd.e_two, Pd.e_one, Pd.content, Pd.slotD, R.seal, Pd.e_ans, Pd.e_tBo, Pd.e_tAn, Pd.e_tOr_, Pd.e_tNo, Pd.e_tAnV, Pd.e_tOrV, Pd.e_tNoV, Pd.e_tIfD, Pd.e_tIfE, Pd.e_tRt, Pd.e_tRtN, Pd.e_tDr, Pd.e_tNx, Pd.e_tBk, Pd.e_tCt, Pd.e_tTr, Pd.truD, Pd.fin_val, Pd.fin_new, Pd.fin_al, Pd.retR, Pd.outsAt, Pd.entry, Pd.argSl, Mode.sl, Out.r, Sl.d, Sl.put, Pd.addD, Pd.intOp, Pd.mulD, Pd.negD, Pd.eqD, Pd.neD, Pd.cmD, Pd.dCm_int, Pd.dCm_str, Pd.dEq_nn, Pd.dEq_ii, Pd.dEq_bb, Pd.dEq_ss, Pd.eqOk_i, Pd.eqOk_b, Pd.eqOk_s, Pd.eqOk_n, Pd.cmOk_i, Pd.cmOk_s, Pd.e_tClI, Pd.passOk, Pd.ioS, Pd.apart, Pd.pass, Pd.pass1, Pd.putO, Pd.e_tL, Pd.e_tT, Pd.escapes, Pd.e_many, Pd.e_tBu, Pd.contents, Pd.lenD, Pd.intD, Pd.boolD, Pd.absD, Pd.listD, Pd.tupleD, Pd.isinD, Pd.allD, Pd.bools, Pd.bitsD, Pd.gcdD, Pd.ixD, Pd.isD, Pd.isNotD, Pd.e_tIsiT, Pd.tyName, Pd.isiT, Pd.tyNames, Pd.cellAt, Pd.putAt, Pd.e_tSI, Pd.e_tSF, Pd.e_tFl, Pd.putN, Pd.putX, Pd.e_tMk, Pd.e_tMkK, Pd.e_mkOkI, Pd.e_tClKI, Pd.ordK, R.isNon, D.lst?, D.int?, Pd.iterD, Pd.items, Pd.iterK, Pd.seqK, Pd.e_iSeq, Pd.e_iR1, Pd.e_iR2, Pd.e_gN, Pd.e_gCo, Pd.e_gNi, Pd.e_gT, Pd.e_settable, Pd.e_freeOf, Pd.wipeD, Pd.backD, Pd.back1, Pd.e_tSlc, Pd.slD, Pd.e_oN, Pd.e_oS, Pd.atI_nat, Pd.atI_lit, Pd.ixN_nat, Pd.ixN_lit, Pd.fdn, Pd.fmn, Pd.fdl, Pd.fml, Cm.i, Pd.tFo_eq, Pd.tLC_eq, Pd.e_tNv, ↓Pd.got_eqI, Pd.gotI_some, Pd.gotI_none, Pd.sizeS, Pd.sIx0, Pd.dfltI, Pd.e_iZ, Pd.e_tAu, Pd.e_tCM, Pd.e_tCMT, Pd.e_tCh]
  refine ratI b0 hg ?_
  simp [Pd.e_tSq, Pd.e_tSqW, Pd.e_tSt, Pd.e_tPm, Pd.asgs, Pd.asg, Pd.escape, Pd.e_tCoB, Pd.e_tCo, Pd.e_tN, Pd.e_tV, Pd.e_tK, Pd.e_tOp2, Pd.e_tOp1, Pd.e_two, Pd.e_one, Pd.content, Pd.slotD, R.seal, Pd.e_ans, Pd.e_tBo, Pd.e_tAn, Pd.e_tOr_, Pd.e_tNo, Pd.e_tAnV, Pd.e_tOrV, Pd.e_tNoV, Pd.e_tIfD, Pd.e_tIfE, Pd.e_tRt, Pd.e_tRtN, Pd.e_tDr, Pd.e_tNx, Pd.e_tBk, Pd.e_tCt, Pd.e_tTr, Pd.truD, Pd.fin_val, Pd.fin_new, Pd.fin_al, Pd.retR, Pd.outsAt, Pd.entry, Pd.argSl, Mode.sl, Out.r, Sl.d, Sl.put, Pd.addD, Pd.intOp, Pd.mulD, Pd.negD, Pd.eqD, Pd.neD, Pd.cmD, Pd.dCm_int, Pd.dCm_str, Pd.dEq_nn, Pd.dEq_ii, Pd.dEq_bb, Pd.dEq_ss, Pd.eqOk_i, Pd.eqOk_b, Pd.eqOk_s, Pd.eqOk_n, Pd.cmOk_i, Pd.cmOk_s, Pd.e_tClI, Pd.passOk, Pd.ioS, Pd.apart, Pd.pass, Pd.pass1, Pd.putO, Pd.e_tL, Pd.e_tT, Pd.escapes, Pd.e_many, Pd.e_tBu, Pd.contents, Pd.lenD, Pd.intD, Pd.boolD, Pd.absD, Pd.listD, Pd.tupleD, Pd.isinD, Pd.allD, Pd.bools, Pd.bitsD, Pd.gcdD, Pd.ixD, Pd.isD, Pd.isNotD, Pd.e_tIsiT, Pd.tyName, Pd.isiT, Pd.tyNames, Pd.cellAt, Pd.putAt, Pd.e_tSI, Pd.e_tSF, Pd.e_tFl, Pd.putN, Pd.putX, Pd.e_tMk, Pd.e_tMkK, Pd.e_mkOkI, Pd.e_tClKI, Pd.ordK, R.isNon, D.lst?, D.int?, Pd.iterD, Pd.items, Pd.iterK, Pd.seqK, Pd.e_iSeq, Pd.e_iR1, Pd.e_iR2, Pd.e_gN, Pd.e_gCo, Pd.e_gNi, Pd.e_gT, Pd.e_settable, Pd.e_freeOf, Pd.wipeD, Pd.backD, Pd.back1, Pd.e_tSlc, Pd.slD, Pd.e_oN, Pd.e_oS, Pd.atI_nat, Pd.atI_lit, Pd.ixN_nat, Pd.ixN_lit, Pd.fdn, Pd.fmn, Pd.fdl, Pd.fml, Cm.i, Pd.tFo_eq, Pd.tLC_eq, Pd.e_tNv, ↓Pd.got_eqI, Pd.gotI_some, Pd.gotI_none, Pd.sizeS, Pd.sIx0, Pd.dfltI, Pd.e_iZ, Pd.e_tAu, Pd.e_tCM, Pd.e_tCMT, Pd.e_tCh]
  refine ⟨[.io d2, .un, .un, .un, .val _, .val _, .un], ratD t b, rfl, ?_⟩
  have hw2 := l1 _ ht
  simp [t_law_within_so_3, m_law_power, m_law_least, Pd.e_tSq, Pd.e_tSqW, Pd.e_tSt, Pd.e_tPm, Pd.asgs, Pd.asg, Pd.escape, Pd.e_tCoB, Pd.e_tCo, Pd.e_tN, Pd.e_tV, Pd.e_tK, Pd.e_tOp2, Pd.e_tOp1, Pd.e_two, Pd.e_one, Pd.content, Pd.slotD, R.seal, Pd.e_ans, Pd.e_tBo, Pd.e_tAn, Pd.e_tOr_, Pd.e_tNo, Pd.e_tAnV, Pd.e_tOrV, Pd.e_tNoV, Pd.e_tIfD, Pd.e_tIfE, Pd.e_tRt, Pd.e_tRtN, Pd.e_tDr, Pd.e_tNx, Pd.e_tBk, Pd.e_tCt, Pd.e_tTr, Pd.truD, Pd.fin_val, Pd.fin_new, Pd.fin_al, Pd.retR, Pd.outsAt, Pd.entry, Pd.argSl, Mode.sl, Out.r, Sl.d, Sl.put, Pd.addD, Pd.intOp, Pd.mulD, Pd.negD, Pd.eqD, Pd.neD, Pd.cmD, Pd.dCm_int, Pd.dCm_str, Pd.dEq_nn, Pd.dEq_ii, Pd.dEq_bb, Pd.dEq_ss, Pd.eqOk_i, Pd.eqOk_b, Pd.eqOk_s, Pd.eqOk_n, Pd.cmOk_i, Pd.cmOk_s, Pd.e_tClI, Pd.passOk, Pd.ioS, Pd.apart, Pd.pass, Pd.pass1, Pd.putO, Pd.e_tL, Pd.e_tT, Pd.escapes, Pd.e_many, Pd.e_tBu, Pd.contents, Pd.lenD, Pd.intD, Pd.boolD, Pd.absD, Pd.listD, Pd.tupleD, Pd.isinD, Pd.allD, Pd.bools, Pd.bitsD, Pd.gcdD, Pd.ixD, Pd.isD, Pd.isNotD, Pd.e_tIsiT, Pd.tyName, Pd.isiT, Pd.tyNames, Pd.cellAt, Pd.putAt, Pd.e_tSI, Pd.e_tSF, Pd.e_tFl, Pd.putN, Pd.putX, Pd.e_tMk, Pd.e_tMkK, Pd.e_mkOkI, Pd.e_tClKI, Pd.ordK, R.isNon, D.lst?, D.int?, Pd.iterD, Pd.items, Pd.iterK, Pd.seqK, Pd.e_iSeq, Pd.e_iR1, Pd.e_iR2, Pd.e_gN, Pd.e_gCo, Pd.e_gNi, Pd.e_gT, Pd.e_settable, Pd.e_freeOf, Pd.wipeD, Pd.backD, Pd.back1, Pd.e_tSlc, Pd.slD, Pd.e_oN, Pd.e_oS, Pd.atI_nat, Pd.atI_lit, Pd.ixN_nat, Pd.ixN_lit, Pd.fdn, Pd.fmn, Pd.fdl, Pd.fml, Cm.i, Pd.tFo_eq, Pd.tLC_eq, Pd.e_tNv, ↓Pd.got_eqI, Pd.gotI_some, Pd.gotI_none, Pd.sizeS, Pd.sIx0, Pd.dfltI, Pd.e_iZ, Pd.e_tAu, Pd.e_tCM, Pd.e_tCMT, Pd.e_tCh]
  refine pwL2 k12 (by omega) ?_
  generalize hw : k ^ t = w at hw2 ⊢
  simp [Pd.e_tSq, Pd.e_tSqW, Pd.e_tSt, Pd.e_tPm, Pd.asgs, Pd.asg, Pd.escape, Pd.e_tCoB, Pd.e_tCo, Pd.e_tN, Pd.e_tV, Pd.e_tK, Pd.e_tOp2, Pd.e_tOp1, Pd.e_two, Pd.e_one, Pd.content, Pd.slotD, R.seal, Pd.e_ans, Pd.e_tBo, Pd.e_tAn, Pd.e_tOr_, Pd.e_tNo, Pd.e_tAnV, Pd.e_tOrV, Pd.e_tNoV, Pd.e_tIfD, Pd.e_tIfE, Pd.e_tRt, Pd.e_tRtN, Pd.e_tDr, Pd.e_tNx, Pd.e_tBk, Pd.e_tCt, Pd.e_tTr, Pd.truD, Pd.fin_val, Pd.fin_new, Pd.fin_al, Pd.retR, Pd.outsAt, Pd.entry, Pd.argSl, Mode.sl, Out.r, Sl.d, Sl.put, Pd.addD, Pd.intOp, Pd.mulD, Pd.negD, Pd.eqD, Pd.neD, Pd.cmD, Pd.dCm_int, Pd.dCm_str, Pd.dEq_nn, Pd.dEq_ii, Pd.dEq_bb, Pd.dEq_ss, Pd.eqOk_i, Pd.eqOk_b, Pd.eqOk_s, Pd.eqOk_n, Pd.cmOk_i, Pd.cmOk_s, Pd.e_tClI, Pd.passOk, Pd.ioS, Pd.apart, Pd.pass, Pd.pass1, Pd.putO, Pd.e_tL, Pd.e_tT, Pd.escapes, Pd.e_many, Pd.e_tBu, Pd.contents, Pd.lenD, Pd.intD, Pd.boolD, Pd.absD, Pd.listD, Pd.tupleD, Pd.isinD, Pd.allD, Pd.bools, Pd.bitsD, Pd.gcdD, Pd.ixD, Pd.isD, Pd.isNotD, Pd.e_tIsiT, Pd.tyName, Pd.isiT, Pd.tyNames, Pd.cellAt, Pd.putAt, Pd.e_tSI, Pd.e_tSF, Pd.e_tFl, Pd.putN, Pd.putX, Pd.e_tMk, Pd.e_tMkK, Pd.e_mkOkI, Pd.e_tClKI, Pd.ordK, R.isNon, D.lst?, D.int?, Pd.iterD, Pd.items, Pd.iterK, Pd.seqK, Pd.e_iSeq, Pd.e_iR1, Pd.e_iR2, Pd.e_gN, Pd.e_gCo, Pd.e_gNi, Pd.e_gT, Pd.e_settable, Pd.e_freeOf, Pd.wipeD, Pd.backD, Pd.back1, Pd.e_tSlc, Pd.slD, Pd.e_oN, Pd.e_oS, Pd.atI_nat, Pd.atI_lit, Pd.ixN_nat, Pd.ixN_lit, Pd.fdn, Pd.fmn, Pd.fdl, Pd.fml, Cm.i, Pd.tFo_eq, Pd.tLC_eq, Pd.e_tNv, ↓Pd.got_eqI, Pd.gotI_some, Pd.gotI_none, Pd.sizeS, Pd.sIx0, Pd.dfltI, Pd.e_iZ, Pd.e_tAu, Pd.e_tCM, Pd.e_tCMT, Pd.e_tCh]
  have w12 : w < 2 ^ 1200 := Nat.lt_trans hw2 (Nat.pow_lt_pow_right (by decide) (by decide))
  refine lleastI b0 (by omega) w12 fun r hr => ?_
  have hrw : r < 2 ^ 1000 := Nat.lt_of_le_of_lt (root_le b0 hr) hw2
  simp [t_law_within_so_4, m_law_great, Pd.e_tSq, Pd.e_tSqW, Pd.e_tSt, Pd.e_tPm, Pd.asgs, Pd.asg, Pd.escape, Pd.e_tCoB, Pd.e_tCo, Pd.e_tN, Pd.e_tV, Pd.e_tK, Pd.e_tOp2, Pd.e_tOp1, Pd.e_two, Pd.e_one, Pd.content, Pd.slotD, R.seal, Pd.e_ans, Pd.e_tBo, Pd.e_tAn, Pd.e_tOr_, Pd.e_tNo, Pd.e_tAnV, Pd.e_tOrV, Pd.e_tNoV, Pd.e_tIfD, Pd.e_tIfE, Pd.e_tRt, Pd.e_tRtN, Pd.e_tDr, Pd.e_tNx, Pd.e_tBk, Pd.e_tCt, Pd.e_tTr, Pd.truD, Pd.fin_val, Pd.fin_new, Pd.fin_al, Pd.retR, Pd.outsAt, Pd.entry, Pd.argSl, Mode.sl, Out.r, Sl.d, Sl.put, Pd.addD, Pd.intOp, Pd.mulD, Pd.negD, Pd.eqD, Pd.neD, Pd.cmD, Pd.dCm_int, Pd.dCm_str, Pd.dEq_nn, Pd.dEq_ii, Pd.dEq_bb, Pd.dEq_ss, Pd.eqOk_i, Pd.eqOk_b, Pd.eqOk_s, Pd.eqOk_n, Pd.cmOk_i, Pd.cmOk_s, Pd.e_tClI, Pd.passOk, Pd.ioS, Pd.apart, Pd.pass, Pd.pass1, Pd.putO, Pd.e_tL, Pd.e_tT, Pd.escapes, Pd.e_many, Pd.e_tBu, Pd.contents, Pd.lenD, Pd.intD, Pd.boolD, Pd.absD, Pd.listD, Pd.tupleD, Pd.isinD, Pd.allD, Pd.bools, Pd.bitsD, Pd.gcdD, Pd.ixD, Pd.isD, Pd.isNotD, Pd.e_tIsiT, Pd.tyName, Pd.isiT, Pd.tyNames, Pd.cellAt, Pd.putAt, Pd.e_tSI, Pd.e_tSF, Pd.e_tFl, Pd.putN, Pd.putX, Pd.e_tMk, Pd.e_tMkK, Pd.e_mkOkI, Pd.e_tClKI, Pd.ordK, R.isNon, D.lst?, D.int?, Pd.iterD, Pd.items, Pd.iterK, Pd.seqK, Pd.e_iSeq, Pd.e_iR1, Pd.e_iR2, Pd.e_gN, Pd.e_gCo, Pd.e_gNi, Pd.e_gT, Pd.e_settable, Pd.e_freeOf, Pd.wipeD, Pd.backD, Pd.back1, Pd.e_tSlc, Pd.slD, Pd.e_oN, Pd.e_oS, Pd.atI_nat, Pd.atI_lit, Pd.ixN_nat, Pd.ixN_lit, Pd.fdn, Pd.fmn, Pd.fdl, Pd.fml, Cm.i, Pd.tFo_eq, Pd.tLC_eq, Pd.e_tNv, ↓Pd.got_eqI, Pd.gotI_some, Pd.gotI_none, Pd.sizeS, Pd.sIx0, Pd.dfltI, Pd.e_iZ, Pd.e_tAu, Pd.e_tCM, Pd.e_tCMT, Pd.e_tCh]
  have w0 : ∀ w : Nat, w < 2 ^ 1200 → ∃ w' : Nat, D.int w = .int w' ∧ w' < 2 ^ 1200 := fun w h => ⟨w, rfl, h⟩
  have p12 : 2 ^ 1000 + 1 < 2 ^ 1200 := Nat.lt_of_le_of_lt (show 2 ^ 1000 + 1 ≤ 2 ^ 1001 from Nat.pow_lt_pow_right (by decide) (by decide)) (Nat.pow_lt_pow_right (by decide) (by decide))
  have r12 : r + 1 < 2 ^ 1200 := by omega
  by_cases h0 : 0 < r
  · simp only [h0, if_true]
    refine great hb2 (by omega) fun d3 x hb3 hx => ?_
    have x12 : x < 2 ^ 1200 := Nat.lt_trans (Nat.lt_of_lt_of_le hx (show 10 ^ 39 ≤ 2 ^ 130 by decide)) (Nat.pow_lt_pow_right (by decide) (by decide))
    simp [Pd.e_tSq, Pd.e_tSqW, Pd.e_tSt, Pd.e_tPm, Pd.asgs, Pd.asg, Pd.escape, Pd.e_tCoB, Pd.e_tCo, Pd.e_tN, Pd.e_tV, Pd.e_tK, Pd.e_tOp2, Pd.e_tOp1, Pd.e_two, Pd.e_one, Pd.content, Pd.slotD, R.seal, Pd.e_ans, Pd.e_tBo, Pd.e_tAn, Pd.e_tOr_, Pd.e_tNo, Pd.e_tAnV, Pd.e_tOrV, Pd.e_tNoV, Pd.e_tIfD, Pd.e_tIfE, Pd.e_tRt, Pd.e_tRtN, Pd.e_tDr, Pd.e_tNx, Pd.e_tBk, Pd.e_tCt, Pd.e_tTr, Pd.truD, Pd.fin_val, Pd.fin_new, Pd.fin_al, Pd.retR, Pd.outsAt, Pd.entry, Pd.argSl, Mode.sl, Out.r, Sl.d, Sl.put, Pd.addD, Pd.intOp, Pd.mulD, Pd.negD, Pd.eqD, Pd.neD, Pd.cmD, Pd.dCm_int, Pd.dCm_str, Pd.dEq_nn, Pd.dEq_ii, Pd.dEq_bb, Pd.dEq_ss, Pd.eqOk_i, Pd.eqOk_b, Pd.eqOk_s, Pd.eqOk_n, Pd.cmOk_i, Pd.cmOk_s, Pd.e_tClI, Pd.passOk, Pd.ioS, Pd.apart, Pd.pass, Pd.pass1, Pd.putO, Pd.e_tL, Pd.e_tT, Pd.escapes, Pd.e_many, Pd.e_tBu, Pd.contents, Pd.lenD, Pd.intD, Pd.boolD, Pd.absD, Pd.listD, Pd.tupleD, Pd.isinD, Pd.allD, Pd.bools, Pd.bitsD, Pd.gcdD, Pd.ixD, Pd.isD, Pd.isNotD, Pd.e_tIsiT, Pd.tyName, Pd.isiT, Pd.tyNames, Pd.cellAt, Pd.putAt, Pd.e_tSI, Pd.e_tSF, Pd.e_tFl, Pd.putN, Pd.putX, Pd.e_tMk, Pd.e_tMkK, Pd.e_mkOkI, Pd.e_tClKI, Pd.ordK, R.isNon, D.lst?, D.int?, Pd.iterD, Pd.items, Pd.iterK, Pd.seqK, Pd.e_iSeq, Pd.e_iR1, Pd.e_iR2, Pd.e_gN, Pd.e_gCo, Pd.e_gNi, Pd.e_gT, Pd.e_settable, Pd.e_freeOf, Pd.wipeD, Pd.backD, Pd.back1, Pd.e_tSlc, Pd.slD, Pd.e_oN, Pd.e_oS, Pd.atI_nat, Pd.atI_lit, Pd.ixN_nat, Pd.ixN_lit, Pd.fdn, Pd.fmn, Pd.fdl, Pd.fml, Cm.i, Pd.tFo_eq, Pd.tLC_eq, Pd.e_tNv, ↓Pd.got_eqI, Pd.gotI_some, Pd.gotI_none, Pd.sizeS, Pd.sIx0, Pd.dfltI, Pd.e_iZ, Pd.e_tAu, Pd.e_tCM, Pd.e_tCMT, Pd.e_tCh]
    refine with_loop (n := n) (hb3.mono (by omega)) ht b0 b1 k12 (fun y hy => ?_) rfl (fun d m u v hb hm hu hv => with_end rfl hb hn ht b0 b1 hm hu hv hq) _ rfl _ rfl
    simp at hy
    rcases hy with rfl | rfl | rfl | rfl | rfl | rfl | rfl
    · exact w0 _ (by omega)
    · exact ⟨r + 1, by simp, r12⟩
    · exact ⟨r - 1, by rw [Int.natCast_sub h0]; rfl, by omega⟩
    · exact w0 0 (by omega)
    · exact w0 1 (by omega)
    · exact w0 _ k12
    · exact w0 _ x12
  · simp only [h0, if_false]
    refine great hb2 (by omega) fun d3 x hb3 hx => ?_
    have x12 : x < 2 ^ 1200 := Nat.lt_trans (Nat.lt_of_lt_of_le hx (show 10 ^ 39 ≤ 2 ^ 130 by decide)) (Nat.pow_lt_pow_right (by decide) (by decide))
    simp [Pd.e_tSq, Pd.e_tSqW, Pd.e_tSt, Pd.e_tPm, Pd.asgs, Pd.asg, Pd.escape, Pd.e_tCoB, Pd.e_tCo, Pd.e_tN, Pd.e_tV, Pd.e_tK, Pd.e_tOp2, Pd.e_tOp1, Pd.e_two, Pd.e_one, Pd.content, Pd.slotD, R.seal, Pd.e_ans, Pd.e_tBo, Pd.e_tAn, Pd.e_tOr_, Pd.e_tNo, Pd.e_tAnV, Pd.e_tOrV, Pd.e_tNoV, Pd.e_tIfD, Pd.e_tIfE, Pd.e_tRt, Pd.e_tRtN, Pd.e_tDr, Pd.e_tNx, Pd.e_tBk, Pd.e_tCt, Pd.e_tTr, Pd.truD, Pd.fin_val, Pd.fin_new, Pd.fin_al, Pd.retR, Pd.outsAt, Pd.entry, Pd.argSl, Mode.sl, Out.r, Sl.d, Sl.put, Pd.addD, Pd.intOp, Pd.mulD, Pd.negD, Pd.eqD, Pd.neD, Pd.cmD, Pd.dCm_int, Pd.dCm_str, Pd.dEq_nn, Pd.dEq_ii, Pd.dEq_bb, Pd.dEq_ss, Pd.eqOk_i, Pd.eqOk_b, Pd.eqOk_s, Pd.eqOk_n, Pd.cmOk_i, Pd.cmOk_s, Pd.e_tClI, Pd.passOk, Pd.ioS, Pd.apart, Pd.pass, Pd.pass1, Pd.putO, Pd.e_tL, Pd.e_tT, Pd.escapes, Pd.e_many, Pd.e_tBu, Pd.contents, Pd.lenD, Pd.intD, Pd.boolD, Pd.absD, Pd.listD, Pd.tupleD, Pd.isinD, Pd.allD, Pd.bools, Pd.bitsD, Pd.gcdD, Pd.ixD, Pd.isD, Pd.isNotD, Pd.e_tIsiT, Pd.tyName, Pd.isiT, Pd.tyNames, Pd.cellAt, Pd.putAt, Pd.e_tSI, Pd.e_tSF, Pd.e_tFl, Pd.putN, Pd.putX, Pd.e_tMk, Pd.e_tMkK, Pd.e_mkOkI, Pd.e_tClKI, Pd.ordK, R.isNon, D.lst?, D.int?, Pd.iterD, Pd.items, Pd.iterK, Pd.seqK, Pd.e_iSeq, Pd.e_iR1, Pd.e_iR2, Pd.e_gN, Pd.e_gCo, Pd.e_gNi, Pd.e_gT, Pd.e_settable, Pd.e_freeOf, Pd.wipeD, Pd.backD, Pd.back1, Pd.e_tSlc, Pd.slD, Pd.e_oN, Pd.e_oS, Pd.atI_nat, Pd.atI_lit, Pd.ixN_nat, Pd.ixN_lit, Pd.fdn, Pd.fmn, Pd.fdl, Pd.fml, Cm.i, Pd.tFo_eq, Pd.tLC_eq, Pd.e_tNv, ↓Pd.got_eqI, Pd.gotI_some, Pd.gotI_none, Pd.sizeS, Pd.sIx0, Pd.dfltI, Pd.e_iZ, Pd.e_tAu, Pd.e_tCM, Pd.e_tCMT, Pd.e_tCh]
    refine with_loop (n := n) (hb3.mono (by omega)) ht b0 b1 k12 (fun y hy => ?_) rfl (fun d m u v hb hm hu hv => with_end rfl hb hn ht b0 b1 hm hu hv hq) _ rfl _ rfl
    simp at hy
    rcases hy with rfl | rfl | rfl | rfl | rfl | rfl
    · exact w0 _ (by omega)
    · exact ⟨r + 1, by simp, r12⟩
    · exact w0 0 (by omega)
    · exact w0 1 (by omega)
    · exact w0 _ k12
    · exact w0 _ x12
def LawP (ns : List Int) (i : Nat) (e : Pd.Env) : Prop := i ≤ 5 ∧ ∃ (d : D) (u : Sl), BagOk (3000 * i) d ∧ slU u ∧ e = [.val (.rol (ns.map D.int)), .own d, u]
theorem soI {n m : Nat} {d : D} {q : List D → R → Prop} (hb : BagOk n d) (hn : n < 2 ^ 40) (h : ∀ d' : D, BagOk (n + m) d' → q [d'] (.val (.bl true))) : sp_so m [d] q := ⟨d, n, rfl, hb, hn, h⟩
theorem r_law : Rd_law := by
  rintro ds q - ⟨ns, rfl, hq⟩
  simp [t_law, m_law, m_law_bag, m_law_roots_so, m_law_powers_so, m_law_within_so, Pd.e_tSq, Pd.e_tSqW, Pd.e_tSt, Pd.e_tPm, Pd.asgs, Pd.asg, Pd.escape, Pd.e_tCoB, Pd.e_tCo, Pd.e_tN, Pd.e_tV, Pd.e_tK, Pd.e_tOp2, Pd.e_tOp1, Pd.e_two, Pd.e_one, Pd.content, Pd.slotD, R.seal, Pd.e_ans, Pd.e_tBo, Pd.e_tAn, Pd.e_tOr_, Pd.e_tNo, Pd.e_tAnV, Pd.e_tOrV, Pd.e_tNoV, Pd.e_tIfD, Pd.e_tIfE, Pd.e_tRt, Pd.e_tRtN, Pd.e_tDr, Pd.e_tNx, Pd.e_tBk, Pd.e_tCt, Pd.e_tTr, Pd.truD, Pd.fin_val, Pd.fin_new, Pd.fin_al, Pd.retR, Pd.outsAt, Pd.entry, Pd.argSl, Mode.sl, Out.r, Sl.d, Sl.put, Pd.addD, Pd.intOp, Pd.mulD, Pd.negD, Pd.eqD, Pd.neD, Pd.cmD, Pd.dCm_int, Pd.dCm_str, Pd.dEq_nn, Pd.dEq_ii, Pd.dEq_bb, Pd.dEq_ss, Pd.eqOk_i, Pd.eqOk_b, Pd.eqOk_s, Pd.eqOk_n, Pd.cmOk_i, Pd.cmOk_s, Pd.e_tClI, Pd.passOk, Pd.ioS, Pd.apart, Pd.pass, Pd.pass1, Pd.putO, Pd.e_tL, Pd.e_tT, Pd.escapes, Pd.e_many, Pd.e_tBu, Pd.contents, Pd.lenD, Pd.intD, Pd.boolD, Pd.absD, Pd.listD, Pd.tupleD, Pd.isinD, Pd.allD, Pd.bools, Pd.bitsD, Pd.gcdD, Pd.ixD, Pd.isD, Pd.isNotD, Pd.e_tIsiT, Pd.tyName, Pd.isiT, Pd.tyNames, Pd.cellAt, Pd.putAt, Pd.e_tSI, Pd.e_tSF, Pd.e_tFl, Pd.putN, Pd.putX, Pd.e_tMk, Pd.e_tMkK, Pd.e_mkOkI, Pd.e_tClKI, Pd.ordK, R.isNon, D.lst?, D.int?, Pd.iterD, Pd.items, Pd.iterK, Pd.seqK, Pd.e_iSeq, Pd.e_iR1, Pd.e_iR2, Pd.e_gN, Pd.e_gCo, Pd.e_gNi, Pd.e_gT, Pd.e_settable, Pd.e_freeOf, Pd.wipeD, Pd.backD, Pd.back1, Pd.e_tSlc, Pd.slD, Pd.e_oN, Pd.e_oS, Pd.atI_nat, Pd.atI_lit, Pd.ixN_nat, Pd.ixN_lit, Pd.fdn, Pd.fmn, Pd.fdl, Pd.fml, Cm.i, Pd.tFo_eq, Pd.tLC_eq, Pd.e_tNv, ↓Pd.got_eqI, Pd.gotI_some, Pd.gotI_none, Pd.sizeS, Pd.sIx0, Pd.dfltI, Pd.e_iZ, Pd.e_tAu, Pd.e_tCM, Pd.e_tCMT, Pd.e_tCh]
  refine ⟨ns, rfl, fun d hb => ?_⟩
  simp [t_law_2, Pd.e_tSq, Pd.e_tSqW, Pd.e_tSt, Pd.e_tPm, Pd.asgs, Pd.asg, Pd.escape, Pd.e_tCoB, Pd.e_tCo, Pd.e_tN, Pd.e_tV, Pd.e_tK, Pd.e_tOp2, Pd.e_tOp1, Pd.e_two, Pd.e_one, Pd.content, Pd.slotD, R.seal, Pd.e_ans, Pd.e_tBo, Pd.e_tAn, Pd.e_tOr_, Pd.e_tNo, Pd.e_tAnV, Pd.e_tOrV, Pd.e_tNoV, Pd.e_tIfD, Pd.e_tIfE, Pd.e_tRt, Pd.e_tRtN, Pd.e_tDr, Pd.e_tNx, Pd.e_tBk, Pd.e_tCt, Pd.e_tTr, Pd.truD, Pd.fin_val, Pd.fin_new, Pd.fin_al, Pd.retR, Pd.outsAt, Pd.entry, Pd.argSl, Mode.sl, Out.r, Sl.d, Sl.put, Pd.addD, Pd.intOp, Pd.mulD, Pd.negD, Pd.eqD, Pd.neD, Pd.cmD, Pd.dCm_int, Pd.dCm_str, Pd.dEq_nn, Pd.dEq_ii, Pd.dEq_bb, Pd.dEq_ss, Pd.eqOk_i, Pd.eqOk_b, Pd.eqOk_s, Pd.eqOk_n, Pd.cmOk_i, Pd.cmOk_s, Pd.e_tClI, Pd.passOk, Pd.ioS, Pd.apart, Pd.pass, Pd.pass1, Pd.putO, Pd.e_tL, Pd.e_tT, Pd.escapes, Pd.e_many, Pd.e_tBu, Pd.contents, Pd.lenD, Pd.intD, Pd.boolD, Pd.absD, Pd.listD, Pd.tupleD, Pd.isinD, Pd.allD, Pd.bools, Pd.bitsD, Pd.gcdD, Pd.ixD, Pd.isD, Pd.isNotD, Pd.e_tIsiT, Pd.tyName, Pd.isiT, Pd.tyNames, Pd.cellAt, Pd.putAt, Pd.e_tSI, Pd.e_tSF, Pd.e_tFl, Pd.putN, Pd.putX, Pd.e_tMk, Pd.e_tMkK, Pd.e_mkOkI, Pd.e_tClKI, Pd.ordK, R.isNon, D.lst?, D.int?, Pd.iterD, Pd.items, Pd.iterK, Pd.seqK, Pd.e_iSeq, Pd.e_iR1, Pd.e_iR2, Pd.e_gN, Pd.e_gCo, Pd.e_gNi, Pd.e_gT, Pd.e_settable, Pd.e_freeOf, Pd.wipeD, Pd.backD, Pd.back1, Pd.e_tSlc, Pd.slD, Pd.e_oN, Pd.e_oS, Pd.atI_nat, Pd.atI_lit, Pd.ixN_nat, Pd.ixN_lit, Pd.fdn, Pd.fmn, Pd.fdl, Pd.fml, Cm.i, Pd.tFo_eq, Pd.tLC_eq, Pd.e_tNv, ↓Pd.got_eqI, Pd.gotI_some, Pd.gotI_none, Pd.sizeS, Pd.sIx0, Pd.dfltI, Pd.e_iZ, Pd.e_tAu, Pd.e_tCM, Pd.e_tCMT, Pd.e_tCh]
  refine ⟨⟨by decide, by decide⟩, LawP ns, ⟨by omega, d, .un, hb.mono (by omega), .inl rfl, rfl⟩, ?_, ?_⟩
  · rintro i _ _ hd ⟨hi, d, u, hb, hu, rfl⟩
    obtain ⟨rfl, hi⟩ := rangeD_get hd
    rcases hu with rfl | ⟨z, rfl⟩
    all_goals
      simp [m_law_roots_so, m_law_powers_so, m_law_within_so, Pd.e_tSq, Pd.e_tSqW, Pd.e_tSt, Pd.e_tPm, Pd.asgs, Pd.asg, Pd.escape, Pd.e_tCoB, Pd.e_tCo, Pd.e_tN, Pd.e_tV, Pd.e_tK, Pd.e_tOp2, Pd.e_tOp1, Pd.e_two, Pd.e_one, Pd.content, Pd.slotD, R.seal, Pd.e_ans, Pd.e_tBo, Pd.e_tAn, Pd.e_tOr_, Pd.e_tNo, Pd.e_tAnV, Pd.e_tOrV, Pd.e_tNoV, Pd.e_tIfD, Pd.e_tIfE, Pd.e_tRt, Pd.e_tRtN, Pd.e_tDr, Pd.e_tNx, Pd.e_tBk, Pd.e_tCt, Pd.e_tTr, Pd.truD, Pd.fin_val, Pd.fin_new, Pd.fin_al, Pd.retR, Pd.outsAt, Pd.entry, Pd.argSl, Mode.sl, Out.r, Sl.d, Sl.put, Pd.addD, Pd.intOp, Pd.mulD, Pd.negD, Pd.eqD, Pd.neD, Pd.cmD, Pd.dCm_int, Pd.dCm_str, Pd.dEq_nn, Pd.dEq_ii, Pd.dEq_bb, Pd.dEq_ss, Pd.eqOk_i, Pd.eqOk_b, Pd.eqOk_s, Pd.eqOk_n, Pd.cmOk_i, Pd.cmOk_s, Pd.e_tClI, Pd.passOk, Pd.ioS, Pd.apart, Pd.pass, Pd.pass1, Pd.putO, Pd.e_tL, Pd.e_tT, Pd.escapes, Pd.e_many, Pd.e_tBu, Pd.contents, Pd.lenD, Pd.intD, Pd.boolD, Pd.absD, Pd.listD, Pd.tupleD, Pd.isinD, Pd.allD, Pd.bools, Pd.bitsD, Pd.gcdD, Pd.ixD, Pd.isD, Pd.isNotD, Pd.e_tIsiT, Pd.tyName, Pd.isiT, Pd.tyNames, Pd.cellAt, Pd.putAt, Pd.e_tSI, Pd.e_tSF, Pd.e_tFl, Pd.putN, Pd.putX, Pd.e_tMk, Pd.e_tMkK, Pd.e_mkOkI, Pd.e_tClKI, Pd.ordK, R.isNon, D.lst?, D.int?, Pd.iterD, Pd.items, Pd.iterK, Pd.seqK, Pd.e_iSeq, Pd.e_iR1, Pd.e_iR2, Pd.e_gN, Pd.e_gCo, Pd.e_gNi, Pd.e_gT, Pd.e_settable, Pd.e_freeOf, Pd.wipeD, Pd.backD, Pd.back1, Pd.e_tSlc, Pd.slD, Pd.e_oN, Pd.e_oS, Pd.atI_nat, Pd.atI_lit, Pd.ixN_nat, Pd.ixN_lit, Pd.fdn, Pd.fmn, Pd.fdl, Pd.fml, Cm.i, Pd.tFo_eq, Pd.tLC_eq, Pd.e_tNv, ↓Pd.got_eqI, Pd.gotI_some, Pd.gotI_none, Pd.sizeS, Pd.sIx0, Pd.dfltI, Pd.e_iZ, Pd.e_tAu, Pd.e_tCM, Pd.e_tCMT, Pd.e_tCh]
      refine soI hb (by omega) fun d1 hb1 => ?_
      simp [Pd.e_tSq, Pd.e_tSqW, Pd.e_tSt, Pd.e_tPm, Pd.asgs, Pd.asg, Pd.escape, Pd.e_tCoB, Pd.e_tCo, Pd.e_tN, Pd.e_tV, Pd.e_tK, Pd.e_tOp2, Pd.e_tOp1, Pd.e_two, Pd.e_one, Pd.content, Pd.slotD, R.seal, Pd.e_ans, Pd.e_tBo, Pd.e_tAn, Pd.e_tOr_, Pd.e_tNo, Pd.e_tAnV, Pd.e_tOrV, Pd.e_tNoV, Pd.e_tIfD, Pd.e_tIfE, Pd.e_tRt, Pd.e_tRtN, Pd.e_tDr, Pd.e_tNx, Pd.e_tBk, Pd.e_tCt, Pd.e_tTr, Pd.truD, Pd.fin_val, Pd.fin_new, Pd.fin_al, Pd.retR, Pd.outsAt, Pd.entry, Pd.argSl, Mode.sl, Out.r, Sl.d, Sl.put, Pd.addD, Pd.intOp, Pd.mulD, Pd.negD, Pd.eqD, Pd.neD, Pd.cmD, Pd.dCm_int, Pd.dCm_str, Pd.dEq_nn, Pd.dEq_ii, Pd.dEq_bb, Pd.dEq_ss, Pd.eqOk_i, Pd.eqOk_b, Pd.eqOk_s, Pd.eqOk_n, Pd.cmOk_i, Pd.cmOk_s, Pd.e_tClI, Pd.passOk, Pd.ioS, Pd.apart, Pd.pass, Pd.pass1, Pd.putO, Pd.e_tL, Pd.e_tT, Pd.escapes, Pd.e_many, Pd.e_tBu, Pd.contents, Pd.lenD, Pd.intD, Pd.boolD, Pd.absD, Pd.listD, Pd.tupleD, Pd.isinD, Pd.allD, Pd.bools, Pd.bitsD, Pd.gcdD, Pd.ixD, Pd.isD, Pd.isNotD, Pd.e_tIsiT, Pd.tyName, Pd.isiT, Pd.tyNames, Pd.cellAt, Pd.putAt, Pd.e_tSI, Pd.e_tSF, Pd.e_tFl, Pd.putN, Pd.putX, Pd.e_tMk, Pd.e_tMkK, Pd.e_mkOkI, Pd.e_tClKI, Pd.ordK, R.isNon, D.lst?, D.int?, Pd.iterD, Pd.items, Pd.iterK, Pd.seqK, Pd.e_iSeq, Pd.e_iR1, Pd.e_iR2, Pd.e_gN, Pd.e_gCo, Pd.e_gNi, Pd.e_gT, Pd.e_settable, Pd.e_freeOf, Pd.wipeD, Pd.backD, Pd.back1, Pd.e_tSlc, Pd.slD, Pd.e_oN, Pd.e_oS, Pd.atI_nat, Pd.atI_lit, Pd.ixN_nat, Pd.ixN_lit, Pd.fdn, Pd.fmn, Pd.fdl, Pd.fml, Cm.i, Pd.tFo_eq, Pd.tLC_eq, Pd.e_tNv, ↓Pd.got_eqI, Pd.gotI_some, Pd.gotI_none, Pd.sizeS, Pd.sIx0, Pd.dfltI, Pd.e_iZ, Pd.e_tAu, Pd.e_tCM, Pd.e_tCMT, Pd.e_tCh]
      refine soI hb1 (by omega) fun d2 hb2 => ?_
      simp [Pd.e_tSq, Pd.e_tSqW, Pd.e_tSt, Pd.e_tPm, Pd.asgs, Pd.asg, Pd.escape, Pd.e_tCoB, Pd.e_tCo, Pd.e_tN, Pd.e_tV, Pd.e_tK, Pd.e_tOp2, Pd.e_tOp1, Pd.e_two, Pd.e_one, Pd.content, Pd.slotD, R.seal, Pd.e_ans, Pd.e_tBo, Pd.e_tAn, Pd.e_tOr_, Pd.e_tNo, Pd.e_tAnV, Pd.e_tOrV, Pd.e_tNoV, Pd.e_tIfD, Pd.e_tIfE, Pd.e_tRt, Pd.e_tRtN, Pd.e_tDr, Pd.e_tNx, Pd.e_tBk, Pd.e_tCt, Pd.e_tTr, Pd.truD, Pd.fin_val, Pd.fin_new, Pd.fin_al, Pd.retR, Pd.outsAt, Pd.entry, Pd.argSl, Mode.sl, Out.r, Sl.d, Sl.put, Pd.addD, Pd.intOp, Pd.mulD, Pd.negD, Pd.eqD, Pd.neD, Pd.cmD, Pd.dCm_int, Pd.dCm_str, Pd.dEq_nn, Pd.dEq_ii, Pd.dEq_bb, Pd.dEq_ss, Pd.eqOk_i, Pd.eqOk_b, Pd.eqOk_s, Pd.eqOk_n, Pd.cmOk_i, Pd.cmOk_s, Pd.e_tClI, Pd.passOk, Pd.ioS, Pd.apart, Pd.pass, Pd.pass1, Pd.putO, Pd.e_tL, Pd.e_tT, Pd.escapes, Pd.e_many, Pd.e_tBu, Pd.contents, Pd.lenD, Pd.intD, Pd.boolD, Pd.absD, Pd.listD, Pd.tupleD, Pd.isinD, Pd.allD, Pd.bools, Pd.bitsD, Pd.gcdD, Pd.ixD, Pd.isD, Pd.isNotD, Pd.e_tIsiT, Pd.tyName, Pd.isiT, Pd.tyNames, Pd.cellAt, Pd.putAt, Pd.e_tSI, Pd.e_tSF, Pd.e_tFl, Pd.putN, Pd.putX, Pd.e_tMk, Pd.e_tMkK, Pd.e_mkOkI, Pd.e_tClKI, Pd.ordK, R.isNon, D.lst?, D.int?, Pd.iterD, Pd.items, Pd.iterK, Pd.seqK, Pd.e_iSeq, Pd.e_iR1, Pd.e_iR2, Pd.e_gN, Pd.e_gCo, Pd.e_gNi, Pd.e_gT, Pd.e_settable, Pd.e_freeOf, Pd.wipeD, Pd.backD, Pd.back1, Pd.e_tSlc, Pd.slD, Pd.e_oN, Pd.e_oS, Pd.atI_nat, Pd.atI_lit, Pd.ixN_nat, Pd.ixN_lit, Pd.fdn, Pd.fmn, Pd.fdl, Pd.fml, Cm.i, Pd.tFo_eq, Pd.tLC_eq, Pd.e_tNv, ↓Pd.got_eqI, Pd.gotI_some, Pd.gotI_none, Pd.sizeS, Pd.sIx0, Pd.dfltI, Pd.e_iZ, Pd.e_tAu, Pd.e_tCM, Pd.e_tCMT, Pd.e_tCh]
      refine soI hb2 (by omega) fun d3 hb3 => ?_
      simp [Pd.e_tSq, Pd.e_tSqW, Pd.e_tSt, Pd.e_tPm, Pd.asgs, Pd.asg, Pd.escape, Pd.e_tCoB, Pd.e_tCo, Pd.e_tN, Pd.e_tV, Pd.e_tK, Pd.e_tOp2, Pd.e_tOp1, Pd.e_two, Pd.e_one, Pd.content, Pd.slotD, R.seal, Pd.e_ans, Pd.e_tBo, Pd.e_tAn, Pd.e_tOr_, Pd.e_tNo, Pd.e_tAnV, Pd.e_tOrV, Pd.e_tNoV, Pd.e_tIfD, Pd.e_tIfE, Pd.e_tRt, Pd.e_tRtN, Pd.e_tDr, Pd.e_tNx, Pd.e_tBk, Pd.e_tCt, Pd.e_tTr, Pd.truD, Pd.fin_val, Pd.fin_new, Pd.fin_al, Pd.retR, Pd.outsAt, Pd.entry, Pd.argSl, Mode.sl, Out.r, Sl.d, Sl.put, Pd.addD, Pd.intOp, Pd.mulD, Pd.negD, Pd.eqD, Pd.neD, Pd.cmD, Pd.dCm_int, Pd.dCm_str, Pd.dEq_nn, Pd.dEq_ii, Pd.dEq_bb, Pd.dEq_ss, Pd.eqOk_i, Pd.eqOk_b, Pd.eqOk_s, Pd.eqOk_n, Pd.cmOk_i, Pd.cmOk_s, Pd.e_tClI, Pd.passOk, Pd.ioS, Pd.apart, Pd.pass, Pd.pass1, Pd.putO, Pd.e_tL, Pd.e_tT, Pd.escapes, Pd.e_many, Pd.e_tBu, Pd.contents, Pd.lenD, Pd.intD, Pd.boolD, Pd.absD, Pd.listD, Pd.tupleD, Pd.isinD, Pd.allD, Pd.bools, Pd.bitsD, Pd.gcdD, Pd.ixD, Pd.isD, Pd.isNotD, Pd.e_tIsiT, Pd.tyName, Pd.isiT, Pd.tyNames, Pd.cellAt, Pd.putAt, Pd.e_tSI, Pd.e_tSF, Pd.e_tFl, Pd.putN, Pd.putX, Pd.e_tMk, Pd.e_tMkK, Pd.e_mkOkI, Pd.e_tClKI, Pd.ordK, R.isNon, D.lst?, D.int?, Pd.iterD, Pd.items, Pd.iterK, Pd.seqK, Pd.e_iSeq, Pd.e_iR1, Pd.e_iR2, Pd.e_gN, Pd.e_gCo, Pd.e_gNi, Pd.e_gT, Pd.e_settable, Pd.e_freeOf, Pd.wipeD, Pd.backD, Pd.back1, Pd.e_tSlc, Pd.slD, Pd.e_oN, Pd.e_oS, Pd.atI_nat, Pd.atI_lit, Pd.ixN_nat, Pd.ixN_lit, Pd.fdn, Pd.fmn, Pd.fdl, Pd.fml, Cm.i, Pd.tFo_eq, Pd.tLC_eq, Pd.e_tNv, ↓Pd.got_eqI, Pd.gotI_some, Pd.gotI_none, Pd.sizeS, Pd.sIx0, Pd.dfltI, Pd.e_iZ, Pd.e_tAu, Pd.e_tCM, Pd.e_tCMT, Pd.e_tCh]
      exact ⟨by omega, d3, .val (.int i), hb3.mono (by omega), .inr ⟨_, rfl⟩, rfl⟩
  · rintro _ ⟨hi, d, u, hb, hu, rfl⟩
    simp [Pd.e_tSq, Pd.e_tSqW, Pd.e_tSt, Pd.e_tPm, Pd.asgs, Pd.asg, Pd.escape, Pd.e_tCoB, Pd.e_tCo, Pd.e_tN, Pd.e_tV, Pd.e_tK, Pd.e_tOp2, Pd.e_tOp1, Pd.e_two, Pd.e_one, Pd.content, Pd.slotD, R.seal, Pd.e_ans, Pd.e_tBo, Pd.e_tAn, Pd.e_tOr_, Pd.e_tNo, Pd.e_tAnV, Pd.e_tOrV, Pd.e_tNoV, Pd.e_tIfD, Pd.e_tIfE, Pd.e_tRt, Pd.e_tRtN, Pd.e_tDr, Pd.e_tNx, Pd.e_tBk, Pd.e_tCt, Pd.e_tTr, Pd.truD, Pd.fin_val, Pd.fin_new, Pd.fin_al, Pd.retR, Pd.outsAt, Pd.entry, Pd.argSl, Mode.sl, Out.r, Sl.d, Sl.put, Pd.addD, Pd.intOp, Pd.mulD, Pd.negD, Pd.eqD, Pd.neD, Pd.cmD, Pd.dCm_int, Pd.dCm_str, Pd.dEq_nn, Pd.dEq_ii, Pd.dEq_bb, Pd.dEq_ss, Pd.eqOk_i, Pd.eqOk_b, Pd.eqOk_s, Pd.eqOk_n, Pd.cmOk_i, Pd.cmOk_s, Pd.e_tClI, Pd.passOk, Pd.ioS, Pd.apart, Pd.pass, Pd.pass1, Pd.putO, Pd.e_tL, Pd.e_tT, Pd.escapes, Pd.e_many, Pd.e_tBu, Pd.contents, Pd.lenD, Pd.intD, Pd.boolD, Pd.absD, Pd.listD, Pd.tupleD, Pd.isinD, Pd.allD, Pd.bools, Pd.bitsD, Pd.gcdD, Pd.ixD, Pd.isD, Pd.isNotD, Pd.e_tIsiT, Pd.tyName, Pd.isiT, Pd.tyNames, Pd.cellAt, Pd.putAt, Pd.e_tSI, Pd.e_tSF, Pd.e_tFl, Pd.putN, Pd.putX, Pd.e_tMk, Pd.e_tMkK, Pd.e_mkOkI, Pd.e_tClKI, Pd.ordK, R.isNon, D.lst?, D.int?, Pd.iterD, Pd.items, Pd.iterK, Pd.seqK, Pd.e_iSeq, Pd.e_iR1, Pd.e_iR2, Pd.e_gN, Pd.e_gCo, Pd.e_gNi, Pd.e_gT, Pd.e_settable, Pd.e_freeOf, Pd.wipeD, Pd.backD, Pd.back1, Pd.e_tSlc, Pd.slD, Pd.e_oN, Pd.e_oS, Pd.atI_nat, Pd.atI_lit, Pd.ixN_nat, Pd.ixN_lit, Pd.fdn, Pd.fmn, Pd.fdl, Pd.fml, Cm.i, Pd.tFo_eq, Pd.tLC_eq, Pd.e_tNv, ↓Pd.got_eqI, Pd.gotI_some, Pd.gotI_none, Pd.sizeS, Pd.sIx0, Pd.dfltI, Pd.e_iZ, Pd.e_tAu, Pd.e_tCM, Pd.e_tCMT, Pd.e_tCh]
    exact hq

end LW

set_option Elab.async false
set_option linter.all false
set_option maxRecDepth 100000
set_option maxHeartbeats 0
namespace LW
open PySem PySem.Spec PyProof.Rows L2 Pd
/-- what the head tells -/
structure Ctx (K : PySem.W.Frag) (mg : Str → Option Value) : Prop where
  ex : ∃ h : Heap, K.In h ∧ h.Ns mainGlobals mg ∧ PdH.SaysX bi fa fn K
section
variable {K : PySem.W.Frag} {mg : Str → Option Value}
theorem Ctx.glo (C : Ctx K mg) (i : Nat) {x : Str} (e : fa[i]? = some (.glo x)) : mg x = some (.ref (He.ga K x)) := let ⟨_, X, G, c⟩ := C.ex; He.glo_ok X G (c.d.fact i e)
theorem Ctx.free (C : Ctx K mg) (i : Nat) {x : Str} (e : fa[i]? = some (.free x)) : mg x = none := let ⟨_, X, G, c⟩ := C.ex; He.free_ok X G (c.d.fact i e)
theorem Ctx.int (C : Ctx K mg) (i : Nat) {x : Str} {z : Int} (e : fa[i]? = some (.int x z)) : ∃ t, mg x = some (.int z t) := let ⟨_, X, G, c⟩ := C.ex; He.int_ok X G (c.d.fact i e)
theorem Ctx.str (C : Ctx K mg) (i : Nat) {x z : Str} (e : fa[i]? = some (.str x z)) : ∃ t, mg x = some (.str z t) := let ⟨_, X, G, c⟩ := C.ex; He.str_ok X G (c.d.fact i e)
theorem Ctx.cls (C : Ctx K mg) (i : Nat) {x : Str} (e : fa[i]? = some (.cls x)) : Cls K (He.ga K x) := let ⟨_, X, G, c⟩ := C.ex; He.cls_ok (c.d.fact i e)
theorem Ctx.noat (C : Ctx K mg) (i : Nat) {x f : Str} (e : fa[i]? = some (.noat x f)) : NoAttr K (He.ga K x) f := let ⟨_, X, G, c⟩ := C.ex; He.noat_ok (c.d.fact i e)
theorem Ctx.mkr (C : Ctx K mg) (i : Nat) {x : Str} (e : fa[i]? = some (.mkr x)) : Mk K (He.ga K x) (He.ma K (He.ga K x) "__init__") := let ⟨_, X, G, c⟩ := C.ex; He.mkr_ok (c.d.fact i e)
theorem Ctx.bi (C : Ctx K mg) (i : Nat) {p : Str × String} (e : bi[i]? = some p) : mg p.1 = some (.builtin p.2) := let ⟨_, X, G, c⟩ := C.ex; PdH.bi_ok X G (c.bi i e)
theorem Ctx.fn (C : Ctx K mg) (i : Nat) {d : He.DefD} (e : fn[i]? = some d) : ∃ fd, FunD K d.name d.qual d.params d.body d.scope (d.dvs K) (d.kws K) (He.fAd K d.at_) fd := let ⟨_, X, G, c⟩ := C.ex; c.d.def_ i e
end
section
variable {P : Program} {w : World} {K : PySem.W.Frag} {mg : Str → Option Value} {base : Heap}
theorem g_is_whole (Cc : Ctx K mg) : ∃ fd, FunD K "is_whole" "is_whole" (defArgs s_is_whole) (defBody s_is_whole) (defScope s_is_whole) [] [] (He.ga K "is_whole") fd ∧ FnOk P w K mg base CX0 1 (He.ga K "is_whole") fd ["value"] (liftSp K m_is_whole sp_is_whole) := by
  obtain ⟨fd, F⟩ : ∃ fd, FunD K "is_whole" "is_whole" (defArgs s_is_whole) (defBody s_is_whole) (defScope s_is_whole) [] [] (He.ga K "is_whole") fd := Cc.fn 0 rfl
  refine ⟨fd, F, ?_⟩
  have sc : FnScope ["value"] ["value"] (defScope s_is_whole) := ⟨rfl, rfl, rfl, by decide +kernel, rfl, by decide +kernel, by decide +kernel⟩
  exact fn_ok2 F sc 0 rfl rfl fun cdv A outer s H E hr => ⟨t_is_whole, (ys_one (y_ret (x_and (x_bu call_isi cd_isin rfl (Cc.free 28 rfl) (by decide +kernel) (xa_cons (xv 0) (xa_cons (x_ty rfl (Cc.free 27 rfl) (by decide +kernel)) xa_nil))) (x_one (x_not (x_bu call_isi cd_isin rfl (Cc.free 28 rfl) (by decide +kernel) (xa_cons (xv 0) (xa_cons (x_ty rfl (Cc.free 25 rfl) (by decide +kernel)) xa_nil)))))))), r_is_whole⟩
theorem g_Ratio_init (Cc : Ctx K mg) : ∃ fd, FunD K "__init__" "Ratio.__init__" (defArgs s_Ratio_init) (defBody s_Ratio_init) (defScope s_Ratio_init) [(.int 1)] [] (He.ma K (He.ga K "Ratio") "__init__") fd ∧ FnOk P w K mg base CX0 2 (He.ma K (He.ga K "Ratio") "__init__") fd ["self", "top", "bottom"] (liftSp K m_Ratio_init sp_Ratio_init) := by
  obtain ⟨fd, F⟩ : ∃ fd, FunD K "__init__" "Ratio.__init__" (defArgs s_Ratio_init) (defBody s_Ratio_init) (defScope s_Ratio_init) [(.int 1)] [] (He.ma K (He.ga K "Ratio") "__init__") fd := Cc.fn 1 rfl
  refine ⟨fd, F, ?_⟩
  have sc : FnScope ["self", "top", "bottom", "common"] ["self", "top", "bottom"] (defScope s_Ratio_init) := ⟨rfl, rfl, rfl, by decide +kernel, rfl, by decide +kernel, by decide +kernel⟩
  obtain ⟨fd_is_whole, F_is_whole, ok_is_whole⟩ := g_is_whole (P := P) (w := w) (base := base) Cc
  exact fn_ok2 F sc 1 rfl rfl fun cdv A outer s H E hr => ⟨t_Ratio_init, (ys_cons (y_if (xt_not (xt_val (x_call (dds := []) ok_is_whole (hr.mono (by decide)) rfl (Cc.glo 0 rfl) F_is_whole.kp (F_is_whole.bindsN fun _ _ _ _ _ _ us hl => match us, hl with | [_], _ => rfl) .nil (fun _ _ => .nil) (xa_cons (xv 1) xa_nil)))) (ys_one y_never) ys_nil) (ys_cons (y_if (xt_w (xw_or (xt_not (xt_val (x_call (dds := []) ok_is_whole (hr.mono (by decide)) rfl (Cc.glo 0 rfl) F_is_whole.kp (F_is_whole.bindsN fun _ _ _ _ _ _ us hl => match us, hl with | [_], _ => rfl) .nil (fun _ _ => .nil) (xa_cons (xv 2) xa_nil)))) (xw_or1 (xt_eq hr.units (xv 2) x_int)))) (ys_one y_never) ys_nil) (ys_cons (y_set (i := 3) sc.nd (x_ifE (xt_gt hr.units (xv 2) x_int) (x_bfun cr_gcd cd_gcd rfl (Cc.bi 0 rfl) (xa_cons (xv 1) (xa_cons (xv 2) xa_nil))) (x_neg (x_bfun cr_gcd cd_gcd rfl (Cc.bi 0 rfl) (xa_cons (xv 1) (xa_cons (xv 2) xa_nil)))))) (ys_cons (y_sf (i := 0) (Cc.cls 35 rfl) (Cc.noat 39 rfl) rfl (by first | exact Or.inl rfl | exact Or.inr (Or.inl rfl) | exact Or.inr (Or.inr rfl)) (x_fdiv (xv 1) (xv 3))) (ys_one (y_sf (i := 0) (Cc.cls 35 rfl) (Cc.noat 40 rfl) rfl (by first | exact Or.inl rfl | exact Or.inr (Or.inl rfl) | exact Or.inr (Or.inr rfl)) (x_fdiv (xv 2) (xv 3)))))))), r_Ratio_init⟩
theorem g_power (Cc : Ctx K mg) : ∃ fd, FunD K "_power" "_power" (defArgs s_power) (defBody s_power) (defScope s_power) [] [] (He.ga K "_power") fd ∧ FnOk P w K mg base CX0 1 (He.ga K "_power") fd ["base", "exponent"] (liftSp K m_power sp_power) := by
  obtain ⟨fd, F⟩ : ∃ fd, FunD K "_power" "_power" (defArgs s_power) (defBody s_power) (defScope s_power) [] [] (He.ga K "_power") fd := Cc.fn 2 rfl
  refine ⟨fd, F, ?_⟩
  have sc : FnScope ["base", "exponent", "found", "square", "left"] ["base", "exponent"] (defScope s_power) := ⟨rfl, rfl, rfl, by decide +kernel, rfl, by decide +kernel, by decide +kernel⟩
  exact fn_ok2 F sc 3 rfl rfl fun cdv A outer s H E hr => ⟨t_power, (ys_cons (y_par3 (i := 2) (j := 3) (l := 4) rfl sc.nd (hold_cons x_int (hold_cons (xv 0) (hold_cons (xv 1) hold_nil)))) (ys_cons (y_while PassesOwn.never (xt_gt hr.units (xv 4) x_int) (ys_cons (y_if (xt_eq hr.units (x_mod (xv 4) x_int) x_int) (ys_one (y_set (i := 2) sc.nd (x_mul (xv 2) (xv 3)))) ys_nil) (ys_cons (y_set (i := 4) sc.nd (x_fdiv (xv 4) x_int)) (ys_one (y_if (xt_gt hr.units (xv 4) x_int) (ys_one (y_set (i := 3) sc.nd (x_mul (xv 3) (xv 3)))) ys_nil))))) (ys_one (y_ret (xv 2))))), r_power⟩
theorem g_within_power (Cc : Ctx K mg) : ∃ fd, FunD K "within_power" "within_power" (defArgs s_within_power) (defBody s_within_power) (defScope s_within_power) [] [] (He.ga K "within_power") fd ∧ FnOk P w K mg base CX0 2 (He.ga K "within_power") fd ["count", "n", "exponent"] (liftSp K m_within_power sp_within_power) := by
  obtain ⟨fd, F⟩ : ∃ fd, FunD K "within_power" "within_power" (defArgs s_within_power) (defBody s_within_power) (defScope s_within_power) [] [] (He.ga K "within_power") fd := Cc.fn 3 rfl
  refine ⟨fd, F, ?_⟩
  have sc : FnScope ["count", "n", "exponent", "top", "bottom"] ["count", "n", "exponent"] (defScope s_within_power) := ⟨rfl, rfl, rfl, by decide +kernel, rfl, by decide +kernel, by decide +kernel⟩
  obtain ⟨fd_power, F_power, ok_power⟩ := g_power (P := P) (w := w) (base := base) Cc
  exact fn_ok2 F sc 2 rfl rfl fun cdv A outer s H E hr => ⟨t_within_power, (ys_cons (y_par2 (i := 3) (j := 4) rfl sc.nd (hold_cons (x_fld (Cc.cls 35 rfl) (Cc.noat 39 rfl) (xv 2)) (hold_cons (x_fld (Cc.cls 35 rfl) (Cc.noat 40 rfl) (xv 2)) hold_nil))) (ys_cons (y_if (xt_eq hr.units (xv 3) x_int) (ys_one (y_ret (x_le hr.units (xv 0) x_int))) ys_nil) (ys_cons (y_if (xt_w (xw_or (xt_le hr.units (xv 1) x_int) (xw_or1 (xt_le hr.units (xv 0) x_int)))) (ys_one (y_ret (x_le hr.units (xv 0) (xv 1)))) ys_nil) (ys_cons (y_if (xt_ge hr.units (x_mul (x_sub (x_bits (xv 0)) x_int) (xv 4)) (x_mul (x_bits (xv 1)) (xv 3))) (ys_one (y_ret x_bl)) ys_nil) (ys_cons (y_if (xt_le hr.units (x_mul (x_bits (xv 0)) (xv 4)) (x_mul (x_sub (x_bits (xv 1)) x_int) (xv 3))) (ys_one (y_ret x_bl)) ys_nil) (ys_one (y_ret (x_le hr.units (x_call (dds := []) ok_power (hr.mono (by decide)) rfl (Cc.glo 1 rfl) F_power.kp (F_power.bindsN fun _ _ _ _ _ _ us hl => match us, hl with | [_, _], _ => rfl) .nil (fun _ _ => .nil) (xa_cons (xv 0) (xa_cons (xv 4) xa_nil))) (x_call (dds := []) ok_power (hr.mono (by decide)) rfl (Cc.glo 1 rfl) F_power.kp (F_power.bindsN fun _ _ _ _ _ _ us hl => match us, hl with | [_, _], _ => rfl) .nil (fun _ _ => .nil) (xa_cons (xv 1) (xa_cons (xv 3) xa_nil))))))))))), r_within_power⟩
theorem g_lower_guess (Cc : Ctx K mg) : ∃ fd, FunD K "_lower_guess" "_lower_guess" (defArgs s_lower_guess) (defBody s_lower_guess) (defScope s_lower_guess) [] [] (He.ga K "_lower_guess") fd ∧ FnOk P w K mg base CX0 2 (He.ga K "_lower_guess") fd ["product", "many", "guess"] (liftSp K m_lower_guess sp_lower_guess) := by
  obtain ⟨fd, F⟩ : ∃ fd, FunD K "_lower_guess" "_lower_guess" (defArgs s_lower_guess) (defBody s_lower_guess) (defScope s_lower_guess) [] [] (He.ga K "_lower_guess") fd := Cc.fn 6 rfl
  refine ⟨fd, F, ?_⟩
  have sc : FnScope ["product", "many", "guess"] ["product", "many", "guess"] (defScope s_lower_guess) := ⟨rfl, rfl, rfl, by decide +kernel, rfl, by decide +kernel, by decide +kernel⟩
  obtain ⟨fd_power, F_power, ok_power⟩ := g_power (P := P) (w := w) (base := base) Cc
  exact fn_ok2 F sc 0 rfl rfl fun cdv A outer s H E hr => ⟨t_lower_guess, (ys_one (y_ret (x_fdiv (x_add (x_mul (x_sub (xv 1) x_int) (xv 2)) (x_fdiv (xv 0) (x_call (dds := []) ok_power (hr.mono (by decide)) rfl (Cc.glo 1 rfl) F_power.kp (F_power.bindsN fun _ _ _ _ _ _ us hl => match us, hl with | [_, _], _ => rfl) .nil (fun _ _ => .nil) (xa_cons (xv 2) (xa_cons (x_sub (xv 1) x_int) xa_nil))))) (xv 1)))), r_lower_guess⟩
theorem g_least_root (Cc : Ctx K mg) : ∃ fd, FunD K "least_root" "least_root" (defArgs s_least_root) (defBody s_least_root) (defScope s_least_root) [] [] (He.ga K "least_root") fd ∧ FnOk P w K mg base CX0 3 (He.ga K "least_root") fd ["product", "many"] (liftSp K m_least_root sp_least_root) := by
  obtain ⟨fd, F⟩ : ∃ fd, FunD K "least_root" "least_root" (defArgs s_least_root) (defBody s_least_root) (defScope s_least_root) [] [] (He.ga K "least_root") fd := Cc.fn 5 rfl
  refine ⟨fd, F, ?_⟩
  have sc : FnScope ["product", "many", "found", "lower"] ["product", "many"] (defScope s_least_root) := ⟨rfl, rfl, rfl, by decide +kernel, rfl, by decide +kernel, by decide +kernel⟩
  obtain ⟨fd_lower_guess, F_lower_guess, ok_lower_guess⟩ := g_lower_guess (P := P) (w := w) (base := base) Cc
  obtain ⟨fd_power, F_power, ok_power⟩ := g_power (P := P) (w := w) (base := base) Cc
  exact fn_ok2 F sc 2 rfl rfl fun cdv A outer s H E hr => ⟨t_least_root, (ys_cons (y_if (xt_le hr.units (xv 0) x_int) (ys_one (y_ret (xv 0))) ys_nil) (ys_cons (y_if (xt_ge hr.units (xv 1) (x_bits (xv 0))) (ys_one (y_ret x_int)) ys_nil) (ys_cons (y_set (i := 2) sc.nd (x_shl x_int (x_neg (x_fdiv (x_neg (x_bits (xv 0))) (xv 1))))) (ys_cons (y_set (i := 3) sc.nd (x_call (dds := []) ok_lower_guess (hr.mono (by decide)) rfl (Cc.glo 5 rfl) F_lower_guess.kp (F_lower_guess.bindsN fun _ _ _ _ _ _ us hl => match us, hl with | [_, _, _], _ => rfl) .nil (fun _ _ => .nil) (xa_cons (xv 0) (xa_cons (xv 1) (xa_cons (xv 2) xa_nil))))) (ys_cons (y_while PassesOwn.never (xt_lt hr.units (xv 3) (xv 2)) (ys_cons (y_set (i := 2) sc.nd (xv 3)) (ys_one (y_set (i := 3) sc.nd (x_call (dds := []) ok_lower_guess (hr.mono (by decide)) rfl (Cc.glo 5 rfl) F_lower_guess.kp (F_lower_guess.bindsN fun _ _ _ _ _ _ us hl => match us, hl with | [_, _, _], _ => rfl) .nil (fun _ _ => .nil) (xa_cons (xv 0) (xa_cons (xv 1) (xa_cons (xv 2) xa_nil)))))))) (ys_one (y_ret (x_ifE (xt_eq hr.units (x_call (dds := []) ok_power (hr.mono (by decide)) rfl (Cc.glo 1 rfl) F_power.kp (F_power.bindsN fun _ _ _ _ _ _ us hl => match us, hl with | [_, _], _ => rfl) .nil (fun _ _ => .nil) (xa_cons (xv 2) (xa_cons (xv 1) xa_nil))) (xv 0)) (xv 2) (x_add (xv 2) x_int))))))))), r_least_root⟩
theorem g_least_power (Cc : Ctx K mg) : ∃ fd, FunD K "least_power" "least_power" (defArgs s_least_power) (defBody s_least_power) (defScope s_least_power) [] [] (He.ga K "least_power") fd ∧ FnOk P w K mg base CX0 4 (He.ga K "least_power") fd ["n", "exponent"] (liftSp K m_least_power sp_least_power) := by
  obtain ⟨fd, F⟩ : ∃ fd, FunD K "least_power" "least_power" (defArgs s_least_power) (defBody s_least_power) (defScope s_least_power) [] [] (He.ga K "least_power") fd := Cc.fn 4 rfl
  refine ⟨fd, F, ?_⟩
  have sc : FnScope ["n", "exponent"] ["n", "exponent"] (defScope s_least_power) := ⟨rfl, rfl, rfl, by decide +kernel, rfl, by decide +kernel, by decide +kernel⟩
  obtain ⟨fd_least_root, F_least_root, ok_least_root⟩ := g_least_root (P := P) (w := w) (base := base) Cc
  obtain ⟨fd_power, F_power, ok_power⟩ := g_power (P := P) (w := w) (base := base) Cc
  exact fn_ok2 F sc 0 rfl rfl fun cdv A outer s H E hr => ⟨t_least_power, (ys_one (y_ret (x_call (dds := []) ok_least_root (hr.mono (by decide)) rfl (Cc.glo 4 rfl) F_least_root.kp (F_least_root.bindsN fun _ _ _ _ _ _ us hl => match us, hl with | [_, _], _ => rfl) .nil (fun _ _ => .nil) (xa_cons (x_call (dds := []) ok_power (hr.mono (by decide)) rfl (Cc.glo 1 rfl) F_power.kp (F_power.bindsN fun _ _ _ _ _ _ us hl => match us, hl with | [_, _], _ => rfl) .nil (fun _ _ => .nil) (xa_cons (xv 0) (xa_cons (x_fld (Cc.cls 35 rfl) (Cc.noat 39 rfl) (xv 1)) xa_nil))) (xa_cons (x_fld (Cc.cls 35 rfl) (Cc.noat 40 rfl) (xv 1)) xa_nil))))), r_least_power⟩
theorem g_law_bag (Cc : Ctx K mg) : ∃ fd, FunD K "_law_bag" "_law_bag" (defArgs s_law_bag) (defBody s_law_bag) (defScope s_law_bag) [] [] (He.ga K "_law_bag") fd ∧ FnOk P w K mg base CX0 1 (He.ga K "_law_bag") fd ["script"] (liftSp K m_law_bag sp_law_bag) := by
  obtain ⟨fd, F⟩ : ∃ fd, FunD K "_law_bag" "_law_bag" (defArgs s_law_bag) (defBody s_law_bag) (defScope s_law_bag) [] [] (He.ga K "_law_bag") fd := Cc.fn 7 rfl
  refine ⟨fd, F, ?_⟩
  have sc : FnScope ["script", "mix", "item"] ["script"] (defScope s_law_bag) := ⟨rfl, rfl, rfl, by decide +kernel, rfl, by decide +kernel, by decide +kernel⟩
  exact fn_ok2 F sc 2 rfl rfl fun cdv A outer s H E hr => ⟨t_law_bag, (ys_cons (y_set (i := 1) sc.nd (x_add x_int x_int)) (ys_cons (y_for PassesOwn.never rfl (xi_seq (x_slc (xv 0) xo_none (xo_some x_int))) (g_name (i := 2) sc.nd) (ys_one (y_set (i := 1) sc.nd (x_mod (x_bt call_int1 cd_int rfl (Cc.free 27 rfl) (by decide +kernel) (xa_cons (x_add (x_add (x_mul (xv 1) x_int) (x_mod (x_bt call_int1 cd_int rfl (Cc.free 27 rfl) (by decide +kernel) (xa_cons (xv 2) xa_nil)) x_int)) x_int) xa_nil)) x_int)))) (ys_one (y_ret (x_lst (xa_cons (x_bt call_list_of cd_list rfl (Cc.free 30 rfl) (by decide +kernel) (xa_cons (x_slc (xv 0) xo_none (xo_some x_int)) xa_nil)) (xa_cons x_int (xa_cons x_int (xa_cons (xv 1) (xa_cons x_int xa_nil)))))))))), r_law_bag⟩
theorem g_law_draw (Cc : Ctx K mg) : ∃ fd, FunD K "_law_draw" "_law_draw" (defArgs s_law_draw) (defBody s_law_draw) (defScope s_law_draw) [] [] (He.ga K "_law_draw") fd ∧ FnOk P w K mg base CX0 1 (He.ga K "_law_draw") fd ["bag", "size"] (liftSp K m_law_draw sp_law_draw) := by
  obtain ⟨fd, F⟩ : ∃ fd, FunD K "_law_draw" "_law_draw" (defArgs s_law_draw) (defBody s_law_draw) (defScope s_law_draw) [] [] (He.ga K "_law_draw") fd := Cc.fn 8 rfl
  refine ⟨fd, F, ?_⟩
  have sc : FnScope ["bag", "size", "item", "digit"] ["bag", "size"] (defScope s_law_draw) := ⟨rfl, rfl, rfl, by decide +kernel, rfl, by decide +kernel, by decide +kernel⟩
  exact fn_ok2 F sc 2 rfl rfl fun cdv A outer s H E hr => ⟨t_law_draw, (ys_cons (y_si (i := 0) rfl (by first | exact Or.inl rfl | exact Or.inr (Or.inl rfl) | exact Or.inr (Or.inr rfl)) (x_add (x_ix (xv 0) x_int) x_int) x_int) (ys_cons (y_if (xt_w (xw_and (xt_eq hr.units (x_ix (xv 0) x_int) x_int) (xw_and1 (xt_lt hr.units (x_ix (xv 0) x_int) (x_bu call_len cd_len rfl (Cc.free 29 rfl) (by decide +kernel) (xa_cons (x_ix (xv 0) x_int) xa_nil)))))) (ys_cons (y_set (i := 2) sc.nd (x_ix (x_ix (xv 0) x_int) (x_ix (xv 0) x_int))) (ys_cons (y_si (i := 0) rfl (by first | exact Or.inl rfl | exact Or.inr (Or.inl rfl) | exact Or.inr (Or.inr rfl)) (x_add (x_ix (xv 0) x_int) x_int) x_int) (ys_one (y_if (xt_ge hr.units (xv 2) (x_pow x_int x_int)) (ys_one (y_si (i := 0) rfl (by first | exact Or.inl rfl | exact Or.inr (Or.inl rfl) | exact Or.inr (Or.inr rfl)) (xv 2) x_int)) (ys_one (y_si (i := 0) rfl (by first | exact Or.inl rfl | exact Or.inr (Or.inl rfl) | exact Or.inr (Or.inr rfl)) (x_mod (x_bt call_int1 cd_int rfl (Cc.free 27 rfl) (by decide +kernel) (xa_cons (x_add (x_add (x_mul (x_ix (xv 0) x_int) x_int) (x_mul (x_mod (x_bt call_int1 cd_int rfl (Cc.free 27 rfl) (by decide +kernel) (xa_cons (xv 2) xa_nil)) x_int) x_int)) x_int) xa_nil)) x_int) x_int)))))) ys_nil) (ys_cons (y_if (xt_gt hr.units (x_ix (xv 0) x_int) x_int) (ys_cons (y_set (i := 3) sc.nd (x_mod (x_bt call_int1 cd_int rfl (Cc.free 27 rfl) (by decide +kernel) (xa_cons (x_ix (xv 0) x_int) xa_nil)) (xv 1))) (ys_cons (y_si (i := 0) rfl (by first | exact Or.inl rfl | exact Or.inr (Or.inl rfl) | exact Or.inr (Or.inr rfl)) (x_fdiv (x_ix (xv 0) x_int) (xv 1)) x_int) (ys_one (y_ret (xv 3))))) ys_nil) (ys_cons (y_si (i := 0) rfl (by first | exact Or.inl rfl | exact Or.inr (Or.inl rfl) | exact Or.inr (Or.inr rfl)) (x_mod (x_bt call_int1 cd_int rfl (Cc.free 27 rfl) (by decide +kernel) (xa_cons (x_add (x_add (x_pow (x_ix (xv 0) x_int) x_int) (x_mul (x_ix (xv 0) x_int) x_int)) x_int) xa_nil)) x_int) x_int) (ys_one (y_ret (x_mod (x_bt call_int1 cd_int rfl (Cc.free 27 rfl) (by decide +kernel) (xa_cons (x_add (x_fdiv (x_ix (xv 0) x_int) x_int) (x_mul (x_mod (x_bt call_int1 cd_int rfl (Cc.free 27 rfl) (by decide +kernel) (xa_cons (x_ix (xv 0) x_int) xa_nil)) x_int) x_int)) xa_nil)) (xv 1)))))))), r_law_draw⟩
theorem g_law_of (Cc : Ctx K mg) : ∃ fd, FunD K "_law_of" "_law_of" (defArgs s_law_of) (defBody s_law_of) (defScope s_law_of) [] [] (He.ga K "_law_of") fd ∧ FnOk P w K mg base CX0 2 (He.ga K "_law_of") fd ["bag", "things"] (liftSp K m_law_of sp_law_of) := by
  obtain ⟨fd, F⟩ : ∃ fd, FunD K "_law_of" "_law_of" (defArgs s_law_of) (defBody s_law_of) (defScope s_law_of) [] [] (He.ga K "_law_of") fd := Cc.fn 9 rfl
  refine ⟨fd, F, ?_⟩
  have sc : FnScope ["bag", "things"] ["bag", "things"] (defScope s_law_of) := ⟨rfl, rfl, rfl, by decide +kernel, rfl, by decide +kernel, by decide +kernel⟩
  obtain ⟨fd_law_draw, F_law_draw, ok_law_draw⟩ := g_law_draw (P := P) (w := w) (base := base) Cc
  exact fn_ok2 F sc 0 rfl rfl fun cdv A outer s H E hr => ⟨t_law_of, (ys_one (y_ret (x_ix (xv 1) (x_call (dds := []) ok_law_draw (hr.mono (by decide)) rfl (Cc.glo 7 rfl) F_law_draw.kp (F_law_draw.bindsN fun _ _ _ _ _ _ us hl => match us, hl with | [_, _], _ => rfl) .nil (fun _ _ => .nil) (xa_cons (xv 0) (xa_cons (x_bu call_len cd_len rfl (Cc.free 29 rfl) (by decide +kernel) (xa_cons (xv 1) xa_nil)) xa_nil)))))), r_law_of⟩
theorem s_law_like_step (Cc : Ctx K mg) {fd : FuncData} (F_law_like : FunD K "_law_like" "_law_like" (defArgs s_law_like) (defBody s_law_like) (defScope s_law_like) [] [] (He.ga K "_law_like") fd) {k : Nat} {spR sp : SpD} (hk : 0 ≤ k) (okR : FnOk P w K mg base CX0 k (He.ga K "_law_like") fd ["told", "due"] (liftSp K m_law_like spR)) (r : Rd_law_like spR sp) : FnOk P w K mg base CX0 (k + 1) (He.ga K "_law_like") fd ["told", "due"] (liftSp K m_law_like sp) := by
  have sc : FnScope ["told", "due", "a", "b"] ["told", "due"] (defScope s_law_like) := ⟨rfl, rfl, rfl, by decide +kernel, rfl, by decide +kernel, by decide +kernel⟩
  exact fn_ok2 F_law_like sc 2 rfl rfl fun cdv A outer s H E hr => ⟨t_law_like spR, (ys_cons (y_if (xt_val (x_isiT (x := "") rfl (Cc.free 28 rfl) (xv 1) (pty_cons rfl (Cc.free 30 rfl) (by decide +kernel) (pty_cons rfl (Cc.free 33 rfl) (by decide +kernel) pty_nil)))) (ys_cons (y_if (xt_w (xw_or (xt_ne hr.units (x_bu call_isi cd_isin rfl (Cc.free 28 rfl) (by decide +kernel) (xa_cons (xv 0) (xa_cons (x_ty rfl (Cc.free 30 rfl) (by decide +kernel)) xa_nil))) (x_bu call_isi cd_isin rfl (Cc.free 28 rfl) (by decide +kernel) (xa_cons (xv 1) (xa_cons (x_ty rfl (Cc.free 30 rfl) (by decide +kernel)) xa_nil)))) (xw_or1 (xt_ne hr.units (x_bu call_isi cd_isin rfl (Cc.free 28 rfl) (by decide +kernel) (xa_cons (xv 0) (xa_cons (x_ty rfl (Cc.free 33 rfl) (by decide +kernel)) xa_nil))) (x_bu call_isi cd_isin rfl (Cc.free 28 rfl) (by decide +kernel) (xa_cons (xv 1) (xa_cons (x_ty rfl (Cc.free 33 rfl) (by decide +kernel)) xa_nil))))))) (ys_one (y_ret x_bl)) ys_nil) (ys_one (y_ret (x_and (x_eq hr.units (x_bu call_len cd_len rfl (Cc.free 29 rfl) (by decide +kernel) (xa_cons (xv 0) xa_nil)) (x_bu call_len cd_len rfl (Cc.free 29 rfl) (by decide +kernel) (xa_cons (xv 1) xa_nil))) (x_one (x_bu (cr_all rfl) cd_all rfl (Cc.free 24 rfl) (by decide +kernel) (xa_cons (x_lc rfl sc.nd (xi_zip rfl (Cc.free 34 rfl) (xa_cons (xv 0) (xa_cons (xv 1) xa_nil))) (own := [("a", 2), ("b", 3)]) (blkOk_by (by kernel_rfl)) (by decide) (fun s2 H2 C2 cl2 fp2 => (g_tup rfl (gs_cons (g_name (i := 2) sc.nd) (gs_cons (g_name (i := 3) sc.nd) gs_nil)))) (fun s2 H2 C2 cl2 fp2 => xts_nil) (fun s2 H2 C2 cl2 fp2 => (x_call (dds := []) okR (hr.mono (by omega)) rfl (Cc.glo 9 rfl) F_law_like.kp (F_law_like.bindsN fun _ _ _ _ _ _ us hl => match us, hl with | [_, _], _ => rfl) .nil (fun _ _ => .nil) (xa_cons (xv 2) (xa_cons (xv 3) xa_nil))))) xa_nil))))))) ys_nil) (ys_cons (y_if (xt_w (xw_or (xt_is (xv 1) x_non) (xw_or1 (xt_is (xv 0) x_non)))) (ys_one (y_ret (x_and (x_is (xv 1) x_non) (x_one (x_is (xv 0) x_non))))) ys_nil) (ys_cons (y_if (xt_w (xw_or (xt_val (x_isiT (x := "") rfl (Cc.free 28 rfl) (xv 0) (pty_cons rfl (Cc.free 30 rfl) (by decide +kernel) (pty_cons rfl (Cc.free 33 rfl) (by decide +kernel) pty_nil)))) (xw_or1 (xt_ne hr.units (x_bu call_isi cd_isin rfl (Cc.free 28 rfl) (by decide +kernel) (xa_cons (xv 0) (xa_cons (x_ty rfl (Cc.free 25 rfl) (by decide +kernel)) xa_nil))) (x_bu call_isi cd_isin rfl (Cc.free 28 rfl) (by decide +kernel) (xa_cons (xv 1) (xa_cons (x_ty rfl (Cc.free 25 rfl) (by decide +kernel)) xa_nil))))))) (ys_one (y_ret x_bl)) ys_nil) (ys_cons (y_if (xt_w (xw_or (xt_ne hr.units (x_bu call_isi cd_isin rfl (Cc.free 28 rfl) (by decide +kernel) (xa_cons (xv 0) (xa_cons (x_ty rfl (Cc.free 32 rfl) (by decide +kernel)) xa_nil))) (x_bu call_isi cd_isin rfl (Cc.free 28 rfl) (by decide +kernel) (xa_cons (xv 1) (xa_cons (x_ty rfl (Cc.free 32 rfl) (by decide +kernel)) xa_nil)))) (xw_or1 (xt_ne hr.units (x_bu call_isi cd_isin rfl (Cc.free 28 rfl) (by decide +kernel) (xa_cons (xv 0) (xa_cons (x_ty rfl (Cc.free 27 rfl) (by decide +kernel)) xa_nil))) (x_bu call_isi cd_isin rfl (Cc.free 28 rfl) (by decide +kernel) (xa_cons (xv 1) (xa_cons (x_ty rfl (Cc.free 27 rfl) (by decide +kernel)) xa_nil))))))) (ys_one (y_ret x_bl)) ys_nil) (ys_one (y_ret (x_and (x_eq hr.units (x_bu call_isi cd_isin rfl (Cc.free 28 rfl) (by decide +kernel) (xa_cons (xv 0) (xa_cons (x_ty rfl (Cc.free 26 rfl) (by decide +kernel)) xa_nil))) (x_bu call_isi cd_isin rfl (Cc.free 28 rfl) (by decide +kernel) (xa_cons (xv 1) (xa_cons (x_ty rfl (Cc.free 26 rfl) (by decide +kernel)) xa_nil)))) (x_one (x_eq hr.units (xv 0) (xv 1)))))))))), r⟩
theorem z_law_like (Cc : Ctx K mg) : ∃ fd, FunD K "_law_like" "_law_like" (defArgs s_law_like) (defBody s_law_like) (defScope s_law_like) [] [] (He.ga K "_law_like") fd := Cc.fn 10 rfl
theorem g_law_like (Cc : Ctx K mg) : ∃ fd, FunD K "_law_like" "_law_like" (defArgs s_law_like) (defBody s_law_like) (defScope s_law_like) [] [] (He.ga K "_law_like") fd ∧ FnOk P w K mg base CX0 3 (He.ga K "_law_like") fd ["told", "due"] (liftSp K m_law_like sp_law_like) := by
  obtain ⟨fd, F⟩ := z_law_like Cc
  have h0 : FnOk P w K mg base CX0 1 (He.ga K "_law_like") fd ["told", "due"] (liftSp K m_law_like sp_law_like0) := s_law_like_step Cc F (k := 0) (spR := fun _ _ => False) (Nat.zero_le _) fn_none (r_law_like0 _)
  have h1 : FnOk P w K mg base CX0 2 (He.ga K "_law_like") fd ["told", "due"] (liftSp K m_law_like sp_law_like) := s_law_like_step Cc F (k := 1) (Nat.zero_le _) h0 r_law_like1
  exact ⟨fd, F, h1.mono (by decide)⟩
theorem g_law_common (Cc : Ctx K mg) : ∃ fd, FunD K "_law_common" "_law_common" (defArgs s_law_common) (defBody s_law_common) (defScope s_law_common) [] [] (He.ga K "_law_common") fd ∧ FnOk P w K mg base CX0 1 (He.ga K "_law_common") fd ["x", "y"] (liftSp K m_law_common sp_law_common) := by
  obtain ⟨fd, F⟩ : ∃ fd, FunD K "_law_common" "_law_common" (defArgs s_law_common) (defBody s_law_common) (defScope s_law_common) [] [] (He.ga K "_law_common") fd := Cc.fn 11 rfl
  refine ⟨fd, F, ?_⟩
  have sc : FnScope ["x", "y"] ["x", "y"] (defScope s_law_common) := ⟨rfl, rfl, rfl, by decide +kernel, rfl, by decide +kernel, by decide +kernel⟩
  exact fn_ok2 F sc 0 rfl rfl fun cdv A outer s H E hr => ⟨t_law_common, (ys_cons (y_while PassesOwn.never (xt_gt hr.units (xv 1) x_int) (ys_one (y_par2 (i := 0) (j := 1) rfl sc.nd (hold_cons (xv 1) (hold_cons (x_mod (x_bt call_int1 cd_int rfl (Cc.free 27 rfl) (by decide +kernel) (xa_cons (xv 0) xa_nil)) (xv 1)) hold_nil))))) (ys_one (y_ret (xv 0)))), r_law_common⟩
theorem g_law_lowest (Cc : Ctx K mg) : ∃ fd, FunD K "_law_lowest" "_law_lowest" (defArgs s_law_lowest) (defBody s_law_lowest) (defScope s_law_lowest) [] [] (He.ga K "_law_lowest") fd ∧ FnOk P w K mg base CX0 2 (He.ga K "_law_lowest") fd ["x", "y"] (liftSp K m_law_lowest sp_law_lowest) := by
  obtain ⟨fd, F⟩ : ∃ fd, FunD K "_law_lowest" "_law_lowest" (defArgs s_law_lowest) (defBody s_law_lowest) (defScope s_law_lowest) [] [] (He.ga K "_law_lowest") fd := Cc.fn 12 rfl
  refine ⟨fd, F, ?_⟩
  have sc : FnScope ["x", "y", "by"] ["x", "y"] (defScope s_law_lowest) := ⟨rfl, rfl, rfl, by decide +kernel, rfl, by decide +kernel, by decide +kernel⟩
  obtain ⟨fd_law_common, F_law_common, ok_law_common⟩ := g_law_common (P := P) (w := w) (base := base) Cc
  exact fn_ok2 F sc 1 rfl rfl fun cdv A outer s H E hr => ⟨t_law_lowest, (ys_cons (y_if (xt_lt hr.units (xv 1) x_int) (ys_one (y_par2 (i := 0) (j := 1) rfl sc.nd (hold_cons (x_sub x_int (xv 0)) (hold_cons (x_sub x_int (xv 1)) hold_nil)))) ys_nil) (ys_cons (y_set (i := 2) sc.nd (x_call (dds := []) ok_law_common (hr.mono (by decide)) rfl (Cc.glo 10 rfl) F_law_common.kp (F_law_common.bindsN fun _ _ _ _ _ _ us hl => match us, hl with | [_, _], _ => rfl) .nil (fun _ _ => .nil) (xa_cons (x_bu call_abs cd_abs rfl (Cc.free 23 rfl) (by decide +kernel) (xa_cons (xv 0) xa_nil)) (xa_cons (xv 1) xa_nil)))) (ys_one (y_ret (x_tup (xa_cons (x_fdiv (xv 0) (xv 2)) (xa_cons (x_fdiv (xv 1) (xv 2)) xa_nil))))))), r_law_lowest⟩
theorem g_law_great (Cc : Ctx K mg) : ∃ fd, FunD K "_law_great" "_law_great" (defArgs s_law_great) (defBody s_law_great) (defScope s_law_great) [] [] (He.ga K "_law_great") fd ∧ FnOk P w K mg base CX0 2 (He.ga K "_law_great") fd ["bag"] (liftSp K m_law_great sp_law_great) := by
  obtain ⟨fd, F⟩ : ∃ fd, FunD K "_law_great" "_law_great" (defArgs s_law_great) (defBody s_law_great) (defScope s_law_great) [] [] (He.ga K "_law_great") fd := Cc.fn 13 rfl
  refine ⟨fd, F, ?_⟩
  have sc : FnScope ["bag", "pick", "mine", "k"] ["bag"] (defScope s_law_great) := ⟨rfl, rfl, rfl, by decide +kernel, rfl, by decide +kernel, by decide +kernel⟩
  obtain ⟨fd_law_draw, F_law_draw, ok_law_draw⟩ := g_law_draw (P := P) (w := w) (base := base) Cc
  exact fn_ok2 F sc 3 rfl rfl fun cdv A outer s H E hr => ⟨t_law_great, (ys_cons (y_set (i := 1) sc.nd (x_call (dds := []) ok_law_draw (hr.mono (by decide)) rfl (Cc.glo 7 rfl) F_law_draw.kp (F_law_draw.bindsN fun _ _ _ _ _ _ us hl => match us, hl with | [_, _], _ => rfl) .nil (fun _ _ => .nil) (xa_cons (xv 0) (xa_cons x_int xa_nil)))) (ys_cons (y_set (i := 2) sc.nd (x_call (dds := []) ok_law_draw (hr.mono (by decide)) rfl (Cc.glo 7 rfl) F_law_draw.kp (F_law_draw.bindsN fun _ _ _ _ _ _ us hl => match us, hl with | [_, _], _ => rfl) .nil (fun _ _ => .nil) (xa_cons (xv 0) (xa_cons (x_ix (x_lst (xa_cons x_int (xa_cons x_int (xa_cons x_int (xa_cons x_int (xa_cons x_int (xa_cons x_int (xa_cons x_int (xa_cons x_int xa_nil))))))))) (xv 1)) xa_nil)))) (ys_cons (y_if (xt_eq hr.units (xv 1) x_int) (ys_one (y_for PassesOwn.never rfl (xi_range1 rfl (Cc.free 31 rfl) (xa_cons (x_call (dds := []) ok_law_draw (hr.mono (by decide)) rfl (Cc.glo 7 rfl) F_law_draw.kp (F_law_draw.bindsN fun _ _ _ _ _ _ us hl => match us, hl with | [_, _], _ => rfl) .nil (fun _ _ => .nil) (xa_cons (xv 0) (xa_cons x_int xa_nil))) xa_nil)) (g_name (i := 3) sc.nd) (ys_one (y_set (i := 2) sc.nd (x_add (x_mul (xv 2) x_int) (x_call (dds := []) ok_law_draw (hr.mono (by decide)) rfl (Cc.glo 7 rfl) F_law_draw.kp (F_law_draw.bindsN fun _ _ _ _ _ _ us hl => match us, hl with | [_, _], _ => rfl) .nil (fun _ _ => .nil) (xa_cons (xv 0) (xa_cons x_int xa_nil)))))))) ys_nil) (ys_one (y_ret (xv 2)))))), r_law_great⟩
theorem g_law_power (Cc : Ctx K mg) : ∃ fd, FunD K "_law_power" "_law_power" (defArgs s_law_power) (defBody s_law_power) (defScope s_law_power) [] [] (He.ga K "_law_power") fd ∧ FnOk P w K mg base CX0 1 (He.ga K "_law_power") fd ["base", "times"] (liftSp K m_law_power sp_law_power) := by
  obtain ⟨fd, F⟩ : ∃ fd, FunD K "_law_power" "_law_power" (defArgs s_law_power) (defBody s_law_power) (defScope s_law_power) [] [] (He.ga K "_law_power") fd := Cc.fn 14 rfl
  refine ⟨fd, F, ?_⟩
  have sc : FnScope ["base", "times", "mine", "k"] ["base", "times"] (defScope s_law_power) := ⟨rfl, rfl, rfl, by decide +kernel, rfl, by decide +kernel, by decide +kernel⟩
  exact fn_ok2 F sc 2 rfl rfl fun cdv A outer s H E hr => ⟨t_law_power, (ys_cons (y_set (i := 2) sc.nd x_int) (ys_cons (y_for PassesOwn.never rfl (xi_range1 rfl (Cc.free 31 rfl) (xa_cons (xv 1) xa_nil)) (g_name (i := 3) sc.nd) (ys_one (y_set (i := 2) sc.nd (x_mul (xv 2) (xv 0))))) (ys_one (y_ret (xv 2))))), r_law_power⟩
theorem g_law_least (Cc : Ctx K mg) : ∃ fd, FunD K "_law_least" "_law_least" (defArgs s_law_least) (defBody s_law_least) (defScope s_law_least) [] [] (He.ga K "_law_least") fd ∧ FnOk P w K mg base CX0 2 (He.ga K "_law_least") fd ["times", "want"] (liftSp K m_law_least sp_law_least) := by
  obtain ⟨fd, F⟩ : ∃ fd, FunD K "_law_least" "_law_least" (defArgs s_law_least) (defBody s_law_least) (defScope s_law_least) [] [] (He.ga K "_law_least") fd := Cc.fn 15 rfl
  refine ⟨fd, F, ?_⟩
  have sc : FnScope ["times", "want", "high", "lap", "low", "middle"] ["times", "want"] (defScope s_law_least) := ⟨rfl, rfl, rfl, by decide +kernel, rfl, by decide +kernel, by decide +kernel⟩
  obtain ⟨fd_law_power, F_law_power, ok_law_power⟩ := g_law_power (P := P) (w := w) (base := base) Cc
  exact fn_ok2 F sc 4 rfl rfl fun cdv A outer s H E hr => ⟨t_law_least, (ys_cons (y_set (i := 2) sc.nd x_int) (ys_cons (y_for PassesOwn.never rfl (xi_range1 rfl (Cc.free 31 rfl) (xa_cons x_int xa_nil)) (g_name (i := 3) sc.nd) (ys_one (y_if (xt_lt hr.units (x_call (dds := []) ok_law_power (hr.mono (by decide)) rfl (Cc.glo 13 rfl) F_law_power.kp (F_law_power.bindsN fun _ _ _ _ _ _ us hl => match us, hl with | [_, _], _ => rfl) .nil (fun _ _ => .nil) (xa_cons (xv 2) (xa_cons (xv 0) xa_nil))) (xv 1)) (ys_one (y_set (i := 2) sc.nd (x_mul (xv 2) x_int))) (ys_one y_break)))) (ys_cons (y_set (i := 4) sc.nd (x_sub x_int x_int)) (ys_cons (y_for PassesOwn.never rfl (xi_range1 rfl (Cc.free 31 rfl) (xa_cons x_int xa_nil)) (g_name (i := 3) sc.nd) (ys_cons (y_set (i := 5) sc.nd (x_fdiv (x_add (x_add (xv 4) (xv 2)) x_int) x_int)) (ys_cons (y_if (xt_lt hr.units (x_sub (xv 2) (xv 4)) x_int) (ys_one y_break) ys_nil) (ys_one (y_if (xt_ge hr.units (x_call (dds := []) ok_law_power (hr.mono (by decide)) rfl (Cc.glo 13 rfl) F_law_power.kp (F_law_power.bindsN fun _ _ _ _ _ _ us hl => match us, hl with | [_, _], _ => rfl) .nil (fun _ _ => .nil) (xa_cons (xv 5) (xa_cons (xv 0) xa_nil))) (xv 1)) (ys_one (y_set (i := 2) sc.nd (xv 5))) (ys_one (y_set (i := 4) sc.nd (xv 5)))))))) (ys_one (y_ret (xv 2))))))), r_law_least⟩
theorem g_law_pair (Cc : Ctx K mg) : ∃ fd, FunD K "_law_pair" "_law_pair" (defArgs s_law_pair) (defBody s_law_pair) (defScope s_law_pair) [] [] (He.ga K "_law_pair") fd ∧ FnOk P w K mg base CX0 3 (He.ga K "_law_pair") fd ["bag"] (liftSp K m_law_pair sp_law_pair) := by
  obtain ⟨fd, F⟩ : ∃ fd, FunD K "_law_pair" "_law_pair" (defArgs s_law_pair) (defBody s_law_pair) (defScope s_law_pair) [] [] (He.ga K "_law_pair") fd := Cc.fn 16 rfl
  refine ⟨fd, F, ?_⟩
  have sc : FnScope ["bag"] ["bag"] (defScope s_law_pair) := ⟨rfl, rfl, rfl, by decide +kernel, rfl, by decide +kernel, by decide +kernel⟩
  obtain ⟨fd_law_of, F_law_of, ok_law_of⟩ := g_law_of (P := P) (w := w) (base := base) Cc
  obtain ⟨fd_law_draw, F_law_draw, ok_law_draw⟩ := g_law_draw (P := P) (w := w) (base := base) Cc
  obtain ⟨fd_law_lowest, F_law_lowest, ok_law_lowest⟩ := g_law_lowest (P := P) (w := w) (base := base) Cc
  exact fn_ok2 F sc 0 rfl rfl fun cdv A outer s H E hr => ⟨t_law_pair, (ys_cons (y_if (xt_eq hr.units (x_call (dds := []) ok_law_draw (hr.mono (by decide)) rfl (Cc.glo 7 rfl) F_law_draw.kp (F_law_draw.bindsN fun _ _ _ _ _ _ us hl => match us, hl with | [_, _], _ => rfl) .nil (fun _ _ => .nil) (xa_cons (xv 0) (xa_cons x_int xa_nil))) x_int) (ys_one (y_ret (x_call (dds := []) ok_law_lowest (hr.mono (by decide)) rfl (Cc.glo 11 rfl) F_law_lowest.kp (F_law_lowest.bindsN fun _ _ _ _ _ _ us hl => match us, hl with | [_, _], _ => rfl) .nil (fun _ _ => .nil) (xa_cons (x_call (dds := []) ok_law_draw (hr.mono (by decide)) rfl (Cc.glo 7 rfl) F_law_draw.kp (F_law_draw.bindsN fun _ _ _ _ _ _ us hl => match us, hl with | [_, _], _ => rfl) .nil (fun _ _ => .nil) (xa_cons (xv 0) (xa_cons x_int xa_nil))) (xa_cons (x_add x_int (x_call (dds := []) ok_law_draw (hr.mono (by decide)) rfl (Cc.glo 7 rfl) F_law_draw.kp (F_law_draw.bindsN fun _ _ _ _ _ _ us hl => match us, hl with | [_, _], _ => rfl) .nil (fun _ _ => .nil) (xa_cons (xv 0) (xa_cons x_int xa_nil)))) xa_nil))))) ys_nil) (ys_one (y_ret (x_call (dds := []) ok_law_of (hr.mono (by decide)) rfl (Cc.glo 8 rfl) F_law_of.kp (F_law_of.bindsN fun _ _ _ _ _ _ us hl => match us, hl with | [_, _], _ => rfl) .nil (fun _ _ => .nil) (xa_cons (xv 0) (xa_cons (x_lst (xa_cons (x_tup (xa_cons x_int (xa_cons x_int xa_nil))) (xa_cons (x_tup (xa_cons x_int (xa_cons x_int xa_nil))) (xa_cons (x_tup (xa_cons x_int (xa_cons x_int xa_nil))) (xa_cons (x_tup (xa_cons x_int (xa_cons x_int xa_nil))) (xa_cons (x_tup (xa_cons x_int (xa_cons x_int xa_nil))) (xa_cons (x_tup (xa_cons x_int (xa_cons x_int xa_nil))) (xa_cons (x_tup (xa_cons x_int (xa_cons x_int xa_nil))) (xa_cons (x_tup (xa_cons x_int (xa_cons x_int xa_nil))) (xa_cons (x_tup (xa_cons x_int (xa_cons x_int xa_nil))) (xa_cons (x_tup (xa_cons x_int (xa_cons x_int xa_nil))) xa_nil))))))))))) xa_nil)))))), r_law_pair⟩
theorem g_law_root (Cc : Ctx K mg) : ∃ fd, FunD K "_law_root" "_law_root" (defArgs s_law_root) (defBody s_law_root) (defScope s_law_root) [] [] (He.ga K "_law_root") fd ∧ FnOk P w K mg base CX0 4 (He.ga K "_law_root") fd ["pick", "want", "times"] (liftSp K m_law_root sp_law_root) := by
  obtain ⟨fd, F⟩ : ∃ fd, FunD K "_law_root" "_law_root" (defArgs s_law_root) (defBody s_law_root) (defScope s_law_root) [] [] (He.ga K "_law_root") fd := Cc.fn 17 rfl
  refine ⟨fd, F, ?_⟩
  have sc : FnScope ["pick", "want", "times"] ["pick", "want", "times"] (defScope s_law_root) := ⟨rfl, rfl, rfl, by decide +kernel, rfl, by decide +kernel, by decide +kernel⟩
  obtain ⟨fd_least_root, F_least_root, ok_least_root⟩ := g_least_root (P := P) (w := w) (base := base) Cc
  exact fn_ok2 F sc 0 rfl rfl fun cdv A outer s H E hr => ⟨t_law_root, (ys_cons (y_if (xt_eq hr.units (xv 0) x_int) (ys_one (y_ret (x_call (dds := []) ok_least_root (hr.mono (by decide)) rfl (Cc.glo 4 rfl) F_least_root.kp (F_least_root.bindsN fun _ _ _ _ _ _ us hl => match us, hl with | [_, _], _ => rfl) .nil (fun _ _ => .nil) (xa_cons (xv 1) (xa_cons (xv 2) xa_nil))))) ys_nil) (ys_one (y_ret (x_ifE (xt_eq hr.units (xv 0) x_int) (x_callK0 (ix := [(2, 0), (2, 1)]) (dds := []) ok_least_root (hr.mono (by decide)) rfl (Cc.glo 4 rfl) F_least_root.kp (kbn_of F_least_root 0 ["product", "many"] [(2, 0), (2, 1)] (fun kV doc pm an cdv ct us ws h1 h2 => match us, ws, h1, h2 with | [], [_, _], _, _ => rfl)) (fun _ _ => .nil) (xk_cons (xv 1) (xk_cons (xv 2) xk_nil))) (x_callK0 (ix := [(2, 1), (2, 0)]) (dds := []) ok_least_root (hr.mono (by decide)) rfl (Cc.glo 4 rfl) F_least_root.kp (kbn_of F_least_root 0 ["many", "product"] [(2, 1), (2, 0)] (fun kV doc pm an cdv ct us ws h1 h2 => match us, ws, h1, h2 with | [], [_, _], _, _ => rfl)) (fun _ _ => .nil) (xk_cons (xv 2) (xk_cons (xv 1) xk_nil))))))), r_law_root⟩
theorem g_law_roots_so (Cc : Ctx K mg) : ∃ fd, FunD K "_law_roots_so" "_law_roots_so" (defArgs s_law_roots_so) (defBody s_law_roots_so) (defScope s_law_roots_so) [] [] (He.ga K "_law_roots_so") fd ∧ FnOk P w K mg base CX0 5 (He.ga K "_law_roots_so") fd ["bag"] (liftSp K m_law_roots_so sp_law_roots_so) := by
  obtain ⟨fd, F⟩ : ∃ fd, FunD K "_law_roots_so" "_law_roots_so" (defArgs s_law_roots_so) (defBody s_law_roots_so) (defScope s_law_roots_so) [] [] (He.ga K "_law_roots_so") fd := Cc.fn 18 rfl
  refine ⟨fd, F, ?_⟩
  have sc : FnScope ["bag", "times", "base", "exact", "want", "told"] ["bag"] (defScope s_law_roots_so) := ⟨rfl, rfl, rfl, by decide +kernel, rfl, by decide +kernel, by decide +kernel⟩
  obtain ⟨fd_law_of, F_law_of, ok_law_of⟩ := g_law_of (P := P) (w := w) (base := base) Cc
  obtain ⟨fd_law_great, F_law_great, ok_law_great⟩ := g_law_great (P := P) (w := w) (base := base) Cc
  obtain ⟨fd_law_like, F_law_like, ok_law_like⟩ := g_law_like (P := P) (w := w) (base := base) Cc
  obtain ⟨fd_law_power, F_law_power, ok_law_power⟩ := g_law_power (P := P) (w := w) (base := base) Cc
  obtain ⟨fd_law_root, F_law_root, ok_law_root⟩ := g_law_root (P := P) (w := w) (base := base) Cc
  obtain ⟨fd_law_draw, F_law_draw, ok_law_draw⟩ := g_law_draw (P := P) (w := w) (base := base) Cc
  obtain ⟨fd_least_root, F_least_root, ok_least_root⟩ := g_least_root (P := P) (w := w) (base := base) Cc
  obtain ⟨fd_law_least, F_law_least, ok_law_least⟩ := g_law_least (P := P) (w := w) (base := base) Cc
  exact fn_ok2 F sc 5 rfl rfl fun cdv A outer s H E hr => ⟨t_law_roots_so, (ys_cons (y_set (i := 1) sc.nd (x_call (dds := []) ok_law_of (hr.mono (by decide)) rfl (Cc.glo 8 rfl) F_law_of.kp (F_law_of.bindsN fun _ _ _ _ _ _ us hl => match us, hl with | [_, _], _ => rfl) .nil (fun _ _ => .nil) (xa_cons (xv 0) (xa_cons (x_lst (xa_cons x_int (xa_cons x_int (xa_cons x_int (xa_cons x_int (xa_cons x_int (xa_cons x_int (xa_cons (x_add x_int (x_call (dds := []) ok_law_draw (hr.mono (by decide)) rfl (Cc.glo 7 rfl) F_law_draw.kp (F_law_draw.bindsN fun _ _ _ _ _ _ us hl => match us, hl with | [_, _], _ => rfl) .nil (fun _ _ => .nil) (xa_cons (xv 0) (xa_cons x_int xa_nil)))) xa_nil)))))))) xa_nil)))) (ys_cons (y_set (i := 2) sc.nd (x_call (dds := []) ok_law_great (hr.mono (by decide)) rfl (Cc.glo 12 rfl) F_law_great.kp (F_law_great.bindsN fun _ _ _ _ _ _ us hl => match us, hl with | [_], _ => rfl) .nil (fun _ _ => .nil) (xa_cons (xv 0) xa_nil))) (ys_cons (y_set (i := 3) sc.nd (x_ifE (xt_lt hr.units (xv 2) (x_pow x_int x_int)) (x_call (dds := []) ok_law_power (hr.mono (by decide)) rfl (Cc.glo 13 rfl) F_law_power.kp (F_law_power.bindsN fun _ _ _ _ _ _ us hl => match us, hl with | [_, _], _ => rfl) .nil (fun _ _ => .nil) (xa_cons (xv 2) (xa_cons (xv 1) xa_nil))) (xv 2))) (ys_cons (y_for PassesOwn.never rfl (xi_seq (x_tup (xa_cons (x_call (dds := []) ok_law_great (hr.mono (by decide)) rfl (Cc.glo 12 rfl) F_law_great.kp (F_law_great.bindsN fun _ _ _ _ _ _ us hl => match us, hl with | [_], _ => rfl) .nil (fun _ _ => .nil) (xa_cons (xv 0) xa_nil)) (xa_cons (xv 3) (xa_cons (x_add (xv 3) x_int) (xa_cons (x_ifE (xt_gt hr.units (xv 3) x_int) (x_sub (xv 3) x_int) x_int) (xa_cons x_int (xa_cons x_int (xa_cons x_int xa_nil))))))))) (g_name (i := 4) sc.nd) (ys_cons (y_set (i := 5) sc.nd (x_call (dds := []) ok_law_root (hr.mono (by decide)) rfl (Cc.glo 16 rfl) F_law_root.kp (F_law_root.bindsN fun _ _ _ _ _ _ us hl => match us, hl with | [_, _, _], _ => rfl) .nil (fun _ _ => .nil) (xa_cons (x_call (dds := []) ok_law_draw (hr.mono (by decide)) rfl (Cc.glo 7 rfl) F_law_draw.kp (F_law_draw.bindsN fun _ _ _ _ _ _ us hl => match us, hl with | [_, _], _ => rfl) .nil (fun _ _ => .nil) (xa_cons (xv 0) (xa_cons x_int xa_nil))) (xa_cons (xv 4) (xa_cons (xv 1) xa_nil))))) (ys_cons (y_if (xt_w (xw_or (xt_not (xt_val (x_bu call_isi cd_isin rfl (Cc.free 28 rfl) (by decide +kernel) (xa_cons (xv 5) (xa_cons (x_ty rfl (Cc.free 27 rfl) (by decide +kernel)) xa_nil))))) (xw_or (xt_val (x_bu call_isi cd_isin rfl (Cc.free 28 rfl) (by decide +kernel) (xa_cons (xv 5) (xa_cons (x_ty rfl (Cc.free 25 rfl) (by decide +kernel)) xa_nil)))) (xw_or (xt_lt hr.units (xv 5) x_int) (xw_or1 (xt_lt hr.units (x_call (dds := []) ok_law_power (hr.mono (by decide)) rfl (Cc.glo 13 rfl) F_law_power.kp (F_law_power.bindsN fun _ _ _ _ _ _ us hl => match us, hl with | [_, _], _ => rfl) .nil (fun _ _ => .nil) (xa_cons (xv 5) (xa_cons (xv 1) xa_nil))) (xv 4))))))) (ys_one (y_ret x_bl)) ys_nil) (ys_one (y_if (xt_w (xw_and (xt_gt hr.units (xv 5) x_int) (xw_and1 (xt_ge hr.units (x_call (dds := []) ok_law_power (hr.mono (by decide)) rfl (Cc.glo 13 rfl) F_law_power.kp (F_law_power.bindsN fun _ _ _ _ _ _ us hl => match us, hl with | [_, _], _ => rfl) .nil (fun _ _ => .nil) (xa_cons (x_sub (xv 5) x_int) (xa_cons (xv 1) xa_nil))) (xv 4))))) (ys_one (y_ret x_bl)) ys_nil))))) (ys_cons (y_if (xt_w (xw_and (xt_lt hr.units (xv 2) (x_pow x_int x_int)) (xw_and1 (xt_not (xt_val (x_call (dds := []) ok_law_like (hr.mono (by decide)) rfl (Cc.glo 9 rfl) F_law_like.kp (F_law_like.bindsN fun _ _ _ _ _ _ us hl => match us, hl with | [_, _], _ => rfl) .nil (fun _ _ => .nil) (xa_cons (x_lst (xa_cons (x_call (dds := []) ok_least_root (hr.mono (by decide)) rfl (Cc.glo 4 rfl) F_least_root.kp (F_least_root.bindsN fun _ _ _ _ _ _ us hl => match us, hl with | [_, _], _ => rfl) .nil (fun _ _ => .nil) (xa_cons (xv 3) (xa_cons (xv 1) xa_nil))) (xa_cons (x_call (dds := []) ok_least_root (hr.mono (by decide)) rfl (Cc.glo 4 rfl) F_least_root.kp (F_least_root.bindsN fun _ _ _ _ _ _ us hl => match us, hl with | [_, _], _ => rfl) .nil (fun _ _ => .nil) (xa_cons (x_add (xv 3) x_int) (xa_cons (xv 1) xa_nil))) xa_nil))) (xa_cons (x_lst (xa_cons (xv 2) (xa_cons (x_add x_int (xv 2)) xa_nil))) xa_nil)))))))) (ys_one (y_ret x_bl)) ys_nil) (ys_one (y_ret (x_call (dds := []) ok_law_like (hr.mono (by decide)) rfl (Cc.glo 9 rfl) F_law_like.kp (F_law_like.bindsN fun _ _ _ _ _ _ us hl => match us, hl with | [_, _], _ => rfl) .nil (fun _ _ => .nil) (xa_cons (x_lst (xa_cons (x_call (dds := []) ok_least_root (hr.mono (by decide)) rfl (Cc.glo 4 rfl) F_least_root.kp (F_least_root.bindsN fun _ _ _ _ _ _ us hl => match us, hl with | [_, _], _ => rfl) .nil (fun _ _ => .nil) (xa_cons (xv 2) (xa_cons x_int xa_nil))) (xa_cons (x_call (dds := []) ok_least_root (hr.mono (by decide)) rfl (Cc.glo 4 rfl) F_least_root.kp (F_least_root.bindsN fun _ _ _ _ _ _ us hl => match us, hl with | [_, _], _ => rfl) .nil (fun _ _ => .nil) (xa_cons (xv 3) (xa_cons (xv 1) xa_nil))) xa_nil))) (xa_cons (x_lst (xa_cons (xv 2) (xa_cons (x_call (dds := []) ok_law_least (hr.mono (by decide)) rfl (Cc.glo 14 rfl) F_law_least.kp (F_law_least.bindsN fun _ _ _ _ _ _ us hl => match us, hl with | [_, _], _ => rfl) .nil (fun _ _ => .nil) (xa_cons (xv 1) (xa_cons (xv 3) xa_nil))) xa_nil))) xa_nil)))))))))), r_law_roots_so⟩
theorem g_law_powers_so (Cc : Ctx K mg) : ∃ fd, FunD K "_law_powers_so" "_law_powers_so" (defArgs s_law_powers_so) (defBody s_law_powers_so) (defScope s_law_powers_so) [] [] (He.ga K "_law_powers_so") fd ∧ FnOk P w K mg base CX0 5 (He.ga K "_law_powers_so") fd ["bag"] (liftSp K m_law_powers_so sp_law_powers_so) := by
  obtain ⟨fd, F⟩ : ∃ fd, FunD K "_law_powers_so" "_law_powers_so" (defArgs s_law_powers_so) (defBody s_law_powers_so) (defScope s_law_powers_so) [] [] (He.ga K "_law_powers_so") fd := Cc.fn 19 rfl
  refine ⟨fd, F, ?_⟩
  have sc : FnScope ["bag", "mark", "want", "told", "exact", "due", "pair", "number"] ["bag"] (defScope s_law_powers_so) := ⟨rfl, rfl, rfl, by decide +kernel, rfl, by decide +kernel, by decide +kernel⟩
  obtain ⟨fd_Ratio_init, F_Ratio_init, ok_Ratio_init⟩ := g_Ratio_init (P := P) (w := w) (base := base) Cc
  obtain ⟨fd_law_power, F_law_power, ok_law_power⟩ := g_law_power (P := P) (w := w) (base := base) Cc
  obtain ⟨fd_least_power, F_least_power, ok_least_power⟩ := g_least_power (P := P) (w := w) (base := base) Cc
  obtain ⟨fd_law_like, F_law_like, ok_law_like⟩ := g_law_like (P := P) (w := w) (base := base) Cc
  obtain ⟨fd_law_pair, F_law_pair, ok_law_pair⟩ := g_law_pair (P := P) (w := w) (base := base) Cc
  obtain ⟨fd_law_great, F_law_great, ok_law_great⟩ := g_law_great (P := P) (w := w) (base := base) Cc
  obtain ⟨fd_least_root, F_least_root, ok_least_root⟩ := g_least_root (P := P) (w := w) (base := base) Cc
  obtain ⟨bd_Ratio_init_0d, bd_Ratio_init_0v, bd_Ratio_init_0⟩   := FunD.binds1 (ps := ["self", "top", "bottom"]) F_Ratio_init 3 1 (by decide) rfl (fun T kV doc pm an cdv ct us its h1 h2 => match us, its, h1, h2 with | [_, _, _], [_], _, _ => ⟨_, rfl, rfl⟩)
  obtain ⟨bd_Ratio_init_1d, bd_Ratio_init_1v, bd_Ratio_init_1⟩   := FunD.binds1 (ps := ["self", "top", "bottom"]) F_Ratio_init 2 0 (by decide) rfl (fun T kV doc pm an cdv ct us its h1 h2 => match us, its, h1, h2 with | [_, _], [_], _, _ => ⟨_, rfl, rfl⟩)
  have hR_Ratio_init : ∀ {F2 : Hp} {σ2 : L2.St}, RAs K F2 σ2 (([(.int 1)] : List D).map R.val) [(.int 1)] := fun {F2 σ2} => .cons (show Rep K F2 (.int 1) (.int 1) from rep_int.mpr rfl) (.nil)
  exact fn_ok2 F sc 7 rfl rfl fun cdv A outer s H E hr => ⟨t_law_powers_so, (ys_cons (y_par2 (i := 6) (j := 7) rfl sc.nd (hold_cons (x_call (dds := []) ok_law_pair (hr.mono (by decide)) rfl (Cc.glo 15 rfl) F_law_pair.kp (F_law_pair.bindsN fun _ _ _ _ _ _ us hl => match us, hl with | [_], _ => rfl) .nil (fun _ _ => .nil) (xa_cons (xv 0) xa_nil)) (hold_cons (x_call (dds := []) ok_law_great (hr.mono (by decide)) rfl (Cc.glo 12 rfl) F_law_great.kp (F_law_great.bindsN fun _ _ _ _ _ _ us hl => match us, hl with | [_], _ => rfl) .nil (fun _ _ => .nil) (xa_cons (xv 0) xa_nil)) hold_nil))) (ys_cons (y_set (i := 1) sc.nd (x_make (dds := []) (Cc.mkr 36 rfl) ok_Ratio_init (hr.mono (by decide)) rfl (Cc.glo 38 rfl) bd_Ratio_init_0 bd_Ratio_init_0v (fun _ _ => .nil) (xa_cons (x_ix (xv 6) x_int) (xa_cons (x_ix (xv 6) x_int) xa_nil)))) (ys_cons (y_set (i := 2) sc.nd (x_call (dds := []) ok_law_power (hr.mono (by decide)) rfl (Cc.glo 13 rfl) F_law_power.kp (F_law_power.bindsN fun _ _ _ _ _ _ us hl => match us, hl with | [_, _], _ => rfl) .nil (fun _ _ => .nil) (xa_cons (xv 7) (xa_cons (x_ix (xv 6) x_int) xa_nil)))) (ys_cons (y_set (i := 3) sc.nd (x_call (dds := []) ok_least_power (hr.mono (by decide)) rfl (Cc.glo 3 rfl) F_least_power.kp (F_least_power.bindsN fun _ _ _ _ _ _ us hl => match us, hl with | [_, _], _ => rfl) .nil (fun _ _ => .nil) (xa_cons (xv 7) (xa_cons (xv 1) xa_nil)))) (ys_cons (y_if (xt_w (xw_or (xt_not (xt_val (x_bu call_isi cd_isin rfl (Cc.free 28 rfl) (by decide +kernel) (xa_cons (xv 3) (xa_cons (x_ty rfl (Cc.free 27 rfl) (by decide +kernel)) xa_nil))))) (xw_or (xt_val (x_bu call_isi cd_isin rfl (Cc.free 28 rfl) (by decide +kernel) (xa_cons (xv 3) (xa_cons (x_ty rfl (Cc.free 25 rfl) (by decide +kernel)) xa_nil)))) (xw_or (xt_lt hr.units (xv 3) x_int) (xw_or1 (xt_lt hr.units (x_call (dds := []) ok_law_power (hr.mono (by decide)) rfl (Cc.glo 13 rfl) F_law_power.kp (F_law_power.bindsN fun _ _ _ _ _ _ us hl => match us, hl with | [_, _], _ => rfl) .nil (fun _ _ => .nil) (xa_cons (xv 3) (xa_cons (x_ix (xv 6) x_int) xa_nil))) (xv 2))))))) (ys_one (y_ret x_bl)) ys_nil) (ys_cons (y_if (xt_w (xw_and (xt_gt hr.units (xv 3) x_int) (xw_and1 (xt_ge hr.units (x_call (dds := []) ok_law_power (hr.mono (by decide)) rfl (Cc.glo 13 rfl) F_law_power.kp (F_law_power.bindsN fun _ _ _ _ _ _ us hl => match us, hl with | [_, _], _ => rfl) .nil (fun _ _ => .nil) (xa_cons (x_sub (xv 3) x_int) (xa_cons (x_ix (xv 6) x_int) xa_nil))) (xv 2))))) (ys_one (y_ret x_bl)) ys_nil) (ys_cons (y_if (xt_not (xt_val (x_call (dds := []) ok_law_like (hr.mono (by decide)) rfl (Cc.glo 9 rfl) F_law_like.kp (F_law_like.bindsN fun _ _ _ _ _ _ us hl => match us, hl with | [_, _], _ => rfl) .nil (fun _ _ => .nil) (xa_cons (x_lst (xa_cons (x_callK0 (ix := [(2, 1), (2, 0)]) (dds := []) ok_least_power (hr.mono (by decide)) rfl (Cc.glo 3 rfl) F_least_power.kp (kbn_of F_least_power 0 ["exponent", "n"] [(2, 1), (2, 0)] (fun kV doc pm an cdv ct us ws h1 h2 => match us, ws, h1, h2 with | [], [_, _], _, _ => rfl)) (fun _ _ => .nil) (xk_cons (xv 1) (xk_cons (xv 7) xk_nil))) (xa_cons (x_callK0 (ix := [(2, 0), (2, 1)]) (dds := []) ok_least_power (hr.mono (by decide)) rfl (Cc.glo 3 rfl) F_least_power.kp (kbn_of F_least_power 0 ["n", "exponent"] [(2, 0), (2, 1)] (fun kV doc pm an cdv ct us ws h1 h2 => match us, ws, h1, h2 with | [], [_, _], _, _ => rfl)) (fun _ _ => .nil) (xk_cons (xv 7) (xk_cons (xv 1) xk_nil))) (xa_cons (x_call (dds := []) ok_least_root (hr.mono (by decide)) rfl (Cc.glo 4 rfl) F_least_root.kp (F_least_root.bindsN fun _ _ _ _ _ _ us hl => match us, hl with | [_, _], _ => rfl) .nil (fun _ _ => .nil) (xa_cons (xv 2) (xa_cons (x_ix (xv 6) x_int) xa_nil))) xa_nil)))) (xa_cons (x_lst (xa_cons (xv 3) (xa_cons (xv 3) (xa_cons (xv 3) xa_nil)))) xa_nil))))) (ys_one (y_ret x_bl)) ys_nil) (ys_cons (y_set (i := 4) sc.nd (x_ifE (xt_lt hr.units (xv 7) (x_pow x_int x_int)) (x_call (dds := []) ok_law_power (hr.mono (by decide)) rfl (Cc.glo 13 rfl) F_law_power.kp (F_law_power.bindsN fun _ _ _ _ _ _ us hl => match us, hl with | [_, _], _ => rfl) .nil (fun _ _ => .nil) (xa_cons (xv 7) (xa_cons (x_ix (xv 6) x_int) xa_nil))) x_int)) (ys_cons (y_set (i := 5) sc.nd (x_ifE (xt_lt hr.units (xv 7) (x_pow x_int x_int)) (x_call (dds := []) ok_law_power (hr.mono (by decide)) rfl (Cc.glo 13 rfl) F_law_power.kp (F_law_power.bindsN fun _ _ _ _ _ _ us hl => match us, hl with | [_, _], _ => rfl) .nil (fun _ _ => .nil) (xa_cons (xv 7) (xa_cons (x_ix (xv 6) x_int) xa_nil))) x_int)) (ys_one (y_ret (x_call (dds := []) ok_law_like (hr.mono (by decide)) rfl (Cc.glo 9 rfl) F_law_like.kp (F_law_like.bindsN fun _ _ _ _ _ _ us hl => match us, hl with | [_, _], _ => rfl) .nil (fun _ _ => .nil) (xa_cons (x_lst (xa_cons (x_call (dds := []) ok_least_power (hr.mono (by decide)) rfl (Cc.glo 3 rfl) F_least_power.kp (F_least_power.bindsN fun _ _ _ _ _ _ us hl => match us, hl with | [_, _], _ => rfl) .nil (fun _ _ => .nil) (xa_cons (xv 4) (xa_cons (xv 1) xa_nil))) (xa_cons (x_call (dds := []) ok_least_power (hr.mono (by decide)) rfl (Cc.glo 3 rfl) F_least_power.kp (F_least_power.bindsN fun _ _ _ _ _ _ us hl => match us, hl with | [_, _], _ => rfl) .nil (fun _ _ => .nil) (xa_cons (xv 7) (xa_cons (x_make (dds := [(.int 1)]) (Cc.mkr 36 rfl) ok_Ratio_init (hr.mono (by decide)) rfl (Cc.glo 38 rfl) bd_Ratio_init_1 bd_Ratio_init_1v (fun _ _ => hR_Ratio_init) (xa_cons x_int xa_nil)) xa_nil))) (xa_cons (x_call (dds := []) ok_least_power (hr.mono (by decide)) rfl (Cc.glo 3 rfl) F_least_power.kp (F_least_power.bindsN fun _ _ _ _ _ _ us hl => match us, hl with | [_, _], _ => rfl) .nil (fun _ _ => .nil) (xa_cons (xv 7) (xa_cons (x_make (dds := [(.int 1)]) (Cc.mkr 36 rfl) ok_Ratio_init (hr.mono (by decide)) rfl (Cc.glo 38 rfl) bd_Ratio_init_1 bd_Ratio_init_1v (fun _ _ => hR_Ratio_init) (xa_cons x_int xa_nil)) xa_nil))) xa_nil)))) (xa_cons (x_lst (xa_cons (xv 5) (xa_cons (xv 7) (xa_cons x_int xa_nil)))) xa_nil)))))))))))))), r_law_powers_so⟩
theorem g_law_within_so (Cc : Ctx K mg) : ∃ fd, FunD K "_law_within_so" "_law_within_so" (defArgs s_law_within_so) (defBody s_law_within_so) (defScope s_law_within_so) [] [] (He.ga K "_law_within_so") fd ∧ FnOk P w K mg base CX0 4 (He.ga K "_law_within_so") fd ["bag"] (liftSp K m_law_within_so sp_law_within_so) := by
  obtain ⟨fd, F⟩ : ∃ fd, FunD K "_law_within_so" "_law_within_so" (defArgs s_law_within_so) (defBody s_law_within_so) (defScope s_law_within_so) [] [] (He.ga K "_law_within_so") fd := Cc.fn 20 rfl
  refine ⟨fd, F, ?_⟩
  have sc : FnScope ["bag", "mark", "edge", "size", "pair", "number", "due"] ["bag"] (defScope s_law_within_so) := ⟨rfl, rfl, rfl, by decide +kernel, rfl, by decide +kernel, by decide +kernel⟩
  obtain ⟨fd_Ratio_init, F_Ratio_init, ok_Ratio_init⟩ := g_Ratio_init (P := P) (w := w) (base := base) Cc
  obtain ⟨fd_law_least, F_law_least, ok_law_least⟩ := g_law_least (P := P) (w := w) (base := base) Cc
  obtain ⟨fd_law_great, F_law_great, ok_law_great⟩ := g_law_great (P := P) (w := w) (base := base) Cc
  obtain ⟨fd_law_like, F_law_like, ok_law_like⟩ := g_law_like (P := P) (w := w) (base := base) Cc
  obtain ⟨fd_law_pair, F_law_pair, ok_law_pair⟩ := g_law_pair (P := P) (w := w) (base := base) Cc
  obtain ⟨fd_law_power, F_law_power, ok_law_power⟩ := g_law_power (P := P) (w := w) (base := base) Cc
  obtain ⟨fd_within_power, F_within_power, ok_within_power⟩ := g_within_power (P := P) (w := w) (base := base) Cc
  obtain ⟨bd_Ratio_init_1d, bd_Ratio_init_1v, bd_Ratio_init_1⟩   := FunD.binds1 (ps := ["self", "top", "bottom"]) F_Ratio_init 2 0 (by decide) rfl (fun T kV doc pm an cdv ct us its h1 h2 => match us, its, h1, h2 with | [_, _], [_], _, _ => ⟨_, rfl, rfl⟩)
  obtain ⟨kb_Ratio_init_bottom_top_0i, kb_Ratio_init_bottom_top_0⟩ := kbn_dfl (ps := ["self", "top", "bottom"]) F_Ratio_init 1 ["bottom", "top"] [(0, 0), (2, 1), (2, 0)] (by decide) (fun T kV doc pm an cdv ct us its ws h1 h2 h3 => match us, its, ws, h1, h2, h3 with | [_], [_], [_, _], _, _, _ => ⟨_, rfl, rfl⟩)
  have hR_Ratio_init : ∀ {F2 : Hp} {σ2 : L2.St}, RAs K F2 σ2 (([(.int 1)] : List D).map R.val) [(.int 1)] := fun {F2 σ2} => .cons (show Rep K F2 (.int 1) (.int 1) from rep_int.mpr rfl) (.nil)
  exact fn_ok2 F sc 6 rfl rfl fun cdv A outer s H E hr => ⟨t_law_within_so, (ys_cons (y_par2 (i := 4) (j := 5) rfl sc.nd (hold_cons (x_call (dds := []) ok_law_pair (hr.mono (by decide)) rfl (Cc.glo 15 rfl) F_law_pair.kp (F_law_pair.bindsN fun _ _ _ _ _ _ us hl => match us, hl with | [_], _ => rfl) .nil (fun _ _ => .nil) (xa_cons (xv 0) xa_nil)) (hold_cons (x_call (dds := []) ok_law_great (hr.mono (by decide)) rfl (Cc.glo 12 rfl) F_law_great.kp (F_law_great.bindsN fun _ _ _ _ _ _ us hl => match us, hl with | [_], _ => rfl) .nil (fun _ _ => .nil) (xa_cons (xv 0) xa_nil)) hold_nil))) (ys_cons (y_set (i := 1) sc.nd (x_makeK0 (ix := [(0, 0), (2, 1), (2, 0)]) (dds := [(.int 1)]) (Cc.mkr 36 rfl) ok_Ratio_init (hr.mono (by decide)) rfl (Cc.glo 38 rfl) (kb_Ratio_init_bottom_top_0) (fun _ _ => hR_Ratio_init) (xk_cons (x_ix (xv 4) x_int) (xk_cons (x_ix (xv 4) x_int) xk_nil)))) (ys_cons (y_set (i := 2) sc.nd (x_call (dds := []) ok_law_least (hr.mono (by decide)) rfl (Cc.glo 14 rfl) F_law_least.kp (F_law_least.bindsN fun _ _ _ _ _ _ us hl => match us, hl with | [_, _], _ => rfl) .nil (fun _ _ => .nil) (xa_cons (x_ix (xv 4) x_int) (xa_cons (x_call (dds := []) ok_law_power (hr.mono (by decide)) rfl (Cc.glo 13 rfl) F_law_power.kp (F_law_power.bindsN fun _ _ _ _ _ _ us hl => match us, hl with | [_, _], _ => rfl) .nil (fun _ _ => .nil) (xa_cons (xv 5) (xa_cons (x_ix (xv 4) x_int) xa_nil))) xa_nil)))) (ys_cons (y_for PassesOwn.never rfl (xi_seq (x_tup (xa_cons (xv 2) (xa_cons (x_add (xv 2) x_int) (xa_cons (x_ifE (xt_gt hr.units (xv 2) x_int) (x_sub (xv 2) x_int) x_int) (xa_cons x_int (xa_cons x_int (xa_cons (xv 5) (xa_cons (x_call (dds := []) ok_law_great (hr.mono (by decide)) rfl (Cc.glo 12 rfl) F_law_great.kp (F_law_great.bindsN fun _ _ _ _ _ _ us hl => match us, hl with | [_], _ => rfl) .nil (fun _ _ => .nil) (xa_cons (xv 0) xa_nil)) xa_nil))))))))) (g_name (i := 3) sc.nd) (ys_cons (y_set (i := 6) sc.nd (x_le hr.units (x_call (dds := []) ok_law_power (hr.mono (by decide)) rfl (Cc.glo 13 rfl) F_law_power.kp (F_law_power.bindsN fun _ _ _ _ _ _ us hl => match us, hl with | [_, _], _ => rfl) .nil (fun _ _ => .nil) (xa_cons (xv 3) (xa_cons (x_ix (xv 4) x_int) xa_nil))) (x_call (dds := []) ok_law_power (hr.mono (by decide)) rfl (Cc.glo 13 rfl) F_law_power.kp (F_law_power.bindsN fun _ _ _ _ _ _ us hl => match us, hl with | [_, _], _ => rfl) .nil (fun _ _ => .nil) (xa_cons (xv 5) (xa_cons (x_ix (xv 4) x_int) xa_nil))))) (ys_one (y_if (xt_not (xt_val (x_call (dds := []) ok_law_like (hr.mono (by decide)) rfl (Cc.glo 9 rfl) F_law_like.kp (F_law_like.bindsN fun _ _ _ _ _ _ us hl => match us, hl with | [_, _], _ => rfl) .nil (fun _ _ => .nil) (xa_cons (x_lst (xa_cons (x_call (dds := []) ok_within_power (hr.mono (by decide)) rfl (Cc.glo 2 rfl) F_within_power.kp (F_within_power.bindsN fun _ _ _ _ _ _ us hl => match us, hl with | [_, _, _], _ => rfl) .nil (fun _ _ => .nil) (xa_cons (xv 3) (xa_cons (xv 5) (xa_cons (xv 1) xa_nil)))) (xa_cons (x_callK0 (ix := [(2, 2), (2, 1), (2, 0)]) (dds := []) ok_within_power (hr.mono (by decide)) rfl (Cc.glo 2 rfl) F_within_power.kp (kbn_of F_within_power 0 ["exponent", "n", "count"] [(2, 2), (2, 1), (2, 0)] (fun kV doc pm an cdv ct us ws h1 h2 => match us, ws, h1, h2 with | [], [_, _, _], _, _ => rfl)) (fun _ _ => .nil) (xk_cons (xv 1) (xk_cons (xv 5) (xk_cons (xv 3) xk_nil)))) xa_nil))) (xa_cons (x_lst (xa_cons (xv 6) (xa_cons (xv 6) xa_nil))) xa_nil))))) (ys_one (y_ret x_bl)) ys_nil)))) (ys_cons (y_set (i := 3) sc.nd (x_call (dds := []) ok_law_great (hr.mono (by decide)) rfl (Cc.glo 12 rfl) F_law_great.kp (F_law_great.bindsN fun _ _ _ _ _ _ us hl => match us, hl with | [_], _ => rfl) .nil (fun _ _ => .nil) (xa_cons (xv 0) xa_nil))) (ys_cons (y_if (xt_not (xt_val (x_call (dds := []) ok_law_like (hr.mono (by decide)) rfl (Cc.glo 9 rfl) F_law_like.kp (F_law_like.bindsN fun _ _ _ _ _ _ us hl => match us, hl with | [_, _], _ => rfl) .nil (fun _ _ => .nil) (xa_cons (x_lst (xa_cons (x_call (dds := []) ok_within_power (hr.mono (by decide)) rfl (Cc.glo 2 rfl) F_within_power.kp (F_within_power.bindsN fun _ _ _ _ _ _ us hl => match us, hl with | [_, _, _], _ => rfl) .nil (fun _ _ => .nil) (xa_cons (xv 3) (xa_cons (xv 3) (xa_cons (x_make (dds := [(.int 1)]) (Cc.mkr 36 rfl) ok_Ratio_init (hr.mono (by decide)) rfl (Cc.glo 38 rfl) bd_Ratio_init_1 bd_Ratio_init_1v (fun _ _ => hR_Ratio_init) (xa_cons x_int xa_nil)) xa_nil)))) (xa_cons (x_call (dds := []) ok_within_power (hr.mono (by decide)) rfl (Cc.glo 2 rfl) F_within_power.kp (F_within_power.bindsN fun _ _ _ _ _ _ us hl => match us, hl with | [_, _, _], _ => rfl) .nil (fun _ _ => .nil) (xa_cons (xv 3) (xa_cons x_int (xa_cons (x_make (dds := [(.int 1)]) (Cc.mkr 36 rfl) ok_Ratio_init (hr.mono (by decide)) rfl (Cc.glo 38 rfl) bd_Ratio_init_1 bd_Ratio_init_1v (fun _ _ => hR_Ratio_init) (xa_cons x_int xa_nil)) xa_nil)))) (xa_cons (x_call (dds := []) ok_within_power (hr.mono (by decide)) rfl (Cc.glo 2 rfl) F_within_power.kp (F_within_power.bindsN fun _ _ _ _ _ _ us hl => match us, hl with | [_, _, _], _ => rfl) .nil (fun _ _ => .nil) (xa_cons x_int (xa_cons x_int (xa_cons (xv 1) xa_nil)))) xa_nil)))) (xa_cons (x_lst (xa_cons x_bl (xa_cons (x_lt hr.units (xv 3) x_int) (xa_cons x_bl xa_nil)))) xa_nil))))) (ys_one (y_ret x_bl)) ys_nil) (ys_one (y_ret (x_call (dds := []) ok_law_like (hr.mono (by decide)) rfl (Cc.glo 9 rfl) F_law_like.kp (F_law_like.bindsN fun _ _ _ _ _ _ us hl => match us, hl with | [_, _], _ => rfl) .nil (fun _ _ => .nil) (xa_cons (x_lst (xa_cons (x_fld (Cc.cls 35 rfl) (Cc.noat 39 rfl) (xv 1)) (xa_cons (x_fld (Cc.cls 35 rfl) (Cc.noat 40 rfl) (xv 1)) xa_nil))) (xa_cons (x_lst (xa_cons (x_ix (xv 4) x_int) (xa_cons (x_ix (xv 4) x_int) xa_nil))) xa_nil))))))))))), r_law_within_so⟩
theorem g_law (Cc : Ctx K mg) : ∃ fd, FunD K "law" "law" (defArgs s_law) (defBody s_law) (defScope s_law) [] [] (He.ga K "law") fd ∧ FnOk P w K mg base CX0 6 (He.ga K "law") fd ["script"] (liftSp K m_law sp_law) := by
  obtain ⟨fd, F⟩ : ∃ fd, FunD K "law" "law" (defArgs s_law) (defBody s_law) (defScope s_law) [] [] (He.ga K "law") fd := Cc.fn 21 rfl
  refine ⟨fd, F, ?_⟩
  have sc : FnScope ["script", "bag", "lap"] ["script"] (defScope s_law) := ⟨rfl, rfl, rfl, by decide +kernel, rfl, by decide +kernel, by decide +kernel⟩
  obtain ⟨fd_law_bag, F_law_bag, ok_law_bag⟩ := g_law_bag (P := P) (w := w) (base := base) Cc
  obtain ⟨fd_law_roots_so, F_law_roots_so, ok_law_roots_so⟩ := g_law_roots_so (P := P) (w := w) (base := base) Cc
  obtain ⟨fd_law_powers_so, F_law_powers_so, ok_law_powers_so⟩ := g_law_powers_so (P := P) (w := w) (base := base) Cc
  obtain ⟨fd_law_within_so, F_law_within_so, ok_law_within_so⟩ := g_law_within_so (P := P) (w := w) (base := base) Cc
  exact fn_ok2 F sc 2 rfl rfl fun cdv A outer s H E hr => ⟨t_law, (ys_cons (y_set (i := 1) sc.nd (x_call (dds := []) ok_law_bag (hr.mono (by decide)) rfl (Cc.glo 6 rfl) F_law_bag.kp (F_law_bag.bindsN fun _ _ _ _ _ _ us hl => match us, hl with | [_], _ => rfl) .nil (fun _ _ => .nil) (xa_cons (xv 0) xa_nil))) (ys_cons (y_for PassesOwn.never rfl (xi_range1 rfl (Cc.free 31 rfl) (xa_cons x_int xa_nil)) (g_name (i := 2) sc.nd) (ys_one (y_if (xt_w (xw_or (xt_not (xt_val (x_call (dds := []) ok_law_roots_so (hr.mono (by decide)) rfl (Cc.glo 17 rfl) F_law_roots_so.kp (F_law_roots_so.bindsN fun _ _ _ _ _ _ us hl => match us, hl with | [_], _ => rfl) .nil (fun _ _ => .nil) (xa_cons (xv 1) xa_nil)))) (xw_or (xt_not (xt_val (x_call (dds := []) ok_law_powers_so (hr.mono (by decide)) rfl (Cc.glo 18 rfl) F_law_powers_so.kp (F_law_powers_so.bindsN fun _ _ _ _ _ _ us hl => match us, hl with | [_], _ => rfl) .nil (fun _ _ => .nil) (xa_cons (xv 1) xa_nil)))) (xw_or1 (xt_not (xt_val (x_call (dds := []) ok_law_within_so (hr.mono (by decide)) rfl (Cc.glo 19 rfl) F_law_within_so.kp (F_law_within_so.bindsN fun _ _ _ _ _ _ us hl => match us, hl with | [_], _ => rfl) .nil (fun _ _ => .nil) (xa_cons (xv 1) xa_nil)))))))) (ys_one (y_ret x_bl)) ys_nil))) (ys_one (y_ret x_bl)))), r_law⟩
end
theorem facts {P : Program} {w : World} {K : PySem.W.Frag} {mg : Str → Option Value} {f : Addr} (Cc : Ctx K mg) (hfa : mg ("law" : Str) = some (.ref f)) :
    ∃ fd : FuncData, (∀ (s : Shared) (v : Value), BindsTo s fd ⟨[v], []⟩ [("script", v)]) ∧ ∀ base : Heap, FnOk P w K mg base CX0 6 f fd ["script"] (liftSp K m_law sp_law) := by
  obtain ⟨fd, F⟩ : ∃ fd, FunD K "law" "law" (defArgs s_law) (defBody s_law) (defScope s_law) [] [] (He.ga K "law") fd := Cc.fn 21 rfl
  have e := hfa.symm.trans (Cc.glo 20 rfl)
  cases e
  have b := FunD.bindsA (ps := ["script"]) F fun _ _ _ _ _ _ us hl => match us, hl with | [_], _ => rfl
  refine ⟨fd, fun s v => b s [v] rfl, fun base => ?_⟩
  obtain ⟨fd2, F2, ok⟩ := g_law (P := P) (w := w) (base := base) Cc
  obtain ⟨oc, od, dV, kV, doc, pm, an, cdv, ct, osl, e1, lk, _⟩ := F.ex
  obtain ⟨oc2, od2, dV2, kV2, doc2, pm2, an2, cdv2, ct2, osl2, e2, lk2, _⟩ := F2.ex
  rw [lk] at lk2
  have e3 : fd = fd2 := by
    have e4 := Option.some.inj lk2
    injection e4 with _ _ e5 _
    injection e5
  rw [e3]
  exact ok
theorem reps_ints {K : PySem.W.Frag} {F : Hp} : ∀ ns : List Int, Reps K F (ns.map D.int) (ns.map V.int)
  | [] => reps_nil.mpr rfl
  | n :: ns => reps_cons.mpr ⟨_, _, rfl, rep_int.mpr rfl, reps_ints ns⟩
theorem law_sp {K : PySem.W.Frag} {H : Hp} {a : Addr} {ns : List Int} (h : SqL K H a (ns.map V.int)) : liftSp K m_law sp_law [.ref a] H (fun v _ => v = .bl true) fun _ _ _ => False := by
  have r : Rep K H (.rol (ns.map D.int)) (.ref a) := rep_rol.mpr ⟨a, _, rfl, h, reps_ints ns⟩
  refine ⟨H, [.rol (ns.map D.int)], fun os x => x = .val (.bl true), rfl, ?_, ⟨ns, rfl, rfl⟩, fun os x e F' H' v P q => ?_⟩
  · refine ⟨Same.refl _, rfl, fun i s e => ?_, fun i j s t b h1 h2 m1 m2 _ _ => ?_⟩
    · rcases i with _ | i
      · cases e
        exact ⟨_, rfl, _, rfl, r⟩
      · cases e
    · rcases i with _ | i
      · cases h1
        cases m1
      · cases h1
  · subst e
    exact rep_bl.mp (show Rep K F' (.bl true) v from q)
end LW
open PySem PySem.W PySem.Calls PyProof.Rows
theorem PySem.Challenge.cw_proofplans_k11_powers_and_roots_holds : PySem.Challenge.rw_proofplans_k11_powers_and_roots.Holds := by
  w_on; o_law
  refine HandSHeadRun.head_imp (r := OpenLaw.row PySem.Challenge.rw_proofplans_k11_powers_and_roots) (q := view (OpenLaw.row PySem.Challenge.rw_proofplans_k11_powers_and_roots).prog [0, 31]) (H := LW.hk) (ob := LW.ob) (M := 6000) (loose := LW.loose) (d := HandSHeadRun.topDef (OpenLaw.row PySem.Challenge.rw_proofplans_k11_powers_and_roots).prog 31) (kwd := []) LW.ob_eq
    LW.run (by kernel_rfl) (by kernel_rfl) (by kernel_rfl) (by rfl) (by first | assumption | decide +kernel) (by decide +kernel) ⟨rfl, rfl, rfl, rfl, rfl, by decide +kernel⟩ ?hw ?hc
  case hw => w_witness2
  case hc =>
    refine L2.walk_ofE (l := PySem.Challenge.rw_proofplans_k11_powers_and_roots) (n := 63) (k := 6) (x := "script") (CX := L2.CX0) rfl (by decide) (by kernel_rfl) ⟨rfl, by decide, by decide⟩ ?F (fun _ _ _ _ z => z)
    intro w mg fa h Y G hmg0
    obtain ⟨K, KX, c⟩ := Y
    have hmg : mg ("law" : PySem.Str) = some (.ref fa) := by
      have e : (HandSHeadRun.topDef (OpenLaw.row PySem.Challenge.rw_proofplans_k11_powers_and_roots).prog 31).name = ("law" : PySem.Str) := by kernel_rfl
      rw [← e]
      exact hmg0
    obtain ⟨fd, hb, hF⟩ := LW.facts (P := (PySem.Challenge.rw_proofplans_k11_powers_and_roots).prog) (w := w) (K := K) ⟨h, KX, G, c⟩ hmg
    exact ⟨K, fd, _, KX, hb, fun H a ns hl _ hS => LW.law_sp hS, fun base _ _ => hF base⟩
