import PyProof.Rows.All
import Wide.All
import OpenK.AllK
import Wide.FinOn
import HandS.ForMost
import HandS.ForExc
import HandS.Wide
import HandS.TupAny
import HandS.WideBits
import HandS.IsInst
import HandS.Text
import HandS.TryOnly
import HandS.Iter
import HandS.ExcIs
import HandS.Comp
import HandS.Defaults
import HandS.HeadHook4
import HandS.EndBits
import HandS.HeadEnd
import HandS.Codes
import PySem.Challenge.RW_zonewalk_k81_fractions_as_text
import HandS.Head0
import HandS.Head1
import HandS.Head2
set_option Elab.async false
set_option linter.all false
set_option maxRecDepth 100000
set_option maxHeartbeats 4000000
/-! # Pu: plain data over the hand layer. A value is a tree D; a def of the text becomes a plain function of D. -/
namespace Pu
open PySem PySem.Spec L2

/-- plain data: what a value is, without addresses -/
inductive D where
  | non | bl (b : Bool) | int (i : Int) | str (x : Str)
  | lst (ds : List D) | tup (ds : List D)
  /-- a locked list: the script -/
  | frz (ds : List D)
  | ins (c : Str) (fs : List (Str × D))

/-- what a piece of code comes to: a value, or an exception of a class with its one field -/
inductive Out (α : Type) where
  | ok (a : α)
  | exc (c : Str) (x : Option (Str × D))

abbrev R (α : Type) := Option (Out α)
abbrev ok {α : Type} (a : α) : R α := some (.ok a)
abbrev exc {α : Type} (c : Str) (x : Option (Str × D)) : R α := some (.exc c x)
def R.bind {α β : Type} (r : R α) (f : α → R β) : R β :=
  match r with
  | none => none
  | some (.exc c x) => some (.exc c x)
  | some (.ok a) => f a
@[simp] theorem R.bind_ok {α β : Type} (a : α) (f : α → R β) : R.bind (some (.ok a)) f = f a := rfl
@[simp] theorem R.bind_exc {α β : Type} (c) (x) (f : α → R β) : R.bind (some (.exc c x)) f = some (.exc c x) := rfl
@[simp] theorem R.bind_none {α β : Type} (f : α → R β) : R.bind none f = none := rfl

/-- the ground: the written part, the classes by name -/
structure G where
  K : PySem.W.Frag
  cls : Str → Option Addr
  /-- the exception that an except suite holds: its address, its class, its dict -/
  ex : Option (Addr × Value × Option Addr) := none

mutual
inductive Rep (g : G) (H : Hp) : V → D → Prop
  | non : Rep g H .non .non
  | bl (b : Bool) : Rep g H (.bl b) (.bl b)
  | int (i : Int) : Rep g H (.int i) (.int i)
  | str (x : Str) : Rep g H (.str x) (.str x)
  | lst {a : Addr} {vs : List V} {ds : List D} : H a = some (.lst vs) → Reps g H vs ds → Rep g H (.ref a) (.lst ds)
  | frz {a : Addr} {vs : List V} {ds : List D} : SqL g.K H a vs → Reps g H vs ds → Rep g H (.ref a) (.frz ds)
  | tup {a : Addr} {vs : List V} {ds : List D} : SqT g.K H a vs → Reps g H vs ds → Rep g H (.ref a) (.tup ds)
  | ins {a dx C : Addr} {c : Str} {gs : List (Str × V)} {fs : List (Str × D)} : H a = some (.ins C dx gs) → g.cls c = some C → RepF g H gs fs → Rep g H (.ref a) (.ins c fs)
inductive Reps (g : G) (H : Hp) : List V → List D → Prop
  | nil : Reps g H [] []
  | cons {v : V} {vs : List V} {d : D} {ds : List D} : Rep g H v d → Reps g H vs ds → Reps g H (v :: vs) (d :: ds)
inductive RepF (g : G) (H : Hp) : List (Str × V) → List (Str × D) → Prop
  | nil : RepF g H [] []
  | cons {n : Str} {v : V} {vs : List (Str × V)} {d : D} {ds : List (Str × D)} : Rep g H v d → RepF g H vs ds → RepF g H ((n, v) :: vs) ((n, d) :: ds)
end

theorem _root_.L2.Same.seqT {K : PySem.W.Frag} {H H' : Hp} {a : Addr} {xs : List V} (e : Same H H') (h : SqT K H a xs) : SqT K H' a xs := by
  rcases h with (h | ⟨o, h⟩) | h
  · exact .inl (.inl (e _ _ h))
  · exact .inl (.inr ⟨o, e _ _ h⟩)
  · exact .inr h

section
variable {g : G} {H H' : Hp}
mutual
theorem Rep.mono (s : Same H H') : ∀ {v : V} {d : D}, Rep g H v d → Rep g H' v d
  | _, _, .non => .non
  | _, _, .bl b => .bl b
  | _, _, .int i => .int i
  | _, _, .str x => .str x
  | _, _, .lst h r => .lst (s _ _ h) (Reps.mono s r)
  | _, _, .frz h r => .frz (s.seq h) (Reps.mono s r)
  | _, _, .tup h r => .tup (s.seqT h) (Reps.mono s r)
  | _, _, .ins h c r => .ins (s _ _ h) c (RepF.mono s r)
theorem Reps.mono (s : Same H H') : ∀ {vs : List V} {ds : List D}, Reps g H vs ds → Reps g H' vs ds
  | _, _, .nil => .nil
  | _, _, .cons r t => .cons (Rep.mono s r) (Reps.mono s t)
theorem RepF.mono (s : Same H H') : ∀ {vs : List (Str × V)} {ds : List (Str × D)}, RepF g H vs ds → RepF g H' vs ds
  | _, _, .nil => .nil
  | _, _, .cons r t => .cons (Rep.mono s r) (RepF.mono s t)
end
theorem Reps.length : ∀ {vs : List V} {ds : List D}, Reps g H vs ds → vs.length = ds.length
  | _, _, .nil => rfl
  | _, _, .cons _ t => by rw [List.length_cons, List.length_cons, Reps.length t]
theorem Reps.get : ∀ {vs : List V} {ds : List D} {i : Nat} {d : D}, Reps g H vs ds → ds[i]? = some d → ∃ v, vs[i]? = some v ∧ Rep g H v d
  | _, _, i, _, .nil, e => by simp at e
  | _, _, 0, _, .cons r _, e => by simp at e; subst e; exact ⟨_, rfl, r⟩
  | _, _, i + 1, d, .cons _ t, e => by
    obtain ⟨v, h1, h2⟩ := Reps.get (i := i) (d := d) t (by simpa using e)
    exact ⟨v, by simpa using h1, h2⟩
theorem Reps.getV : ∀ {vs : List V} {ds : List D} {i : Nat} {v : V}, Reps g H vs ds → vs[i]? = some v → ∃ d, ds[i]? = some d ∧ Rep g H v d
  | _, _, i, _, .nil, e => by simp at e
  | _, _, 0, _, .cons r _, e => by simp at e; subst e; exact ⟨_, rfl, r⟩
  | _, _, i + 1, v, .cons _ t, e => by
    obtain ⟨d, h1, h2⟩ := Reps.getV (i := i) (v := v) t (by simpa using e)
    exact ⟨d, by simpa using h1, h2⟩
theorem Reps.append : ∀ {vs ws : List V} {ds es : List D}, Reps g H vs ds → Reps g H ws es → Reps g H (vs ++ ws) (ds ++ es)
  | _, _, _, _, .nil, s => s
  | _, _, _, _, .cons r t, s => .cons r (Reps.append t s)
theorem Reps.take : ∀ {vs : List V} {ds : List D} (n : Nat), Reps g H vs ds → Reps g H (vs.take n) (ds.take n)
  | _, _, 0, _ => .nil
  | _, _, _ + 1, .nil => .nil
  | _, _, n + 1, .cons r t => .cons r (Reps.take n t)
theorem Reps.drop : ∀ {vs : List V} {ds : List D} (n : Nat), Reps g H vs ds → Reps g H (vs.drop n) (ds.drop n)
  | _, _, 0, r => r
  | _, _, _ + 1, .nil => .nil
  | _, _, n + 1, .cons _ t => Reps.drop n t
theorem Reps.set {v : V} {d : D} (r : Rep g H v d) : ∀ {vs : List V} {ds : List D} (i : Nat), Reps g H vs ds → Reps g H (vs.set i v) (ds.set i d)
  | _, _, _, .nil => .nil
  | _, _, 0, .cons _ t => .cons r t
  | _, _, i + 1, .cons q t => .cons q (Reps.set r i t)
theorem Reps.of_map {α : Type} {f : α → V} {h : α → D} : ∀ (l : List α), (∀ x ∈ l, Rep g H (f x) (h x)) → Reps g H (l.map f) (l.map h)
  | [], _ => .nil
  | x :: l, q => .cons (q x List.mem_cons_self) (Reps.of_map l fun y hy => q y (List.mem_cons_of_mem _ hy))
theorem RepF.lookup : ∀ {vs : List (Str × V)} {ds : List (Str × D)} {n : Str} {d : D}, RepF g H vs ds → ds.lookup n = some d → ∃ v, vs.lookup n = some v ∧ Rep g H v d
  | _, _, _, _, .nil, e => by simp at e
  | _, _, n, d, .cons (n := m) r t, e => by
    rw [List.lookup_cons] at e ⊢
    cases h : n == m with
    | true => rw [h] at e; cases e; exact ⟨_, rfl, r⟩
    | false => rw [h] at e; exact RepF.lookup t e
theorem RepF.lookup_none : ∀ {vs : List (Str × V)} {ds : List (Str × D)} {n : Str}, RepF g H vs ds → ds.lookup n = none → vs.lookup n = none
  | _, _, _, .nil, e => rfl
  | _, _, n, .cons (n := m) r t, e => by
    rw [List.lookup_cons] at e ⊢
    cases h : n == m with
    | true => rw [h] at e; cases e
    | false => rw [h] at e; exact RepF.lookup_none t e
theorem RepF.length : ∀ {vs : List (Str × V)} {ds : List (Str × D)}, RepF g H vs ds → vs.length = ds.length
  | _, _, .nil => rfl
  | _, _, .cons _ t => by rw [List.length_cons, List.length_cons, RepF.length t]
end

/-- the heap without the addresses at S -/
noncomputable def hid (S : Addr → Prop) (H : Hp) : Hp := fun a => open Classical in if S a then none else H a
section
variable {S S' : Addr → Prop} {H H' : Hp} {a : Addr} {o : HO}
theorem hid_get (h : H a = some o) (n : ¬ S a) : hid S H a = some o := by unfold hid; rw [if_neg n]; exact h
theorem hid_of (h : hid S H a = some o) : H a = some o ∧ ¬ S a := by
  unfold hid at h
  split at h
  · cases h
  · rename_i n; exact ⟨h, n⟩
theorem hid_same (s : Same H H') : Same (hid S H) (hid S H') := fun b o h => hid_get (s b o (hid_of h).1) (hid_of h).2
theorem hid_le (h : ∀ b, S' b → S b) : Same (hid S H) (hid S' H) := fun b o q => hid_get (hid_of q).1 fun z => (hid_of q).2 (h b z)
theorem hid_sub : Same (hid S H) H := fun b o q => (hid_of q).1
theorem same_upd {p : Addr} (h : H p = none) : Same H (upd H p o) := fun b u q => by rw [upd_ne (ne_of_none q h)]; exact q
/-- the sets that are hidden stand in the heap -/
def In (S : Addr → Prop) (H : Hp) : Prop := ∀ b, S b → ∃ o, H b = some o
theorem In.same (i : In S H) (s : Same H H') : In S H' := fun b h => let ⟨o, e⟩ := i b h; ⟨o, s b o e⟩
theorem In.fresh (i : In S H) {p : Addr} (h : H p = none) : ¬ S p := fun z => by obtain ⟨o, e⟩ := i p z; rw [h] at e; cases e
theorem hid_new (i : In S H) {p : Addr} (h : H p = none) : hid S (upd H p o) p = some o := hid_get upd_same (i.fresh h)
end

/-- what a slot holds: nothing that is known; a datum; a list of one's own that may be changed; the exception of a suite -/
inductive Slot where
  | un | val (d : D) | own (ds : List D) | exn (c : Str) (x : Option (Str × D))
abbrev Env := List Slot

def ownAt (Γ : Env) (σ : St) (a : Addr) : Prop := ∃ (i : Nat) (ds : List D), Γ[i]? = some (.own ds) ∧ σ[i]? = some (some (.ref a))
/-- all that is hidden -/
def hs (O : Addr → Prop) (Γ : Env) (σ : St) : Addr → Prop := fun a => O a ∨ ownAt Γ σ a

def ExcOk (g : G) (Hv H : Hp) (dop : Option Addr) : Option (Str × D) → Prop
  | none => dop = none
  | some (f, d) => ∃ a v, dop = some a ∧ H a = some (.xd [(f, v)]) ∧ Rep g Hv v d
theorem ExcOk.mono {g : G} {Hv Hv' H H' : Hp} {dop : Option Addr} {x : Option (Str × D)} (h : ExcOk g Hv H dop x) (s : Same Hv Hv') (s' : Same H H') : ExcOk g Hv' H' dop x := by
  match x, h with
  | none, h => exact h
  | some (f, d), ⟨a, v, h1, h2, h3⟩ => exact ⟨a, v, h1, s' _ _ h2, h3.mono s⟩
structure Match (g : G) (O : Addr → Prop) (H0 : Hp) (Γ : Env) (σ : St) (H : Hp) : Prop where
  len : Γ.length = σ.length
  base : ∀ b o, H0 b = some o → H b = some o ∧ ¬ ownAt Γ σ b
  oin : In O H0
  slot : ∀ (i : Nat) d, Γ[i]? = some (.val d) → ∃ v, σ[i]? = some (some v) ∧ Rep g (hid (hs O Γ σ) H) v d
  owns : ∀ (i : Nat) ds, Γ[i]? = some (.own ds) → ∃ a vs, σ[i]? = some (some (.ref a)) ∧ H a = some (.lst vs) ∧ Reps g (hid (hs O Γ σ) H) vs ds
  inj : ∀ (i j : Nat) ds es a, Γ[i]? = some (.own ds) → Γ[j]? = some (.own es) → σ[i]? = some (some (.ref a)) → σ[j]? = some (some (.ref a)) → i = j
  exn : ∀ (i : Nat) c x, Γ[i]? = some (.exn c x) → ∃ a C dop, g.ex = some (a, .ref C, dop) ∧ g.cls c = some C ∧ σ[i]? = some (some (.ref a)) ∧ ExcOk g (hid (hs O Γ σ) H) H dop x

section
variable {g : G} {O : Addr → Prop} {H0 H H' : Hp} {Γ : Env} {σ : St}
theorem Match.same0 (m : Match g O H0 Γ σ H) : Same H0 H := fun b o e => (m.base b o e).1
theorem Match.hin (m : Match g O H0 Γ σ H) : In (hs O Γ σ) H := fun b h => by
  rcases h with h | ⟨i, ds, h1, h2⟩
  · obtain ⟨o, e⟩ := m.oin b h
    exact ⟨o, (m.base b o e).1⟩
  · obtain ⟨a, vs, e1, e2, _⟩ := m.owns i ds h1
    rw [h2] at e1; cases e1
    exact ⟨_, e2⟩
theorem Match.same (m : Match g O H0 Γ σ H) (s : Same H H') : Match g O H0 Γ σ H' :=
  ⟨m.len, fun b o e => ⟨s b o (m.base b o e).1, (m.base b o e).2⟩, m.oin, fun i d e => let ⟨v, h1, h2⟩ := m.slot i d e; ⟨v, h1, h2.mono (hid_same s)⟩,
    fun i ds e => let ⟨a, vs, h1, h2, h3⟩ := m.owns i ds e; ⟨a, vs, h1, s _ _ h2, h3.mono (hid_same s)⟩, m.inj, fun i c x e => let ⟨a, C, dop, h1, h2, h3, h4⟩ := m.exn i c x e; ⟨a, C, dop, h1, h2, h3, h4.mono (hid_same s) s⟩⟩
/-- another ghost base: all that is not one's own -/
theorem Match.rebase (m : Match g O H0 Γ σ H) : Match g O (hid (ownAt Γ σ) H) Γ σ H :=
  ⟨m.len, fun b o e => hid_of e, fun b h => let ⟨o, e⟩ := m.oin b h; ⟨o, hid_get (m.base b o e).1 (m.base b o e).2⟩, m.slot, m.owns, m.inj, m.exn⟩
/-- back to the older base -/
theorem Match.unbase {Γ' : Env} {σ' : St} (m : Match g O (hid (ownAt Γ σ) H) Γ' σ' H') (m0 : Match g O H0 Γ σ H) : Match g O H0 Γ' σ' H' :=
  ⟨m.len, fun b o e => m.base b o (hid_get (m0.base b o e).1 (m0.base b o e).2), m0.oin, m.slot, m.owns, m.inj, m.exn⟩
end

/-- the wish behind an exception -/
def PostX (g : G) (S : Addr → Prop) (H : Hp) (w : Value → Option Addr → Hp → Prop) (c : Str) (x : Option (Str × D)) : Prop :=
  ∀ C dop H', g.cls c = some C → Same H H' → ExcOk g (hid S H') H' dop x → w (.ref C) dop H'
/-- what comes: a value, of which P holds in every heap that keeps what stands; or an exception that the wish takes -/
def Post {α : Type} (g : G) (W : WX) (σ : St) (S : Addr → Prop) (H : Hp) (P : α → Hp → Prop) : R α → Prop
  | none => False
  | some (.exc c x) => PostX g S H (fun C dop H' => W C dop σ H') c x
  | some (.ok a) => ∀ H', Same H H' → P a H'

abbrev XS := Env → R D
abbrev XA := Env → R (List D)
abbrev XT := Env → R Bool
def LE (g : G) (W : WX) (p : XS) : TE := fun σ H Q => ∃ O H0 Γ, Match g O H0 Γ σ H ∧ Post g W σ (hs O Γ σ) H (fun d H' => ∀ v, Rep g (hid (hs O Γ σ) H') v d → Q v H') (p Γ)
def LA (g : G) (W : WX) (p : XA) : TA := fun σ H Q => ∃ O H0 Γ, Match g O H0 Γ σ H ∧ Post g W σ (hs O Γ σ) H (fun ds H' => ∀ vs, Reps g (hid (hs O Γ σ) H') vs ds → Q vs H') (p Γ)
def LT (g : G) (W : WX) (p : XT) : TT := fun σ H Q => ∃ O H0 Γ, Match g O H0 Γ σ H ∧ Post g W σ (hs O Γ σ) H (fun b H' => Q b H') (p Γ)

/-- what a statement comes to -/
inductive Fl where
  | nx | rt (d : D) | bk | ct | exc (c : Str) (x : Option (Str × D))
abbrev XB := Env → Option (Fl × Env)
def PostS (g : G) (W : WX) (O : Addr → Prop) (H0 : Hp) (E : Ends) : Option (Fl × Env) → Prop
  | none => False
  | some (.nx, Γ') => ∀ σ' H', Match g O H0 Γ' σ' H' → E.nx σ' H'
  | some (.rt d, Γ') => ∀ v H', Same H0 H' → Rep g (hid O H') v d → E.rt v H'
  | some (.bk, Γ') => ∀ σ' H', Match g O H0 Γ' σ' H' → E.bk σ' H'
  | some (.ct, Γ') => ∀ σ' H', Match g O H0 Γ' σ' H' → E.ct σ' H'
  | some (.exc c x, Γ') => ∀ σ' H' C dop, Match g O H0 Γ' σ' H' → g.cls c = some C → ExcOk g (hid (hs O Γ' σ') H') H' dop x → W (.ref C) dop σ' H'
def LS (g : G) (W : WX) (p : XB) : TS := fun E σ H => ∃ O H0 Γ, Match g O H0 Γ σ H ∧ PostS g W O H0 E (p Γ)

theorem _root_.L2.PE.imp {X : Cx} {e : Expr} {t t' : TE} (h : PE X e t) (k : ∀ σ H Q, t' σ H Q → t σ H Q) : PE X e t' := ⟨fun pins s σ H Q I w => h.run pins s σ H Q I (k σ H Q w)⟩
theorem _root_.L2.PT.imp {X : Cx} {e : Expr} {t t' : TT} (h : PT X e t) (k : ∀ σ H Q, t' σ H Q → t σ H Q) : PT X e t' := ⟨fun pins s σ H Q I w => h.run pins s σ H Q I (k σ H Q w)⟩
theorem _root_.L2.PW.imp {X : Cx} {e : Expr} {t t' : TT} (h : PW X e t) (k : ∀ σ H Q, t' σ H Q → t σ H Q) : PW X e t' := ⟨fun wh pins s σ H Q I w => h.run wh pins s σ H Q I (k σ H Q w)⟩
theorem _root_.L2.PA.imp {X : Cx} {es : List Expr} {t t' : TA} (h : PA X es t) (k : ∀ σ H Q, t' σ H Q → t σ H Q) : PA X es t' := ⟨fun pos pins s σ H Q I w => h.run pos pins s σ H Q I (k σ H Q w)⟩
theorem _root_.L2.PS.imp {X : Cx} {st : Stmt} {t t' : TS} (h : PS X st t) (k : ∀ E σ H, t' E σ H → t E σ H) : PS X st t' := ⟨fun pins s σ H E I w => h.run pins s σ H E I (k E σ H w)⟩
theorem _root_.L2.PSs.imp {X : Cx} {st : List Stmt} {t t' : TS} (h : PSs X st t) (k : ∀ E σ H, t' E σ H → t E σ H) : PSs X st t' := ⟨fun pins s σ H E I w => h.run pins s σ H E I (k E σ H w)⟩

section
variable {g : G} {W : WX} {σ : St} {S : Addr → Prop} {H H1 : Hp}
theorem PostX.same {w c x} (s : Same H H1) (h : PostX g S H w c x) : PostX g S H1 w c x := fun C dop H' e s' x => h C dop H' e (s.trans s') x
theorem Post.same {α : Type} {P : α → Hp → Prop} {r : R α} (s : Same H H1) (h : Post g W σ S H P r) : Post g W σ S H1 P r := by
  match r, h with
  | none, h => exact h
  | some (.exc c x), h => exact PostX.same (w := fun C dop H' => W C dop σ H') s h
  | some (.ok d), h => exact fun H' s' => h H' (s.trans s')
theorem Post.mono {α : Type} {P P' : α → Hp → Prop} {r : R α} (h : Post g W σ S H P r) (k : ∀ a H', r = some (.ok a) → Same H H' → P a H' → P' a H') : Post g W σ S H P' r := by
  match r, h with
  | none, h => exact h
  | some (.exc c x), h => exact h
  | some (.ok d), h => exact fun H' s' => k d H' rfl s' (h H' s')
theorem Post.bind {α β : Type} {P : β → Hp → Prop} {r : R α} {k : α → R β} (h : Post g W σ S H P (r.bind k)) : Post g W σ S H (fun a H' => Post g W σ S H' P (k a)) r := by
  match r, h with
  | none, h => exact h
  | some (.exc c x), h => exact h
  | some (.ok a), h => exact fun H' s' => Post.same s' h
/-- the value is there: no more is asked -/
theorem Post.ok {α : Type} {P : α → Hp → Prop} {a : α} (h : Post g W σ S H P (some (.ok a))) {H' : Hp} (s : Same H H') : P a H' := h H' s
theorem Post.here {α : Type} {P : α → Hp → Prop} {a : α} (h : Post g W σ S H P (some (.ok a))) : P a H := h H (Same.refl H)
end
end Pu

namespace Pu
open PySem PySem.Spec L2

/-! ## operators on plain data -/
def Pure1 (g : G) (r : V → Hp → VK → Prop) (f : D → Option D) : Prop := ∀ (S : Addr → Prop) (H : Hp) (x : V) (a e : D) (Q : VK), In S H → Rep g (hid S H) x a → f a = some e →
  (∀ v H', Same H H' → Rep g (hid S H') v e → Q v H') → r x H Q
def Pure2 (g : G) (r : R2) (f : D → D → Option D) : Prop := ∀ (S : Addr → Prop) (H : Hp) (x y : V) (a b e : D) (Q : VK), In S H → Rep g (hid S H) x a → Rep g (hid S H) y b → f a b = some e →
  (∀ v H', Same H H' → Rep g (hid S H') v e → Q v H') → r x y H Q
def PureN (g : G) (r : List V → Hp → VK → Prop) (f : List D → Option D) : Prop := ∀ (S : Addr → Prop) (H : Hp) (xs : List V) (as : List D) (e : D) (Q : VK), In S H → Reps g (hid S H) xs as → f as = some e →
  (∀ v H', Same H H' → Rep g (hid S H') v e → Q v H') → r xs H Q
/-- a method of a built-in type: the receiver, the arguments -/
def PureM (g : G) (r : V → List V → Hp → VK → Prop) (f : D → List D → Option D) : Prop := ∀ (S : Addr → Prop) (H : Hp) (x : V) (xs : List V) (a : D) (as : List D) (e : D) (Q : VK), In S H → Rep g (hid S H) x a → Reps g (hid S H) xs as → f a as = some e →
  (∀ v H', Same H H' → Rep g (hid S H') v e → Q v H') → r x xs H Q

def ofO {α : Type} (o : Option α) : R α := o.map .ok
@[simp] theorem ofO_some {α : Type} (a : α) : ofO (some a) = some (.ok a) := rfl
@[simp] theorem ofO_none {α : Type} : ofO (none : Option α) = none := rfl
theorem Post.ofO {α : Type} {g : G} {W : WX} {σ : St} {S : Addr → Prop} {H : Hp} {P : α → Hp → Prop} {o : Option α} (h : Post g W σ S H P (ofO o)) : ∃ a, o = some a ∧ ∀ H', Same H H' → P a H' := by
  cases o with
  | none => exact h.elim
  | some a => exact ⟨a, rfl, h⟩

def pVar (i : Nat) : XS := fun Γ => match Γ[i]? with
  | some (.val d) => ok d
  | _ => none
def pC (d : D) : XS := fun _ => ok d
def pUn (f : D → Option D) (p : XS) : XS := fun Γ => (p Γ).bind fun a => ofO (f a)
def pOp (f : D → D → Option D) (p q : XS) : XS := fun Γ => (p Γ).bind fun a => (q Γ).bind fun b => ofO (f a b)
def pTst (p : XS) : XT := fun Γ => (p Γ).bind fun a => match a with
  | .bl b => ok b
  | _ => none
def pAndT (p q : XT) : XT := fun Γ => (p Γ).bind fun b => if b = true then q Γ else ok false
def pOrT (p q : XT) : XT := fun Γ => (p Γ).bind fun b => if b = true then ok true else q Γ
def pNotT (p : XT) : XT := fun Γ => (p Γ).bind fun b => ok (!b)
def pOfT (p : XT) : XS := fun Γ => (p Γ).bind fun b => ok (.bl b)
def pAnd (p q : XS) : XS := fun Γ => (p Γ).bind fun a => match a with
  | .bl b => if b = true then q Γ else ok (.bl false)
  | _ => none
def pOr (p q : XS) : XS := fun Γ => (p Γ).bind fun a => match a with
  | .bl b => if b = true then ok (.bl true) else q Γ
  | _ => none
def pNot (p : XS) : XS := fun Γ => (p Γ).bind fun a => match a with
  | .bl b => ok (.bl (!b))
  | _ => none
def pIf (c : XT) (p q : XS) : XS := fun Γ => (c Γ).bind fun b => if b = true then p Γ else q Γ
def pNil : XA := fun _ => ok []
def pCons (p : XS) (q : XA) : XA := fun Γ => (p Γ).bind fun a => (q Γ).bind fun as => ok (a :: as)
def pCallN (f : List D → Option D) (p : XA) : XS := fun Γ => (p Γ).bind fun as => ofO (f as)
def pTup (p : XA) : XS := fun Γ => (p Γ).bind fun as => ok (.tup as)
def pLst (p : XA) : XS := fun Γ => (p Γ).bind fun as => ok (.lst as)

section
variable {X : Cx} {g : G} {W : WX} {a b c e : Expr} {es : List Expr} {pos : Pos} {p q r : XS} {pt qt : XT} {pa : XA}

theorem le_var (i : Nat) {x : Str} (hN : X.N[i]? = some x := by rfl) (hv : Vis X.env.scope x := by first | exact Or.inl rfl | exact Or.inr (Or.inl rfl) | exact Or.inr (Or.inr rfl)) (hd : (x == ("__debug__" : Str)) = false := by decide)
    (hcd : (x == ("__classdict__" : Str)) = false := by decide) : PE X (.Name x pos) (LE g W (pVar i)) :=
  (pe_var hN hv hd hcd).imp fun σ H Q ⟨O, H0, Γ, m, h⟩ => by
    unfold pVar at h
    split at h
    · rename_i d hd
      obtain ⟨v, e1, r1⟩ := m.slot i d hd
      exact ⟨v, e1, h.here v r1⟩
    · exact h.elim
theorem le_c {v : V} {d : D} (h : PE X e (tC v)) (hr : ∀ H, Rep g H v d) : PE X e (LE g W (pC d)) := h.imp fun σ H Q ⟨O, H0, Γ, m, h⟩ => h.here v (hr _)
theorem le_int {i : Int} {j : Nat} : PE X (.Constant (.int i) j pos) (LE g W (pC (.int i))) := le_c pe_int fun _ => .int i
theorem le_str {x : Str} {j : Nat} : PE X (.Constant (.str x) j pos) (LE g W (pC (.str x))) := le_c pe_str fun _ => .str x
theorem le_bl {b : Bool} {j : Nat} : PE X (.Constant (.bool b) j pos) (LE g W (pC (.bl b))) := le_c pe_bl fun _ => .bl b
theorem le_non {j : Nat} : PE X (.Constant .none j pos) (LE g W (pC .non)) := le_c pe_non fun _ => .non
/-- a constant of the module -/
theorem le_glob {x : Str} {d : D} {v : V} {u : Value} (hm : X.mg x = some u) (rv : RelV v u) (hr : ∀ H, Rep g H v d) (hg : Gl X x := by rfl) (hd : (x == ("__debug__" : Str)) = false := by decide) : PE X (.Name x pos) (LE g W (pC d)) := le_c (pe_glob hg hm rv hd) hr

theorem le_op {op : Operator} {r : R2} {f : D → D → Option D} (ho : OpR X (binaryOp op) r) (hf : Pure2 g r f) (ha : PE X a (LE g W p)) (hb : PE X b (LE g W q)) : PE X (.BinOp a op b pos) (LE g W (pOp f p q)) :=
  (pe_op ho ha hb).imp fun σ H Q ⟨O, H0, Γ, m, h⟩ => ⟨O, H0, Γ, m, h.bind.mono fun x H1 _ s1 h1 v rv => ⟨O, H0, Γ, m.same s1, h1.bind.mono fun y H2 _ s2 h2 w rw => by
    obtain ⟨e, he, k⟩ := h2.ofO
    exact hf _ H2 v w x y e Q (m.same (s1.trans s2)).hin (rv.mono (hid_same s2)) rw he fun z H' s z' => k H' s z z'⟩⟩
theorem le_un {op : UnaryOp} {r : V → Hp → VK → Prop} {f : D → Option D} (ho : UnR X (unaryOp op) r) (hf : Pure1 g r f) (ha : PE X a (LE g W p)) : PE X (.UnaryOp op a pos) (LE g W (pUn f p)) :=
  (pe_un ho ha).imp fun σ H Q ⟨O, H0, Γ, m, h⟩ => ⟨O, H0, Γ, m, h.bind.mono fun x H1 _ s1 h1 v rv => by
    obtain ⟨e, he, k⟩ := h1.ofO
    exact hf _ H1 v x e Q (m.same s1).hin rv he fun z H' s z' => k H' s z z'⟩
theorem op2_imp {r : R2} {f : D → D → Option D} (hf : Pure2 g r f) (σ : St) (H : Hp) (Q : VK) : LE g W (pOp f p q) σ H Q → tOp r (LE g W p) (LE g W q) σ H Q := fun ⟨O, H0, Γ, m, h⟩ =>
  ⟨O, H0, Γ, m, h.bind.mono fun x H1 _ s1 h1 v rv => ⟨O, H0, Γ, m.same s1, h1.bind.mono fun y H2 _ s2 h2 w rw => by
    obtain ⟨e, he, k⟩ := h2.ofO
    exact hf _ H2 v w x y e Q (m.same (s1.trans s2)).hin (rv.mono (hid_same s2)) rw he fun z H' s z' => k H' s z z'⟩⟩
theorem le_cmp {op : CmpOp} {r : R2} {f : D → D → Option D} (ho : OpR X (compareOp op) r) (hf : Pure2 g r f) (ha : PE X a (LE g W p)) (hb : PE X b (LE g W q)) (hm : behindInMarks op b = false) : PE X (.Compare a [op] [b] pos) (LE g W (pOp f p q)) :=
  (pe_cmpR ho ha hb hm).imp fun σ H Q => op2_imp hf σ H Q
theorem le_ix {r : R2} {f : D → D → Option D} (ho : IxR X r) (hf : Pure2 g r f) (ha : PE X a (LE g W p)) (hb : PE X b (LE g W q)) (hs : PlainIx b) : PE X (.Subscript a b pos) (LE g W (pOp f p q)) :=
  (pe_ix ho ha hb hs).imp fun σ H Q => op2_imp hf σ H Q
theorem rep_bl {S : Addr → Prop} {H : Hp} {b : Bool} : Rep g (hid S H) (.bl b) (.bl b) := .bl b
theorem Rep.to_bl {H : Hp} {v : V} {b : Bool} (h : Rep g H v (.bl b)) : v = .bl b := by cases h; rfl
/-- an expression as a test -/
theorem lt_of {e : Expr} (h : PE X e (LE g W p)) (he : ∀ whole, isTrue e X.env whole = (do let v ← whole; standAt e.pos; holding [v] (truthy v)) := by intro _; rfl) : PT X e (LT g W (pTst p)) :=
  (pt_val h he).imp fun σ H Q ⟨O, H0, Γ, m, h⟩ => ⟨O, H0, Γ, m, h.bind.mono fun x H1 _ s1 h1 v rv => by
    cases x with
    | bl b =>
      cases rv.to_bl
      exact ⟨b, rfl, h1.here⟩
    | _ => exact h1.elim⟩
theorem tst_imp {p : XS} (σ : St) (H : Hp) (Q : Bool → Hp → Prop) : LT g W (pTst p) σ H Q → LE g W p σ H (fun x H' => ∃ k, x = .bl k ∧ Q k H') := fun ⟨O, H0, Γ, m, h⟩ => ⟨O, H0, Γ, m, h.bind.mono fun x H1 _ s1 h1 v rv => by
    cases x with
    | bl b =>
      cases rv.to_bl
      exact ⟨b, rfl, h1.here⟩
    | _ => exact h1.elim⟩
theorem lt_cmp {op : CmpOp} {r : R2} {f : D → D → Option D} (ho : OpR X (compareOp op) r) (hf : Pure2 g r f) (ha : PE X a (LE g W p)) (hb : PE X b (LE g W q)) (hm : behindInMarks op b = false) : PT X (.Compare a [op] [b] pos) (LT g W (pTst (pOp f p q))) :=
  (pt_cmpR ho ha hb hm).imp fun σ H Q h => op2_imp hf σ H _ (tst_imp σ H Q h)
theorem lt_not (h : PT X a (LT g W pt)) : PT X (.UnaryOp .Not a pos) (LT g W (pNotT pt)) :=
  (pt_not h).imp fun σ H Q ⟨O, H0, Γ, m, h⟩ => ⟨O, H0, Γ, m, h.bind.mono fun x H1 _ s1 h1 => h1.here⟩
theorem lw_and1 (ha : PT X a (LT g W pt)) : PW X (.BoolOp .And [a] pos) (LT g W pt) := pw_and1 ha
theorem lw_or1 (ha : PT X a (LT g W pt)) : PW X (.BoolOp .Or [a] pos) (LT g W pt) := pw_or1 ha
theorem lw_and (ha : PT X a (LT g W pt)) (hb : PW X (.BoolOp .And (b :: es) pos) (LT g W qt)) : PW X (.BoolOp .And (a :: b :: es) pos) (LT g W (pAndT pt qt)) :=
  (pw_and ha hb).imp fun σ H Q ⟨O, H0, Γ, m, h⟩ => ⟨O, H0, Γ, m, h.bind.mono fun x H1 _ s1 h1 => by
    cases x with
    | true => exact iteT ⟨O, H0, Γ, m.same s1, h1⟩
    | false => exact iteF h1.here⟩
theorem lw_or (ha : PT X a (LT g W pt)) (hb : PW X (.BoolOp .Or (b :: es) pos) (LT g W qt)) : PW X (.BoolOp .Or (a :: b :: es) pos) (LT g W (pOrT pt qt)) :=
  (pw_or ha hb).imp fun σ H Q ⟨O, H0, Γ, m, h⟩ => ⟨O, H0, Γ, m, h.bind.mono fun x H1 _ s1 h1 => by
    cases x with
    | true => exact iteT h1.here
    | false => exact iteF ⟨O, H0, Γ, m.same s1, h1⟩⟩
theorem le_not (h : PE X a (LE g W p)) : PE X (.UnaryOp .Not a pos) (LE g W (pNot p)) :=
  (pe_not h).imp fun σ H Q ⟨O, H0, Γ, m, h⟩ => ⟨O, H0, Γ, m, h.bind.mono fun x H1 _ s1 h1 v rv => by
    cases x with
    | bl b =>
      cases rv.to_bl
      exact ⟨b, rfl, h1.here _ rep_bl⟩
    | _ => exact h1.elim⟩
theorem le_one {op} (h : PE X a (LE g W p)) : PE X (.BoolOp op [a] pos) (LE g W p) := pe_one h
theorem le_and (ha : PE X a (LE g W p)) (hb : PE X (.BoolOp .And (b :: es) pos) (LE g W q)) : PE X (.BoolOp .And (a :: b :: es) pos) (LE g W (pAnd p q)) :=
  (pe_and ha hb).imp fun σ H Q ⟨O, H0, Γ, m, h⟩ => ⟨O, H0, Γ, m, h.bind.mono fun x H1 _ s1 h1 v rv => by
    cases x with
    | bl b =>
      cases rv.to_bl
      refine ⟨b, rfl, ?_⟩
      cases b with
      | true => exact iteT ⟨O, H0, Γ, m.same s1, h1⟩
      | false => exact iteF (h1.here _ rep_bl)
    | _ => exact h1.elim⟩
theorem le_or (ha : PE X a (LE g W p)) (hb : PE X (.BoolOp .Or (b :: es) pos) (LE g W q)) : PE X (.BoolOp .Or (a :: b :: es) pos) (LE g W (pOr p q)) :=
  (pe_or ha hb).imp fun σ H Q ⟨O, H0, Γ, m, h⟩ => ⟨O, H0, Γ, m, h.bind.mono fun x H1 _ s1 h1 v rv => by
    cases x with
    | bl b =>
      cases rv.to_bl
      refine ⟨b, rfl, ?_⟩
      cases b with
      | true => exact iteT (h1.here _ rep_bl)
      | false => exact iteF ⟨O, H0, Γ, m.same s1, h1⟩
    | _ => exact h1.elim⟩
theorem le_if {c : Expr} (hc : PT X c (LT g W pt)) (ha : PE X a (LE g W p)) (hb : PE X b (LE g W q)) : PE X (.IfExp c a b pos) (LE g W (pIf pt p q)) :=
  (pe_ifExp hc ha hb).imp fun σ H Q ⟨O, H0, Γ, m, h⟩ => ⟨O, H0, Γ, m, h.bind.mono fun x H1 _ s1 h1 => by
    cases x with
    | true => exact iteT ⟨O, H0, Γ, m.same s1, h1⟩
    | false => exact iteF ⟨O, H0, Γ, m.same s1, h1⟩⟩
/-- a < b < c: b asked once -/
def pChain (f f' : D → D → Option D) (p q r : XS) : XS := fun Γ => (p Γ).bind fun a => (q Γ).bind fun b => match f a b with
  | some (.bl true) => (r Γ).bind fun c => ofO (f' b c)
  | some (.bl false) => ok (.bl false)
  | _ => none
theorem le_chain {op op' : CmpOp} {r1 r2 : R2} {f f' : D → D → Option D} (ho : OpR X (compareOp op) r1) (hf : Pure2 g r1 f) (ho' : OpR X (compareOp op') r2) (hf' : Pure2 g r2 f') (ha : PE X a (LE g W p)) (hb : PE X b (LE g W q)) (hc : PE X c (LE g W r))
    (hflat : ∀ a b e, f a b = some e → ∃ k, e = .bl k) (hm : lastMarks [op, op'] [b, c] = false) : PE X (.Compare a [op, op'] [b, c] pos) (LE g W (pChain f f' p q r)) :=
  (pe_chain ho ho' ha hb hc hm).imp fun σ H Q ⟨O, H0, Γ, m, h⟩ => ⟨O, H0, Γ, m, h.bind.mono fun x H1 _ s1 h1 v rv => ⟨O, H0, Γ, m.same s1, h1.bind.mono fun y H2 _ s2 h2 w rw => by
    have rv2 := rv.mono (hid_same s2)
    have hin := (m.same (s1.trans s2)).hin
    match hfe : f x y with
    | none => rw [hfe] at h2; exact h2.elim
    | some d =>
      obtain ⟨k, rfl⟩ := hflat _ _ _ hfe
      rw [hfe] at h2
      refine hf _ H2 v w x y _ _ hin rv2 rw hfe fun z H3 s3 rz => ?_
      cases rz.to_bl
      refine ⟨k, rfl, ?_⟩
      cases k with
      | false => exact iteF (Post.ok h2 s3 _ rep_bl)
      | true =>
        refine iteT ⟨O, H0, Γ, m.same (s1.trans (s2.trans s3)), (Post.same s3 h2).bind.mono fun c' H4 _ s4 h4 u ru => ?_⟩
        obtain ⟨e, he, k'⟩ := h4.ofO
        exact hf' _ H4 w u y c' e Q (m.same (s1.trans (s2.trans (s3.trans s4)))).hin (rw.mono (hid_same (s3.trans s4))) ru he fun z H' s z' => k' H' s z z'⟩⟩

/-! ## arguments, displays, calls of built-ins -/
theorem la_nil : PA X [] (LA g W pNil) := pa_nil.imp fun σ H Q ⟨O, H0, Γ, m, h⟩ => h.here [] .nil
theorem la_cons (ha : PE X e (LE g W p)) (hr : PA X es (LA g W pa)) (hs : starEach (e :: es) X.env = (false, eval e X.env) :: starEach es X.env := by rfl) : PA X (e :: es) (LA g W (pCons p pa)) :=
  (pa_cons ha hr hs).imp fun σ H Q ⟨O, H0, Γ, m, h⟩ => ⟨O, H0, Γ, m, h.bind.mono fun x H1 _ s1 h1 v rv => ⟨O, H0, Γ, m.same s1, h1.bind.mono fun y H2 _ s2 h2 w rw => h2.here _ (.cons (rv.mono (hid_same s2)) rw)⟩⟩
theorem new_tup {S : Addr → Prop} {H : Hp} {pp : Addr} {vs : List V} {ds : List D} (hin : In S H) (hp : H pp = none) (r : Reps g (hid S H) vs ds) : Rep g (hid S (upd H pp (.tup vs))) (.ref pp) (.tup ds) :=
  .tup (.inl (.inl (hid_new hin hp))) (r.mono (hid_same (same_upd hp)))
theorem new_lst {S : Addr → Prop} {H : Hp} {pp : Addr} {vs : List V} {ds : List D} (hin : In S H) (hp : H pp = none) (r : Reps g (hid S H) vs ds) : Rep g (hid S (upd H pp (.lst vs))) (.ref pp) (.lst ds) :=
  .lst (hid_new hin hp) (r.mono (hid_same (same_upd hp)))
theorem le_tup {x1 : Nat} (h : PA X es (LA g W pa)) (hl : es.length ≤ 100 := by decide) (hlen : ∀ Γ ds, pa Γ = some (.ok ds) → ds.length = es.length) : PE X (.Tuple es x1 pos) (LE g W (pTup pa)) :=
  (pe_tup h).imp fun σ H Q ⟨O, H0, Γ, m, h⟩ => ⟨O, H0, Γ, m, h.bind.mono fun x H1 e1 s1 h1 vs rv => ⟨by
    rw [rv.length, hlen _ _ e1]; exact Nat.le_trans hl (by decide), fun pp hp => Post.ok h1 (same_upd hp) _ (new_tup (m.same s1).hin hp rv)⟩⟩
theorem le_lst (h : PA X es (LA g W pa)) (hl : es.length ≤ 100 := by decide) (hlen : ∀ Γ ds, pa Γ = some (.ok ds) → ds.length = es.length) : PE X (.List es pos) (LE g W (pLst pa)) :=
  (pe_lst h).imp fun σ H Q ⟨O, H0, Γ, m, h⟩ => ⟨O, H0, Γ, m, h.bind.mono fun x H1 e1 s1 h1 vs rv => ⟨by
    rw [rv.length, hlen _ _ e1]; exact Nat.le_trans hl (by decide), fun pp hp => Post.ok h1 (same_upd hp) _ (new_lst (m.same s1).hin hp rv)⟩⟩
theorem pNil_len (Γ : Env) (ds : List D) (h : pNil Γ = some (.ok ds)) : ds.length = 0 := by cases h; rfl
theorem pCons_len {p : XS} {q : XA} {n : Nat} (hq : ∀ Γ ds, q Γ = some (.ok ds) → ds.length = n) (Γ : Env) (ds : List D) (h : pCons p q Γ = some (.ok ds)) : ds.length = n + 1 := by
  unfold pCons at h
  match hp : p Γ with
  | none => rw [hp] at h; cases h
  | some (.exc c x) => rw [hp] at h; cases h
  | some (.ok a) =>
    rw [hp] at h
    match hq' : q Γ with
    | none => rw [R.bind_ok, hq'] at h; cases h
    | some (.exc c x) => rw [R.bind_ok, hq'] at h; cases h
    | some (.ok as) =>
      rw [R.bind_ok, hq', R.bind_ok] at h
      cases h
      rw [List.length_cons, hq _ _ hq']
end
end Pu

namespace Pu
open PySem PySem.Spec L2

/-! ## the operators on plain data -/
section
variable {g : G} {H : Hp} {v : V} {d : D}
theorem Rep.to_int {i : Int} (h : Rep g H v (.int i)) : v = .int i := by cases h; rfl
theorem Rep.to_str {x : Str} (h : Rep g H v (.str x)) : v = .str x := by cases h; rfl
theorem Rep.to_non (h : Rep g H v .non) : v = .non := by cases h; rfl
theorem Rep.to_lst {ds : List D} (h : Rep g H v (.lst ds)) : ∃ a vs, v = .ref a ∧ H a = some (.lst vs) ∧ Reps g H vs ds := by cases h; exact ⟨_, _, rfl, by assumption, by assumption⟩
theorem Rep.to_frz {ds : List D} (h : Rep g H v (.frz ds)) : ∃ a vs, v = .ref a ∧ SqL g.K H a vs ∧ Reps g H vs ds := by cases h; exact ⟨_, _, rfl, by assumption, by assumption⟩
theorem Rep.to_tup {ds : List D} (h : Rep g H v (.tup ds)) : ∃ a vs, v = .ref a ∧ SqT g.K H a vs ∧ Reps g H vs ds := by cases h; exact ⟨_, _, rfl, by assumption, by assumption⟩
theorem Rep.to_ins {c : Str} {fs : List (Str × D)} (h : Rep g H v (.ins c fs)) : ∃ a dx C gs, v = .ref a ∧ H a = some (.ins C dx gs) ∧ g.cls c = some C ∧ RepF g H gs fs := by cases h; exact ⟨_, _, _, _, rfl, by assumption, by assumption, by assumption⟩
end
theorem SqL_hid {K : PySem.W.Frag} {S : Addr → Prop} {H : Hp} {a : Addr} {xs : List V} (h : SqL K (hid S H) a xs) : SqL K H a xs := hid_sub.seq h
theorem SqT_hid {K : PySem.W.Frag} {S : Addr → Prop} {H : Hp} {a : Addr} {xs : List V} (h : SqT K (hid S H) a xs) : SqT K H a xs := hid_sub.seqT h

/-! ### arithmetic -/
def MulOk (i j : Int) : Prop := (-(2 ^ 64) < i ∧ i < 2 ^ 64) ∨ (-(2 ^ 64) < j ∧ j < 2 ^ 64) ∨ i.natAbs.log2 + j.natAbs.log2 < 1000000
noncomputable instance (i j : Int) : Decidable (MulOk i j) := Classical.propDecidable _
def DivOk (j : Int) : Prop := 0 < j ∧ j.natAbs.log2 < 9000
noncomputable instance (j : Int) : Decidable (DivOk j) := Classical.propDecidable _
noncomputable instance (i j : Int) : Decidable (CPow i j) := Classical.propDecidable _
noncomputable instance (i j : Int) : Decidable (CShl i j) := Classical.propDecidable _

def fit (n : Nat) : Prop := n ≤ sizeLine
noncomputable instance (n : Nat) : Decidable (fit n) := Classical.propDecidable _
theorem fit_small {n : Nat} (h : n ≤ 16777216) : fit n := by unfold fit; rw [sizeLine_eq]; exact h

noncomputable def dAdd : D → D → Option D
  | .int i, .int j => some (.int (i + j))
  | .str x, .str y => if fit (x.length + y.length) then some (.str (x ++ y)) else none
  | .lst a, .lst b => if fit (a.length + b.length) then some (.lst (a ++ b)) else none
  | .tup a, .tup b => if fit (a.length + b.length) then some (.tup (a ++ b)) else none
  | _, _ => none
def dSub : D → D → Option D
  | .int i, .int j => some (.int (i - j))
  | _, _ => none
noncomputable def dMul : D → D → Option D
  | .int i, .int j => if MulOk i j then some (.int (i * j)) else none
  | .lst a, .int k => if k < 2 ^ 40 ∧ -(2 ^ 40) < k ∧ fit (a.length * k.toNat) then some (.lst (List.replicate k.toNat a).flatten) else none
  | _, _ => none
noncomputable def dDiv : D → D → Option D
  | .int i, .int j => if DivOk j then some (.int (i / j)) else none
  | _, _ => none
def dMod : D → D → Option D
  | .int i, .int j => if 0 < j then some (.int (i % j)) else none
  | _, _ => none
noncomputable def dPow : D → D → Option D
  | .int i, .int j => if CPow i j then some (.int (i ^ j.toNat)) else none
  | _, _ => none
noncomputable def dShl : D → D → Option D
  | .int i, .int j => if CShl i j then some (.int (i * 2 ^ j.toNat)) else none
  | _, _ => none
def dShr : D → D → Option D
  | .int i, .int j => if 0 ≤ j then some (.int (i / 2 ^ j.toNat)) else none
  | _, _ => none
def dBand : D → D → Option D
  | .int i, .int j => some (.int (Builtin.bitAnd i j))
  | _, _ => none
def dBor : D → D → Option D
  | .int i, .int j => some (.int (Builtin.bitOr i j))
  | _, _ => none
def dNeg : D → Option D
  | .int i => some (.int (-i))
  | _ => none

section
variable {X : Cx} {g : G}
/-- two ints -/
theorem pure_rI {C : Int → Int → Prop} {f : D → D → Option D} {k : Int → Int → Int} (h : ∀ a b e, f a b = some e → ∃ i j, a = .int i ∧ b = .int j ∧ C i j ∧ e = .int (k i j)) : Pure2 g (rI C fun i j => .int (k i j)) f := by
  intro S H x y a b e Q hin rx ry hf hq
  obtain ⟨i, j, rfl, rfl, hc, rfl⟩ := h a b e hf
  exact ⟨i, j, rx.to_int, ry.to_int, hc, hq _ _ (Same.refl H) (.int _)⟩
theorem pure_rI0 {f : D → D → Option D} {k : Int → Int → Int} (h : ∀ a b e, f a b = some e → ∃ i j, a = .int i ∧ b = .int j ∧ e = .int (k i j)) : Pure2 g (rI0 fun i j => .int (k i j)) f := by
  intro S H x y a b e Q hin rx ry hf hq
  obtain ⟨i, j, rfl, rfl, rfl⟩ := h a b e hf
  exact ⟨i, j, rx.to_int, ry.to_int, hq _ _ (Same.refl H) (.int _)⟩
theorem pure_rI0b {f : D → D → Option D} {k : Int → Int → Bool} (h : ∀ a b e, f a b = some e → ∃ i j, a = .int i ∧ b = .int j ∧ e = .bl (k i j)) : Pure2 g (rI0 fun i j => .bl (k i j)) f := by
  intro S H x y a b e Q hin rx ry hf hq
  obtain ⟨i, j, rfl, rfl, rfl⟩ := h a b e hf
  exact ⟨i, j, rx.to_int, ry.to_int, hq _ _ (Same.refl H) (.bl _)⟩

def rAddAll (K : PySem.W.Frag) : R2 := fun x y H Q => (rI0 (fun i j => .int (i + j))) x y H Q ∨ (∃ i j, x = .str i ∧ y = .str j ∧ i.length + j.length ≤ sizeLine ∧ Q (.str (i ++ j)) H) ∨ rCat x y H Q ∨ rCatA K x y H Q
theorem op_addAll : OpR X (binaryOp .Add) (rAddAll X.K) := op_add.or (op_add_str.or (op_cat.or op_catA))
theorem pure_add : Pure2 g (rAddAll g.K) dAdd := by
  intro S H x y a b e Q hin rx ry hf hq
  cases a <;> cases b <;> simp only [dAdd] at hf <;> try cases hf
  case int.int i j => exact .inl ⟨i, j, rx.to_int, ry.to_int, hq _ _ (Same.refl H) (.int _)⟩
  case str.str i j =>
    split at hf
    · rename_i hl
      cases hf
      exact .inr (.inl ⟨i, j, rx.to_str, ry.to_str, hl, hq _ _ (Same.refl H) (.str _)⟩)
    · cases hf
  case lst.lst xs ys =>
    split at hf
    · rename_i hl
      cases hf
      obtain ⟨p, vs, rfl, h1, r1⟩ := rx.to_lst
      obtain ⟨q, ws, rfl, h2, r2⟩ := ry.to_lst
      exact .inr (.inr (.inl ⟨p, q, vs, ws, rfl, rfl, (hid_of h1).1, (hid_of h2).1, by rw [r1.length, r2.length]; exact hl, fun pp hp => hq _ _ (same_upd hp) (new_lst hin hp (r1.append r2))⟩))
    · cases hf
  case tup.tup xs ys =>
    split at hf
    · rename_i hl
      cases hf
      obtain ⟨p, vs, rfl, h1, r1⟩ := rx.to_tup
      obtain ⟨q, ws, rfl, h2, r2⟩ := ry.to_tup
      refine .inr (.inr (.inr ⟨p, q, vs, ws, rfl, rfl, SqT_hid h1, SqT_hid h2, by rw [r1.length, r2.length]; exact hl, fun e => ?_, fun _ e => ?_, fun _ _ pp hp => hq _ _ (same_upd hp) (new_tup hin hp (r1.append r2))⟩))
      · subst e
        cases r1
        exact hq _ _ (Same.refl H) (.tup h2 r2)
      · subst e
        cases r2
        rw [List.append_nil] at hq
        exact hq _ _ (Same.refl H) (.tup h1 r1)
    · cases hf
theorem pure_sub : Pure2 g (rI0 fun i j => .int (i - j)) dSub := pure_rI0 fun a b e h => by cases a <;> cases b <;> cases h; exact ⟨_, _, rfl, rfl, rfl⟩
def rMulAll : R2 := fun x y H Q => (rI CMul fun i j => .int (i * j)) x y H Q ∨ (rI CMulW fun i j => .int (i * j)) x y H Q ∨ rRep x y H Q
theorem op_mulAll : OpR X (binaryOp .Mult) rMulAll := op_mul.or (op_mulW.or op_rep)
theorem Reps.rep {H : Hp} {vs : List V} {ds : List D} (r : Reps g H vs ds) : ∀ n : Nat, Reps g H (List.replicate n vs).flatten (List.replicate n ds).flatten
  | 0 => .nil
  | n + 1 => by
    rw [List.replicate_succ, List.replicate_succ, List.flatten_cons, List.flatten_cons]
    exact r.append (Reps.rep r n)
theorem pure_mul : Pure2 g rMulAll dMul := by
  intro S H x y a b e Q hin rx ry hf hq
  cases a <;> cases b <;> simp only [dMul] at hf <;> try cases hf
  case int.int i j =>
    split at hf
    · rename_i hl
      cases hf
      rcases hl with hl | hl | hl
      · exact .inl ⟨i, j, rx.to_int, ry.to_int, .inl hl, hq _ _ (Same.refl H) (.int _)⟩
      · exact .inl ⟨i, j, rx.to_int, ry.to_int, .inr hl, hq _ _ (Same.refl H) (.int _)⟩
      · exact .inr (.inl ⟨i, j, rx.to_int, ry.to_int, hl, hq _ _ (Same.refl H) (.int _)⟩)
    · cases hf
  case lst.int xs k =>
    split at hf
    · rename_i hl
      cases hf
      obtain ⟨p, vs, rfl, h1, r1⟩ := rx.to_lst
      refine .inr (.inr ⟨p, k, vs, rfl, ry.to_int, (hid_of h1).1, by omega, by omega, by rw [r1.length]; exact hl.2.2, fun pp hp => hq _ _ (same_upd hp) (new_lst hin hp (r1.rep _))⟩)
    · cases hf
theorem pure_div : Pure2 g (rI CDivW fun i j => .int (i / j)) dDiv := pure_rI fun a b e h => by
  cases a <;> cases b <;> simp only [dDiv] at h <;> try cases h
  split at h <;> cases h
  rename_i hd
  exact ⟨_, _, rfl, rfl, hd, rfl⟩
theorem pure_mod : Pure2 g (rI (fun _ j => 0 < j) fun i j => .int (i % j)) dMod := pure_rI fun a b e h => by
  cases a <;> cases b <;> simp only [dMod] at h <;> try cases h
  split at h <;> cases h
  rename_i hd
  exact ⟨_, _, rfl, rfl, hd, rfl⟩
theorem pure_pow : Pure2 g (rI CPow fun i j => .int (i ^ j.toNat)) dPow := pure_rI fun a b e h => by
  cases a <;> cases b <;> simp only [dPow] at h <;> try cases h
  split at h <;> cases h
  rename_i hd
  exact ⟨_, _, rfl, rfl, hd, rfl⟩
theorem pure_shl : Pure2 g (rI CShl fun i j => .int (i * 2 ^ j.toNat)) dShl := pure_rI fun a b e h => by
  cases a <;> cases b <;> simp only [dShl] at h <;> try cases h
  split at h <;> cases h
  rename_i hd
  exact ⟨_, _, rfl, rfl, hd, rfl⟩
theorem pure_shr : Pure2 g (rI (fun _ j => 0 ≤ j) fun i j => .int (i / 2 ^ j.toNat)) dShr := pure_rI fun a b e h => by
  cases a <;> cases b <;> simp only [dShr] at h <;> try cases h
  split at h <;> cases h
  rename_i hd
  exact ⟨_, _, rfl, rfl, hd, rfl⟩
theorem pure_band : Pure2 g (rI0 fun i j => .int (Builtin.bitAnd i j)) dBand := pure_rI0 fun a b e h => by cases a <;> cases b <;> cases h; exact ⟨_, _, rfl, rfl, rfl⟩
theorem pure_bor : Pure2 g (rI0 fun i j => .int (Builtin.bitOr i j)) dBor := pure_rI0 fun a b e h => by cases a <;> cases b <;> cases h; exact ⟨_, _, rfl, rfl, rfl⟩
theorem pure_neg : Pure1 g (rU fun i => .int (-i)) dNeg := by
  intro S H x a e Q hin rx hf hq
  cases a <;> cases hf
  exact ⟨_, rx.to_int, hq _ _ (Same.refl H) (.int _)⟩
end
end Pu

namespace Pu
open PySem PySem.Spec L2

/-! ## comparisons -/
mutual
def toPy : D → PyData
  | .non => .none
  | .bl b => .bool b
  | .int i => .int i
  | .str x => .str x
  | .lst ds => .list (toPys ds)
  | .tup ds => .tuple (toPys ds)
  | .frz _ => .dict []
  | .ins _ _ => .dict []
def toPys : List D → List PyData
  | [] => []
  | d :: ds => toPy d :: toPys ds
end
theorem toPys_map (ds : List D) : toPys ds = ds.map toPy := by
  induction ds with
  | nil => rfl
  | cons d ds ih => rw [toPys, ih]; rfl

section
variable {g : G} {H : Hp}
mutual
theorem Rep.dp : ∀ {v : V} {d : D}, Rep g H v d → (toPy d).canLay0 = true → Dp g.K H v (toPy d)
  | _, _, .non, _ => by rw [toPy]; exact .non
  | _, _, .bl b, _ => by rw [toPy]; exact .bl b
  | _, _, .int i, _ => by rw [toPy]; exact .int i
  | _, _, .str x, _ => by rw [toPy]; exact .str x
  | _, _, .lst h r, c => by rw [toPy] at c ⊢; exact .lst (SqL.of h) (Reps.dp r c)
  | _, _, .tup h r, c => by rw [toPy] at c ⊢; exact .tup h (Reps.dp r c)
  | _, _, .frz h r, c => by rw [toPy] at c; cases c
  | _, _, .ins h e r, c => by rw [toPy] at c; cases c
theorem Reps.dp : ∀ {vs : List V} {ds : List D}, Reps g H vs ds → PyData.canLayAll0 (toPys ds) = true → DpAll g.K H vs (toPys ds)
  | _, _, .nil, _ => by rw [toPys]; exact .nil
  | _, _, .cons r t, c => by
    rw [toPys, PyData.canLayAll0, Bool.and_eq_true] at c
    rw [toPys]
    exact .cons (Rep.dp r c.1) (Reps.dp t c.2)
end
end
def dEq (a b : D) : Option D := if SeqAt.shaped (toPy a) = true ∧ SeqAt.shaped (toPy b) = true then some (.bl (PyData.eqv (toPy a) (toPy b))) else none
def dNe (a b : D) : Option D := if SeqAt.shaped (toPy a) = true ∧ SeqAt.shaped (toPy b) = true then some (.bl (!PyData.eqv (toPy a) (toPy b))) else none
def dLt : D → D → Option D
  | .int i, .int j => some (.bl (decide (i < j)))
  | _, _ => none
def dLe : D → D → Option D
  | .int i, .int j => some (.bl (decide (i ≤ j)))
  | _, _ => none
def dGt : D → D → Option D
  | .int i, .int j => some (.bl (decide (j < i)))
  | _, _ => none
def dGe : D → D → Option D
  | .int i, .int j => some (.bl (decide (j ≤ i)))
  | _, _ => none
def isNon : D → Bool
  | .non => true
  | _ => false
def dIsN (a b : D) : Option D := if isNon b = true then some (.bl (isNon a)) else none
def dNotN (a b : D) : Option D := if isNon b = true then some (.bl (!isNon a)) else none
def flatD : D → Bool
  | .non | .bl _ | .int _ | .str _ => true
  | _ => false
def eqD : D → D → Bool
  | .non, .non => true
  | .bl a, .bl b => a == b
  | .bl a, .int b => (if a then 1 else 0) == b
  | .int a, .bl b => a == (if b then 1 else 0)
  | .int a, .int b => a == b
  | .str a, .str b => a == b
  | _, _ => false
def inD (x : D) (ds : List D) : Bool := ds.any fun y => eqD y x
def itemsD : D → Option (List D)
  | .lst ds => some ds
  | .tup ds => some ds
  | .frz ds => some ds
  | _ => none
def inB : D → D → Option Bool
  | .str c, .str z => if c.cps.size = 1 then some (decide (c.cps.getD 0 0 ∈ z.cps.toList)) else none
  | x, y => match itemsD y with
    | some ds => if flatD x = true ∧ ds.all flatD = true then some (inD x ds) else none
    | none => none
def dIn (x y : D) : Option D := (inB x y).map .bl
def dNotIn (x y : D) : Option D := (inB x y).map fun b => .bl (!b)

section
variable {X : Cx} {g : G}
theorem pure_eq : Pure2 g (rEqD g.K) dEq := by
  intro S H x y a b e Q hin rx ry hf hq
  unfold dEq at hf
  split at hf
  · rename_i hs
    cases hf
    exact ⟨toPy a, toPy b, (rx.mono hid_sub).dp (SeqAt.canLay_of_shaped hs.1), (ry.mono hid_sub).dp (SeqAt.canLay_of_shaped hs.2), hs.1, hs.2, hq _ _ (Same.refl H) (.bl _)⟩
  · cases hf
theorem pure_ne : Pure2 g (rNeD g.K) dNe := by
  intro S H x y a b e Q hin rx ry hf hq
  unfold dNe at hf
  split at hf
  · rename_i hs
    cases hf
    exact ⟨toPy a, toPy b, (rx.mono hid_sub).dp (SeqAt.canLay_of_shaped hs.1), (ry.mono hid_sub).dp (SeqAt.canLay_of_shaped hs.2), hs.1, hs.2, hq _ _ (Same.refl H) (.bl _)⟩
  · cases hf
theorem pure_lt : Pure2 g (rI0 fun i j => .bl (decide (i < j))) dLt := pure_rI0b fun a b e h => by cases a <;> cases b <;> cases h; exact ⟨_, _, rfl, rfl, rfl⟩
theorem pure_le : Pure2 g (rI0 fun i j => .bl (decide (i ≤ j))) dLe := pure_rI0b fun a b e h => by cases a <;> cases b <;> cases h; exact ⟨_, _, rfl, rfl, rfl⟩
theorem pure_gt : Pure2 g (rI0 fun i j => .bl (decide (j < i))) dGt := pure_rI0b fun a b e h => by cases a <;> cases b <;> cases h; exact ⟨_, _, rfl, rfl, rfl⟩
theorem pure_ge : Pure2 g (rI0 fun i j => .bl (decide (j ≤ i))) dGe := pure_rI0b fun a b e h => by cases a <;> cases b <;> cases h; exact ⟨_, _, rfl, rfl, rfl⟩
theorem isNon_rep {H : Hp} {x : V} {a : D} (r : Rep g H x a) : decide (x = .non) = isNon a := by cases r <;> rfl
theorem Rep.of_non {H : Hp} {x : V} {a : D} (r : Rep g H x a) (h : isNon a = true) : x = .non := by cases r <;> first | rfl | cases h
theorem pure_isN : Pure2 g (fun x y H Q => y = .non ∧ Q (.bl (decide (x = .non))) H) dIsN := by
  intro S H x y a b e Q hin rx ry hf hq
  unfold dIsN at hf
  split at hf
  · rename_i hb
    cases hf
    exact ⟨ry.of_non hb, by rw [isNon_rep rx]; exact hq _ _ (Same.refl H) (.bl _)⟩
  · cases hf
theorem pure_notN : Pure2 g (fun x y H Q => y = .non ∧ Q (.bl (!decide (x = .non))) H) dNotN := by
  intro S H x y a b e Q hin rx ry hf hq
  unfold dNotN at hf
  split at hf
  · rename_i hb
    cases hf
    exact ⟨ry.of_non hb, by rw [isNon_rep rx]; exact hq _ _ (Same.refl H) (.bl _)⟩
  · cases hf
theorem flat_rep {H : Hp} {x : V} {a : D} (r : Rep g H x a) (h : flatD a = true) : flatV x = true := by cases r <;> first | rfl | cases h
theorem flats_rep {H : Hp} : ∀ {vs : List V} {ds : List D}, Reps g H vs ds → ds.all flatD = true → vs.all flatV = true
  | _, _, .nil, _ => rfl
  | _, _, .cons r t, h => by
    rw [List.all_cons, Bool.and_eq_true] at h ⊢
    exact ⟨flat_rep r h.1, flats_rep t h.2⟩
theorem eq_rep {H : Hp} {x y : V} {a b : D} (r : Rep g H x a) (q : Rep g H y b) (h : flatD a = true) (h' : flatD b = true) : eqV x y = eqD a b := by
  cases r <;> cases q <;> first | rfl | cases h | cases h'
theorem in_rep {H : Hp} {x : V} {a : D} (r : Rep g H x a) (h : flatD a = true) : ∀ {vs : List V} {ds : List D}, Reps g H vs ds → ds.all flatD = true → inV x vs = inD a ds
  | _, _, .nil, _ => rfl
  | _, _, .cons q t, hs => by
    rw [List.all_cons, Bool.and_eq_true] at hs
    have ih := in_rep r h t hs.2
    unfold inV inD at ih ⊢
    rw [List.any_cons, List.any_cons, ih, eq_rep q r hs.1 h]
theorem items_rep {S : Addr → Prop} {H : Hp} {y : V} {b : D} {ds : List D} (r : Rep g (hid S H) y b) (h : itemsD b = some ds) : ∃ p vs, y = .ref p ∧ (SqL g.K H p vs ∨ SqT g.K H p vs) ∧ Reps g (hid S H) vs ds := by
  cases b <;> simp only [itemsD] at h <;> cases h
  · obtain ⟨p, vs, rfl, h1, r1⟩ := r.to_lst
    exact ⟨p, vs, rfl, .inl (SqL.of (hid_of h1).1), r1⟩
  · obtain ⟨p, vs, rfl, h1, r1⟩ := r.to_tup
    exact ⟨p, vs, rfl, .inr (SqT_hid h1), r1⟩
  · obtain ⟨p, vs, rfl, h1, r1⟩ := r.to_frz
    exact ⟨p, vs, rfl, .inl (SqL_hid h1), r1⟩
theorem one_sign {c : Str} (h : c.cps.size = 1) : c = ⟨#[c.cps.getD 0 0]⟩ := by
  obtain ⟨⟨l⟩⟩ := c
  match l, h with
  | [a], _ => rfl
def rInAll (K : PySem.W.Frag) : R2 := fun x y H Q => (∃ (c : Nat) (z : Str), x = .str ⟨#[c]⟩ ∧ y = .str z ∧ Q (.bl (decide (c ∈ z.cps.toList))) H) ∨ rIn K false x y H Q
def rNotInAll (K : PySem.W.Frag) : R2 := fun x y H Q => (∃ (c : Nat) (z : Str), x = .str ⟨#[c]⟩ ∧ y = .str z ∧ Q (.bl (!decide (c ∈ z.cps.toList))) H) ∨ rIn K true x y H Q
theorem op_inAll : OpR X (compareOp .In) (rInAll X.K) := op_in_sign.or op_in_seq
theorem op_notInAll : OpR X (compareOp .NotIn) (rNotInAll X.K) := op_notIn_sign.or op_notIn_seq
theorem inB_cases {a b : D} {k : Bool} (h : inB a b = some k) : (∃ c z, a = .str c ∧ b = .str z ∧ c.cps.size = 1 ∧ k = decide (c.cps.getD 0 0 ∈ z.cps.toList)) ∨ ∃ ds, itemsD b = some ds ∧ flatD a = true ∧ ds.all flatD = true ∧ k = inD a ds := by
  unfold inB at h
  split at h
  · split at h
    · cases h
      exact .inl ⟨_, _, rfl, rfl, by assumption, rfl⟩
    · cases h
  · split at h
    · split at h
      · rename_i hh
        cases h
        exact .inr ⟨_, by assumption, hh.1, hh.2, rfl⟩
      · cases h
    · cases h
theorem pure_in : Pure2 g (rInAll g.K) dIn := by
  intro S H x y a b e Q hin rx ry hf hq
  obtain ⟨k, hk, rfl⟩ := Option.map_eq_some_iff.mp hf
  rcases inB_cases hk with ⟨c, z, rfl, rfl, h1, rfl⟩ | ⟨ds, h1, h2, h3, rfl⟩
  · refine .inl ⟨c.cps.getD 0 0, z, ?_, ry.to_str, hq _ _ (Same.refl H) (.bl _)⟩
    rw [← one_sign h1]
    exact rx.to_str
  · obtain ⟨p, vs, rfl, hs, r⟩ := items_rep ry h1
    refine .inr ⟨p, vs, rfl, hs, flat_rep rx h2, flats_rep r h3, ?_⟩
    rw [in_rep rx h2 r h3]
    exact hq _ _ (Same.refl H) (.bl _)
theorem pure_notIn : Pure2 g (rNotInAll g.K) dNotIn := by
  intro S H x y a b e Q hin rx ry hf hq
  obtain ⟨k, hk, rfl⟩ := Option.map_eq_some_iff.mp hf
  rcases inB_cases hk with ⟨c, z, rfl, rfl, h1, rfl⟩ | ⟨ds, h1, h2, h3, rfl⟩
  · refine .inl ⟨c.cps.getD 0 0, z, ?_, ry.to_str, hq _ _ (Same.refl H) (.bl _)⟩
    rw [← one_sign h1]
    exact rx.to_str
  · obtain ⟨p, vs, rfl, hs, r⟩ := items_rep ry h1
    refine .inr ⟨p, vs, rfl, hs, flat_rep rx h2, flats_rep r h3, ?_⟩
    rw [in_rep rx h2 r h3]
    exact hq _ _ (Same.refl H) (.bl _)
end

/-! ## items and slices -/
def dIx : D → D → Option D
  | .lst ds, .int i => atI ds i
  | .tup ds, .int i => atI ds i
  | .frz ds, .int i => atI ds i
  | .str z, .int i => if z.length ≤ 16777216 then (atI z.cps.toList i).map fun c => .str ⟨#[c]⟩ else none
  | _, _ => none
def cutL {α : Type} (xs : List α) (lo hi : Option Int) : List α := (xs.drop (HT.sIx xs.length 0 lo)).take (HT.sIx xs.length xs.length hi - HT.sIx xs.length 0 lo)
def dCut (lo hi : Option Int) : D → Option D
  | .lst ds => some (.lst (cutL ds lo hi))
  | .frz ds => some (.lst (cutL ds lo hi))
  | .tup ds => some (.tup (cutL ds lo hi))
  | .str z => if z.length ≤ 16777216 then some (.str (cutS z lo hi)) else none
  | _ => none
section
variable {X : Cx} {g : G} {W : WX}
theorem at_rep {H : Hp} {vs : List V} {ds : List D} {i : Int} {d : D} (r : Reps g H vs ds) (h : atI ds i = some d) : ∃ v, atI vs i = some v ∧ Rep g H v d := by
  unfold atI at h ⊢
  rw [r.length]
  cases e : ixN ds.length i with
  | none => rw [e] at h; cases h
  | some j =>
    rw [e] at h
    exact r.get h
theorem pure_ix : Pure2 g (rIx g.K) dIx := by
  intro S H x y a b e Q hin rx ry hf hq
  cases a <;> cases b <;> simp only [dIx] at hf <;> try cases hf
  case lst.int ds i =>
    obtain ⟨p, vs, rfl, h1, r1⟩ := rx.to_lst
    obtain ⟨v, hv, rv⟩ := at_rep r1 hf
    exact .inl ⟨p, vs, i, v, rfl, ry.to_int, SqL.of (hid_of h1).1, hv, hq _ _ (Same.refl H) rv⟩
  case tup.int ds i =>
    obtain ⟨p, vs, rfl, h1, r1⟩ := rx.to_tup
    obtain ⟨v, hv, rv⟩ := at_rep r1 hf
    exact .inr (.inl ⟨p, vs, i, v, rfl, ry.to_int, SqT_hid h1, hv, hq _ _ (Same.refl H) rv⟩)
  case frz.int ds i =>
    obtain ⟨p, vs, rfl, h1, r1⟩ := rx.to_frz
    obtain ⟨v, hv, rv⟩ := at_rep r1 hf
    exact .inl ⟨p, vs, i, v, rfl, ry.to_int, SqL_hid h1, hv, hq _ _ (Same.refl H) rv⟩
  case str.int z i =>
    split at hf
    · rename_i hz
      obtain ⟨c, hc, rfl⟩ := Option.map_eq_some_iff.mp hf
      exact .inr (.inr ⟨z, i, c, rx.to_str, ry.to_int, by rw [sizeLine_eq]; exact hz, hc, hq _ _ (Same.refl H) (.str _)⟩)
    · cases hf
def rSlAll (K : PySem.W.Frag) : V → Option Int → Option Int → Hp → VK → Prop := fun x lo hi H Q => rSlL K x lo hi H Q ∨ rSlA K x lo hi H Q ∨ rSlS x lo hi H Q
theorem sl_all : SlR X (rSlAll X.K) := sl_list.or (sl_tupA.or sl_str)
theorem cut_rep {H : Hp} {vs : List V} {ds : List D} (r : Reps g H vs ds) (lo hi : Option Int) : Reps g H (cutV vs lo hi) (cutL ds lo hi) := by
  unfold cutV cutL
  rw [r.length]
  exact (r.drop _).take _
theorem cut_whole {ds : List D} {lo hi : Option Int} (h : HT.sIx ds.length 0 lo = 0 ∧ HT.sIx ds.length ds.length hi = ds.length) : cutL ds lo hi = ds := by
  unfold cutL
  rw [h.1, h.2, List.drop_zero, Nat.sub_zero, List.take_length]
theorem pure_cut {S : Addr → Prop} {H : Hp} {x : V} {a e : D} {lo hi : Option Int} {Q : VK} (hin : In S H) (rx : Rep g (hid S H) x a) (hf : dCut lo hi a = some e) (hq : ∀ v H', Same H H' → Rep g (hid S H') v e → Q v H') : rSlAll g.K x lo hi H Q := by
  cases a <;> simp only [dCut] at hf <;> try cases hf
  case lst ds =>
    obtain ⟨p, vs, rfl, h1, r1⟩ := rx.to_lst
    exact .inl ⟨p, vs, rfl, SqL.of (hid_of h1).1, fun pp hp => hq _ _ (same_upd hp) (new_lst hin hp (cut_rep r1 lo hi))⟩
  case frz ds =>
    obtain ⟨p, vs, rfl, h1, r1⟩ := rx.to_frz
    exact .inl ⟨p, vs, rfl, SqL_hid h1, fun pp hp => hq _ _ (same_upd hp) (new_lst hin hp (cut_rep r1 lo hi))⟩
  case tup ds =>
    obtain ⟨p, vs, rfl, h1, r1⟩ := rx.to_tup
    refine .inr (.inl ⟨p, vs, rfl, SqT_hid h1, fun hw => ?_, fun _ pp hp => hq _ _ (same_upd hp) (new_tup hin hp (cut_rep r1 lo hi))⟩)
    rw [r1.length] at hw
    rw [cut_whole hw] at hq
    exact hq _ _ (Same.refl H) rx
  case str z =>
    split at hf
    · rename_i hz
      cases hf
      exact .inr (.inr ⟨z, rx.to_str, by rw [sizeLine_eq]; exact hz, hq _ _ (Same.refl H) (.str _)⟩)
    · cases hf
/-- a part of a slice -/
abbrev XO := Env → R (Option Int)
def LO (g : G) (W : WX) (p : XO) : TO := fun σ H Q => ∃ O H0 Γ, Match g O H0 Γ σ H ∧ Post g W σ (hs O Γ σ) H (fun b H' => Q b H') (p Γ)
def pNoPart : XO := fun _ => ok none
def pPart (p : XS) : XO := fun Γ => (p Γ).bind fun a => match a with
  | .int i => ok (some i)
  | _ => none
def pSl (p : XS) (lo hi : XO) : XS := fun Γ => (p Γ).bind fun a => (lo Γ).bind fun l => (hi Γ).bind fun h => ofO (dCut l h a)
theorem _root_.L2.PO.imp {e : Option Expr} {t t' : TO} (h : PO X e t) (k : ∀ σ H Q, t' σ H Q → t σ H Q) : PO X e t' := ⟨fun pins s σ H Q I w => h.run pins s σ H Q I (k σ H Q w)⟩
theorem lo_none : PO X none (LO g W pNoPart) := po_none.imp fun σ H Q ⟨O, H0, Γ, m, h⟩ => h.here
theorem lo_some {e : Expr} {p : XS} (h : PE X e (LE g W p)) : PO X (some e) (LO g W (pPart p)) :=
  (po_some h).imp fun σ H Q ⟨O, H0, Γ, m, h⟩ => ⟨O, H0, Γ, m, h.bind.mono fun x H1 _ s1 h1 v rv => by
    cases x with
    | int i =>
      cases rv.to_int
      exact ⟨i, rfl, h1.here⟩
    | _ => exact h1.elim⟩
theorem le_slice (hK : X.K = g.K) {e : Expr} {lo hi : Option Expr} {p : XS} {pl ph : XO} {p2 pos : Pos} (he : PE X e (LE g W p)) (hl : PO X lo (LO g W pl)) (hh : PO X hi (LO g W ph)) : PE X (.Subscript e (.Slice lo hi none p2) pos) (LE g W (pSl p pl ph)) :=
  (pe_slice sl_all he hl hh).imp fun σ H Q ⟨O, H0, Γ, m, h⟩ => ⟨O, H0, Γ, m, h.bind.mono fun x H1 _ s1 h1 v rv => ⟨O, H0, Γ, m.same s1, h1.bind.mono fun l H2 _ s2 h2 => ⟨O, H0, Γ, m.same (s1.trans s2), h2.bind.mono fun u H3 _ s3 h3 => by
    obtain ⟨e, he, k⟩ := h3.ofO
    rw [hK]
    exact pure_cut (m.same (s1.trans (s2.trans s3))).hin (rv.mono (hid_same (s2.trans s3))) he fun z H' s z' => k H' s z z'⟩⟩⟩
end

/-! ## built-in functions -/
section
variable {X : Cx} {g : G} {W : WX} {e : Expr} {es : List Expr} {x : Str} {p pos : Pos} {pa : XA} {id T : String} {r : List V → Hp → VK → Prop} {f : List D → Option D}
theorem callN_imp (hf : PureN g r f) (σ : St) (H : Hp) (Q : VK) : LE g W (pCallN f pa) σ H Q → tCB r (LA g W pa) σ H Q := fun ⟨O, H0, Γ, m, h⟩ =>
  ⟨O, H0, Γ, m, h.bind.mono fun as H1 _ s1 h1 vs rv => by
    obtain ⟨e, he, k⟩ := h1.ofO
    exact hf _ H1 vs as e Q (m.same s1).hin rv he fun z H' s z' => k H' s z z'⟩
theorem le_callB (hc : CallR X (.builtin id) r) (hf : PureN g r f) (hm : X.mg x = none) (hv : bootBuiltins x = some (.builtin id)) (ha : PA X (e :: es) (LA g W pa)) (hg : Gl X x := by rfl) (hn : x ≠ "__name__" := by decide) (hdb : (x == ("__debug__" : Str)) = false := by decide)
    (he : starEach (e :: es) X.env = (false, eval e X.env) :: starEach es X.env := by rfl) (hpl : (backTo pos (starEach es X.env)).any (·.1) = false := by rfl) : PE X (.Call (.Name x p) (e :: es) [] pos) (LE g W (pCallN f pa)) :=
  (pe_callB hc hg hm hv ha hn hdb he hpl).imp fun σ H Q => callN_imp hf σ H Q
theorem le_callTy (hc : CallR X (.type T) r) (hf : PureN g r f) (hm : X.mg x = none) (hv : bootBuiltins x = some (.type T)) (ha : PA X (e :: es) (LA g W pa)) (hg : Gl X x := by rfl) (hn : x ≠ "__name__" := by decide) (hdb : (x == ("__debug__" : Str)) = false := by decide)
    (he : starEach (e :: es) X.env = (false, eval e X.env) :: starEach es X.env := by rfl) (hpl : (backTo pos (starEach es X.env)).any (·.1) = false := by rfl) : PE X (.Call (.Name x p) (e :: es) [] pos) (LE g W (pCallN f pa)) :=
  (pe_callTy hc hg hm hv ha hn hdb he hpl).imp fun σ H Q => callN_imp hf σ H Q

def fLen : List D → Option D
  | [.lst ds] => some (.int ds.length)
  | [.tup ds] => some (.int ds.length)
  | [.frz ds] => some (.int ds.length)
  | [.str z] => if z.length ≤ 16777216 then some (.int z.length) else none
  | _ => none
theorem Reps.one {H : Hp} {vs : List V} {d : D} (r : Reps g H vs [d]) : ∃ v, vs = [v] ∧ Rep g H v d := by
  cases r with
  | cons r t => cases t; exact ⟨_, rfl, r⟩
theorem Reps.two {H : Hp} {vs : List V} {d e : D} (r : Reps g H vs [d, e]) : ∃ v w, vs = [v, w] ∧ Rep g H v d ∧ Rep g H w e := by
  cases r with
  | cons r t =>
    obtain ⟨w, rfl, q⟩ := Reps.one t
    exact ⟨_, _, rfl, r, q⟩
theorem pure_len : PureN g (fun xs H Q => ∃ x n, xs = [x] ∧ LenV g.K x H n ∧ Q (.int n) H) fLen := by
  intro S H xs as e Q hin r hf hq
  match as, hf with
  | [.lst ds], hf =>
    cases hf
    obtain ⟨v, rfl, rv⟩ := r.one
    obtain ⟨p, vs, rfl, h1, r1⟩ := rv.to_lst
    exact ⟨_, _, rfl, .inl ⟨vs, SqL.of (hid_of h1).1, r1.length.symm⟩, hq _ _ (Same.refl H) (.int _)⟩
  | [.tup ds], hf =>
    cases hf
    obtain ⟨v, rfl, rv⟩ := r.one
    obtain ⟨p, vs, rfl, h1, r1⟩ := rv.to_tup
    exact ⟨_, _, rfl, .inr ⟨vs, SqT_hid h1, r1.length.symm⟩, hq _ _ (Same.refl H) (.int _)⟩
  | [.frz ds], hf =>
    cases hf
    obtain ⟨v, rfl, rv⟩ := r.one
    obtain ⟨p, vs, rfl, h1, r1⟩ := rv.to_frz
    exact ⟨_, _, rfl, .inl ⟨vs, SqL_hid h1, r1.length.symm⟩, hq _ _ (Same.refl H) (.int _)⟩
  | [.str z], hf =>
    simp only [fLen] at hf
    split at hf
    · rename_i hz
      cases hf
      obtain ⟨v, rfl, rv⟩ := r.one
      cases rv.to_str
      exact ⟨_, _, rfl, ⟨by rw [sizeLine_eq]; exact hz, rfl⟩, hq _ _ (Same.refl H) (.int _)⟩
    · cases hf
def fAbs : List D → Option D
  | [.int i] => some (.int (if i < 0 then -i else i))
  | _ => none
theorem pure_abs : PureN g (fun xs H Q => ∃ i, xs = [.int i] ∧ Q (.int (if i < 0 then -i else i)) H) fAbs := by
  intro S H xs as e Q hin r hf hq
  match as, hf with
  | [.int i], hf =>
    cases hf
    obtain ⟨v, rfl, rv⟩ := r.one
    cases rv.to_int
    exact ⟨i, rfl, hq _ _ (Same.refl H) (.int _)⟩
def fMax2 : List D → Option D
  | [.int i, .int j] => some (.int (if j > i then j else i))
  | _ => none
def fMin2 : List D → Option D
  | [.int i, .int j] => some (.int (if j < i then j else i))
  | _ => none
theorem pure_max2 : PureN g (fun xs H Q => ∃ i j, xs = [.int i, .int j] ∧ Q (.int (if j > i then j else i)) H) fMax2 := by
  intro S H xs as e Q hin r hf hq
  match as, hf with
  | [.int i, .int j], hf =>
    cases hf
    obtain ⟨v, w, rfl, rv, rw⟩ := r.two
    cases rv.to_int
    cases rw.to_int
    exact ⟨i, j, rfl, hq _ _ (Same.refl H) (.int _)⟩
theorem pure_min2 : PureN g (fun xs H Q => ∃ i j, xs = [.int i, .int j] ∧ Q (.int (if j < i then j else i)) H) fMin2 := by
  intro S H xs as e Q hin r hf hq
  match as, hf with
  | [.int i, .int j], hf =>
    cases hf
    obtain ⟨v, w, rfl, rv, rw⟩ := r.two
    cases rv.to_int
    cases rw.to_int
    exact ⟨i, j, rfl, hq _ _ (Same.refl H) (.int _)⟩
/-- str(n): a number of fewer than 1920 bits -/
def fStr : List D → Option D
  | [.int i] => if i.natAbs.log2 < 1920 then some (.str (toString i)) else none
  | _ => none
theorem pure_str : PureN g (fun xs H Q => ∃ i, xs = [.int i] ∧ i.natAbs.log2 < 1920 ∧ Q (.str (toString i)) H) fStr := by
  intro S H xs as e Q hin r hf hq
  match as, hf with
  | [.int i], hf =>
    simp only [fStr] at hf
    split at hf
    · rename_i hz
      cases hf
      obtain ⟨v, rfl, rv⟩ := r.one
      cases rv.to_int
      exact ⟨i, rfl, hz, hq _ _ (Same.refl H) (.str _)⟩
    · cases hf
def fInt : List D → Option D
  | [.str a] => if a.length ≤ 640 then (PySem.intText? a).map .int else none
  | [.int i] => some (.int i)
  | [.bl k] => some (.int (if k then 1 else 0))
  | _ => none
def rIntAll : List V → Hp → VK → Prop := fun xs H Q => (∃ a n, xs = [.str a] ∧ PySem.intText? a = some n ∧ a.length ≤ 640 ∧ Q (.int n) H) ∨ ((∃ i, xs = [.int i] ∧ Q (.int i) H) ∨ ∃ k, xs = [.bl k] ∧ Q (.int (if k then 1 else 0)) H)
theorem call_intAll : CallR X (.type "int") rIntAll := call_int_str.or call_int1
theorem pure_int : PureN g rIntAll fInt := by
  intro S H xs as e Q hin r hf hq
  match as, hf with
  | [.str a], hf =>
    simp only [fInt] at hf
    split at hf
    · rename_i hz
      obtain ⟨n, hn, rfl⟩ := Option.map_eq_some_iff.mp hf
      obtain ⟨v, rfl, rv⟩ := r.one
      cases rv.to_str
      exact .inl ⟨a, n, rfl, hn, hz, hq _ _ (Same.refl H) (.int _)⟩
    · cases hf
  | [.int i], hf =>
    cases hf
    obtain ⟨v, rfl, rv⟩ := r.one
    cases rv.to_int
    exact .inr (.inl ⟨i, rfl, hq _ _ (Same.refl H) (.int _)⟩)
  | [.bl k], hf =>
    cases hf
    obtain ⟨v, rfl, rv⟩ := r.one
    cases rv.to_bl
    exact .inr (.inr ⟨k, rfl, hq _ _ (Same.refl H) (.int _)⟩)
/-- a list of truths -/
def dbools : List D → Option (List Bool)
  | [] => some []
  | .bl b :: ds => (dbools ds).map (b :: ·)
  | _ => none
def dints : List D → Option (List Int)
  | [] => some []
  | .int b :: ds => (dints ds).map (b :: ·)
  | _ => none
def dtexts : List D → Option (List Str)
  | [] => some []
  | .str b :: ds => (dtexts ds).map (b :: ·)
  | _ => none
theorem dbools_rep {H : Hp} : ∀ {vs : List V} {ds : List D} {bs : List Bool}, Reps g H vs ds → dbools ds = some bs → vs = bs.map V.bl
  | _, [], _, .nil, h => by cases h; rfl
  | _, .bl b :: ds, bs, .cons r t, h => by
    obtain ⟨cs, hc, rfl⟩ := Option.map_eq_some_iff.mp h
    rw [List.map_cons, ← dbools_rep t hc, r.to_bl]
theorem dints_rep {H : Hp} : ∀ {vs : List V} {ds : List D} {bs : List Int}, Reps g H vs ds → dints ds = some bs → vs = bs.map V.int
  | _, [], _, .nil, h => by cases h; rfl
  | _, .int b :: ds, bs, .cons r t, h => by
    obtain ⟨cs, hc, rfl⟩ := Option.map_eq_some_iff.mp h
    rw [List.map_cons, ← dints_rep t hc, r.to_int]
theorem dtexts_rep {H : Hp} : ∀ {vs : List V} {ds : List D} {bs : List Str}, Reps g H vs ds → dtexts ds = some bs → vs = bs.map V.str
  | _, [], _, .nil, h => by cases h; rfl
  | _, .str b :: ds, bs, .cons r t, h => by
    obtain ⟨cs, hc, rfl⟩ := Option.map_eq_some_iff.mp h
    rw [List.map_cons, ← dtexts_rep t hc, r.to_str]
def fAll : List D → Option D
  | [.lst ds] => (dbools ds).map fun bs => .bl (bs.all _root_.id)
  | _ => none
theorem pure_all : PureN g (rAll g.K) fAll := by
  intro S H xs as e Q hin r hf hq
  match as, hf with
  | [.lst ds], hf =>
    obtain ⟨bs, hb, rfl⟩ := Option.map_eq_some_iff.mp hf
    obtain ⟨v, rfl, rv⟩ := r.one
    obtain ⟨p, vs, rfl, h1, r1⟩ := rv.to_lst
    cases dbools_rep r1 hb
    exact ⟨p, bs, rfl, SqL.of (hid_of h1).1, hq _ _ (Same.refl H) (.bl _)⟩
def fAny : List D → Option D
  | [.lst ds] => (dbools ds).map fun bs => .bl (bs.any _root_.id)
  | _ => none
theorem pure_any : PureN g (rAny g.K) fAny := by
  intro S H xs as e Q hin r hf hq
  match as, hf with
  | [.lst ds], hf =>
    obtain ⟨bs, hb, rfl⟩ := Option.map_eq_some_iff.mp hf
    obtain ⟨v, rfl, rv⟩ := r.one
    obtain ⟨p, vs, rfl, h1, r1⟩ := rv.to_lst
    cases dbools_rep r1 hb
    exact ⟨p, bs, rfl, SqL.of (hid_of h1).1, hq _ _ (Same.refl H) (.bl _)⟩
def fSum : List D → Option D
  | [.lst ds] => (dints ds).map fun bs => .int bs.sum
  | _ => none
theorem pure_sum : PureN g (rSum g.K) fSum := by
  intro S H xs as e Q hin r hf hq
  match as, hf with
  | [.lst ds], hf =>
    obtain ⟨bs, hb, rfl⟩ := Option.map_eq_some_iff.mp hf
    obtain ⟨v, rfl, rv⟩ := r.one
    obtain ⟨p, vs, rfl, h1, r1⟩ := rv.to_lst
    cases dints_rep r1 hb
    exact ⟨p, bs, rfl, SqL.of (hid_of h1).1, hq _ _ (Same.refl H) (.int _)⟩
/-- list(x) of a list or a tuple: a new list -/
def fList : List D → Option D
  | [d] => (itemsD d).map .lst
  | _ => none
theorem pure_list : PureN g (fun xs H Q => ∃ p ys, xs = [.ref p] ∧ (SqL g.K H p ys ∨ SqT g.K H p ys) ∧ ∀ l, H l = none → Q (.ref l) (upd H l (.lst ys))) fList := by
  intro S H xs as e Q hin r hf hq
  match as, hf with
  | [d], hf =>
    obtain ⟨ds, hd, rfl⟩ := Option.map_eq_some_iff.mp hf
    obtain ⟨v, rfl, rv⟩ := r.one
    obtain ⟨p, vs, rfl, h1, r1⟩ := items_rep rv hd
    exact ⟨p, vs, rfl, h1, fun l hl => hq _ _ (same_upd hl) (new_lst hin hl r1)⟩
end
end Pu

namespace Pu
open PySem PySem.Spec L2

/-! ## how a match goes on -/
section
variable {g : G} {O : Addr → Prop} {H0 H H' : Hp} {Γ : Env} {σ : St}
theorem ownAt_set {i : Nat} {s : Slot} {v : Option V} {a : Addr} (hl : Γ.length = σ.length) (h : ownAt (Γ.set i s) (σ.set i v) a) : (∃ ds, s = .own ds ∧ v = some (.ref a)) ∨ ownAt Γ σ a := by
  obtain ⟨j, ds, h1, h2⟩ := h
  by_cases hj : i = j
  · subst hj
    by_cases hi : i < Γ.length
    · rw [List.getElem?_set_self hi] at h1
      rw [List.getElem?_set_self (by omega)] at h2
      cases h1; cases h2
      exact .inl ⟨ds, rfl, rfl⟩
    · rw [List.getElem?_eq_none (by rw [List.length_set]; omega)] at h1
      cases h1
  · rw [List.getElem?_set_ne hj] at h1 h2
    exact .inr ⟨j, ds, h1, h2⟩
/-- a datum is stored -/
theorem Match.set {i : Nat} {d : D} {v : V} (m : Match g O H0 Γ σ H) (r : Rep g (hid (hs O Γ σ) H) v d) : Match g O H0 (Γ.set i (.val d)) (σ.set i (some v)) H := by
  have sub : ∀ b, hs O (Γ.set i (.val d)) (σ.set i (some v)) b → hs O Γ σ b := fun b h => by
    rcases h with h | h
    · exact .inl h
    · rcases ownAt_set m.len h with ⟨ds, e, _⟩ | h
      · cases e
      · exact .inr h
  have up : Same (hid (hs O Γ σ) H) (hid (hs O (Γ.set i (.val d)) (σ.set i (some v))) H) := hid_le sub
  refine ⟨by rw [List.length_set, List.length_set]; exact m.len, fun b o e => ⟨(m.base b o e).1, fun h => ?_⟩, m.oin, fun j d' e => ?_, fun j ds e => ?_, fun j k ds es a h1 h2 h3 h4 => ?_, fun j c x e => ?_⟩
  · rcases ownAt_set m.len h with ⟨ds, e, _⟩ | h
    · cases e
    · exact (m.base b o ‹_›).2 h
  · by_cases hj : i = j
    · subst hj
      by_cases hi : i < Γ.length
      · rw [List.getElem?_set_self hi] at e
        cases e
        exact ⟨v, List.getElem?_set_self (by have := m.len; omega), r.mono up⟩
      · rw [List.getElem?_eq_none (by rw [List.length_set]; omega)] at e
        cases e
    · rw [List.getElem?_set_ne hj] at e
      obtain ⟨w, h1, h2⟩ := m.slot j d' e
      exact ⟨w, by rw [List.getElem?_set_ne hj]; exact h1, h2.mono up⟩
  · by_cases hj : i = j
    · subst hj
      by_cases hi : i < Γ.length
      · rw [List.getElem?_set_self hi] at e
        cases e
      · rw [List.getElem?_eq_none (by rw [List.length_set]; omega)] at e
        cases e
    · rw [List.getElem?_set_ne hj] at e
      obtain ⟨a, vs, h1, h2, h3⟩ := m.owns j ds e
      exact ⟨a, vs, by rw [List.getElem?_set_ne hj]; exact h1, h2, h3.mono up⟩
  · have ne : ∀ (n : Nat) ds, (Γ.set i (.val d))[n]? = some (.own ds) → i ≠ n := fun n ds h q => by
      subst q
      by_cases hi : i < Γ.length
      · rw [List.getElem?_set_self hi] at h; cases h
      · rw [List.getElem?_eq_none (by rw [List.length_set]; omega)] at h; cases h
    have n1 := ne j ds h1
    have n2 := ne k es h2
    rw [List.getElem?_set_ne n1] at h1 h3
    rw [List.getElem?_set_ne n2] at h2 h4
    exact m.inj j k ds es a h1 h2 h3 h4
  · have hj : i ≠ j := fun q => by
      subst q
      by_cases hi : i < Γ.length
      · rw [List.getElem?_set_self hi] at e; cases e
      · rw [List.getElem?_eq_none (by rw [List.length_set]; omega)] at e; cases e
    rw [List.getElem?_set_ne hj] at e
    obtain ⟨a, C, dop, h1, h2, h3, h4⟩ := m.exn j c x e
    exact ⟨a, C, dop, h1, h2, by rw [List.getElem?_set_ne hj]; exact h3, h4.mono up (Same.refl H)⟩
/-- a slot is forgotten -/
theorem Match.drop {i : Nat} (m : Match g O H0 Γ σ H) {v : Option V} : Match g O H0 (Γ.set i .un) (σ.set i v) H := by
  have sub : ∀ b, hs O (Γ.set i .un) (σ.set i v) b → hs O Γ σ b := fun b h => by
    rcases h with h | h
    · exact .inl h
    · rcases ownAt_set m.len h with ⟨ds, e, _⟩ | h
      · cases e
      · exact .inr h
  have up : Same (hid (hs O Γ σ) H) (hid (hs O (Γ.set i .un) (σ.set i v)) H) := hid_le sub
  have ne : ∀ (n : Nat) s, (Γ.set i .un)[n]? = some s → s ≠ .un → i ≠ n := fun n s h z q => by
    subst q
    by_cases hi : i < Γ.length
    · rw [List.getElem?_set_self hi] at h; cases h; exact z rfl
    · rw [List.getElem?_eq_none (by rw [List.length_set]; omega)] at h; cases h
  refine ⟨by rw [List.length_set, List.length_set]; exact m.len, fun b o e => ⟨(m.base b o e).1, fun h => ?_⟩, m.oin, fun j d' e => ?_, fun j ds e => ?_, fun j k ds es a h1 h2 h3 h4 => ?_, fun j c x e => ?_⟩
  · rcases ownAt_set m.len h with ⟨ds, e, _⟩ | h
    · cases e
    · exact (m.base b o ‹_›).2 h
  · have hj := ne j _ e nofun
    rw [List.getElem?_set_ne hj] at e
    obtain ⟨w, h1, h2⟩ := m.slot j d' e
    exact ⟨w, by rw [List.getElem?_set_ne hj]; exact h1, h2.mono up⟩
  · have hj := ne j _ e nofun
    rw [List.getElem?_set_ne hj] at e
    obtain ⟨a, vs, h1, h2, h3⟩ := m.owns j ds e
    exact ⟨a, vs, by rw [List.getElem?_set_ne hj]; exact h1, h2, h3.mono up⟩
  · have n1 := ne j _ h1 (by intro z; cases z)
    have n2 := ne k _ h2 (by intro z; cases z)
    rw [List.getElem?_set_ne n1] at h1 h3
    rw [List.getElem?_set_ne n2] at h2 h4
    exact m.inj j k ds es a h1 h2 h3 h4
  · have hj := ne j _ e (by intro z; cases z)
    rw [List.getElem?_set_ne hj] at e
    obtain ⟨a, C, dop, h1, h2, h3, h4⟩ := m.exn j c x e
    exact ⟨a, C, dop, h1, h2, by rw [List.getElem?_set_ne hj]; exact h3, h4.mono up (Same.refl H)⟩
/-- an own list is from now on a datum like others -/
theorem Match.share {i : Nat} {ds : List D} (m : Match g O H0 Γ σ H) (h : Γ[i]? = some (.own ds)) : Match g O H0 (Γ.set i (.val (.lst ds))) σ H := by
  obtain ⟨a, vs, e1, e2, r⟩ := m.owns i ds h
  have hi : i < Γ.length := (List.getElem?_eq_some_iff.mp h).1
  have na : ∀ (n : Nat) es b, (Γ.set i (.val (.lst ds)))[n]? = some (.own es) → σ[n]? = some (some (.ref b)) → Γ[n]? = some (.own es) ∧ b ≠ a := fun n es b q q2 => by
    have hn : i ≠ n := fun z => by subst z; rw [List.getElem?_set_self hi] at q; cases q
    rw [List.getElem?_set_ne hn] at q
    refine ⟨q, fun z => hn ?_⟩
    subst z
    exact m.inj i n ds es b h q e1 q2
  have sub : ∀ b, hs O (Γ.set i (.val (.lst ds))) σ b → hs O Γ σ b := fun b q => by
    rcases q with q | ⟨n, es, h1, h2⟩
    · exact .inl q
    · exact .inr ⟨n, es, (na n es b h1 h2).1, h2⟩
  have up : Same (hid (hs O Γ σ) H) (hid (hs O (Γ.set i (.val (.lst ds))) σ) H) := hid_le sub
  have nO : ¬ O a := fun z => by
    obtain ⟨o, q⟩ := m.oin a z
    exact (m.base a o q).2 ⟨i, ds, h, e1⟩
  have seen : hid (hs O (Γ.set i (.val (.lst ds))) σ) H a = some (.lst vs) := hid_get e2 fun q => by
    rcases q with q | ⟨n, es, h1, h2⟩
    · exact nO q
    · exact (na n es a h1 h2).2 rfl
  refine ⟨by rw [List.length_set]; exact m.len, fun b o e => ⟨(m.base b o e).1, fun q => ?_⟩, m.oin, fun j d' e => ?_, fun j es e => ?_, fun j k ds' es b h1 h2 h3 h4 => ?_, fun j c x e => ?_⟩
  · obtain ⟨n, es, h1, h2⟩ := q
    exact (m.base b o e).2 ⟨n, es, (na n es b h1 h2).1, h2⟩
  · by_cases hj : i = j
    · subst hj
      rw [List.getElem?_set_self hi] at e
      cases e
      exact ⟨.ref a, e1, .lst seen (r.mono up)⟩
    · rw [List.getElem?_set_ne hj] at e
      obtain ⟨w, q1, q2⟩ := m.slot j d' e
      exact ⟨w, q1, q2.mono up⟩
  · have hj : i ≠ j := fun z => by subst z; rw [List.getElem?_set_self hi] at e; cases e
    rw [List.getElem?_set_ne hj] at e
    obtain ⟨b, ws, q1, q2, q3⟩ := m.owns j es e
    exact ⟨b, ws, q1, q2, q3.mono up⟩
  · exact m.inj j k ds' es b (na j ds' b h1 h3).1 (na k es b h2 h4).1 h3 h4
  · have hj : i ≠ j := fun z => by subst z; rw [List.getElem?_set_self hi] at e; cases e
    rw [List.getElem?_set_ne hj] at e
    obtain ⟨b, C, dop, h1, h2, h3, h4⟩ := m.exn j c x e
    exact ⟨b, C, dop, h1, h2, h3, h4.mono up (Same.refl H)⟩
/-- a fresh list is taken as one's own -/
theorem Match.take {i : Nat} {a : Addr} {vs : List V} {ds : List D} (m0 : Match g O H0 Γ σ H) (s : Same H H') (hf : H a = none) (ha : H' a = some (.lst vs)) (r : Reps g (hid (fun b => hs O Γ σ b ∨ b = a) H') vs ds) :
    Match g O H0 (Γ.set i (.own ds)) (σ.set i (some (.ref a))) H' := by
  have m := m0.same s
  have hn : H0 a = none := Same.free (fun b o e => (m0.base b o e).1) hf
  have hh : ¬ hs O Γ σ a := m0.hin.fresh hf
  have old : Same (hid (hs O Γ σ) H) (hid (fun b => hs O Γ σ b ∨ b = a) H') := fun b o q => by
    obtain ⟨q1, q2⟩ := hid_of q
    exact hid_get (s b o q1) fun z => z.elim q2 fun z => by rw [z, hf] at q1; cases q1
  have sub : ∀ b, hs O (Γ.set i (.own ds)) (σ.set i (some (.ref a))) b → hs O Γ σ b ∨ b = a := fun b h => by
    rcases h with h | h
    · exact .inl (.inl h)
    · rcases ownAt_set m.len h with ⟨es, _, e⟩ | h
      · cases e; exact .inr rfl
      · exact .inl (.inr h)
  have up : Same (hid (fun b => hs O Γ σ b ∨ b = a) H') (hid (hs O (Γ.set i (.own ds)) (σ.set i (some (.ref a)))) H') := hid_le sub
  refine ⟨by rw [List.length_set, List.length_set]; exact m.len, fun b o e => ⟨(m.base b o e).1, fun h => ?_⟩, m.oin, fun j d' e => ?_, fun j es e => ?_, fun j k ds' es b h1 h2 h3 h4 => ?_, fun j c x e => ?_⟩
  · rcases ownAt_set m.len h with ⟨es, _, q⟩ | h
    · cases q
      rw [hn] at e; cases e
    · exact (m.base b o e).2 h
  · by_cases hj : i = j
    · subst hj
      by_cases hi : i < Γ.length
      · rw [List.getElem?_set_self hi] at e; cases e
      · rw [List.getElem?_eq_none (by rw [List.length_set]; omega)] at e; cases e
    · rw [List.getElem?_set_ne hj] at e
      obtain ⟨w, h1, h2⟩ := m0.slot j d' e
      exact ⟨w, by rw [List.getElem?_set_ne hj]; exact h1, (h2.mono old).mono up⟩
  · by_cases hj : i = j
    · subst hj
      by_cases hi : i < Γ.length
      · rw [List.getElem?_set_self hi] at e
        cases e
        exact ⟨a, vs, List.getElem?_set_self (by have := m.len; omega), ha, r.mono up⟩
      · rw [List.getElem?_eq_none (by rw [List.length_set]; omega)] at e; cases e
    · rw [List.getElem?_set_ne hj] at e
      obtain ⟨b, ws, h1, h2, h3⟩ := m0.owns j es e
      exact ⟨b, ws, by rw [List.getElem?_set_ne hj]; exact h1, s _ _ h2, (h3.mono old).mono up⟩
  · have key : ∀ (n : Nat) fs, (Γ.set i (.own ds))[n]? = some (.own fs) → (σ.set i (some (.ref a)))[n]? = some (some (.ref b)) → (n = i ∧ b = a) ∨ (n ≠ i ∧ Γ[n]? = some (.own fs) ∧ σ[n]? = some (some (.ref b)) ∧ b ≠ a) := fun n fs q q2 => by
      by_cases hn' : i = n
      · subst hn'
        by_cases hi : i < Γ.length
        · rw [List.getElem?_set_self (by have := m.len; omega)] at q2
          cases q2
          exact .inl ⟨rfl, rfl⟩
        · rw [List.getElem?_eq_none (by rw [List.length_set]; omega)] at q; cases q
      · rw [List.getElem?_set_ne hn'] at q q2
        refine .inr ⟨Ne.symm hn', q, q2, fun z => hh ?_⟩
        subst z
        exact .inr ⟨n, fs, q, q2⟩
    rcases key j ds' h1 h3 with ⟨p1, p2⟩ | ⟨p1, p2, p3, p4⟩
    · rcases key k es h2 h4 with ⟨q1, q2⟩ | ⟨q1, q2, q3, q4⟩
      · rw [p1, q1]
      · exact absurd p2 q4
    · rcases key k es h2 h4 with ⟨q1, q2⟩ | ⟨q1, q2, q3, q4⟩
      · exact absurd q2 p4
      · exact m.inj j k ds' es b p2 q2 p3 q3
  · have hj : i ≠ j := fun q => by
      subst q
      by_cases hi : i < Γ.length
      · rw [List.getElem?_set_self hi] at e; cases e
      · rw [List.getElem?_eq_none (by rw [List.length_set]; omega)] at e; cases e
    rw [List.getElem?_set_ne hj] at e
    obtain ⟨b, C, dop, h1, h2, h3, h4⟩ := m0.exn j c x e
    exact ⟨b, C, dop, h1, h2, by rw [List.getElem?_set_ne hj]; exact h3, (h4.mono old s).mono up (Same.refl H')⟩
/-- an own list is changed -/
theorem Match.write {i : Nat} {a : Addr} {ds es : List D} {vs : List V} (m : Match g O H0 Γ σ H) (h : Γ[i]? = some (.own ds)) (ha : σ[i]? = some (some (.ref a))) (r : Reps g (hid (hs O Γ σ) H) vs es) : Match g O H0 (Γ.set i (.own es)) σ (upd H a (.lst vs)) := by
  have hi : i < Γ.length := (List.getElem?_eq_some_iff.mp h).1
  have same : ∀ (n : Nat) fs, (Γ.set i (.own es))[n]? = some (.own fs) → ∃ fs', Γ[n]? = some (.own fs') := fun n fs q => by
    by_cases hn : i = n
    · subst hn; exact ⟨ds, h⟩
    · rw [List.getElem?_set_ne hn] at q; exact ⟨fs, q⟩
  have own1 : ∀ b, ownAt (Γ.set i (.own es)) σ b → ownAt Γ σ b := fun b ⟨n, fs, q1, q2⟩ => let ⟨fs', q⟩ := same n fs q1; ⟨n, fs', q, q2⟩
  have own2 : ∀ b, ownAt Γ σ b → ownAt (Γ.set i (.own es)) σ b := fun b ⟨n, fs, q1, q2⟩ => by
    by_cases hn : i = n
    · subst hn; exact ⟨i, es, List.getElem?_set_self hi, q2⟩
    · exact ⟨n, fs, by rw [List.getElem?_set_ne hn]; exact q1, q2⟩
  have oa : ownAt Γ σ a := ⟨i, ds, h, ha⟩
  have up : Same (hid (hs O Γ σ) H) (hid (hs O (Γ.set i (.own es)) σ) (upd H a (.lst vs))) := fun b o q => by
    obtain ⟨q1, q2⟩ := hid_of q
    have hb : b ≠ a := fun z => q2 (.inr (z ▸ oa))
    refine hid_get (by rw [upd_ne hb]; exact q1) fun z => q2 ?_
    rcases z with z | z
    · exact .inl z
    · exact .inr (own1 b z)
  refine ⟨by rw [List.length_set]; exact m.len, fun b o e => ⟨?_, fun q => (m.base b o e).2 (own1 b q)⟩, m.oin, fun j d' e => ?_, fun j fs e => ?_, fun j k fs gs b h1 h2 h3 h4 => ?_, fun j c x e => ?_⟩
  · have hb : b ≠ a := fun z => (m.base b o e).2 (z ▸ oa)
    rw [upd_ne hb]
    exact (m.base b o e).1
  · have hj : i ≠ j := fun z => by subst z; rw [List.getElem?_set_self hi] at e; cases e
    rw [List.getElem?_set_ne hj] at e
    obtain ⟨w, q1, q2⟩ := m.slot j d' e
    exact ⟨w, q1, q2.mono up⟩
  · by_cases hj : i = j
    · subst hj
      rw [List.getElem?_set_self hi] at e
      cases e
      exact ⟨a, vs, ha, upd_same, r.mono up⟩
    · rw [List.getElem?_set_ne hj] at e
      obtain ⟨b, ws, q1, q2, q3⟩ := m.owns j fs e
      have hb : b ≠ a := fun z => by subst z; exact hj (m.inj i j ds fs b h e ha q1)
      exact ⟨b, ws, q1, by rw [upd_ne hb]; exact q2, q3.mono up⟩
  · obtain ⟨fs', q1⟩ := same j fs h1
    obtain ⟨gs', q2⟩ := same k gs h2
    exact m.inj j k fs' gs' b q1 q2 h3 h4
  · have hj : i ≠ j := fun z => by subst z; rw [List.getElem?_set_self hi] at e; cases e
    rw [List.getElem?_set_ne hj] at e
    obtain ⟨b, C, dop, h1, h2, h3, h4⟩ := m.exn j c x e
    refine ⟨b, C, dop, h1, h2, h3, ?_⟩
    match x, h4 with
    | none, h4 => exact h4
    | some (f, d), ⟨y, v, y1, y2, y3⟩ =>
      obtain ⟨a', vs', e1', e2', _⟩ := m.owns i ds h
      rw [ha] at e1'
      cases e1'
      have hy : y ≠ a := fun z => by rw [z, e2'] at y2; cases y2
      exact ⟨y, v, y1, by rw [upd_ne hy]; exact y2, y3.mono up⟩
end
end Pu

namespace Pu
open PySem PySem.Spec L2

/-! ## statements -/
def pE1 (p : XS) (k : D → XB) : XB := fun Γ => match p Γ with
  | none => none
  | some (.exc c x) => some (.exc c x, Γ)
  | some (.ok d) => k d Γ
def pA1 (p : XA) (k : List D → XB) : XB := fun Γ => match p Γ with
  | none => none
  | some (.exc c x) => some (.exc c x, Γ)
  | some (.ok d) => k d Γ
def pT1 (p : XT) (k : Bool → XB) : XB := fun Γ => match p Γ with
  | none => none
  | some (.exc c x) => some (.exc c x, Γ)
  | some (.ok b) => k b Γ
def pNext : XB := fun Γ => some (.nx, Γ)
def pSeq (a b : XB) : XB := fun Γ => match a Γ with
  | some (.nx, Γ') => b Γ'
  | r => r
def pSet (i : Nat) (p : XS) : XB := pE1 p fun d Γ => some (.nx, Γ.set i (.val d))
def pRet (p : XS) : XB := pE1 p fun d Γ => some (.rt d, Γ)
def pRetN : XB := fun Γ => some (.rt .non, Γ)
def pIfS (c : XT) (a b : XB) : XB := pT1 c fun k => if k = true then a else b
def pExpr (p : XS) : XB := pE1 p fun _ Γ => some (.nx, Γ)
def pShare (i : Nat) : XB := fun Γ => match Γ[i]? with
  | some (.own ds) => some (.nx, Γ.set i (.val (.lst ds)))
  | some (.val _) => some (.nx, Γ)
  | _ => none
def pBreak : XB := fun Γ => some (.bk, Γ)
def pCont : XB := fun Γ => some (.ct, Γ)
def pRaise (c : Str) : XB := fun Γ => some (.exc c none, Γ)

/-- where a value is stored: a name, or names side by side -/
inductive Tg where
  | one (i : Nat) | tup (ts : List Tg)
mutual
def stT : Tg → D → Env → Option Env
  | .one i, d, Γ => some (Γ.set i (.val d))
  | .tup ts, .tup ds, Γ => stTs ts ds Γ
  | .tup _, _, _ => none
def stTs : List Tg → List D → Env → Option Env
  | [], [], Γ => some Γ
  | t :: ts, d :: ds, Γ => match stT t d Γ with
    | some Γ' => stTs ts ds Γ'
    | none => none
  | _, _, _ => none
end
mutual
/-- the slots that a target stores at -/
def tgS : Tg → List Nat
  | .one i => [i]
  | .tup ts => tgSs ts
def tgSs : List Tg → List Nat
  | [] => []
  | t :: ts => tgS t ++ tgSs ts
end
mutual
theorem stT_other : ∀ (t : Tg) (d : D) (Γ Γ' : Env), stT t d Γ = some Γ' → ∀ j, j ∉ tgS t → Γ'[j]? = Γ[j]?
  | .one i, d, Γ, Γ', h, j, hj => by
    rw [stT] at h
    cases h
    rw [tgS] at hj
    exact List.getElem?_set_ne fun e => hj (by rw [e]; exact List.mem_singleton_self j)
  | .tup ts, d, Γ, Γ', h, j, hj => by
    cases d with
    | tup ds => rw [stT] at h; rw [tgS] at hj; exact stTs_other ts ds Γ Γ' h j hj
    | _ => rw [stT] at h; cases h; all_goals (intros; simp_all)
theorem stTs_other : ∀ (ts : List Tg) (ds : List D) (Γ Γ' : Env), stTs ts ds Γ = some Γ' → ∀ j, j ∉ tgSs ts → Γ'[j]? = Γ[j]?
  | [], [], Γ, Γ', h, j, hj => by rw [stTs] at h; cases h; rfl
  | [], _ :: _, Γ, Γ', h, j, hj => by rw [stTs] at h; cases h; all_goals (intros; simp_all)
  | _ :: _, [], Γ, Γ', h, j, hj => by rw [stTs] at h; cases h; all_goals (intros; simp_all)
  | t :: ts, d :: ds, Γ, Γ', h, j, hj => by
    rw [stTs] at h
    rw [tgSs, List.mem_append, not_or] at hj
    split at h
    · rename_i Γ1 h1
      rw [stTs_other ts ds Γ1 Γ' h j hj.2, stT_other t d Γ Γ1 h1 j hj.1]
    · cases h
end
def LG (g : G) (T : Tg) : TG := fun v σ H Q => ∃ O H0 Γ d Γ', Match g O H0 Γ σ H ∧ Rep g (hid (hs O Γ σ) H) v d ∧ stT T d Γ = some Γ' ∧ ∀ σ', Match g O H0 Γ' σ' H → (∀ b, hs O Γ' σ' b → hs O Γ σ b) → (∀ j : Nat, j ∉ tgS T → σ'[j]? = σ[j]?) → Q σ' H
def LGs (g : G) (T : List Tg) : TGs := fun vs σ H Q => ∃ O H0 Γ ds Γ', Match g O H0 Γ σ H ∧ Reps g (hid (hs O Γ σ) H) vs ds ∧ stTs T ds Γ = some Γ' ∧ ∀ σ', Match g O H0 Γ' σ' H → (∀ b, hs O Γ' σ' b → hs O Γ σ b) → (∀ j : Nat, j ∉ tgSs T → σ'[j]? = σ[j]?) → Q σ' H
theorem _root_.L2.PG.imp {X : Cx} {tg : Expr} {t t' : TG} (h : PG X tg t) (k : ∀ v σ H Q, t' v σ H Q → t v σ H Q) : PG X tg t' := ⟨fun pins s σ H v u Q I r w => h.run pins s σ H v u Q I r (k v σ H Q w)⟩
theorem _root_.L2.PGs.imp {X : Cx} {ts : List Expr} {t t' : TGs} (h : PGs X ts t) (k : ∀ v σ H Q, t' v σ H Q → t v σ H Q) : PGs X ts t' := ⟨fun pins s σ H v u Q I r w => h.run pins s σ H v u Q I r (k v σ H Q w)⟩

section
variable {g : G} {W : WX} {O : Addr → Prop} {H0 H : Hp} {Γ : Env} {σ : St} {E : Ends}
theorem hs_set {i : Nat} {d : D} {v : V} (hl : Γ.length = σ.length) : ∀ b, hs O (Γ.set i (.val d)) (σ.set i (some v)) b → hs O Γ σ b := fun b h => by
  rcases h with h | h
  · exact .inl h
  · rcases ownAt_set hl h with ⟨ds, e, _⟩ | h
    · cases e
    · exact .inr h
theorem PostX.toS {c x} (m : Match g O H0 Γ σ H) (h : PostS g W O H0 E (some (.exc c x, Γ))) : PostX g (hs O Γ σ) H (fun C dop H' => W C dop σ H') c x :=
  fun C dop H' hc s hx => h σ H' C dop (m.same s) hc hx
theorem PostS.e1 {p : XS} {k : D → XB} (m : Match g O H0 Γ σ H) (h : PostS g W O H0 E (pE1 p k Γ)) : Post g W σ (hs O Γ σ) H (fun d H' => Match g O H0 Γ σ H' ∧ PostS g W O H0 E (k d Γ)) (p Γ) := by
  unfold pE1 at h
  match hp : p Γ with
  | none => rw [hp] at h; exact h
  | some (.exc c x) => rw [hp] at h; exact PostX.toS m h
  | some (.ok d) => rw [hp] at h; exact fun H' s => ⟨m.same s, h⟩
theorem PostS.a1 {p : XA} {k : List D → XB} (m : Match g O H0 Γ σ H) (h : PostS g W O H0 E (pA1 p k Γ)) : Post g W σ (hs O Γ σ) H (fun d H' => Match g O H0 Γ σ H' ∧ PostS g W O H0 E (k d Γ)) (p Γ) := by
  unfold pA1 at h
  match hp : p Γ with
  | none => rw [hp] at h; exact h
  | some (.exc c x) => rw [hp] at h; exact PostX.toS m h
  | some (.ok d) => rw [hp] at h; exact fun H' s => ⟨m.same s, h⟩
theorem PostS.t1 {p : XT} {k : Bool → XB} (m : Match g O H0 Γ σ H) (h : PostS g W O H0 E (pT1 p k Γ)) : Post g W σ (hs O Γ σ) H (fun d H' => Match g O H0 Γ σ H' ∧ PostS g W O H0 E (k d Γ)) (p Γ) := by
  unfold pT1 at h
  match hp : p Γ with
  | none => rw [hp] at h; exact h
  | some (.exc c x) => rw [hp] at h; exact PostX.toS m h
  | some (.ok d) => rw [hp] at h; exact fun H' s => ⟨m.same s, h⟩
end

section
variable {X : Cx} {g : G} {W : WX} {st : Stmt} {rest : List Stmt} {a b : XB} {p q : XS} {pt : XT} {pa : XA} {e : Expr} {pos : Pos}
theorem ls_nil : PSs X [] (LS g W pNext) := pss_nil.imp fun E σ H ⟨O, H0, Γ, m, h⟩ => h σ H m
theorem seq_imp (E : Ends) (σ : St) (H : Hp) : LS g W (pSeq a b) E σ H → tSeq (LS g W a) (LS g W b) E σ H := fun ⟨O, H0, Γ, m, h⟩ => ⟨O, H0, Γ, m, by
    unfold pSeq at h
    match ha : a Γ with
    | none => rw [ha] at h; exact h
    | some (.nx, Γ') => rw [ha] at h; exact fun σ' H' m' => ⟨O, H0, Γ', m', h⟩
    | some (.rt d, Γ') => rw [ha] at h; exact h
    | some (.bk, Γ') => rw [ha] at h; exact h
    | some (.ct, Γ') => rw [ha] at h; exact h
    | some (.exc c x, Γ') => rw [ha] at h; exact h⟩
theorem ls_cons (h1 : PS X st (LS g W a)) (h2 : PSs X rest (LS g W b)) : PSs X (st :: rest) (LS g W (pSeq a b)) := (pss_cons h1 h2).imp seq_imp
theorem ls_one (h1 : PS X st (LS g W a)) : PSs X [st] (LS g W a) := pss_one h1
/-- from here on the own list in slot i is a datum -/
theorem ls_share (i : Nat) (h : PSs X rest (LS g W a)) : PSs X rest (LS g W (pSeq (pShare i) a)) := h.imp fun E σ H ⟨O, H0, Γ, m, h⟩ => by
  unfold pSeq pShare at h
  cases hg : Γ[i]? with
  | none => rw [hg] at h; exact h.elim
  | some s =>
    rw [hg] at h
    cases s with
    | un => exact h.elim
    | val d => exact ⟨O, H0, _, m, h⟩
    | exn c x => exact h.elim
    | own ds => exact ⟨O, H0, _, m.share hg, h⟩
theorem ls_pass : PS X (.Pass pos) (LS g W pNext) := ps_pass.imp fun E σ H ⟨O, H0, Γ, m, h⟩ => h σ H m
theorem ls_break : PS X (.Break pos) (LS g W pBreak) := ps_break.imp fun E σ H ⟨O, H0, Γ, m, h⟩ => h σ H m
theorem ls_cont : PS X (.Continue pos) (LS g W pCont) := ps_continue.imp fun E σ H ⟨O, H0, Γ, m, h⟩ => h σ H m
theorem ls_expr (he : PE X e (LE g W p)) (hs : swapsWith e none pos.line X.env = pure false := by rfl) : PS X (.Expr e pos) (LS g W (pExpr p)) :=
  (ps_expr he hs).imp fun E σ H ⟨O, H0, Γ, m, h⟩ => ⟨O, H0, Γ, m, (PostS.e1 m h).mono fun d H' _ s ⟨m', h'⟩ v rv => h' σ H' m'⟩
theorem ls_ret (he : PE X e (LE g W p)) : PS X (.Return (some e) pos) (LS g W (pRet p)) :=
  (ps_ret he).imp fun E σ H ⟨O, H0, Γ, m, h⟩ => ⟨O, H0, Γ, m, (PostS.e1 m h).mono fun d H' _ s ⟨m', h'⟩ v rv => h' v H' m'.same0 (rv.mono (hid_le fun b z => .inl z))⟩
theorem ls_retN : PS X (.Return none pos) (LS g W pRetN) := ps_retN.imp fun E σ H ⟨O, H0, Γ, m, h⟩ => h .non H m.same0 .non
theorem ls_if {c : Expr} {sa sb : List Stmt} (hc : PT X c (LT g W pt)) (ha : PSs X sa (LS g W a)) (hb : PSs X sb (LS g W b)) : PS X (.If c sa sb pos) (LS g W (pIfS pt a b)) :=
  (ps_if hc ha hb).imp fun E σ H ⟨O, H0, Γ, m, h⟩ => ⟨O, H0, Γ, m, (PostS.t1 m h).mono fun k H' _ s ⟨m', h'⟩ => by
    cases k with
    | true => exact iteT ⟨O, H0, Γ, m', h'⟩
    | false => exact iteF ⟨O, H0, Γ, m', h'⟩⟩
theorem ls_set (i : Nat) {x : Str} {pos' : Pos} (hN : X.N.Nodup) (he : PE X e (LE g W p)) (hi : X.N[i]? = some x := by rfl) (hx : Loc X.env.scope x := by first | exact Or.inl rfl | exact Or.inr rfl) (hs : swapsWith e (some (.Name x pos')) pos.line X.env = pure false := by rfl) (hf : X.fn x = true ∨ X.env.scope.names.lookup x = some .local := by first | exact .inl rfl | exact .inr rfl | assumption) :
    PS X (.Assign [.Name x pos'] e pos) (LS g W (pSet i p)) :=
  (ps_set hN hi hx he hs hf).imp fun E σ H ⟨O, H0, Γ, m, h⟩ => ⟨O, H0, Γ, m, (PostS.e1 m h).mono fun d H' _ s ⟨m', h'⟩ v rv => h' _ H' (m'.set rv)⟩
/-- an own exception's class without a field, made with a text -/
theorem ls_raise {x mm : Str} {j : Nat} {pp p2 p3 : Pos} {C : Addr} {bmB : List Value} {B newId initId : String} (hc : X.calm = true) (tk : Takes X W) (hcl : g.cls x = some C) (F : ExcBaseFacts B newId initId bmB) (q : PySem.W.excIn X.K C bmB newId = true) (gC : X.mg x = some (.ref C)) (kC : PySem.W.keepIn X.K (.ref C) = true) (r : Raises X (.ref C)) (hg : Gl X x := by rfl)
    (hdb : (x == ("__debug__" : Str)) = false := by decide) : PS X (.Raise (some (.Call (.Name x pp) [.Constant (.str mm) j p2] [] p3)) none pos) (LS g W (pRaise x)) :=
  (ps_raise hc tk (pmk_own F q gC kC r hg hdb)).imp fun E σ H ⟨O, H0, Γ, m, h⟩ => h σ H C none m hcl rfl

/-! ## where values are stored -/
theorem lg_name (i : Nat) {x : Str} (hN : X.N.Nodup) (hi : X.N[i]? = some x := by rfl) (hx : Loc X.env.scope x := by first | exact Or.inl rfl | exact Or.inr rfl) (hf : X.fn x = true ∨ X.env.scope.names.lookup x = some .local := by first | exact .inl rfl | exact .inr rfl | assumption) : PG X (.Name x pos) (LG g (.one i)) :=
  (pg_name hN hi hx hf).imp fun v σ H Q ⟨O, H0, Γ, d, Γ', m, r, h, k⟩ => by
    rw [stT] at h
    cases h
    exact k _ (m.set r) (hs_set m.len) fun j hj => by
      rw [tgS] at hj
      exact List.getElem?_set_ne fun e => hj (by rw [e]; exact List.mem_singleton_self j)
theorem lgs_nil : PGs X [] (LGs g []) := pgs_nil.imp fun vs σ H Q ⟨O, H0, Γ, ds, Γ', m, r, h, k⟩ => by
  cases r with
  | nil => rw [stTs] at h; cases h; exact ⟨rfl, k σ m (fun _ z => z) fun _ _ => rfl⟩
  | cons r t => rw [stTs] at h; cases h; all_goals (intros; simp_all)
theorem lgs_cons {T : Tg} {Ts : List Tg} {es : List Expr} (h1 : PG X e (LG g T)) (h2 : PGs X es (LGs g Ts)) (hs : (assignEach (e :: es) X.env).map (·.2) = assign e X.env :: (assignEach es X.env).map (·.2) := by rfl) : PGs X (e :: es) (LGs g (T :: Ts)) :=
  (pgs_cons h1 h2 hs).imp fun vs σ H Q ⟨O, H0, Γ, ds, Γ', m, r, h, k⟩ => by
    cases r with
    | nil => rw [stTs] at h; cases h; all_goals (intros; simp_all)
    | cons r t =>
      rw [stTs] at h
      split at h
      · rename_i Γ1 hg
        exact ⟨_, _, rfl, O, H0, Γ, _, Γ1, m, r, hg, fun σ1 m1 s1 o1 => ⟨O, H0, Γ1, _, Γ', m1, t.mono (hid_le s1), h, fun σ2 m2 s2 o2 => k σ2 m2 (fun b z => s1 b (s2 b z)) fun j hj => by
          rw [tgSs, List.mem_append, not_or] at hj
          rw [o2 j hj.2, o1 j hj.1]⟩⟩
      · cases h
theorem lg_tup (hK : X.K = g.K) {es : List Expr} {Ts : List Tg} {kk : Nat} (hc : X.calm = true) (h : PGs X es (LGs g Ts)) (hn : (assignEach es X.env).length = Ts.length := by rfl) (hst : (assignEach es X.env).findIdx? (·.1) = none := by rfl) : PG X (.Tuple es kk pos) (LG g (.tup Ts)) :=
  (pg_tup hc h hn hst).imp fun v σ H Q ⟨O, H0, Γ, d, Γ', m, r, h, k⟩ => by
    cases d with
    | tup ds =>
      rw [stT] at h
      obtain ⟨p, vs, rfl, h1, r1⟩ := r.to_tup
      refine ⟨p, vs, rfl, by rw [hK]; exact SqT_hid h1, ?_, O, H0, Γ, ds, Γ', m, r1, h, fun σ' m' s' o' => k σ' m' s' (by rw [tgS]; exact o')⟩
      rw [r1.length]
      have key : ∀ (Ts : List Tg) (ds : List D) (Γ Γ' : Env), stTs Ts ds Γ = some Γ' → ds.length = Ts.length := by
        intro Ts
        induction Ts with
        | nil => intro ds Γ Γ' h; cases ds with
          | nil => rfl
          | cons d ds => rw [stTs] at h; cases h; all_goals (intros; simp_all)
        | cons T Ts ih => intro ds Γ Γ' h; cases ds with
          | nil => rw [stTs] at h; cases h; all_goals (intros; simp_all)
          | cons d ds =>
            rw [stTs] at h
            split at h
            · rw [List.length_cons, List.length_cons, ih ds _ _ h]
            · cases h
      exact key _ _ _ _ h
    | _ => rw [stT] at h; cases h; all_goals (intros; simp_all)
def pAsg (T : Tg) (p : XS) : XB := pE1 p fun d Γ => (stT T d Γ).map fun Γ' => (.nx, Γ')
theorem ls_asg {tg : Expr} {T : Tg} (he : PE X e (LE g W p)) (hg : PG X tg (LG g T)) (hs : swapsWithSole [tg] e pos.line X.env = pure false := by rfl) (hw : swappedStores [tg] e X.env = pure none := by rfl)
    (h1 : (assignEach [tg] X.env).map (·.2) = [assign tg X.env] := by rfl) : PS X (.Assign [tg] e pos) (LS g W (pAsg T p)) :=
  (ps_asg he hg hs hw h1).imp fun E σ H ⟨O, H0, Γ, m, h⟩ => ⟨O, H0, Γ, m, (PostS.e1 m h).mono fun d H' _ s ⟨m', h'⟩ v rv => by
    cases hg : stT T d Γ with
    | none => rw [hg] at h'; exact h'.elim
    | some Γ' => rw [hg] at h'; exact ⟨O, H0, Γ, d, Γ', m', rv, hg, fun σ' m2 _ _ => h' σ' H' m2⟩⟩
/-- a, b = x, y -/
def pPar (i j : Nat) (pa : XA) : XB := pA1 pa fun ds Γ => match ds with
  | [x, y] => some (.nx, (Γ.set i (.val x)).set j (.val y))
  | _ => none
theorem ls_par {i j : Nat} {x y : Str} {ea eb : Expr} {px py pt' : Pos} {kt k2 pt2} (hc : X.calm = true) (hN : X.N.Nodup) (hi : X.N[i]? = some x) (hj : X.N[j]? = some y) (hij : i ≠ j) (hx : X.env.scope.names.lookup x = some .local) (hy : X.env.scope.names.lookup y = some .local) (ha : PA X [ea, eb] (LA g W pa))
    (hw : swappedStores [.Tuple [.Name x px, .Name y py] kt pt'] (.Tuple [ea, eb] k2 pt2) X.env = pure (some [x, y])) (hs : swapsWithSole [.Tuple [.Name x px, .Name y py] kt pt'] (.Tuple [ea, eb] k2 pt2) pos.line X.env = pure false := by rfl) :
    PS X (.Assign [.Tuple [.Name x px, .Name y py] kt pt'] (.Tuple [ea, eb] k2 pt2) pos) (LS g W (pPar i j pa)) :=
  (ps_par hc hN hi hj hij hx hy ha hw hs).imp fun E σ H ⟨O, H0, Γ, m, h⟩ => ⟨O, H0, Γ, m, (PostS.a1 m h).mono fun ds H' _ s ⟨m', h'⟩ vs rv => by
    match ds, h', rv with
    | [d1, d2], h', rv =>
      obtain ⟨v, w, rfl, r1, r2⟩ := rv.two
      exact ⟨v, w, rfl, h' _ H' ((m'.set r1).set (r2.mono (hid_le (hs_set m'.len))))⟩
    | [], h', rv => exact h'.elim
    | [_], h', rv => exact h'.elim
    | _ :: _ :: _ :: _, h', rv => exact h'.elim⟩
end

/-! ## lists of one's own -/
/-- a new list: its address is known to nobody else -/
def LF (g : G) (W : WX) (p : XA) : TE := fun σ H Q => ∃ O H0 Γ, Match g O H0 Γ σ H ∧ Post g W σ (hs O Γ σ) H (fun ds H1 => ∀ a vs H', Same H1 H' → H1 a = none → H' a = some (.lst vs) → Reps g (hid (fun b => hs O Γ σ b ∨ b = a) H') vs ds → Q (.ref a) H') (p Γ)
def pSetF (i : Nat) (p : XA) : XB := pA1 p fun ds Γ => some (.nx, Γ.set i (.own ds))
def pItems (p : XS) : XA := fun Γ => (p Γ).bind fun d => ofO (itemsD d)
noncomputable def pCatF (p q : XS) : XA := fun Γ => (p Γ).bind fun a => (q Γ).bind fun b => match a, b with
  | .lst x, .lst y => if fit (x.length + y.length) then ok (x ++ y) else none
  | _, _ => none
def cutI (lo hi : Option Int) : D → Option (List D)
  | .lst ds => some (cutL ds lo hi)
  | .frz ds => some (cutL ds lo hi)
  | _ => none
def pSlF (p : XS) (lo hi : XO) : XA := fun Γ => (p Γ).bind fun a => (lo Γ).bind fun l => (hi Γ).bind fun h => ofO (cutI l h a)
noncomputable def pApp (i : Nat) (p : XS) : XB := fun Γ => match Γ[i]? with
  | some (.own ds) => pE1 p (fun d Γ => if fit (ds.length + 1) then some (.nx, Γ.set i (.own (ds ++ [d]))) else none) Γ
  | _ => none
/-- x[k] = e, x an own list -/
def pSetIx (i : Nat) (p k : XS) : XB := fun Γ => match Γ[i]? with
  | some (.own ds) => pE1 p (fun d => pE1 k fun n Γ => match n with
    | .int n => (match ixN ds.length n with
      | some j => some (.nx, Γ.set i (.own (ds.set j d)))
      | none => none)
    | _ => none) Γ
  | _ => none
section
variable {X : Cx} {g : G} {W : WX} {pa : XA} {p q : XS} {e : Expr} {es : List Expr} {pos : Pos}
theorem hide_one {S : Addr → Prop} {H : Hp} {pp : Addr} {o : HO} {vs : List V} {ds : List D} (hp : H pp = none) (r : Reps g (hid S H) vs ds) : Reps g (hid (fun b => S b ∨ b = pp) (upd H pp o)) vs ds :=
  r.mono fun b u z => hid_get (by rw [upd_ne (ne_of_none (hid_of z).1 hp)]; exact (hid_of z).1) fun y => y.elim (hid_of z).2 fun y => ne_of_none (hid_of z).1 hp y
theorem lf_lst (h : PA X es (LA g W pa)) (hlen : ∀ Γ ds, pa Γ = some (.ok ds) → ds.length = es.length) (hl : es.length ≤ 100 := by decide) : PE X (.List es pos) (LF g W pa) :=
  (pe_lst h).imp fun σ H Q ⟨O, H0, Γ, m, h⟩ => ⟨O, H0, Γ, m, h.mono fun ds H1 e1 s1 k vs rv => ⟨by
    rw [rv.length, hlen _ _ e1]; exact Nat.le_trans hl (by decide), fun pp hp => k pp vs _ (same_upd hp) hp upd_same (hide_one hp rv)⟩⟩
theorem lf_list (hK : X.K = g.K) {x : Str} {pp : Pos} (hx : x = "list") (hm : X.mg x = none) (h : PE X e (LE g W p)) (hv : bootBuiltins x = some (.type "list") := by decide +kernel) (hg : Gl X x := by rfl) (hn : x ≠ "__name__" := by decide) (hdb : (x == ("__debug__" : Str)) = false := by decide)
    (hs1 : starEach [e] X.env = (false, eval e X.env) :: starEach [] X.env := by rfl) (hpl : (backTo pos (starEach [] X.env)).any (·.1) = false := by rfl) : PE X (.Call (.Name x pp) [e] [] pos) (LF g W (pItems p)) :=
  (pe_callTy call_list_of hg hm hv (pa_cons h pa_nil hs1) hn hdb hs1 hpl).imp fun σ H Q ⟨O, H0, Γ, m, h⟩ => ⟨O, H0, Γ, m, h.bind.mono fun d H1 _ s1 h1 v rv => by
    obtain ⟨ds, hd, k⟩ := h1.ofO
    obtain ⟨a, vs, rfl, hsq, r⟩ := items_rep rv hd
    exact ⟨a, vs, rfl, by rw [hK]; exact hsq, fun l hl => k H1 (Same.refl _) l vs _ (same_upd hl) hl upd_same (hide_one hl r)⟩⟩
theorem lf_cat {a b : Expr} (ha : PE X a (LE g W p)) (hb : PE X b (LE g W q)) : PE X (.BinOp a .Add b pos) (LF g W (pCatF p q)) :=
  (pe_op op_cat ha hb).imp fun σ H Q ⟨O, H0, Γ, m, h⟩ => ⟨O, H0, Γ, m, h.bind.mono fun x H1 _ s1 h1 v rv => ⟨O, H0, Γ, m.same s1, h1.bind.mono fun y H2 _ s2 h2 w rw => by
    cases x with
    | lst xs =>
      cases y with
      | lst ys =>
        simp only at h2
        split at h2
        · rename_i hz
          obtain ⟨a1, vs, rfl, h3, r1⟩ := (rv.mono (hid_same s2)).to_lst
          obtain ⟨b1, ws, rfl, h4, r2⟩ := rw.to_lst
          exact ⟨a1, b1, vs, ws, rfl, rfl, (hid_of h3).1, (hid_of h4).1, by rw [r1.length, r2.length]; exact hz, fun l hl => h2.here l _ _ (same_upd hl) hl upd_same (hide_one hl (r1.append r2))⟩
        · exact h2.elim
      | _ => exact h2.elim
    | _ => exact h2.elim⟩⟩
theorem lf_slice (hK : X.K = g.K) {e : Expr} {lo hi : Option Expr} {p : XS} {pl ph : XO} {p2 pos : Pos} (he : PE X e (LE g W p)) (hl : PO X lo (LO g W pl)) (hh : PO X hi (LO g W ph)) : PE X (.Subscript e (.Slice lo hi none p2) pos) (LF g W (pSlF p pl ph)) :=
  (pe_slice sl_list he hl hh).imp fun σ H Q ⟨O, H0, Γ, m, h⟩ => ⟨O, H0, Γ, m, h.bind.mono fun x H1 _ s1 h1 v rv => ⟨O, H0, Γ, m.same s1, h1.bind.mono fun l H2 _ s2 h2 => ⟨O, H0, Γ, m.same (s1.trans s2), h2.bind.mono fun u H3 _ s3 h3 => by
    obtain ⟨ds, hd, k⟩ := h3.ofO
    have rv3 := rv.mono (hid_same (s2.trans s3))
    rw [hK]
    cases x <;> simp only [cutI] at hd <;> try cases hd
    · obtain ⟨a, vs, rfl, h4, r⟩ := rv3.to_lst
      exact ⟨a, vs, rfl, SqL.of (hid_of h4).1, fun l hl => k H3 (Same.refl _) l _ _ (same_upd hl) hl upd_same (hide_one hl (cut_rep r _ _))⟩
    · obtain ⟨a, vs, rfl, h4, r⟩ := rv3.to_frz
      exact ⟨a, vs, rfl, SqL_hid h4, fun l hl => k H3 (Same.refl _) l _ _ (same_upd hl) hl upd_same (hide_one hl (cut_rep r _ _))⟩⟩⟩⟩
theorem ls_setF (i : Nat) {x : Str} {pos' : Pos} (hN : X.N.Nodup) (he : PE X e (LF g W pa)) (hi : X.N[i]? = some x := by rfl) (hx : Loc X.env.scope x := by first | exact Or.inl rfl | exact Or.inr rfl) (hs : swapsWith e (some (.Name x pos')) pos.line X.env = pure false := by rfl) (hf : X.fn x = true ∨ X.env.scope.names.lookup x = some .local := by first | exact .inl rfl | exact .inr rfl | assumption) :
    PS X (.Assign [.Name x pos'] e pos) (LS g W (pSetF i pa)) :=
  (ps_set hN hi hx he hs hf).imp fun E σ H ⟨O, H0, Γ, m, h⟩ => ⟨O, H0, Γ, m, (PostS.a1 m h).mono fun ds H1 _ s ⟨m', h'⟩ a vs H' s' hn ha r => h' _ H' (m'.take s' hn ha r)⟩
theorem Match.ownV {O : Addr → Prop} {H0 H : Hp} {Γ : Env} {σ : St} {i : Nat} {ds : List D} (m : Match g O H0 Γ σ H) (h : Γ[i]? = some (.own ds)) : ∃ a vs, σ[i]? = some (some (.ref a)) ∧ H a = some (.lst vs) ∧ Reps g (hid (hs O Γ σ) H) vs ds := m.owns i ds h
/-- x.append(e), x an own list in slot i -/
theorem ls_app (i : Nat) {x : Str} {apos cpos xpos : Pos} (hm : PE X (.Call (.Attribute (.Name x xpos) "append" apos) [e] [] cpos) (tBM X.K "list" rAppend (tVar i) (tCons (LE g W p) tNil)))
    (hs : swapsWith (.Call (.Attribute (.Name x xpos) "append" apos) [e] [] cpos) none pos.line X.env = pure false := by rfl) :
    PS X (.Expr (.Call (.Attribute (.Name x xpos) "append" apos) [e] [] cpos) pos) (LS g W (pApp i p)) :=
  (ps_expr hm hs).imp fun E σ H ⟨O, H0, Γ, m, h⟩ => by
    unfold pApp at h
    split at h
    · rename_i ds hg
      obtain ⟨a, vs, e1, e2, r⟩ := m.ownV hg
      refine ⟨.ref a, e1, .inl ⟨rfl, vs, SqL.of e2⟩, O, H0, Γ, m, (PostS.e1 m h).mono fun d H1 _ s1 ⟨m1, h1⟩ v rv => ?_⟩
      obtain ⟨a', vs', e1', e2', r'⟩ := m1.ownV hg
      rw [e1] at e1'
      cases e1'
      split at h1
      · rename_i hz
        refine ⟨a, vs', v, rfl, rfl, e2', ?_, h1 σ _ (m1.write hg e1 (r'.append (.cons rv .nil)))⟩
        rw [r'.length]
        exact Nat.lt_of_succ_le hz
      · exact h1.elim
    · exact h.elim
theorem ls_setIx (i : Nat) {x : Str} {k : Expr} {pk : XS} {xpos spos : Pos} (he : PE X e (LE g W p)) (hk : PE X k (LE g W pk)) (hN : X.N[i]? = some x := by rfl) (hv : Vis X.env.scope x := by first | exact Or.inl rfl | exact Or.inr (Or.inl rfl) | exact Or.inr (Or.inr rfl)) (hd : (x == ("__debug__" : Str)) = false := by decide)
    (hcd : (x == ("__classdict__" : Str)) = false := by decide) (hg : PG X (.Subscript (.Name x xpos) k spos) (gSub (tVar i) (LE g W pk) rSetL)) (hs : swapsWithSole [.Subscript (.Name x xpos) k spos] e pos.line X.env = pure false := by rfl) (hw : swappedStores [.Subscript (.Name x xpos) k spos] e X.env = pure none := by rfl)
    (h1 : (assignEach [.Subscript (.Name x xpos) k spos] X.env).map (·.2) = [assign (.Subscript (.Name x xpos) k spos) X.env] := by rfl) : PS X (.Assign [.Subscript (.Name x xpos) k spos] e pos) (LS g W (pSetIx i p pk)) :=
  (ps_asg he hg hs hw h1).imp fun E σ H ⟨O, H0, Γ, m, h⟩ => by
    unfold pSetIx at h
    split at h
    · rename_i ds hg
      obtain ⟨a, vs, e1, e2, r⟩ := m.ownV hg
      refine ⟨O, H0, Γ, m, (PostS.e1 m h).mono fun d H1 _ s1 ⟨m1, h1⟩ v rv => ⟨.ref a, e1, O, H0, Γ, m1, (PostS.e1 m1 h1).mono fun n H2 _ s2 ⟨m2, h2⟩ w rw => ?_⟩⟩
      cases n with
      | int n =>
        simp only at h2
        split at h2
        · rename_i j hj
          obtain ⟨a', vs', e1', e2', r'⟩ := m2.ownV hg
          rw [e1] at e1'
          cases e1'
          exact ⟨a, vs', n, j, rfl, rw.to_int, e2', by rw [r'.length]; exact hj, h2 σ _ (m2.write hg e1 (Reps.set (rv.mono (hid_same s2)) j r'))⟩
        · exact h2.elim
      | _ => exact h2.elim
    · exact h.elim
end
end Pu

namespace Pu
open PySem PySem.Spec L2
open PyProof.Rows (envOfC)

/-! ## defs -/
/-- the promise of a def that is worth F -/
def SpP (g : G) (F : List D → R D) : Sp := fun vs H Q E => ∃ S ds, In S H ∧ Reps g (hid S H) vs ds ∧ Post g (fun C dop _ H' => E C dop H') [] S H (fun d H' => ∀ v, Rep g (hid S H') v d → Q v H') (F ds)
def pCall (F : List D → R D) (pa : XA) : XS := fun Γ => (pa Γ).bind F
/-- with defaults behind the arguments -/
def pCallD (F : List D → R D) (pa : XA) (ex : List D) : XS := fun Γ => (pa Γ).bind fun ds => F (ds ++ ex)
theorem Post.wish {α : Type} {g : G} {W W' : WX} {σ σ' : St} {S : Addr → Prop} {H : Hp} {P : α → Hp → Prop} {r : R α} (h : Post g W σ S H P r) (k : ∀ C dop H', W C dop σ H' → W' C dop σ' H') : Post g W' σ' S H P r := by
  match r, h with
  | none, h => exact h
  | some (.exc c x), h => exact fun C dop H' e s q => k (.ref C) dop H' (h C dop H' e s q)
  | some (.ok d), h => exact h
section
variable {X : Cx} {g : G} {W : WX} {k : Nat} {f : Addr} {fd : FuncData} {ps : List Str} {F : List D → R D} {x : Str} {p pos : Pos} {e : Expr} {es : List Expr} {pa : XA}
theorem le_call (FN : FnOk X.prog X.w X.K X.mg X.base (L2.CX X.prog X.w) k f fd ps (SpP g F)) (hr : Room k X.A) (hm : X.mg x = some (.ref f)) (hk : PySem.W.keepIn X.K (.ref f) = true) (hb : Binds X.K fd ps []) (tk : ∀ σ, PassesAt (L2.CX X.prog X.w) X σ (WE W σ))
    (ha : PA X (e :: es) (LA g W pa)) (hg : Gl X x := by rfl) (hdb : (x == ("__debug__" : Str)) = false := by decide) (he : starEach (e :: es) X.env = (false, eval e X.env) :: starEach es X.env := by rfl) (hpl : (backTo pos (starEach es X.env)).any (·.1) = false := by rfl) :
    PE X (.Call (.Name x p) (e :: es) [] pos) (LE g W (pCall F pa)) :=
  (pe_callS FN hr hg hm hk hb tk ha hdb he hpl).imp fun σ H Q ⟨O, H0, Γ, m, h⟩ => ⟨O, H0, Γ, m, h.bind.mono fun ds H1 _ s1 h1 vs rv => ⟨hs O Γ σ, ds, (m.same s1).hin, rv, h1.wish fun _ _ _ z => z⟩⟩
/-- what a callee may let out at the slots σ, with defaults -/
theorem run_pure {pins : List (Addr × Obj)} {σ : St} {H : Hp} {s : Shared} {Q : VK} {us ds : List Value} {vs dvs : List V} (FN : FnOk X.prog X.w X.K X.mg X.base (L2.CX X.prog X.w) k f fd ps (SpP g F)) (hr : Room k X.A) (hb : Binds X.K fd ps ds) (hd : Vals dvs ds) (tk : ∀ σ, PassesAt (L2.CX X.prog X.w) X σ (WE W σ))
    (I : Inv X pins σ H s) (r : Vals vs us) (h : SpP g F (vs ++ dvs) H Q (WE W σ)) : wpAny (model X.prog X.w) X.A (call (.ref f) us) (EP X pins σ Q) X.xe s := by
  have rr := Vals.append r hd
  have len : (us ++ ds).length = ps.length := (Vals.length rr).symm.trans (FN.len _ _ _ _ h)
  have go := FN.run X.A X.stack s H ⟨us, []⟩ (us ++ ds) (vs ++ dvs) Q (WE W σ) hr I.env0 (hb s us I.kIn len) rr h
  refine wpAny_call (codeAny_mono go fun out s' hout => ?_)
  match out, hout with
  | .error e, hout => exact tk σ pins H s e s' I hout
  | .ok (.ret u), hout => exact I.after hout
theorem le_callD {ds : List Value} {dvs : List V} {ex : List D} (FN : FnOk X.prog X.w X.K X.mg X.base (L2.CX X.prog X.w) k f fd ps (SpP g F)) (hr : Room k X.A) (hm : X.mg x = some (.ref f)) (hk : PySem.W.keepIn X.K (.ref f) = true) (hb : Binds X.K fd ps ds) (hd : Vals dvs ds) (hx : ∀ H, Reps g H dvs ex) (tk : ∀ σ, PassesAt (L2.CX X.prog X.w) X σ (WE W σ))
    (ha : PA X (e :: es) (LA g W pa)) (hg : Gl X x := by rfl) (hdb : (x == ("__debug__" : Str)) = false := by decide) (he : starEach (e :: es) X.env = (false, eval e X.env) :: starEach es X.env := by rfl) (hpl : (backTo pos (starEach es X.env)).any (·.1) = false := by rfl) :
    PE X (.Call (.Name x p) (e :: es) [] pos) (LE g W (pCallD F pa ex)) := by
  refine ⟨fun pins s σ H Q I ⟨O, H0, Γ, m, h⟩ => wpAny_Call_Name_kw (ld_glob I hg hm ?_ hdb)⟩
  have go := ha.run pos pins s σ H (fun vs H1 => SpP g F (vs ++ dvs) H1 Q (WE W σ)) I ⟨O, H0, Γ, m, h.bind.mono fun as H1 _ s1 h1 vs rv => ⟨hs O Γ σ, as ++ ex, (m.same s1).hin, rv.append (hx _), h1.wish fun _ _ _ z => z⟩⟩
  exact PySem.W.callWith_K (h₀ := X.base) I.ok.mod.kin hk (thn go fun us s1 ⟨vs, H1, I1, r, q⟩ => ⟨I1.kIn, run_pure FN hr hb hd tk I1 r q⟩) he hpl
end

def runB : Option (Fl × Env) → R D
  | some (.rt d, _) => some (.ok d)
  | some (.nx, _) => some (.ok .non)
  | some (.exc c x, _) => some (.exc c x)
  | _ => none
def initE (n : Nat) (ds : List D) : Env := ds.map .val ++ List.replicate (n - ds.length) .un
theorem start_match {g : G} {S : Addr → Prop} {H : Hp} {N : List Str} {vs : List V} {ds : List D} (hin : In S H) (r : Reps g (hid S H) vs ds) : Match g S H (initE N.length ds) (start N vs) H := by
  have none_own : ∀ (i : Nat) es, (initE N.length ds)[i]? ≠ some (.own es) := fun i es h => by
    unfold initE at h
    rw [List.getElem?_append] at h
    split at h
    · rw [List.getElem?_map] at h
      cases e : ds[i]? <;> rw [e] at h <;> cases h
    · rw [List.getElem?_replicate] at h
      split at h <;> cases h
  have none_exn : ∀ (i : Nat) c x, (initE N.length ds)[i]? ≠ some (.exn c x) := fun i c x h => by
    unfold initE at h
    rw [List.getElem?_append] at h
    split at h
    · rw [List.getElem?_map] at h
      cases e : ds[i]? <;> rw [e] at h <;> cases h
    · rw [List.getElem?_replicate] at h
      split at h <;> cases h
  have noown : ∀ b, ¬ ownAt (initE N.length ds) (start N vs) b := fun b ⟨i, es, h, _⟩ => none_own i es h
  have up : Same (hid S H) (hid (hs S (initE N.length ds) (start N vs)) H) := hid_le fun b z => z.elim (fun z => z) fun z => (noown b z).elim
  have lv := r.length
  refine ⟨?_, fun b o e => ⟨e, noown b⟩, hin, fun i d h => ?_, fun i es h => (none_own i es h).elim, fun i j es fs a h _ _ _ => (none_own i es h).elim, fun i c x h => (none_exn i c x h).elim⟩
  · unfold initE L2.start
    rw [List.length_append, List.length_append, List.length_map, List.length_map, List.length_replicate, List.length_replicate, lv]
  · unfold initE at h
    rw [List.getElem?_append] at h
    split at h
    · rename_i hi
      rw [List.getElem?_map] at h
      cases e : ds[i]? with
      | none => rw [e] at h; cases h
      | some d' =>
        rw [e] at h
        cases h
        obtain ⟨v, hv, rv⟩ := r.get e
        refine ⟨v, ?_, rv.mono up⟩
        unfold L2.start
        rw [List.getElem?_append_left (by rw [List.length_map] at hi ⊢; omega), List.getElem?_map, hv]
        rfl
    · rw [List.getElem?_replicate] at h
      split at h <;> cases h
theorem run_post {g : G} {S : Addr → Prop} {H : Hp} {Q : VK} {E : XK} {r : Option (Fl × Env)} (h : Post g (fun C dop _ H' => E C dop H') [] S H (fun d H' => ∀ v, Rep g (hid S H') v d → Q v H') (runB r)) :
    PostS g (fun cls d _ H' => E cls d H') S H { nx := fun _ H' => Q .non H', rt := Q } r := by
  match r, h with
  | none, h => exact h
  | some (.nx, Γ), h => exact fun σ' H' m => Post.ok h m.same0 _ .non
  | some (.rt d, Γ), h => exact fun v H' s rv => Post.ok h s _ rv
  | some (.bk, Γ), h => exact h.elim
  | some (.ct, Γ), h => exact h.elim
  | some (.exc c x, Γ), h => exact fun σ' H' C dop m hc hx => h C dop H' hc m.same0 (by
      match x, hx with
      | none, hx => exact hx
      | some (f, d), hx =>
        obtain ⟨a, v, e1, e2, r⟩ := hx
        exact ⟨a, v, e1, e2, r.mono (hid_le fun b z => .inl z)⟩)
/-- THE RULE: a def of the text is worth F, where its body is -/
theorem def_ok {P : Program} {w : World} {K : PySem.W.Frag} {mg : Str → Option Value} {base : Heap} {k : Nat} {f : Addr} {name qual : Str} {params : Arguments} {body : List Stmt} {scope : Scope} {dV kV doc pm cdv ct oc : Value} {an od : Option Addr} {osl : Array (Option Value)} {N ps : List Str} {g : G} {F : List D → R D} {pb : XB}
    (lk : K.lookup f = some ⟨oc, od, .func (PySem.W.fnOf name qual params body scope dV kV doc pm an cdv ct), osl⟩) (hcd : PySem.W.codeIn K cdv qual = true) (S : FnScope N ps scope)
    (hbody : ∀ (A : Around) (outer : List PySem.Env) (s : Shared) (H : Hp) (E : XK), Room k (A.deeper (envOfC qual scope s.heap.objs.size f cdv)) → PSs (cxOf (L2.CX P w) P w K mg base N qual scope f cdv A outer s H E) body (LS g (fun cls d _ H' => E cls d H') pb))
    (hF : ∀ ds r, F ds = some r → ds.length = ps.length ∧ runB (pb (initE N.length ds)) = some r) : FnOk P w K mg base (L2.CX P w) (k + 1) f (PySem.W.fnOf name qual params body scope dV kV doc pm an cdv ct) ps (SpP g F) := by
  refine fn_of lk hcd S (fun vs H Q E ⟨T, ds, hin, r, h⟩ => ?_) fun A outer s H vs Q E hr ⟨T, ds, hin, r, h⟩ => ⟨_, hbody A outer s H E hr, T, H, initE N.length ds, start_match hin r, ?_⟩
  · cases hf : F ds with
    | none => rw [hf] at h; exact h.elim
    | some o => exact r.length.trans (hF ds o hf).1
  · cases hf : F ds with
    | none => rw [hf] at h; exact h.elim
    | some o =>
      rw [hf] at h
      exact run_post (by rw [(hF ds o hf).2]; exact h)

/-! ## loops -/
def forB (T : Tg) (b : XB) : List D → XB
  | [], Γ => some (.nx, Γ)
  | d :: ds, Γ => match stT T d Γ with
    | none => none
    | some Γ1 => match b Γ1 with
      | some (.nx, Γ2) => forB T b ds Γ2
      | some (.ct, Γ2) => forB T b ds Γ2
      | some (.bk, Γ2) => some (.nx, Γ2)
      | r => r
abbrev XI := Env → R (List D)
def pFor (pl : XI) (T : Tg) (b : XB) : XB := pA1 pl fun ds Γ => forB T b ds Γ
/-- what is walked yields the data ds, while what was seen stays -/
def SrcOk (g : G) (Hv : Hp) (J : It) (ds : List D) : Prop := ∀ (S : Addr → Prop) (Hi : Hp), In S Hi → Same Hv (hid S Hi) →
  (∀ (i : Nat) d, ds[i]? = some d → J.go i Hi ∧ ∀ x H', J.yld i Hi x H' → Same Hi H' ∧ Rep g (hid S H') x d) ∧ J.stop ds.length Hi
def LI (g : G) (W : WX) (pl : XI) : TI := fun σ H R => ∃ O H0 Γ, Match g O H0 Γ σ H ∧ Post g W σ (hs O Γ σ) H (fun ds H1 => ∀ J H', Same H1 H' → SrcOk g (hid (hs O Γ σ) H') J ds → R J H') (pl Γ)
theorem _root_.L2.PI.imp {X : Cx} {tg iter : Expr} {t t' : TI} (h : PI X tg iter t) (k : ∀ σ H R, t' σ H R → t σ H R) : PI X tg iter t' := ⟨fun pins s σ H R I w => h.run pins s σ H R I (k σ H R w)⟩
section
variable {g : G} {W : WX} {O : Addr → Prop} {H0 B : Hp} {E : Ends}
theorem PostS.rebase {r : Option (Fl × Env)} (h : PostS g W O H0 E r) (hm : ∀ Γ' σ' H', Match g O B Γ' σ' H' → Match g O H0 Γ' σ' H') (hs0 : ∀ H', Same B H' → Same H0 H') : PostS g W O B E r := by
  match r, h with
  | none, h => exact h
  | some (.nx, Γ), h => exact fun σ' H' m => h σ' H' (hm _ _ _ m)
  | some (.rt d, Γ), h => exact fun v H' s rv => h v H' (hs0 H' s) rv
  | some (.bk, Γ), h => exact fun σ' H' m => h σ' H' (hm _ _ _ m)
  | some (.ct, Γ), h => exact fun σ' H' m => h σ' H' (hm _ _ _ m)
  | some (.exc c x, Γ), h => exact fun σ' H' C dop m hc hx => h σ' H' C dop (hm _ _ _ m) hc hx
theorem seen_same {Γ Γi : Env} {σ σi : St} {H1 Hi : Hp} (m : Match g O (hid (ownAt Γ σ) H1) Γi σi Hi) : Same (hid (hs O Γ σ) H1) (hid (hs O Γi σi) Hi) := fun b o q => by
  obtain ⟨q1, q2⟩ := hid_of q
  have z := m.base b o (hid_get q1 fun y => q2 (.inr y))
  exact hid_get z.1 fun y => y.elim (fun y => q2 (.inl y)) z.2
end
section
variable {X : Cx} {g : G} {W : WX} {pl : XI} {T : Tg} {b : XB} {tg iter : Expr} {body : List Stmt} {pos : Pos}
theorem ls_for (hp : PassesOwn (model X.prog X.w) X.A X.env X.xe) (hc : X.calm = true) (hi : PI X tg iter (LI g W pl)) (hg : PG X tg (LG g T)) (hb : PSs X body (LS g W b)) (hs' : ∀ x, foldedSetIterable iter X.env x = pure x := by intro _; rfl) :
    PS X (.For tg iter body [] pos) (LS g W (pFor pl T b)) :=
  (ps_for hp hc hi hg hb hs').imp fun E σ H ⟨O, H0, Γ, m, h⟩ => ⟨O, H0, Γ, m, (PostS.a1 m h).mono fun ds H1 _ s1 ⟨m1, h1⟩ J H2 s2 src => by
    have m2 := m1.same s2
    have h2 : PostS g W O (hid (ownAt Γ σ) H2) E (forB T b ds Γ) := PostS.rebase h1 (fun Γ' σ' H' z => z.unbase m2) fun H' z b o e => z b o (hid_get (m2.base b o e).1 (m2.base b o e).2)
    refine ⟨fun i n σi Hi => n = ds.length - i ∧ i ≤ ds.length ∧ ∃ Γi, Match g O (hid (ownAt Γ σ) H2) Γi σi Hi ∧ PostS g W O (hid (ownAt Γ σ) H2) E (forB T b (ds.drop i) Γi), ⟨_, rfl, Nat.zero_le _, Γ, m2.rebase, h2⟩, ?_⟩
    rintro i n σi Hi ⟨rfl, hle, Γi, mi, hi⟩
    obtain ⟨sgo, sstop⟩ := src _ Hi mi.hin (seen_same mi)
    by_cases hlt : i < ds.length
    · have hd : ds[i]? = some ds[i] := List.getElem?_eq_getElem hlt
      obtain ⟨go, yl⟩ := sgo i _ hd
      rw [List.drop_eq_getElem_cons hlt, forB] at hi
      refine .inr ⟨go, fun σ' H' => ∃ Γ', Match g O (hid (ownAt Γ σ) H2) Γ' σ' H' ∧ PostS g W O (hid (ownAt Γ σ) H2) E (forB T b (ds.drop (i + 1)) Γ'), fun σ' H' ⟨Γ', q1, q2⟩ => ⟨ds.length - (i + 1), by omega, rfl, hlt, Γ', q1, q2⟩, fun x H' hy => ?_⟩
      obtain ⟨sy, ry⟩ := yl x H' hy
      cases hst : stT T ds[i] Γi with
      | none => rw [hst] at hi; exact hi.elim
      | some Γ1 =>
        rw [hst] at hi
        refine ⟨O, _, Γi, _, Γ1, mi.same sy, ry, hst, fun σ1 mm _ _ => ⟨O, _, Γ1, mm, ?_⟩⟩
        revert hi
        simp only
        match b Γ1 with
        | none => exact fun z => z.elim
        | some (.nx, Γ2) => exact fun z σ' H' m' => ⟨Γ2, m', z⟩
        | some (.ct, Γ2) => exact fun z σ' H' m' => ⟨Γ2, m', z⟩
        | some (.bk, Γ2) => exact fun z => z
        | some (.rt d, Γ2) => exact fun z => z
        | some (.exc c x, Γ2) => exact fun z => z
    · have e : i = ds.length := by omega
      subst e
      rw [List.drop_length, forB] at hi
      exact .inl ⟨sstop, hi σi Hi mi⟩⟩
/-- over a list -/
def pIl (p : XS) : XI := fun Γ => (p Γ).bind fun d => match d with
  | .lst ds => ok ds
  | .frz ds => ok ds
  | _ => none
def pIt (p : XS) : XI := fun Γ => (p Γ).bind fun d => match d with
  | .tup ds => ok ds
  | _ => none
theorem src_list {Hv H' : Hp} {a : Addr} {vs : List V} {ds : List D} (hr : SqL g.K Hv a vs) (r : Reps g Hv vs ds) : SrcOk g Hv (Itl g.K a) ds := fun S Hi hin s => by
  have sq : SqL g.K Hi a vs := SqL_hid (s.seq hr)
  have r' := r.mono s
  refine ⟨fun i d hd => ?_, vs, sq, Nat.le_of_eq r.length⟩
  obtain ⟨v, hv, rv⟩ := r'.get hd
  refine ⟨⟨vs, v, sq, hv⟩, fun x H' ⟨e, y⟩ => ?_⟩
  subst e
  have q := y vs sq
  rw [hv] at q
  cases q
  exact ⟨Same.refl _, rv⟩
theorem src_tup {Hv H' : Hp} {a : Addr} {vs : List V} {ds : List D} (hr : SqT g.K Hv a vs) (r : Reps g Hv vs ds) : SrcOk g Hv (Itt g.K a) ds := fun S Hi hin s => by
  have sq : SqT g.K Hi a vs := SqT_hid (s.seqT hr)
  have r' := r.mono s
  refine ⟨fun i d hd => ?_, vs, sq, Nat.le_of_eq r.length⟩
  obtain ⟨v, hv, rv⟩ := r'.get hd
  refine ⟨⟨vs, v, sq, hv⟩, fun x H' ⟨e, y⟩ => ?_⟩
  subst e
  have q := y vs sq
  rw [hv] at q
  cases q
  exact ⟨Same.refl _, rv⟩
theorem li_list (hK : X.K = g.K) {l : Expr} {p : XS} (h : PE X l (LE g W p)) : PI X tg l (LI g W (pIl p)) :=
  (pi_list h).imp fun σ H R ⟨O, H0, Γ, m, h⟩ => ⟨O, H0, Γ, m, h.bind.mono fun d H1 _ s1 h1 v rv => by
    cases d with
    | lst ds =>
      obtain ⟨a, vs, rfl, h2, r⟩ := rv.to_lst
      exact ⟨a, rfl, ⟨vs, SqL.of (hid_of h2).1⟩, by rw [hK]; exact h1.here _ _ (Same.refl _) (src_list (H' := H1) (SqL.of h2) r)⟩
    | frz ds =>
      obtain ⟨a, vs, rfl, h2, r⟩ := rv.to_frz
      exact ⟨a, rfl, ⟨vs, by rw [hK]; exact SqL_hid h2⟩, by rw [hK]; exact h1.here _ _ (Same.refl _) (src_list (H' := H1) h2 r)⟩
    | _ => exact h1.elim⟩
theorem li_tup (hK : X.K = g.K) {l : Expr} {p : XS} (h : PE X l (LE g W p)) : PI X tg l (LI g W (pIt p)) :=
  (pi_tup h).imp fun σ H R ⟨O, H0, Γ, m, h⟩ => ⟨O, H0, Γ, m, h.bind.mono fun d H1 _ s1 h1 v rv => by
    cases d with
    | tup ds =>
      obtain ⟨a, vs, rfl, h2, r⟩ := rv.to_tup
      exact ⟨a, rfl, ⟨vs, by rw [hK]; exact SqT_hid h2⟩, by rw [hK]; exact h1.here _ _ (Same.refl _) (src_tup (H' := H1) h2 r)⟩
    | _ => exact h1.elim⟩
def rangeD (lo : Int) (n : Nat) : List D := (List.range n).map fun (i : Nat) => .int (lo + i)
theorem src_range {Hv : Hp} (lo : Int) (n : Nat) : SrcOk g Hv (Itr lo n) (rangeD lo n) := fun S Hi hin s => by
  have len : (rangeD lo n).length = n := by unfold rangeD; rw [List.length_map, List.length_range]
  refine ⟨fun i d hd => ?_, by rw [len]; exact Nat.le_refl _⟩
  have hi : i < n := by rw [← len]; exact (List.getElem?_eq_some_iff.mp hd).1
  refine ⟨hi, fun x H' ⟨e, y⟩ => ?_⟩
  subst e y
  have : d = .int (lo + i) := by
    unfold rangeD at hd
    rw [List.getElem?_map, List.getElem?_range hi] at hd
    exact (Option.some.inj hd).symm
  subst this
  exact ⟨Same.refl _, .int _⟩
def pR1 (pa : XA) : XI := fun Γ => (pa Γ).bind fun ds => match ds with
  | [.int j] => if -(2 ^ 62) ≤ j ∧ j < 2 ^ 62 then ok (rangeD 0 j.toNat) else none
  | _ => none
def pR2 (pa : XA) : XI := fun Γ => (pa Γ).bind fun ds => match ds with
  | [.int i, .int j] => if -(2 ^ 62) ≤ i ∧ i < 2 ^ 62 ∧ -(2 ^ 62) ≤ j ∧ j < 2 ^ 62 then ok (rangeD i (j - i).toNat) else none
  | _ => none
theorem li_range1 {a : Expr} {pa : XA} {p pos : Pos} (hm : X.mg "range" = none) (ha : PA X [a] (LA g W pa)) (hg : Gl X "range" := by rfl) (hs1 : starEach [a] X.env = [(false, eval a X.env)] := by rfl) : PI X tg (.Call (.Name "range" p) [a] [] pos) (LI g W (pR1 pa)) :=
  (pi_range1 hg hm ha hs1).imp fun σ H R ⟨O, H0, Γ, m, h⟩ => ⟨O, H0, Γ, m, h.bind.mono fun ds H1 _ s1 h1 vs rv => by
    match ds, h1, rv with
    | [.int j], h1, rv =>
      obtain ⟨v, rfl, r⟩ := rv.one
      cases r.to_int
      simp only at h1
      split at h1
      · rename_i hb
        exact ⟨j, rfl, hb.1, hb.2, h1.here _ _ (Same.refl _) (src_range 0 _)⟩
      · exact h1.elim⟩
theorem li_range2 {a c : Expr} {pa : XA} {p pos : Pos} (hm : X.mg "range" = none) (ha : PA X [a, c] (LA g W pa)) (hg : Gl X "range" := by rfl) (hs1 : starEach [a, c] X.env = [(false, eval a X.env), (false, eval c X.env)] := by rfl) (hs2 : starEach [c] X.env = [(false, eval c X.env)] := by rfl) : PI X tg (.Call (.Name "range" p) [a, c] [] pos) (LI g W (pR2 pa)) :=
  (pi_range2 hg hm ha hs1 hs2).imp fun σ H R ⟨O, H0, Γ, m, h⟩ => ⟨O, H0, Γ, m, h.bind.mono fun ds H1 _ s1 h1 vs rv => by
    match ds, h1, rv with
    | [.int i, .int j], h1, rv =>
      obtain ⟨v, w, rfl, r, r'⟩ := rv.two
      cases r.to_int
      cases r'.to_int
      simp only at h1
      split at h1
      · rename_i hb
        exact ⟨i, j, rfl, hb, h1.here _ _ (Same.refl _) (src_range i _)⟩
      · exact h1.elim⟩

/-! ### while -/
def whB (c : XT) (b : XB) : Nat → XB
  | 0, _ => none
  | n + 1, Γ => pT1 c (fun k Γ => if k = true then (match b Γ with
      | some (.nx, Γ') => whB c b n Γ'
      | some (.ct, Γ') => whB c b n Γ'
      | some (.bk, Γ') => some (.nx, Γ')
      | r => r) else some (.nx, Γ)) Γ
theorem whB_mono {c : XT} {b : XB} : ∀ {n m : Nat} {Γ : Env} {r : Fl × Env}, n ≤ m → whB c b n Γ = some r → whB c b m Γ = some r := by
  intro n
  induction n with
  | zero => intro m Γ r _ h; cases h
  | succ n ih =>
    intro m Γ r hle h
    cases m with
    | zero => omega
    | succ m =>
      unfold whB pT1 at h ⊢
      cases hc : c Γ with
      | none => rw [hc] at h; exact h
      | some o =>
        cases o with
        | exc c x => rw [hc] at h; exact h
        | ok k =>
          rw [hc] at h
          cases k with
          | false => exact h
          | true =>
            simp only [if_true] at h ⊢
            revert h
            match b Γ with
            | none => exact fun z => z
            | some (.nx, Γ2) => exact fun z => ih (Nat.le_of_succ_le_succ hle) z
            | some (.ct, Γ2) => exact fun z => ih (Nat.le_of_succ_le_succ hle) z
            | some (.bk, Γ2) => exact fun z => z
            | some (.rt d, Γ2) => exact fun z => z
            | some (.exc c x, Γ2) => exact fun z => z
open Classical in
noncomputable def pWhile (c : XT) (b : XB) : XB := fun Γ => if h : ∃ n r, whB c b n Γ = some r then some (choose (choose_spec h)) else none
theorem pWhile_of {c : XT} {b : XB} {n : Nat} {Γ : Env} {r : Fl × Env} (h : whB c b n Γ = some r) : pWhile c b Γ = some r := by
  have hx : ∃ n r, whB c b n Γ = some r := ⟨n, r, h⟩
  unfold pWhile
  rw [dif_pos hx]
  have q := Classical.choose_spec (Classical.choose_spec hx)
  have h1 := whB_mono (Nat.le_max_left n (Classical.choose hx)) h
  have h2 := whB_mono (Nat.le_max_right n (Classical.choose hx)) q
  rw [h1] at h2
  exact h2.symm
theorem pWhile_ex {c : XT} {b : XB} {Γ : Env} {r : Fl × Env} (h : pWhile c b Γ = some r) : ∃ n, whB c b n Γ = some r := by
  unfold pWhile at h
  split at h
  · rename_i hx
    cases h
    exact ⟨_, Classical.choose_spec (Classical.choose_spec hx)⟩
  · cases h
theorem ls_while {c : Expr} {pc : XT} (hp : PassesOwn (model X.prog X.w) X.A X.env X.xe) (hc : PT X c (LT g W pc)) (hb : PSs X body (LS g W b)) : PS X (.While c body [] pos) (LS g W (pWhile pc b)) :=
  (ps_while hp hc hb).imp fun E σ H ⟨O, H0, Γ, m, h⟩ => by
    cases hw : pWhile pc b Γ with
    | none => rw [hw] at h; exact h.elim
    | some r =>
      obtain ⟨n, hn⟩ := pWhile_ex hw
      rw [hw, ← hn] at h
      refine ⟨fun n σ H => ∃ Γ, Match g O H0 Γ σ H ∧ PostS g W O H0 E (whB pc b n Γ), ⟨n, Γ, m, h⟩, ?_⟩
      rintro n σ H ⟨Γ, m, h⟩
      cases n with
      | zero => exact h.elim
      | succ n =>
        refine ⟨O, H0, Γ, m, (PostS.t1 m h).mono fun k H' _ s ⟨m', h'⟩ => ?_⟩
        cases k with
        | false => exact iteF (h' σ H' m')
        | true =>
          refine iteT ⟨fun σ' H' => ∃ Γ', Match g O H0 Γ' σ' H' ∧ PostS g W O H0 E (whB pc b n Γ'), fun σ' H' z => ⟨n, Nat.lt_succ_self n, z⟩, O, H0, Γ, m', ?_⟩
          simp only [if_true] at h'
          revert h'
          match b Γ with
          | none => exact fun z => z.elim
          | some (.nx, Γ2) => exact fun z σ' H' m' => ⟨Γ2, m', z⟩
          | some (.ct, Γ2) => exact fun z σ' H' m' => ⟨Γ2, m', z⟩
          | some (.bk, Γ2) => exact fun z => z
          | some (.rt d, Γ2) => exact fun z => z
          | some (.exc c x, Γ2) => exact fun z => z
end
end Pu

namespace Pu
open PySem PySem.Spec L2

/-! ## isinstance -/
def IsiOk (g : G) (d : D) (cv : Value) (b : Bool) : Prop := ∀ H v, Rep g H v d → ∃ t, TyX g.K H v t ∧ PySem.W.kitOne g.K t cv = some b
def pIs (f : D → Option Bool) (p : XS) : XS := fun Γ => (p Γ).bind fun d => ofO ((f d).map .bl)
def tyD : D → Option String
  | .non => some "NoneType"
  | .bl _ => some "bool"
  | .int _ => some "int"
  | .str _ => some "str"
  | .lst _ => some "list"
  | .tup _ => some "tuple"
  | .frz _ => some "list"
  | .ins _ _ => none
/-- a built-in class, of what is no instance of an own class -/
def isB (T : String) (d : D) : Option Bool := (tyD d).bind fun t => if t = T then some true else if t = "bool" ∧ T = "int" then some true else some false
theorem tyD_ok {g : G} {H : Hp} {v : V} {d : D} {t : String} (r : Rep g H v d) (h : tyD d = some t) : TyX g.K H v (.type t) := by
  cases r with
  | non => cases h; exact .base .non
  | bl _ => cases h; exact .base (.bl _)
  | int _ => cases h; exact .base (.int _)
  | str _ => cases h; exact .base (.str _)
  | lst hq _ => cases h; exact .base (.lst hq)
  | frz hq _ =>
    cases h
    rcases hq with (hq | ⟨o, hq⟩) | ⟨o, its, n, hk, hc, _⟩
    · exact .base (.lst hq)
    · exact .base (.frz hq)
    · exact .kList hk hc
  | tup hq _ =>
    cases h
    rcases hq with (hq | ⟨o, hq⟩) | ⟨o, its, n, hk, hc, _⟩
    · exact .base (.tup hq)
    · exact .fTuple hq
    · exact .kTuple hk hc
  | ins _ _ _ => cases h
def isTys : List String := ["int", "bool", "str", "list", "tuple"]
theorem kitB_table : (["NoneType", "bool", "int", "str", "list", "tuple"].all fun t => isTys.all fun T => kitB t T == some (decide (t = T ∨ (t = "bool" ∧ T = "int")))) = true := by decide +kernel
theorem isB_ok {g : G} {T : String} (hT : T ∈ isTys) {d : D} {b : Bool} (h : isB T d = some b) : IsiOk g d (.type T) b := fun H v r => by
  obtain ⟨t, ht, h⟩ := Option.bind_eq_some_iff.mp h
  refine ⟨.type t, tyD_ok r ht, kit_ty ?_⟩
  have mem : t ∈ ["NoneType", "bool", "int", "str", "list", "tuple"] := by cases d <;> cases ht <;> decide
  have q := List.all_eq_true.mp kitB_table t mem
  have q2 := List.all_eq_true.mp q T hT
  rw [eq_of_beq q2]
  split at h
  · rename_i e
    cases h
    rw [decide_eq_true (.inl e)]
  · split at h
    · rename_i e
      cases h
      rw [decide_eq_true (.inr e)]
    · rename_i e1 e2
      cases h
      rw [decide_eq_false (by rintro (z | z); exact e1 z; exact e2 z)]
section
variable {X : Cx} {g : G} {W : WX} {a c : Expr} {p : XS} {p1 pos : Pos}
theorem le_isi (hK : X.K = g.K) {f : D → Option Bool} {cv : Value} {cw : V} (hm : X.mg "isinstance" = none) (ha : PE X a (LE g W p)) (hc : PE X c (tC cw)) (hcv : ClsV cw cv) (hf : ∀ d b, f d = some b → IsiOk g d cv b) (hg : Gl X "isinstance" := by rfl)
    (h1 : starEach [a, c] X.env = (false, eval a X.env) :: starEach [c] X.env := by rfl) (h2 : starEach [c] X.env = (false, eval c X.env) :: starEach [] X.env := by rfl) (hpl : (backTo pos (starEach [c] X.env)).any (·.1) = false := by rfl) (hv : bootBuiltins "isinstance" = some (.builtin "isinstance") := by decide +kernel) :
    PE X (.Call (.Name "isinstance" p1) [a, c] [] pos) (LE g W (pIs f p)) :=
  (pe_callB call_isi hg hm hv (pa_cons ha (pa_cons hc pa_nil h2) h1) (by decide) (by decide) h1 hpl).imp fun σ H Q ⟨O, H0, Γ, m, h⟩ => ⟨O, H0, Γ, m, h.bind.mono fun d H1 _ s1 h1 v rv => by
    obtain ⟨e, he, k⟩ := h1.ofO
    obtain ⟨b, hb, rfl⟩ := Option.map_eq_some_iff.mp he
    obtain ⟨t, ty, kt⟩ := hf d b hb H1 v (rv.mono hid_sub)
    exact ⟨v, cw, t, cv, b, rfl, hcv, by rw [hK]; exact ty, by rw [hK]; exact kt, k _ (Same.refl _) _ (.bl b)⟩⟩
theorem le_isB (hK : X.K = g.K) {T : Str} {Ts : String} {p2 : Pos} (hm : X.mg "isinstance" = none) (hmT : X.mg T = none) (ha : PE X a (LE g W p)) (hv : bootBuiltins T = some (.type Ts)) (hTs : Ts ∈ isTys) (hgT : Gl X T := by rfl) (hg : Gl X "isinstance" := by rfl) (hn : T ≠ "__name__" := by decide) (hd : (T == ("__debug__" : Str)) = false := by decide)
    (h1 : starEach [a, .Name T p2] X.env = (false, eval a X.env) :: starEach [.Name T p2] X.env := by rfl) (h2 : starEach [.Name T p2] X.env = (false, eval (.Name T p2) X.env) :: starEach [] X.env := by rfl) (hpl : (backTo pos (starEach [.Name T p2] X.env)).any (·.1) = false := by rfl) :
    PE X (.Call (.Name "isinstance" p1) [a, .Name T p2] [] pos) (LE g W (pIs (isB Ts) p)) :=
  le_isi hK hm ha (pe_bltn (v := .ty Ts) hgT hmT hv rfl hn hd) (.ty Ts) (fun d b h => isB_ok hTs h) hg h1 h2 hpl
end

/-! ## methods of texts and lists -/
def pMs (f : Str → List D → Option D) (p : XS) (pa : XA) : XS := fun Γ => (p Γ).bind fun a => match a with
  | .str z => (pa Γ).bind fun as => ofO (f z as)
  | _ => none
def pMl (f : List D → List D → Option D) (p : XS) (pa : XA) : XS := fun Γ => (p Γ).bind fun a => match a with
  | .lst ds => (pa Γ).bind fun as => ofO (f ds as)
  | _ => none
/-- a method of texts -/
def PureMs (g : G) (r : V → List V → Hp → VK → Prop) (f : Str → List D → Option D) : Prop := ∀ (S : Addr → Prop) (H : Hp) (xs : List V) (z : Str) (as : List D) (e : D) (Q : VK), In S H → Reps g (hid S H) xs as → f z as = some e →
  (∀ v H', Same H H' → Rep g (hid S H') v e → Q v H') → r (.str z) xs H Q
def PureMl (g : G) (r : V → List V → Hp → VK → Prop) (f : List D → List D → Option D) : Prop := ∀ (S : Addr → Prop) (H : Hp) (x : V) (xs : List V) (ds : List D) (as : List D) (e : D) (Q : VK), In S H → Rep g (hid S H) x (.lst ds) → Reps g (hid S H) xs as → f ds as = some e →
  (∀ v H', Same H H' → Rep g (hid S H') v e → Q v H') → r x xs H Q
section
variable {X : Cx} {g : G} {W : WX} {p : XS} {pa : XA} {r : V → List V → Hp → VK → Prop} {e : Expr}
theorem le_ms {f : Str → List D → Option D} (h : PE X e (tBM X.K "str" r (LE g W p) (LA g W pa))) (hf : PureMs g r f) : PE X e (LE g W (pMs f p pa)) :=
  h.imp fun σ H Q ⟨O, H0, Γ, m, h⟩ => ⟨O, H0, Γ, m, h.bind.mono fun a H1 _ s1 h1 v rv => by
    cases a with
    | str z =>
      cases rv.to_str
      exact ⟨rfl, O, H0, Γ, m.same s1, h1.bind.mono fun as H2 _ s2 h2 vs rvs => by
        obtain ⟨e, he, k⟩ := h2.ofO
        exact hf _ H2 vs z as e Q (m.same (s1.trans s2)).hin rvs he fun z H' s z' => k H' s z z'⟩
    | _ => exact h1.elim⟩
theorem le_ms0 {f : Str → List D → Option D} (h : PE X e (tBM0 X.K "str" r (LE g W p))) (hf : PureMs g r f) : PE X e (LE g W (pMs f p pNil)) :=
  h.imp fun σ H Q ⟨O, H0, Γ, m, h⟩ => ⟨O, H0, Γ, m, h.bind.mono fun a H1 _ s1 h1 v rv => by
    cases a with
    | str z =>
      cases rv.to_str
      refine ⟨rfl, ?_⟩
      obtain ⟨e, he, k⟩ := (Post.bind h1).here.ofO
      exact hf _ H1 [] z [] e Q (m.same s1).hin .nil he fun z H' s z' => k H' s z z'
    | _ => exact h1.elim⟩
theorem le_ml {f : List D → List D → Option D} (h : PE X e (tBM X.K "list" r (LE g W p) (LA g W pa))) (hf : PureMl g r f) : PE X e (LE g W (pMl f p pa)) :=
  h.imp fun σ H Q ⟨O, H0, Γ, m, h⟩ => ⟨O, H0, Γ, m, h.bind.mono fun a H1 _ s1 h1 v rv => by
    cases a with
    | lst ds =>
      obtain ⟨q, vs, rfl, hv, _⟩ := id rv.to_lst
      exact ⟨.inl ⟨rfl, vs, SqL.of (hid_of hv).1⟩, O, H0, Γ, m.same s1, h1.bind.mono fun as H2 _ s2 h2 vs rvs => by
        obtain ⟨e, he, k⟩ := h2.ofO
        exact hf _ H2 _ vs ds as e Q (m.same (s1.trans s2)).hin (rv.mono (hid_same s2)) rvs he fun z H' s z' => k H' s z z'⟩
    | _ => exact h1.elim⟩
def mStarts (z : Str) : List D → Option D
  | [.str b] => some (.bl (Txt.startswith z b))
  | _ => none
def mEnds (z : Str) : List D → Option D
  | [.str b] => some (.bl (Txt.endswith z b))
  | _ => none
def mPart (z : Str) : List D → Option D
  | [.str b] => if (b.length == 0) = false ∧ z.length ≤ 16777216 then some (.tup [.str (Txt.partition z b).1, .str (Txt.partition z b).2.1, .str (Txt.partition z b).2.2]) else none
  | _ => none
def mSplit (z : Str) : List D → Option D
  | [.str b] => if (b.length == 0) = false ∧ z.length + 2 ≤ 16777216 then some (.lst ((Txt.split z b).map .str)) else none
  | _ => none
def mJoin (z : Str) : List D → Option D
  | [d] => match itemsD d with
    | some ds => (match dtexts ds with
      | some ys => if (ys.map (·.length)).sum + ys.length * z.length ≤ 16777216 then some (.str (Txt.join z ys)) else none
      | none => none)
    | none => none
  | _ => none
def mUpper (z : Str) : List D → Option D
  | [] => if z.length ≤ 5592405 then some (.str (Txt.upper z)) else none
  | _ => none
theorem pure_starts : PureMs g (fun x xs H Q => ∃ a b, x = .str a ∧ xs = [.str b] ∧ Q (.bl (Txt.startswith a b)) H) mStarts := by
  intro S H xs z as e Q hin r hf hq
  match as, hf with
  | [.str b], hf =>
    cases hf
    obtain ⟨v, rfl, rv⟩ := r.one
    cases rv.to_str
    exact ⟨z, b, rfl, rfl, hq _ _ (Same.refl H) (.bl _)⟩
theorem pure_ends : PureMs g (fun x xs H Q => ∃ a b, x = .str a ∧ xs = [.str b] ∧ Q (.bl (Txt.endswith a b)) H) mEnds := by
  intro S H xs z as e Q hin r hf hq
  match as, hf with
  | [.str b], hf =>
    cases hf
    obtain ⟨v, rfl, rv⟩ := r.one
    cases rv.to_str
    exact ⟨z, b, rfl, rfl, hq _ _ (Same.refl H) (.bl _)⟩
theorem pure_part : PureMs g (fun x xs H Q => ∃ a b, x = .str a ∧ xs = [.str b] ∧ (b.length == 0) = false ∧ a.length ≤ sizeLine ∧
    ∀ p, H p = none → Q (.ref p) (upd H p (.tup [.str (Txt.partition a b).1, .str (Txt.partition a b).2.1, .str (Txt.partition a b).2.2]))) mPart := by
  intro S H xs z as e Q hin r hf hq
  match as, hf with
  | [.str b], hf =>
    simp only [mPart] at hf
    split at hf
    · rename_i hz
      cases hf
      obtain ⟨v, rfl, rv⟩ := r.one
      cases rv.to_str
      exact ⟨z, b, rfl, rfl, hz.1, by rw [sizeLine_eq]; exact hz.2, fun p hp => hq _ _ (same_upd hp) (new_tup hin hp (.cons (.str _) (.cons (.str _) (.cons (.str _) .nil))))⟩
    · cases hf
theorem strs_rep {H : Hp} (ys : List Str) : Reps g H (ys.map V.str) (ys.map D.str) := by
  induction ys with
  | nil => exact .nil
  | cons y ys ih => exact .cons (.str y) ih
theorem pure_split : PureMs g (fun x xs H Q => ∃ a b, x = .str a ∧ xs = [.str b] ∧ (b.length == 0) = false ∧ a.length + 2 ≤ sizeLine ∧ rNewStrs (Txt.split a b) H Q) mSplit := by
  intro S H xs z as e Q hin r hf hq
  match as, hf with
  | [.str b], hf =>
    simp only [mSplit] at hf
    split at hf
    · rename_i hz
      cases hf
      obtain ⟨v, rfl, rv⟩ := r.one
      cases rv.to_str
      exact ⟨z, b, rfl, rfl, hz.1, by rw [sizeLine_eq]; exact hz.2, fun p hp => hq _ _ (same_upd hp) (new_lst hin hp (strs_rep _))⟩
    · cases hf
theorem pure_join : PureMs g (fun x xs H Q => ∃ a p, ∃ ys : List Str, x = .str a ∧ xs = [.ref p] ∧ (SqL g.K H p (ys.map V.str) ∨ SqT g.K H p (ys.map V.str)) ∧
    (ys.map (·.length)).sum + ys.length * a.length ≤ 16777216 ∧ Q (.str (Txt.join a ys)) H) mJoin := by
  intro S H xs z as e Q hin r hf hq
  match as, hf with
  | [d], hf =>
    simp only [mJoin] at hf
    split at hf
    · rename_i ds hd
      split at hf
      · rename_i ys hy
        split at hf
        · rename_i hz
          cases hf
          obtain ⟨v, rfl, rv⟩ := r.one
          obtain ⟨p, vs, rfl, h1, r1⟩ := items_rep rv hd
          cases dtexts_rep r1 hy
          exact ⟨z, p, ys, rfl, rfl, h1, hz, hq _ _ (Same.refl H) (.str _)⟩
        · cases hf
      · cases hf
    · cases hf
theorem pure_upper : PureMs g (fun x xs H Q => ∃ a, x = .str a ∧ xs = [] ∧ a.length ≤ 5592405 ∧ Q (.str (Txt.upper a)) H) mUpper := by
  intro S H xs z as e Q hin r hf hq
  match as, hf with
  | [], hf =>
    simp only [mUpper] at hf
    split at hf
    · rename_i hz
      cases hf
      cases r
      exact ⟨z, rfl, rfl, hz, hq _ _ (Same.refl H) (.str _)⟩
    · cases hf
/-- xs.index(y), the first place; it must be there -/
def mIndex (ds : List D) : List D → Option D
  | [d] => if flatD d = true ∧ ds.all flatD = true then (ds.findIdx? fun y => eqD y d).map fun j => .int (j : Nat) else none
  | _ => none
theorem pure_index : PureMl g (rIndex g.K) mIndex := by
  intro S H x xs ds as e Q hin rx r hf hq
  match as, hf with
  | [d], hf =>
    simp only [mIndex] at hf
    split at hf
    · rename_i hz
      obtain ⟨j, hj, rfl⟩ := Option.map_eq_some_iff.mp hf
      obtain ⟨v, rfl, rv⟩ := r.one
      obtain ⟨p, vs, rfl, h1, r1⟩ := rx.to_lst
      obtain ⟨hlt, hyes, hno⟩ := List.findIdx?_eq_some_iff_getElem.mp hj
      have hget : ds[j]? = some ds[j] := List.getElem?_eq_getElem hlt
      obtain ⟨z, hz1, rz⟩ := r1.get hget
      have fl := List.all_eq_true.mp hz.2
      refine ⟨p, vs, v, j, z, rfl, rfl, SqL.of (hid_of h1).1, flat_rep rv hz.1, flats_rep r1 hz.2, hz1, ?_, fun m z' hm hz' => ?_, hq _ _ (Same.refl H) (.int _)⟩
      · rw [eq_rep rz rv (fl _ (List.getElem_mem hlt)) hz.1]
        exact hyes
      · obtain ⟨d', hd', rd'⟩ := r1.getV hz'
        rw [eq_rep rd' rv (fl _ (List.mem_of_getElem? hd')) hz.1]
        have hm' : m < ds.length := Nat.lt_trans hm hlt
        have e' : d' = ds[m] := by rw [List.getElem?_eq_getElem hm'] at hd'; exact (Option.some.inj hd').symm
        rw [e']
        have q := hno m hm
        simpa using q
    · cases hf
end

/-! ## more that is walked -/
section
variable {X : Cx} {g : G} {W : WX} {tg : Expr}
def pIs' (p : XS) : XI := fun Γ => (p Γ).bind fun d => match d with
  | .str z => ok (z.cps.toList.map fun c => .str ⟨#[c]⟩)
  | _ => none
theorem src_str {Hv : Hp} (z : Str) : SrcOk g Hv (Its z) (z.cps.toList.map fun c => .str ⟨#[c]⟩) := fun S Hi hin s => by
  have len : (z.cps.toList.map fun c => D.str ⟨#[c]⟩).length = z.cps.size := by simp
  refine ⟨fun i d hd => ?_, by rw [len]; exact Nat.le_refl _⟩
  have hi : i < z.cps.size := by rw [← len]; exact (List.getElem?_eq_some_iff.mp hd).1
  refine ⟨hi, fun x H' ⟨e, c, hc, y⟩ => ?_⟩
  subst e y
  have : d = .str ⟨#[c]⟩ := by
    rw [List.getElem?_map, Array.getElem?_toList, hc] at hd
    exact (Option.some.inj hd).symm
  subst this
  exact ⟨Same.refl _, .str _⟩
theorem li_str {l : Expr} {p : XS} (h : PE X l (LE g W p)) : PI X tg l (LI g W (pIs' p)) :=
  (pi_str h).imp fun σ H R ⟨O, H0, Γ, m, h⟩ => ⟨O, H0, Γ, m, h.bind.mono fun d H1 _ s1 h1 v rv => by
    cases d with
    | str z =>
      cases rv.to_str
      exact ⟨z, rfl, h1.here _ _ (Same.refl _) (src_str z)⟩
    | _ => exact h1.elim⟩
/-- enumerate of a list -/
def numD (ds : List D) : List D := (List.range ds.length).zipWith (fun (i : Nat) d => .tup [.int i, d]) ds
def pEn (pa : XA) : XI := fun Γ => (pa Γ).bind fun as => match as with
  | [.lst ds] => ok (numD ds)
  | [.frz ds] => ok (numD ds)
  | _ => none
theorem src_enum {Hv H' : Hp} {a : Addr} {vs : List V} {ds : List D} (hr : SqL g.K Hv a vs) (r : Reps g Hv vs ds) : SrcOk g Hv (Ite g.K a) (numD ds) := fun S Hi hin s => by
  have sq : SqL g.K Hi a vs := SqL_hid (s.seq hr)
  have r' := r.mono s
  have len : (numD ds).length = ds.length := by unfold numD; simp
  refine ⟨fun i d hd => ?_, vs, sq, by rw [len]; exact Nat.le_of_eq r.length⟩
  have hi : i < ds.length := by rw [← len]; exact (List.getElem?_eq_some_iff.mp hd).1
  have hdi : ds[i]? = some ds[i] := List.getElem?_eq_getElem hi
  have e : d = .tup [.int i, ds[i]] := by
    unfold numD at hd
    rw [List.getElem?_zipWith, List.getElem?_range hi, hdi] at hd
    exact (Option.some.inj hd).symm
  obtain ⟨v, hv, rv⟩ := r'.get hdi
  refine ⟨⟨vs, v, sq, hv⟩, fun x H' ⟨T, y, ex, hT, eH, hy⟩ => ?_⟩
  subst ex eH e
  have q := hy vs sq
  rw [hv] at q
  cases q
  exact ⟨same_upd hT, new_tup hin hT (.cons (.int _) (.cons rv .nil))⟩
theorem li_enum (hK : X.K = g.K) {e : Expr} {pa : XA} {p pos tpos : Pos} {elts : List Expr} {kk : Nat} (hm : X.mg "enumerate" = none) (ha : PA X [e] (LA g W pa)) (hg : Gl X "enumerate" := by rfl) (hs1 : starEach [e] X.env = [(false, eval e X.env)] := by rfl) :
    PI X (.Tuple elts kk tpos) (.Call (.Name "enumerate" p) [e] [] pos) (LI g W (pEn pa)) :=
  (pi_enum hg hm ha hs1).imp fun σ H R ⟨O, H0, Γ, m, h⟩ => ⟨O, H0, Γ, m, h.bind.mono fun as H1 _ s1 h1 vs rv => by
    match as, h1, rv with
    | [.lst ds], h1, rv =>
      obtain ⟨v, rfl, r1⟩ := rv.one
      obtain ⟨a, vs, rfl, h2, r⟩ := r1.to_lst
      exact ⟨a, vs, rfl, SqL.of (hid_of h2).1, by rw [hK]; exact h1.here _ _ (Same.refl _) (src_enum (H' := H1) (SqL.of h2) r)⟩
    | [.frz ds], h1, rv =>
      obtain ⟨v, rfl, r1⟩ := rv.one
      obtain ⟨a, vs, rfl, h2, r⟩ := r1.to_frz
      exact ⟨a, vs, rfl, by rw [hK]; exact SqL_hid h2, by rw [hK]; exact h1.here _ _ (Same.refl _) (src_enum (H' := H1) h2 r)⟩⟩
end

/-! ## text * int -/
def repS (z : Str) (k : Nat) : Str := ⟨(List.replicate k z.cps.toList).flatten.toArray⟩
theorem fold_rep (z : Array Nat) : ∀ (n : Nat) (acc : Array Nat), (List.replicate n z).foldl (· ++ ·) acc = acc ++ ((List.replicate n z.toList).flatten).toArray
  | 0, acc => by simp
  | n + 1, acc => by
    rw [List.replicate_succ, List.foldl_cons, fold_rep z n (acc ++ z), List.replicate_succ, List.flatten_cons, Array.append_assoc]
    congr 1
    obtain ⟨l⟩ := z
    simp
theorem rep_len (z : Str) (k : Nat) : (repS z k).length = k * z.length := by
  unfold repS Str.length
  induction k with
  | zero => simp
  | succ k ih =>
    rw [List.replicate_succ, List.flatten_cons]
    simp only [List.size_toArray, List.length_append, Array.length_toList] at ih ⊢
    rw [ih, Nat.succ_mul, Nat.add_comm]
section
variable {X : Cx} {g : G}
def rRepS : R2 := fun x y H Q => ∃ z k, x = .str z ∧ y = .int k ∧ 0 ≤ k ∧ k ≤ 16777216 ∧ k.toNat * z.length ≤ 16777216 ∧ Q (.str (repS z k.toNat)) H
theorem op_repS : OpR X (binaryOp .Mult) rRepS := by
  intro pins s σ H x y v u Q I rx ry h
  obtain ⟨z, k, rfl, rfl, h0, h1, h2, q⟩ := h
  obtain ⟨t, rfl⟩ := rx
  obtain ⟨t', rfl⟩ := ry
  refine PySem.P.mul_str ?_ (fun hk hz => ?_) (fun hk hz => ?_) ?_
  · rw [decide_eq_false (by omega), decide_eq_false (by omega)]
    rfl
  · have kp : 0 < k := by omega
    have e : (k.toNat : Int) = k := Int.toNat_of_nonneg h0
    have hz' : k * (z.length : Int) ≤ 16777216 := by
      have := Int.ofNat_le.mpr h2
      rw [Int.natCast_mul, e] at this
      exact this
    have : (z.length : Int) ≤ (2 ^ 63 - 1) / k := (Int.le_ediv_iff_mul_le kp).mpr (by rw [Int.mul_comm]; omega)
    omega
  · exact PyProof.Rows.short24 (by rw [Nat.mul_comm]; exact h2)
  · split
    · rename_i hk
      have e : repS z k.toNat = Str.empty := by
        have : k.toNat = 0 := by omega
        rw [this]
        rfl
      rw [e] at q
      exact ⟨Nat.zero_le _, ⟨.str _, H, I.tok _, ⟨_, rfl⟩, q⟩⟩
    · split
      · rename_i hk hh
        have e : repS z k.toNat = z := by
          rw [Bool.or_eq_true] at hh
          obtain ⟨⟨l⟩⟩ := z
          rcases hh with hh | hh
          · have : k.toNat = 1 := by have := eq_of_beq hh; omega
            rw [this]
            simp [repS]
          · have : l = [] := by
              have := eq_of_beq hh
              simpa [Str.length] using this
            subst this
            simp [repS]
        rw [e] at q
        exact ⟨.str _, H, I, ⟨_, rfl⟩, q⟩
      · have e : (⟨(List.replicate k.toNat z.cps).foldl (· ++ ·) #[]⟩ : Str) = repS z k.toNat := by
          rw [fold_rep]
          simp [repS]
        rw [e]
        refine ⟨?_, ⟨.str _, H, I.tok _, ⟨_, rfl⟩, q⟩⟩
        rw [rep_len, sizeLine_eq]
        exact h2
/-- int * int, list * int, text * int -/
noncomputable def dMulA : D → D → Option D
  | .str z, .int k => if 0 ≤ k ∧ k ≤ 16777216 ∧ k.toNat * z.length ≤ 16777216 then some (.str (repS z k.toNat)) else none
  | a, b => dMul a b
def rMulA : R2 := fun x y H Q => rRepS x y H Q ∨ rMulAll x y H Q
theorem op_mulA : OpR X (binaryOp .Mult) rMulA := op_repS.or op_mulAll
theorem pure_mulA : Pure2 g rMulA dMulA := by
  intro S H x y a b e Q hin rx ry hf hq
  unfold dMulA at hf
  split at hf
  · split at hf
    · rename_i hz
      cases hf
      exact .inl ⟨_, _, rx.to_str, ry.to_int, hz.1, hz.2.1, hz.2.2, hq _ _ (Same.refl H) (.str _)⟩
    · cases hf
  · exact .inr (pure_mul S H x y _ _ e Q hin rx ry hf hq)
end
end Pu

namespace Pu
open PySem PySem.Spec L2

/-! ## try .. except X as n -/
abbrev G.at (g : G) (e : Option (Addr × Value × Option Addr)) : G := { g with ex := e }
section
variable {g : G} {e : Option (Addr × Value × Option Addr)} {H : Hp}
mutual
theorem Rep.at : ∀ {v : V} {d : D}, Rep g H v d → Rep (g.at e) H v d
  | _, _, .non => .non
  | _, _, .bl b => .bl b
  | _, _, .int i => .int i
  | _, _, .str x => .str x
  | _, _, .lst h r => .lst h (Reps.at r)
  | _, _, .frz h r => .frz h (Reps.at r)
  | _, _, .tup h r => .tup h (Reps.at r)
  | _, _, .ins h c r => .ins h c (RepF.at r)
theorem Reps.at : ∀ {vs : List V} {ds : List D}, Reps g H vs ds → Reps (g.at e) H vs ds
  | _, _, .nil => .nil
  | _, _, .cons r t => .cons (Rep.at r) (Reps.at t)
theorem RepF.at : ∀ {vs : List (Str × V)} {ds : List (Str × D)}, RepF g H vs ds → RepF (g.at e) H vs ds
  | _, _, .nil => .nil
  | _, _, .cons r t => .cons (Rep.at r) (RepF.at t)
end
mutual
theorem Rep.un : ∀ {v : V} {d : D}, Rep (g.at e) H v d → Rep g H v d
  | _, _, .non => .non
  | _, _, .bl b => .bl b
  | _, _, .int i => .int i
  | _, _, .str x => .str x
  | _, _, .lst h r => .lst h (Reps.un r)
  | _, _, .frz h r => .frz h (Reps.un r)
  | _, _, .tup h r => .tup h (Reps.un r)
  | _, _, .ins h c r => .ins h c (RepF.un r)
theorem Reps.un : ∀ {vs : List V} {ds : List D}, Reps (g.at e) H vs ds → Reps g H vs ds
  | _, _, .nil => .nil
  | _, _, .cons r t => .cons (Rep.un r) (Reps.un t)
theorem RepF.un : ∀ {vs : List (Str × V)} {ds : List (Str × D)}, RepF (g.at e) H vs ds → RepF g H vs ds
  | _, _, .nil => .nil
  | _, _, .cons r t => .cons (Rep.un r) (RepF.un t)
end
theorem ExcOk.at {Hv : Hp} {dop : Option Addr} {x : Option (Str × D)} (h : ExcOk g Hv H dop x) : ExcOk (g.at e) Hv H dop x := by
  match x, h with
  | none, h => exact h
  | some (f, d), ⟨a, v, h1, h2, h3⟩ => exact ⟨a, v, h1, h2, h3.at⟩
end
def noExn (Γ : Env) : Bool := Γ.all fun s => match s with
  | .exn _ _ => false
  | _ => true
theorem noExn_get {Γ : Env} (h : noExn Γ = true) {i : Nat} {c : Str} {x : Option (Str × D)} : Γ[i]? ≠ some (.exn c x) := fun e => by
  have := List.all_eq_true.mp h _ (List.mem_of_getElem? e)
  cases this
def pTryAs (cat : Str → Option Bool) (i : Nat) (body suite : XB) : XB := fun Γ => match body Γ with
  | some (.exc c x, Γ1) => (match cat c with
    | some true => if noExn Γ1 = true then (match suite (Γ1.set i (.exn c x)) with
      | some (.exc _ _, _) => none
      | some (fl, Γ2) => if noExn (Γ2.set i .un) = true then some (fl, Γ2.set i .un) else none
      | none => none) else none
    | some false => some (.exc c x, Γ1)
    | none => none)
  | r => r
section
variable {g : G} {e : Option (Addr × Value × Option Addr)} {O : Addr → Prop} {H0 H : Hp} {Γ : Env} {σ : St}
theorem Match.back (m : Match (g.at e) O H0 Γ σ H) (hn : noExn Γ = true) : Match g O H0 Γ σ H :=
  ⟨m.len, m.base, m.oin, fun i d q => let ⟨v, h1, h2⟩ := m.slot i d q; ⟨v, h1, h2.un⟩, fun i ds q => let ⟨a, vs, h1, h2, h3⟩ := m.owns i ds q; ⟨a, vs, h1, h2, h3.un⟩, m.inj, fun i c x q => (noExn_get hn q).elim⟩
theorem Match.exnSet {i : Nat} {c : Str} {x : Option (Str × D)} {a C : Addr} {dop : Option Addr} (m0 : Match g O H0 Γ σ H) (hn : noExn Γ = true) (hc : g.cls c = some C) (hx : ExcOk g (hid (hs O Γ σ) H) H dop x) :
    Match (g.at (some (a, .ref C, dop))) O H0 (Γ.set i (.exn c x)) (σ.set i (some (.ref a))) H := by
  have m : Match g O H0 (Γ.set i .un) (σ.set i (some (.ref a))) H := m0.drop
  have get : ∀ (n : Nat) s, (Γ.set i (.exn c x))[n]? = some s → (n = i ∧ s = .exn c x ∧ i < Γ.length) ∨ (Γ.set i .un)[n]? = some s := fun n s q => by
    by_cases hn : i = n
    · subst hn
      by_cases hi : i < Γ.length
      · rw [List.getElem?_set_self hi] at q
        cases q
        exact .inl ⟨rfl, rfl, hi⟩
      · rw [List.getElem?_eq_none (by rw [List.length_set]; omega)] at q; cases q
    · rw [List.getElem?_set_ne hn] at q
      exact .inr (by rw [List.getElem?_set_ne hn]; exact q)
  have own : ∀ b, ownAt (Γ.set i (.exn c x)) (σ.set i (some (.ref a))) b → ownAt (Γ.set i .un) (σ.set i (some (.ref a))) b := fun b ⟨n, ds, q1, q2⟩ => by
    rcases get n _ q1 with ⟨_, z, _⟩ | q1
    · cases z
    · exact ⟨n, ds, q1, q2⟩
  have sub : ∀ b, hs O (Γ.set i (.exn c x)) (σ.set i (some (.ref a))) b → hs O (Γ.set i .un) (σ.set i (some (.ref a))) b := fun b z => z.imp_right (own b)
  have up : Same (hid (hs O (Γ.set i .un) (σ.set i (some (.ref a)))) H) (hid (hs O (Γ.set i (.exn c x)) (σ.set i (some (.ref a)))) H) := hid_le sub
  have sub0 : ∀ b, hs O (Γ.set i (.exn c x)) (σ.set i (some (.ref a))) b → hs O Γ σ b := fun b z => by
    rcases z with z | z
    · exact .inl z
    · rcases ownAt_set m0.len z with ⟨ds, q, _⟩ | z
      · cases q
      · exact .inr z
  refine ⟨by rw [List.length_set, List.length_set]; exact m0.len, fun b o q => ⟨(m.base b o q).1, fun z => (m.base b o q).2 (own b z)⟩, m.oin, fun j d q => ?_, fun j ds q => ?_, fun j k ds es b q1 q2 q3 q4 => ?_, fun j c' x' q => ?_⟩
  · rcases get j _ q with ⟨_, z, _⟩ | q
    · cases z
    · obtain ⟨v, h1, h2⟩ := m.slot j d q
      exact ⟨v, h1, (h2.mono up).at⟩
  · rcases get j _ q with ⟨_, z, _⟩ | q
    · cases z
    · obtain ⟨b, vs, h1, h2, h3⟩ := m.owns j ds q
      exact ⟨b, vs, h1, h2, (h3.mono up).at⟩
  · rcases get j _ q1 with ⟨_, z, _⟩ | q1
    · cases z
    · rcases get k _ q2 with ⟨_, z, _⟩ | q2
      · cases z
      · exact m.inj j k ds es b q1 q2 q3 q4
  · rcases get j _ q with ⟨rfl, z, hi⟩ | q
    · cases z
      exact ⟨a, C, dop, rfl, hc, List.getElem?_set_self (by have := m0.len; omega), (hx.mono (hid_le sub0) (Same.refl H)).at⟩
    · exfalso
      by_cases hj : i = j
      · subst hj
        by_cases hi : i < Γ.length
        · rw [List.getElem?_set_self hi] at q; cases q
        · rw [List.getElem?_eq_none (by rw [List.length_set]; omega)] at q; cases q
      · rw [List.getElem?_set_ne hj] at q
        exact noExn_get hn q
end
section
variable {X : Cx} {g : G} {W : WX} {x n : Str} {cv : Value} {i : Nat} {body suite : List Stmt} {b₀ : Stmt} {np pos pos' : Pos} {pb ps : XB} {cat : Str → Option Bool}
theorem ls_tryAs (hK : X.K = g.K) (hstk : X.stack = X.env :: X.outer) (hf : X.env.frame = some X.env.locals) (hN : X.N.Nodup) (hi : X.N[i]? = some n) (hln : X.env.kindOf n = some .local) (hc : Names X x cv) (tk : Takes X W)
    (hcat : ∀ c C b, cat c = some b → g.cls c = some C → PySem.W.exmOne g.K (.ref C) cv = some b)
    (hb : ∀ (W' : WX) (pn : List (Addr × Obj)) (xe : Value → Shared → Prop), Takes (X.tr pn xe) W' → PassesOwn (model X.prog X.w) X.A X.env xe → PSs (X.tr pn xe) body (LS g W' pb))
    (hsu : ∀ (a : Addr) (oe : Obj) (cls : Value) (d : Option Addr) (pn : List (Addr × Obj)), Zc cls d oe → (∃ vs, oe.data = .fields vs) → PSs (X.suite a ((a, oe) :: pn)) (b₀ :: suite) (LS (g.at (some (a, cls, d))) (fun _ _ _ _ => False) ps)) :
    PS X (.Try body [.ExceptHandler (some (.Name x np)) (some n) (b₀ :: suite) pos'] [] [] pos) (LS g W (pTryAs cat i pb ps)) :=
  (ps_try_as (tb := fun W' => LS g W' pb) (ts := fun a cls d => LS (g.at (some (a, cls, d))) (fun _ _ _ _ => False) ps) (Wout := W) hstk hf hN hi hln hc tk hb hsu).imp fun E σ H ⟨O, H0, Γ, m, h⟩ => ⟨O, H0, Γ, m, by
    unfold pTryAs at h
    revert h
    match pb Γ with
    | none => exact fun h => h
    | some (.nx, Γ1) => exact fun h => h
    | some (.rt d, Γ1) => exact fun h => h
    | some (.bk, Γ1) => exact fun h => h
    | some (.ct, Γ1) => exact fun h => h
    | some (.exc c y, Γ1) =>
      intro h σ' H' C dop m' hcl hx
      simp only at h
      cases hct : cat c with
      | none => rw [hct] at h; exact h.elim
      | some b =>
        rw [hct] at h
        refine ⟨b, by rw [hK]; exact hcat c C b hct hcl, fun e a ha => ?_, fun e => ?_⟩
        · subst e
          simp only at h
          split at h
          · rename_i hne
            refine ⟨O, H0, Γ1.set i (.exn c y), m'.exnSet hne hcl hx, ?_⟩
            revert h
            match ps (Γ1.set i (.exn c y)) with
            | none => exact fun h => h
            | some (.exc _ _, Γ2) => exact fun h => h.elim
            | some (.nx, Γ2) =>
              simp only
              split
              · rename_i h2
                exact fun h σ2 H2 m2 => h _ H2 ((Match.drop m2).back h2)
              · exact fun h => h.elim
            | some (.bk, Γ2) =>
              simp only
              split
              · rename_i h2
                exact fun h σ2 H2 m2 => h _ H2 ((Match.drop m2).back h2)
              · exact fun h => h.elim
            | some (.ct, Γ2) =>
              simp only
              split
              · rename_i h2
                exact fun h σ2 H2 m2 => h _ H2 ((Match.drop m2).back h2)
              · exact fun h => h.elim
            | some (.rt d, Γ2) =>
              simp only
              split
              · exact fun h v H2 s rv => h v H2 s rv.un
              · exact fun h => h.elim
          · exact h.elim
        · subst e
          exact h σ' H' C dop m' hcl hx⟩
/-- isinstance(e, C) in the suite, e the exception -/
def pIsE (i : Nat) (f : Str → Option Bool) : XS := fun Γ => match Γ[i]? with
  | some (.exn c none) => ofO ((f c).map .bl)
  | _ => none
theorem call_isE' {a : Addr} {cls : Value} {d : Option Addr} {oe : Obj} {pn : List (Addr × Obj)} (hz : Zc cls d oe) (hf : ∃ vs, oe.data = .fields vs) :
    CallR (X.suite a ((a, oe) :: pn)) (.builtin "isinstance") (fun xs H Q => ∃ D, cls = .ref D ∧ d = none ∧ ExcC X.K D ∧ rIsE X.K D a xs H Q) := by
  intro pins s σ H xs us Q I r ⟨D, e1, e2, hc, h⟩
  subst e1 e2
  exact call_isE hc hz hf pins s σ H xs us Q I r h
theorem le_isE {a : Addr} {cls : Value} {d : Option Addr} {oe : Obj} {pn : List (Addr × Obj)} (hK : X.K = g.K) (hz : Zc cls d oe) (hf : ∃ vs, oe.data = .fields vs) {c : Expr} {cw : V} {tv : Value} {f : Str → Option Bool} {p1 p2 : Pos} {nm : Str} (i : Nat)
    (hm : X.mg "isinstance" = none) (hv : PE (X.suite a ((a, oe) :: pn)) (.Name nm p2) (tVar i)) (hc : PE (X.suite a ((a, oe) :: pn)) c (tC cw)) (hcv : ∀ u, RelV cw u → u = tv)
    (hft : ∀ c D b, f c = some b → g.cls c = some D → PySem.W.kitOne g.K (.ref D) tv = some b ∧ ExcC g.K D) (hg : Gl X "isinstance" := by rfl)
    (h1 : starEach [.Name nm p2, c] X.env = (false, eval (.Name nm p2) X.env) :: starEach [c] X.env := by rfl) (h2 : starEach [c] X.env = (false, eval c X.env) :: starEach [] X.env := by rfl) (hpl : (backTo pos (starEach [c] X.env)).any (·.1) = false := by rfl) (hbv : bootBuiltins "isinstance" = some (.builtin "isinstance") := by decide +kernel) :
    PE (X.suite a ((a, oe) :: pn)) (.Call (.Name "isinstance" p1) [.Name nm p2, c] [] pos) (LE (g.at (some (a, cls, d))) W (pIsE i f)) :=
  (pe_callB (call_isE' hz hf) hg hm hbv (pa_cons hv (pa_cons hc pa_nil h2) h1) (by decide) (by decide) h1 hpl).imp fun σ H Q ⟨O, H0, Γ, m, h⟩ => by
    unfold pIsE at h
    split at h
    · rename_i c' hg'
      obtain ⟨e, he, k⟩ := h.ofO
      obtain ⟨b, hb, rfl⟩ := Option.map_eq_some_iff.mp he
      obtain ⟨a', C, dop, q1, q2, q3, q4⟩ := m.exn i c' none hg'
      cases q1
      obtain ⟨k1, k2⟩ := hft c' C b hb q2
      exact ⟨.ref a, q3, C, rfl, q4, by rw [hK]; exact k2, cw, tv, b, rfl, hcv, by rw [hK]; exact k1, k H (Same.refl H) _ (.bl b)⟩
    · exact h.elim
end
end Pu

namespace Pu
open PySem PySem.Spec L2

/-! ## list comprehensions -/
def wipeE (Γ : Env) : List Nat → Env
  | [] => Γ
  | v :: vs => (wipeE Γ vs).set v .un
/-- no own list in these slots -/
def noOwn (Γ : Env) (vs : List Nat) : Bool := vs.all fun i => match Γ[i]? with
  | some (.own _) => false
  | _ => true
def compB (T : Tg) (c : XT) (e : XS) (Γ : Env) : List D → Option (List D)
  | [] => some []
  | d :: ds => match stT T d Γ with
    | none => none
    | some Γ1 => match c Γ1 with
      | some (.ok true) => (match e Γ1 with
        | some (.ok y) => (compB T c e Γ ds).map (y :: ·)
        | _ => none)
      | some (.ok false) => compB T c e Γ ds
      | _ => none
def pYes : XT := fun _ => ok true
noncomputable def pCompF (pl : XI) (T : Tg) (c : XT) (e : XS) (vs : List Nat) : XA := fun Γ => (pl Γ).bind fun ds => if noOwn Γ vs = true ∧ (∀ j ∈ tgS T, j ∈ vs) ∧ ds.length ≤ 1000000 then ofO (compB T c e (wipeE Γ vs) ds) else none
noncomputable def pComp (pl : XI) (T : Tg) (c : XT) (e : XS) (vs : List Nat) : XS := fun Γ => (pCompF pl T c e vs Γ).bind fun ds => ok (.lst ds)

mutual
theorem stT_length : ∀ (t : Tg) (d : D) (Γ Γ' : Env), stT t d Γ = some Γ' → Γ'.length = Γ.length
  | .one i, d, Γ, Γ', h => by
    rw [stT] at h
    cases h
    exact List.length_set
  | .tup ts, d, Γ, Γ', h => by
    cases d with
    | tup ds => rw [stT] at h; exact stTs_length ts ds Γ Γ' h
    | _ => rw [stT] at h; cases h; all_goals (intros; simp_all)
theorem stTs_length : ∀ (ts : List Tg) (ds : List D) (Γ Γ' : Env), stTs ts ds Γ = some Γ' → Γ'.length = Γ.length
  | [], [], Γ, Γ', h => by rw [stTs] at h; cases h; rfl
  | [], _ :: _, Γ, Γ', h => by rw [stTs] at h; cases h; all_goals (intros; simp_all)
  | _ :: _, [], Γ, Γ', h => by rw [stTs] at h; cases h; all_goals (intros; simp_all)
  | t :: ts, d :: ds, Γ, Γ', h => by
    rw [stTs] at h
    split at h
    · rename_i Γ1 h1
      rw [stTs_length ts ds Γ1 Γ' h, stT_length t d Γ Γ1 h1]
    · cases h
end
theorem wipeE_length (Γ : Env) : ∀ vs : List Nat, (wipeE Γ vs).length = Γ.length
  | [] => rfl
  | v :: vs => by unfold wipeE; rw [List.length_set, wipeE_length Γ vs]
theorem wipeE_in {Γ : Env} {j : Nat} : ∀ {vs : List Nat}, j ∈ vs → (wipeE Γ vs)[j]? = some .un ∨ (wipeE Γ vs)[j]? = none
  | [], h => by cases h
  | v :: vs, h => by
    unfold wipeE
    by_cases e : v = j
    · subst e
      by_cases hl : v < (wipeE Γ vs).length
      · exact .inl (List.getElem?_set_self hl)
      · exact .inr (List.getElem?_eq_none (by rw [List.length_set]; omega))
    · rw [List.getElem?_set_ne e]
      rcases List.mem_cons.mp h with h | h
      · exact absurd h.symm e
      · exact wipeE_in h
theorem wipeE_out {Γ : Env} {j : Nat} : ∀ {vs : List Nat}, j ∉ vs → (wipeE Γ vs)[j]? = Γ[j]?
  | [], _ => rfl
  | v :: vs, h => by
    rw [List.mem_cons, not_or] at h
    unfold wipeE
    rw [List.getElem?_set_ne (Ne.symm h.1)]
    exact wipeE_out h.2
theorem wipe_out {σ : L2.St} {j : Nat} : ∀ {vs : List Nat}, j ∉ vs → (wipe σ vs)[j]? = σ[j]?
  | [], _ => rfl
  | v :: vs, h => by
    rw [List.mem_cons, not_or] at h
    unfold wipe
    rw [List.getElem?_set_ne (Ne.symm h.1)]
    exact wipe_out h.2
theorem wipe_in {σ : L2.St} {j : Nat} : ∀ {vs : List Nat}, j ∈ vs → j < σ.length → (wipe σ vs)[j]? = some none
  | [], h, _ => by cases h
  | v :: vs, h, hl => by
    unfold wipe
    by_cases e : v = j
    · subst e
      exact List.getElem?_set_self (by rw [wipe_length]; exact hl)
    · rw [List.getElem?_set_ne e]
      rcases List.mem_cons.mp h with h | h
      · exact absurd h.symm e
      · exact wipe_in h hl
theorem wipe_eq {σ σ' : L2.St} {vs : List Nat} (hl : σ'.length = σ.length) (h : ∀ j, j ∉ vs → σ'[j]? = σ[j]?) : wipe σ' vs = wipe σ vs := by
  apply List.ext_getElem?
  intro j
  by_cases hj : j ∈ vs
  · by_cases hlt : j < σ.length
    · rw [wipe_in hj hlt, wipe_in hj (by omega)]
    · rw [List.getElem?_eq_none (by rw [wipe_length]; omega), List.getElem?_eq_none (by rw [wipe_length]; omega)]
  · rw [wipe_out hj, wipe_out hj, h j hj]
section
variable {g : G} {O : Addr → Prop} {H0 H1 Hi : Hp} {Γ : Env} {σ : St} {vs : List Nat} {A : Addr} {o : HO}
theorem noOwn_get (hn : noOwn Γ vs = true) {j : Nat} {ds : List D} (h : Γ[j]? = some (.own ds)) : j ∉ vs := fun hj => by
  have := List.all_eq_true.mp hn j hj
  rw [h] at this
  cases this
theorem wipe_own (hn : noOwn Γ vs = true) (b : Addr) : ownAt (wipeE Γ vs) (wipe σ vs) b ↔ ownAt Γ σ b := by
  constructor
  · rintro ⟨j, ds, h1, h2⟩
    by_cases hj : j ∈ vs
    · rcases wipeE_in (Γ := Γ) hj with e | e <;> rw [e] at h1 <;> cases h1
    · rw [wipeE_out hj] at h1
      rw [wipe_out hj] at h2
      exact ⟨j, ds, h1, h2⟩
  · rintro ⟨j, ds, h1, h2⟩
    have hj := noOwn_get hn h1
    exact ⟨j, ds, by rw [wipeE_out hj]; exact h1, by rw [wipe_out hj]; exact h2⟩
/-- within a comprehension's block: the new list at D is hidden too -/
theorem Match.block (m : Match g O H0 Γ σ H1) (hn : noOwn Γ vs = true) (hA : H1 A = none) (s : Same H1 Hi) (hi : Hi A = some o) : Match g (fun b => O b ∨ b = A) (hid (ownAt Γ σ) Hi) (wipeE Γ vs) (wipe σ vs) Hi := by
  have nD : ¬ ownAt Γ σ A := fun z => m.hin.fresh hA (.inr z)
  have get : ∀ (j : Nat) sl, (wipeE Γ vs)[j]? = some sl → sl ≠ .un → j ∉ vs ∧ Γ[j]? = some sl := fun j sl h z => by
    by_cases hj : j ∈ vs
    · rcases wipeE_in (Γ := Γ) hj with e | e <;> rw [e] at h <;> cases h
      exact absurd rfl z
    · rw [wipeE_out hj] at h
      exact ⟨hj, h⟩
  have up : Same (hid (hs O Γ σ) H1) (hid (hs (fun b => O b ∨ b = A) (wipeE Γ vs) (wipe σ vs)) Hi) := fun b u q => by
    obtain ⟨q1, q2⟩ := hid_of q
    refine hid_get (s b u q1) fun z => ?_
    rcases z with (z | z) | z
    · exact q2 (.inl z)
    · rw [z, hA] at q1; cases q1
    · exact q2 (.inr ((wipe_own hn b).mp z))
  refine ⟨by rw [wipeE_length, wipe_length]; exact m.len, fun b u e => ⟨(hid_of e).1, fun z => (hid_of e).2 ((wipe_own hn b).mp z)⟩, fun b z => ?_, fun j d h => ?_, fun j ds h => ?_, fun i j ds es a h1 h2 h3 h4 => ?_, fun j c x h => ?_⟩
  · rcases z with z | z
    · obtain ⟨u, e⟩ := m.oin b z
      exact ⟨u, hid_get (s b u (m.base b u e).1) (m.base b u e).2⟩
    · exact ⟨o, z ▸ hid_get hi nD⟩
  · obtain ⟨hj, h⟩ := get j _ h (by intro z; cases z)
    obtain ⟨v, e, r⟩ := m.slot j d h
    exact ⟨v, by rw [wipe_out hj]; exact e, r.mono up⟩
  · obtain ⟨hj, h⟩ := get j _ h (by intro z; cases z)
    obtain ⟨a, ws, e, e2, r⟩ := m.owns j ds h
    exact ⟨a, ws, by rw [wipe_out hj]; exact e, s _ _ e2, r.mono up⟩
  · obtain ⟨hi', h1⟩ := get i _ h1 (by intro z; cases z)
    obtain ⟨hj', h2⟩ := get j _ h2 (by intro z; cases z)
    rw [wipe_out hi'] at h3
    rw [wipe_out hj'] at h4
    exact m.inj i j ds es a h1 h2 h3 h4
  · obtain ⟨hj, h⟩ := get j _ h (by intro z; cases z)
    obtain ⟨a, C, dop, q1, q2, q3, q4⟩ := m.exn j c x h
    exact ⟨a, C, dop, q1, q2, by rw [wipe_out hj]; exact q3, q4.mono up s⟩
end
section
variable {g : G} {W : WX} {O : Addr → Prop} {H0 H1 : Hp} {Γ : Env} {σ : St} {vs : List Nat} {T : Tg} {c : XT} {e : XS} {ds full : List D} {J : It} {Qd : Addr → Hp → Prop}
theorem compB_core {A : Addr} (m : Match g O H0 Γ σ H1) (hn : noOwn Γ vs = true) (hT : ∀ j ∈ tgS T, j ∈ vs) (hlen : ds.length ≤ 1000000) (src : SrcOk g (hid (hs O Γ σ) H1) J ds) (hB : compB T c e (wipeE Γ vs) ds = some full) (hA : H1 A = none)
    (hq : ∀ Hi acc, Same H1 Hi → Hi A = some (.lst acc) → Reps g (hid (fun b => hs O Γ σ b ∨ b = A) Hi) acc full → Qd A Hi) :
    ∃ Wn : Nat → Nat → Hp → Prop, (∃ k, Wn 0 k (upd H1 A (.lst []))) ∧ ∀ i k H, Wn i k H → (J.stop i H ∧ Qd A H) ∨ (J.go i H ∧ ∃ Nx : Hp → Prop, (∀ H', Nx H' → ∃ k', k' < k ∧ Wn (i + 1) k' H') ∧ ∀ x H', J.yld i H x H' →
      LG g T x (wipe σ vs) H' fun σ2 H2 => wipe σ2 vs = wipe σ vs ∧ LT g (fun _ _ _ _ => False) c σ2 H2 fun b H3 =>
        if b = true then LE g (fun _ _ _ _ => False) e σ2 H3 fun y H4 => ∃ acc, H4 A = some (.lst acc) ∧ acc.length < sizeLine ∧ Nx (upd H4 A (.lst (acc ++ [y]))) else Nx H3) := by
  refine ⟨fun i k Hi => k = ds.length - i ∧ i ≤ ds.length ∧ Same H1 Hi ∧ ∃ acc accD rest, Hi A = some (.lst acc) ∧ Reps g (hid (fun b => hs O Γ σ b ∨ b = A) Hi) acc accD ∧ compB T c e (wipeE Γ vs) (ds.drop i) = some rest ∧ full = accD ++ rest ∧ accD.length ≤ i,
    ⟨_, rfl, Nat.zero_le _, same_upd hA, [], [], full, upd_same, .nil, hB, rfl, Nat.le_refl _⟩, ?_⟩
  rintro i k Hi ⟨rfl, hle, s, acc, accD, rest, hAi, racc, hrest, hfull, hacc⟩
  have mb := m.block hn hA s hAi
  have up : Same (hid (hs O Γ σ) H1) (hid (hs (fun b => O b ∨ b = A) (wipeE Γ vs) (wipe σ vs)) Hi) := fun b u q => by
    obtain ⟨q1, q2⟩ := hid_of q
    refine hid_get (s b u q1) fun z => ?_
    rcases z with (z | z) | z
    · exact q2 (.inl z)
    · rw [z, hA] at q1; cases q1
    · exact q2 (.inr ((wipe_own hn b).mp z))
  obtain ⟨sgo, sstop⟩ := src _ Hi mb.hin up
  by_cases hlt : i < ds.length
  · have hd : ds[i]? = some ds[i] := List.getElem?_eq_getElem hlt
    obtain ⟨go, yl⟩ := sgo i _ hd
    rw [List.drop_eq_getElem_cons hlt, compB] at hrest
    cases hst : stT T ds[i] (wipeE Γ vs) with
    | none => rw [hst] at hrest; cases hrest
    | some Γ1 =>
      rw [hst] at hrest
      simp only at hrest
      refine .inr ⟨go, fun H' => Same H1 H' ∧ ∃ acc accD rest, H' A = some (.lst acc) ∧ Reps g (hid (fun b => hs O Γ σ b ∨ b = A) H') acc accD ∧ compB T c e (wipeE Γ vs) (ds.drop (i + 1)) = some rest ∧ full = accD ++ rest ∧ accD.length ≤ i + 1,
        fun H' ⟨q1, q2⟩ => ⟨ds.length - (i + 1), by omega, rfl, hlt, q1, q2⟩, fun x H' hy => ?_⟩
      obtain ⟨sy, ry⟩ := yl x H' hy
      refine ⟨_, _, wipeE Γ vs, _, Γ1, mb.same sy, ry, hst, fun σ1 m1 s1 o1 => ⟨?_, ?_⟩⟩
      · refine (wipe_eq (σ := wipe σ vs) (by rw [← m1.len, ← mb.len, stT_length _ _ _ _ hst]) fun j hj => o1 j fun z => hj (hT j z)).trans ?_
        exact wipe_eq (wipe_length σ vs) fun j hj => wipe_out hj
      · -- what the block hides is what was hidden, and the list
        have hset : ∀ b, (hs O Γ σ b ∨ b = A) → hs (fun b => O b ∨ b = A) Γ1 σ1 b := fun b z => by
          rcases z with (z | ⟨j, fs, z1, z2⟩) | z
          · exact .inl (.inl z)
          · have hj := noOwn_get hn z1
            have hjT : j ∉ tgS T := fun y => hj (hT j y)
            refine .inr ⟨j, fs, ?_, ?_⟩
            · rw [stT_other T _ _ _ hst j hjT, wipeE_out hj]; exact z1
            · rw [o1 j hjT, wipe_out hj]; exact z2
          · exact .inl (.inr z)
        cases hc : c Γ1 with
        | none => rw [hc] at hrest; cases hrest
        | some oc =>
          cases oc with
          | exc _ _ => rw [hc] at hrest; cases hrest
          | ok b =>
            rw [hc] at hrest
            refine ⟨_, _, Γ1, m1, ?_⟩
            rw [hc]
            intro H3 s3
            cases b with
            | false =>
              refine iteF ⟨s.trans (sy.trans s3), acc, accD, rest, s3 _ _ (sy _ _ hAi), racc.mono (hid_same (sy.trans s3)), hrest, hfull, by omega⟩
            | true =>
              simp only at hrest
              refine iteT ⟨_, _, Γ1, m1.same s3, ?_⟩
              cases he : e Γ1 with
              | none => rw [he] at hrest; cases hrest
              | some oe =>
                cases oe with
                | exc _ _ => rw [he] at hrest; cases hrest
                | ok y =>
                  rw [he] at hrest
                  simp only at hrest
                  obtain ⟨rest', hr', rfl⟩ := Option.map_eq_some_iff.mp hrest
                  intro H4 s4 v rv
                  have sAll := sy.trans (s3.trans s4)
                  have hA4 : H4 A = some (.lst acc) := sAll _ _ hAi
                  have racc4 := racc.mono (hid_same sAll)
                  have rv4 : Rep g (hid (fun b => hs O Γ σ b ∨ b = A) H4) v y := rv.mono (hid_le hset)
                  have keep : Same (hid (fun b => hs O Γ σ b ∨ b = A) H4) (hid (fun b => hs O Γ σ b ∨ b = A) (upd H4 A (.lst (acc ++ [v])))) := fun b u q => by
                    obtain ⟨q1, q2⟩ := hid_of q
                    exact hid_get (by rw [upd_ne fun z => q2 (.inr z)]; exact q1) q2
                  refine ⟨acc, hA4, ?_, fun b u q => ?_, acc ++ [v], accD ++ [y], rest', upd_same, (racc4.append (.cons rv4 .nil)).mono keep, hr', by rw [hfull, List.append_assoc]; rfl, by rw [List.length_append]; exact Nat.succ_le_succ hacc⟩
                  · rw [racc.length, sizeLine_eq]
                    omega
                  · have hb : b ≠ A := fun z => by rw [z, hA] at q; cases q
                    rw [upd_ne hb]
                    exact sAll _ _ (s _ _ q)
  · have ei : i = ds.length := by omega
    subst ei
    rw [List.drop_length, compB] at hrest
    cases hrest
    rw [List.append_nil] at hfull
    subst hfull
    exact .inl ⟨sstop, hq Hi acc s hAi racc⟩
end
section
variable {X : Cx} {g : G} {W : WX} {pl : XI} {T : Tg} {pc : XT} {pe : XS} {elt tg iter : Expr} {ifs : List Expr} {scope : Scope} {own : List (Str × Nat)} {pos : Pos}
/-- no test; one test -/
theorem lts_nil : PTs X [] (LT g W pYes) := ⟨fun pins s σ H Q I ⟨O, H0, Γ, m, h⟩ => pts_nil.run pins s σ H Q I h.here⟩
theorem lts_one {c : Expr} (h : PT X c (LT g W pc)) : PTs X [c] (LT g W pc) := pts_one h
theorem comp_imp {σ : St} {H : Hp} {vs : List Nat} {Q : VK} {O : Addr → Prop} {H0 : Hp} {Γ : Env} (m : Match g O H0 Γ σ H) (h : Post g W σ (hs O Γ σ) H (fun ds H1 => ∀ a acc H', Same H1 H' → H1 a = none → H' a = some (.lst acc) → Reps g (hid (fun b => hs O Γ σ b ∨ b = a) H') acc ds → Q (.ref a) H') (pCompF pl T pc pe vs Γ)) :
    tLc (LI g W pl) (LG g T) (LT g (fun _ _ _ _ => False) pc) (LE g (fun _ _ _ _ => False) pe) vs σ H Q :=
  ⟨O, H0, Γ, m, h.bind.mono fun ds H1 _ s1 h1 J H2 s2 src A hA => by
    split at h1
    · rename_i hc
      obtain ⟨full, hf, k⟩ := h1.ofO
      have m2 := m.same (s1.trans s2)
      exact compB_core (Qd := fun a Hi => Q (.ref a) Hi) m2 hc.1 hc.2.1 hc.2.2 src hf hA fun Hi acc s ha r => k H2 s2 A acc Hi s hA ha r
    · exact h1.elim⟩
theorem lf_comp (hc : X.calm = true) (hN : X.N.Nodup) (hi : PI X tg iter (LI g W pl)) (okb : BlkOk X.N X.env.scope scope own)
    (hg : ∀ (s : Shared) (H : Hp) (C : Addr) (cl : List (Str × Addr)) (fp : List Addr), PG (X.blk s H scope (compEnvC scope cl C X.env) fp) tg (LG g T)) (ht : ∀ (s : Shared) (H : Hp) (C : Addr) (cl : List (Str × Addr)) (fp : List Addr), PTs (X.blk s H scope (compEnvC scope cl C X.env) fp) ifs (LT g (fun _ _ _ _ => False) pc))
    (he : ∀ (s : Shared) (H : Hp) (C : Addr) (cl : List (Str × Addr)) (fp : List Addr), PE (X.blk s H scope (compEnvC scope cl C X.env) fp) elt (LE g (fun _ _ _ _ => False) pe)) (hs' : ∀ x, foldedSetIterable iter X.env x = pure x := by intro _; rfl) :
    PE X (.ListComp elt [⟨tg, iter, ifs, 0⟩] scope pos) (LF g W (pCompF pl T pc pe (own.map (·.2)))) :=
  (pe_lc hc hN hi okb hg ht he hs').imp fun σ H Q ⟨O, H0, Γ, m, h⟩ => comp_imp m h
theorem lf_val {e : Expr} {p : XA} (h : PE X e (LF g W p)) : PE X e (LE g W (fun Γ => (p Γ).bind fun ds => ok (.lst ds))) := h.imp fun σ H Q ⟨O, H0, Γ, m, h⟩ => ⟨O, H0, Γ, m, h.bind.mono fun ds H1 _ s1 h1 a vs H' s' hn ha r =>
  h1.ok s' _ (.lst (hid_get ha ((m.same s1).hin.fresh hn)) (r.mono (hid_le fun b z => .inl z)))⟩
theorem le_comp (hc : X.calm = true) (hN : X.N.Nodup) (hi : PI X tg iter (LI g W pl)) (okb : BlkOk X.N X.env.scope scope own)
    (hg : ∀ (s : Shared) (H : Hp) (C : Addr) (cl : List (Str × Addr)) (fp : List Addr), PG (X.blk s H scope (compEnvC scope cl C X.env) fp) tg (LG g T)) (ht : ∀ (s : Shared) (H : Hp) (C : Addr) (cl : List (Str × Addr)) (fp : List Addr), PTs (X.blk s H scope (compEnvC scope cl C X.env) fp) ifs (LT g (fun _ _ _ _ => False) pc))
    (he : ∀ (s : Shared) (H : Hp) (C : Addr) (cl : List (Str × Addr)) (fp : List Addr), PE (X.blk s H scope (compEnvC scope cl C X.env) fp) elt (LE g (fun _ _ _ _ => False) pe)) (hs' : ∀ x, foldedSetIterable iter X.env x = pure x := by intro _; rfl) :
    PE X (.ListComp elt [⟨tg, iter, ifs, 0⟩] scope pos) (LE g W (pComp pl T pc pe (own.map (·.2)))) := lf_val (lf_comp hc hN hi okb hg ht he hs')
/-- x = [..], as a list of one's own -/
theorem ls_setComp {i : Nat} {y : Str} {py spos : Pos} (hc : X.calm = true) (hN : X.N.Nodup) (hy : X.N[i]? = some y) (hyl : X.env.scope.names.lookup y = some .local) (hsw : swapsWith (.ListComp elt [⟨tg, iter, ifs, 0⟩] scope pos) (some (.Name y py)) spos.line X.env = pure true) (hi : PI X tg iter (LI g W pl)) (okb : BlkOk X.N X.env.scope scope own)
    (hg : ∀ (s : Shared) (H : Hp) (C : Addr) (cl : List (Str × Addr)) (fp : List Addr), PG (X.blk s H scope (compEnvC scope cl C X.env) fp) tg (LG g T)) (ht : ∀ (s : Shared) (H : Hp) (C : Addr) (cl : List (Str × Addr)) (fp : List Addr), PTs (X.blk s H scope (compEnvC scope cl C X.env) fp) ifs (LT g (fun _ _ _ _ => False) pc))
    (he : ∀ (s : Shared) (H : Hp) (C : Addr) (cl : List (Str × Addr)) (fp : List Addr), PE (X.blk s H scope (compEnvC scope cl C X.env) fp) elt (LE g (fun _ _ _ _ => False) pe)) (hs' : ∀ x, foldedSetIterable iter X.env x = pure x := by intro _; rfl) :
    PS X (.Assign [.Name y py] (.ListComp elt [⟨tg, iter, ifs, 0⟩] scope pos) spos) (LS g W (pSetF i (pCompF pl T pc pe (own.map (·.2))))) :=
  (ps_setLc hc hN hy hyl hsw hi okb hg ht he hs').imp fun E σ H ⟨O, H0, Γ, m, h⟩ => comp_imp m ((PostS.a1 m h).mono fun ds H1 _ s1 ⟨m1, h1⟩ a acc H' s' hn ha r => h1 _ H' (m1.take s' hn ha r))
end
end Pu

namespace Pu
open PySem PySem.Spec L2
open PyProof.Rows (envOfC)

/-! ## short words for the printed bodies -/
section
variable {X : Cx} {g : G} {W : WX} {a b c e : Expr} {es : List Expr} {pos p1 : Pos} {p q r : XS} {pa : XA}
theorem a_add (ha : PE X a (LE g W p)) (hb : PE X b (LE g W q)) (hK : X.K = g.K := by rfl) : PE X (.BinOp a .Add b pos) (LE g W (pOp dAdd p q)) := le_op op_addAll (by rw [hK]; exact pure_add) ha hb
theorem a_sub (ha : PE X a (LE g W p)) (hb : PE X b (LE g W q)) : PE X (.BinOp a .Sub b pos) (LE g W (pOp dSub p q)) := le_op op_sub pure_sub ha hb
theorem a_mul (ha : PE X a (LE g W p)) (hb : PE X b (LE g W q)) : PE X (.BinOp a .Mult b pos) (LE g W (pOp dMulA p q)) := le_op op_mulA pure_mulA ha hb
theorem a_div (ha : PE X a (LE g W p)) (hb : PE X b (LE g W q)) : PE X (.BinOp a .FloorDiv b pos) (LE g W (pOp dDiv p q)) := le_op op_fdivW pure_div ha hb
theorem a_mod (ha : PE X a (LE g W p)) (hb : PE X b (LE g W q)) : PE X (.BinOp a .Mod b pos) (LE g W (pOp dMod p q)) := le_op op_mod pure_mod ha hb
theorem a_pow (ha : PE X a (LE g W p)) (hb : PE X b (LE g W q)) : PE X (.BinOp a .Pow b pos) (LE g W (pOp dPow p q)) := le_op op_pow pure_pow ha hb
theorem a_shl (ha : PE X a (LE g W p)) (hb : PE X b (LE g W q)) : PE X (.BinOp a .LShift b pos) (LE g W (pOp dShl p q)) := le_op op_shlW pure_shl ha hb
theorem a_shr (ha : PE X a (LE g W p)) (hb : PE X b (LE g W q)) : PE X (.BinOp a .RShift b pos) (LE g W (pOp dShr p q)) := le_op op_shr pure_shr ha hb
theorem a_band (ha : PE X a (LE g W p)) (hb : PE X b (LE g W q)) : PE X (.BinOp a .BitAnd b pos) (LE g W (pOp dBand p q)) := le_op op_and pure_band ha hb
theorem a_bor (ha : PE X a (LE g W p)) (hb : PE X b (LE g W q)) : PE X (.BinOp a .BitOr b pos) (LE g W (pOp dBor p q)) := le_op op_or pure_bor ha hb
theorem a_neg (ha : PE X a (LE g W p)) : PE X (.UnaryOp .USub a pos) (LE g W (pUn dNeg p)) := le_un un_neg pure_neg ha
theorem c_eq (ha : PE X a (LE g W p)) (hb : PE X b (LE g W q)) (hu : X.A.units + 64 < cLine) (hK : X.K = g.K := by rfl) : PE X (.Compare a [.Eq] [b] pos) (LE g W (pOp dEq p q)) := le_cmp (op_eqD hu) (by rw [hK]; exact pure_eq) ha hb (nomark _)
theorem c_ne (ha : PE X a (LE g W p)) (hb : PE X b (LE g W q)) (hu : X.A.units + 64 < cLine) (hK : X.K = g.K := by rfl) : PE X (.Compare a [.NotEq] [b] pos) (LE g W (pOp dNe p q)) := le_cmp (op_neD hu) (by rw [hK]; exact pure_ne) ha hb (nomark _)
theorem c_lt (ha : PE X a (LE g W p)) (hb : PE X b (LE g W q)) : PE X (.Compare a [.Lt] [b] pos) (LE g W (pOp dLt p q)) := le_cmp op_lt pure_lt ha hb (nomark _)
theorem c_le (ha : PE X a (LE g W p)) (hb : PE X b (LE g W q)) : PE X (.Compare a [.LtE] [b] pos) (LE g W (pOp dLe p q)) := le_cmp op_le pure_le ha hb (nomark _)
theorem c_gt (ha : PE X a (LE g W p)) (hb : PE X b (LE g W q)) : PE X (.Compare a [.Gt] [b] pos) (LE g W (pOp dGt p q)) := le_cmp op_gt pure_gt ha hb (nomark _)
theorem c_ge (ha : PE X a (LE g W p)) (hb : PE X b (LE g W q)) : PE X (.Compare a [.GtE] [b] pos) (LE g W (pOp dGe p q)) := le_cmp op_ge pure_ge ha hb (nomark _)
theorem c_is (ha : PE X a (LE g W p)) (hb : PE X b (LE g W q)) : PE X (.Compare a [.Is] [b] pos) (LE g W (pOp dIsN p q)) := le_cmp op_isN pure_isN ha hb (nomark _)
theorem c_isnot (ha : PE X a (LE g W p)) (hb : PE X b (LE g W q)) : PE X (.Compare a [.IsNot] [b] pos) (LE g W (pOp dNotN p q)) := le_cmp op_notN pure_notN ha hb (nomark _)
theorem c_in (ha : PE X a (LE g W p)) (hb : PE X b (LE g W q)) (hm : behindInMarks .In b = false := by rfl) (hK : X.K = g.K := by rfl) : PE X (.Compare a [.In] [b] pos) (LE g W (pOp dIn p q)) := le_cmp op_inAll (by rw [hK]; exact pure_in) ha hb hm
theorem c_notin (ha : PE X a (LE g W p)) (hb : PE X b (LE g W q)) (hm : behindInMarks .NotIn b = false := by rfl) (hK : X.K = g.K := by rfl) : PE X (.Compare a [.NotIn] [b] pos) (LE g W (pOp dNotIn p q)) := le_cmp op_notInAll (by rw [hK]; exact pure_notIn) ha hb hm
theorem t_eq (ha : PE X a (LE g W p)) (hb : PE X b (LE g W q)) (hu : X.A.units + 64 < cLine) (hK : X.K = g.K := by rfl) : PT X (.Compare a [.Eq] [b] pos) (LT g W (pTst (pOp dEq p q))) := lt_cmp (op_eqD hu) (by rw [hK]; exact pure_eq) ha hb (nomark _)
theorem t_ne (ha : PE X a (LE g W p)) (hb : PE X b (LE g W q)) (hu : X.A.units + 64 < cLine) (hK : X.K = g.K := by rfl) : PT X (.Compare a [.NotEq] [b] pos) (LT g W (pTst (pOp dNe p q))) := lt_cmp (op_neD hu) (by rw [hK]; exact pure_ne) ha hb (nomark _)
theorem t_lt (ha : PE X a (LE g W p)) (hb : PE X b (LE g W q)) : PT X (.Compare a [.Lt] [b] pos) (LT g W (pTst (pOp dLt p q))) := lt_cmp op_lt pure_lt ha hb (nomark _)
theorem t_le (ha : PE X a (LE g W p)) (hb : PE X b (LE g W q)) : PT X (.Compare a [.LtE] [b] pos) (LT g W (pTst (pOp dLe p q))) := lt_cmp op_le pure_le ha hb (nomark _)
theorem t_gt (ha : PE X a (LE g W p)) (hb : PE X b (LE g W q)) : PT X (.Compare a [.Gt] [b] pos) (LT g W (pTst (pOp dGt p q))) := lt_cmp op_gt pure_gt ha hb (nomark _)
theorem t_ge (ha : PE X a (LE g W p)) (hb : PE X b (LE g W q)) : PT X (.Compare a [.GtE] [b] pos) (LT g W (pTst (pOp dGe p q))) := lt_cmp op_ge pure_ge ha hb (nomark _)
theorem t_is (ha : PE X a (LE g W p)) (hb : PE X b (LE g W q)) : PT X (.Compare a [.Is] [b] pos) (LT g W (pTst (pOp dIsN p q))) := lt_cmp op_isN pure_isN ha hb (nomark _)
theorem t_isnot (ha : PE X a (LE g W p)) (hb : PE X b (LE g W q)) : PT X (.Compare a [.IsNot] [b] pos) (LT g W (pTst (pOp dNotN p q))) := lt_cmp op_notN pure_notN ha hb (nomark _)
theorem t_in (ha : PE X a (LE g W p)) (hb : PE X b (LE g W q)) (hm : behindInMarks .In b = false := by rfl) (hK : X.K = g.K := by rfl) : PT X (.Compare a [.In] [b] pos) (LT g W (pTst (pOp dIn p q))) := lt_cmp op_inAll (by rw [hK]; exact pure_in) ha hb hm
theorem t_notin (ha : PE X a (LE g W p)) (hb : PE X b (LE g W q)) (hm : behindInMarks .NotIn b = false := by rfl) (hK : X.K = g.K := by rfl) : PT X (.Compare a [.NotIn] [b] pos) (LT g W (pTst (pOp dNotIn p q))) := lt_cmp op_notInAll (by rw [hK]; exact pure_notIn) ha hb hm
/-- of whole numbers: a <= b <= c, a <= b < c -/
theorem chain_imp {r1 r2 : R2} {f f' : D → D → Option D} (hf : Pure2 g r1 f) (hf' : Pure2 g r2 f') (hflat : ∀ a b e, f a b = some e → ∃ k, e = .bl k) (σ : St) (H : Hp) (Q : VK) : LE g W (pChain f f' p q r) σ H Q → tChain r1 r2 (LE g W p) (LE g W q) (LE g W r) σ H Q := fun ⟨O, H0, Γ, m, h⟩ =>
  ⟨O, H0, Γ, m, h.bind.mono fun x H1 _ s1 h1 v rv => ⟨O, H0, Γ, m.same s1, h1.bind.mono fun y H2 _ s2 h2 w rw => by
    have rv2 := rv.mono (hid_same s2)
    have hin := (m.same (s1.trans s2)).hin
    match hfe : f x y with
    | none => rw [hfe] at h2; exact h2.elim
    | some d =>
      obtain ⟨k, rfl⟩ := hflat _ _ _ hfe
      rw [hfe] at h2
      refine hf _ H2 v w x y _ _ hin rv2 rw hfe fun z H3 s3 rz => ?_
      cases rz.to_bl
      refine ⟨k, rfl, ?_⟩
      cases k with
      | false => exact iteF (Post.ok h2 s3 _ rep_bl)
      | true =>
        refine iteT ⟨O, H0, Γ, m.same (s1.trans (s2.trans s3)), (Post.same s3 h2).bind.mono fun c' H4 _ s4 h4 u ru => ?_⟩
        obtain ⟨e, he, k'⟩ := h4.ofO
        exact hf' _ H4 w u y c' e Q (m.same (s1.trans (s2.trans (s3.trans s4)))).hin (rw.mono (hid_same (s3.trans s4))) ru he fun z H' s z' => k' H' s z z'⟩⟩
theorem flat_le (a b e : D) (h : dLe a b = some e) : ∃ k, e = .bl k := by cases a <;> cases b <;> cases h; exact ⟨_, rfl⟩
theorem flat_lt (a b e : D) (h : dLt a b = some e) : ∃ k, e = .bl k := by cases a <;> cases b <;> cases h; exact ⟨_, rfl⟩
theorem c_lele (ha : PE X a (LE g W p)) (hb : PE X b (LE g W q)) (hc : PE X c (LE g W r)) : PE X (.Compare a [.LtE, .LtE] [b, c] pos) (LE g W (pChain dLe dLe p q r)) := (pe_chain op_le op_le ha hb hc (nomark (op := .LtE) c)).imp fun σ H Q => chain_imp pure_le pure_le flat_le σ H Q
theorem c_lelt (ha : PE X a (LE g W p)) (hb : PE X b (LE g W q)) (hc : PE X c (LE g W r)) : PE X (.Compare a [.LtE, .Lt] [b, c] pos) (LE g W (pChain dLe dLt p q r)) := (pe_chain op_le op_lt ha hb hc (nomark (op := .Lt) c)).imp fun σ H Q => chain_imp pure_le pure_lt flat_le σ H Q
theorem t_lele (ha : PE X a (LE g W p)) (hb : PE X b (LE g W q)) (hc : PE X c (LE g W r)) : PT X (.Compare a [.LtE, .LtE] [b, c] pos) (LT g W (pTst (pChain dLe dLe p q r))) := (pt_chain op_le op_le ha hb hc (nomark (op := .LtE) c)).imp fun σ H Q h => chain_imp pure_le pure_le flat_le σ H _ (tst_imp σ H Q h)
theorem t_lelt (ha : PE X a (LE g W p)) (hb : PE X b (LE g W q)) (hc : PE X c (LE g W r)) : PT X (.Compare a [.LtE, .Lt] [b, c] pos) (LT g W (pTst (pChain dLe dLt p q r))) := (pt_chain op_le op_lt ha hb hc (nomark (op := .Lt) c)).imp fun σ H Q h => chain_imp pure_le pure_lt flat_le σ H _ (tst_imp σ H Q h)
theorem a_ix (ha : PE X a (LE g W p)) (hb : PE X b (LE g W q)) (hs : PlainIx b := by exact fun _ _ => rfl) (hK : X.K = g.K := by rfl) : PE X (.Subscript a b pos) (LE g W (pOp dIx p q)) := le_ix ix_seq (by rw [hK]; exact pure_ix) ha hb hs
end

/-- an own exception class over ValueError -/
structure ExcF (K : PySem.W.Frag) (mg : Str → Option Value) (x : Str) : Prop where
  ex : PySem.W.excIn K (He.ga K x) He.veBase "ValueError.__new__" = true
  gC : mg x = some (.ref (He.ga K x))
  kC : PySem.W.keepIn K (.ref (He.ga K x)) = true
  sB : PySem.W.subIn K (.ref (He.ga K x)) (.type "BaseException") = some true
  tC : PySem.W.typeIn K (.ref (He.ga K x)) = some (.type "type")
/-- the ground of a program: its classes by their names -/
def clsOf (K : PySem.W.Frag) (ns : List Str) (x : Str) : Option Addr := if x ∈ ns then some (He.ga K x) else none
theorem clsOf_in {K : PySem.W.Frag} {ns : List Str} {x : Str} (h : x ∈ ns) : clsOf K ns x = some (He.ga K x) := if_pos h
theorem clsOf_get {K : PySem.W.Frag} {ns : List Str} {x : Str} {C : Addr} (h : clsOf K ns x = some C) : C = He.ga K x := by
  unfold clsOf at h
  split at h
  · cases h; rfl
  · cases h
abbrev gOf (K : PySem.W.Frag) (ns : List Str) : G := ⟨K, clsOf K ns, none⟩
/-- a def of the top, as it is called: worth F -/
structure CallOk (P : Program) (w : World) (K : PySem.W.Frag) (mg : Str → Option Value) (base : Heap) (g : G) (k : Nat) (x : Str) (F : List D → R D) : Prop where
  ex : ∃ f fd ps, FnOk P w K mg base (L2.CX P w) k f fd ps (SpP g F) ∧ mg x = some (.ref f) ∧ PySem.W.keepIn K (.ref f) = true ∧ Binds K fd ps []
/-- .. with its last parameters left to their defaults -/
structure CallOkD (P : Program) (w : World) (K : PySem.W.Frag) (mg : Str → Option Value) (base : Heap) (g : G) (k : Nat) (x : Str) (F : List D → R D) (ex : List D) : Prop where
  ex : ∃ f fd ps ds dvs, FnOk P w K mg base (L2.CX P w) k f fd ps (SpP g F) ∧ mg x = some (.ref f) ∧ PySem.W.keepIn K (.ref f) = true ∧ Binds K fd ps ds ∧ Vals dvs ds ∧ ∀ H, Reps g H dvs ex
section
variable {X : Cx} {g : G} {W : WX} {k j : Nat} {F : List D → R D} {x mm : Str} {p pp p2 p3 pos : Pos} {e : Expr} {es : List Expr} {pa : XA}
theorem le_fn (h : CallOk X.prog X.w X.K X.mg X.base g j x F) (hr : Room k X.A) (hk : j ≤ k) (tk : ∀ σ, PassesAt (L2.CX X.prog X.w) X σ (WE W σ)) (ha : PA X (e :: es) (LA g W pa)) (hg : Gl X x := by rfl) (hdb : (x == ("__debug__" : Str)) = false := by decide) (he : starEach (e :: es) X.env = (false, eval e X.env) :: starEach es X.env := by rfl) (hpl : (backTo pos (starEach es X.env)).any (·.1) = false := by rfl) :
    PE X (.Call (.Name x p) (e :: es) [] pos) (LE g W (pCall F pa)) := by
  obtain ⟨f, fd, ps, h1, h2, h3, h4⟩ := h.ex
  exact le_call h1 (hr.mono hk) h2 h3 h4 tk ha hg hdb he hpl
theorem le_fnD {ex : List D} (h : CallOkD X.prog X.w X.K X.mg X.base g j x F ex) (hr : Room k X.A) (hk : j ≤ k) (tk : ∀ σ, PassesAt (L2.CX X.prog X.w) X σ (WE W σ)) (ha : PA X (e :: es) (LA g W pa)) (hg : Gl X x := by rfl) (hdb : (x == ("__debug__" : Str)) = false := by decide) (he : starEach (e :: es) X.env = (false, eval e X.env) :: starEach es X.env := by rfl) (hpl : (backTo pos (starEach es X.env)).any (·.1) = false := by rfl) :
    PE X (.Call (.Name x p) (e :: es) [] pos) (LE g W (pCallD F pa ex)) := by
  obtain ⟨f, fd, ps, ds, dvs, h1, h2, h3, h4, h5, h6⟩ := h.ex
  exact le_callD h1 (hr.mono hk) h2 h3 h4 h5 h6 tk ha hg hdb he hpl
theorem ls_raiseF {i : Nat} (h : ExcF X.K X.mg x) (hc : X.calm = true) (tk : Takes X W) (hcl : g.cls x = some (He.ga X.K x)) (hg : Gl X x := by rfl) (hdb : (x == ("__debug__" : Str)) = false := by decide) :
    PS X (.Raise (some (.Call (.Name x pp) [.Constant (.str mm) i p2] [] p3)) none pos) (LS g W (pRaise x)) :=
  ls_raise hc tk hcl PySem.F.excBase_ValueError h.ex h.gC h.kC (raises_own h.sB h.tC) hg hdb
theorem le_gstr {z : Str} (h : ∃ t, X.mg x = some (.str z t)) (hg : Gl X x := by rfl) (hd : (x == ("__debug__" : Str)) = false := by decide) : PE X (.Name x pos) (LE g W (pC (.str z))) := by
  obtain ⟨t, h⟩ := h
  exact le_glob (v := .str z) h ⟨t, rfl⟩ (fun _ => .str z) hg hd
theorem le_gint {z : Int} (h : ∃ t, X.mg x = some (.int z t)) (hg : Gl X x := by rfl) (hd : (x == ("__debug__" : Str)) = false := by decide) : PE X (.Name x pos) (LE g W (pC (.int z))) := by
  obtain ⟨t, h⟩ := h
  exact le_glob (v := .int z) h ⟨t, rfl⟩ (fun _ => .int z) hg hd
/-- a tuple of texts at the module's top -/
theorem le_gtup {zs : List Str} (hm : X.mg x = some (.ref (He.ga g.K x))) (h : He.tupB g.K x (zs.map He.Dv.str) = true) (hg : Gl X x := by rfl) (hd : (x == ("__debug__" : Str)) = false := by decide) : PE X (.Name x pos) (LE g W (pC (.tup (zs.map D.str)))) :=
  le_glob (v := .ref (He.ga g.K x)) hm rfl (fun H => .tup (He.tupB_ok h H) (by
    have : (zs.map He.Dv.str).map (He.Dv.v g.K) = zs.map V.str := by rw [List.map_map]; rfl
    rw [this]
    exact strs_rep zs)) hg hd
/-- in a block or a suite nothing is let out -/
theorem pass_false {σ : St} : PassesAt (L2.CX X.prog X.w) X σ (WE (fun _ _ _ _ => False) σ) := fun pins H s e s' I ⟨_, _, _, _, _, _, _, _, _, _, _, _, z⟩ => z.elim
end
/-- the rule for a def of the top, by the head's facts -/
theorem fn_ok {P : Program} {w : World} {K : PySem.W.Frag} {mg : Str → Option Value} {base : Heap} {k : Nat} {f : Addr} {fd : FuncData} {x qual : Str} {params : Arguments} {body : List Stmt} {scope : Scope} {dvs : List V} {N ps : List Str} {g : G} {F : List D → R D} {pb : XB}
    (FD : FunD K x qual params body scope dvs [] f fd) (S : FnScope N ps scope)
    (hbody : ∀ (cdv : Value) (A : Around) (outer : List PySem.Env) (s : Shared) (H : Hp) (E : XK), Room k (A.deeper (envOfC qual scope s.heap.objs.size f cdv)) → PSs (cxOf (L2.CX P w) P w K mg base N qual scope f cdv A outer s H E) body (LS g (fun cls d _ H' => E cls d H') pb))
    (hF : ∀ ds r, F ds = some r → ds.length = ps.length ∧ runB (pb (initE N.length ds)) = some r) : FnOk P w K mg base (L2.CX P w) (k + 1) f fd ps (SpP g F) := by
  obtain ⟨oc, od, dV, kV, doc, pm, an, cdv, ct, osl, rfl, lk, hcd, _, _⟩ := FD.ex
  exact def_ok lk hcd S (hbody cdv) hF
end Pu

namespace Pu
open PySem PySem.Spec L2
/-- is the class named c one of these, among all that are raised -/
def isx (sub all : List Str) (c : Str) : Option Bool := if c ∈ all then some (decide (c ∈ sub)) else none
/-- the words that a plain meaning is reckoned by -/
theorem isx_in {sub all : List Str} {c : Str} {b : Bool} (h : isx sub all c = some b) : c ∈ all ∧ b = decide (c ∈ sub) := by
  unfold isx at h
  split at h
  · cases h; exact ⟨by assumption, rfl⟩
  · cases h
end Pu

namespace Pu
open PySem PySem.Spec L2
open PyProof.Rows (envOfC)
/-- a def's plain meaning: its body's, at its own names -/
noncomputable def defF (n N : Nat) (b : XB) : List D → R D := fun ds => if ds.length = n then runB (b (initE N ds)) else none
theorem defF_ok {n N : Nat} {b : XB} (ds : List D) (r : Out D) (h : defF n N b ds = some r) : ds.length = n ∧ runB (b (initE N ds)) = some r := by
  unfold defF at h
  split at h
  · exact ⟨by assumption, h⟩
  · cases h
def excCB (K : PySem.W.Frag) (C : Addr) : Bool :=
  He.eqO (PySem.W.findIn K (.ref C) "__getattribute__") (some (some (.builtin "BaseException.__getattribute__"))) &&
  (He.eqO (PySem.W.findIn K (.ref C) "__getattr__") (some none) &&
  (decide (PySem.W.subIn K (.ref C) (.type "BaseException") = some true) &&
  (PySem.W.hasDictIn K C &&
  (He.eqO (PySem.W.findIn K (.ref C) "__class__") (some (some (.builtin "object.__class__"))) &&
  (He.eqO (PySem.W.specialIn K (.builtin "object.__class__") "__get__") (some (some (.builtin "getset_descriptor.__get__"))) &&
  (decide (PySem.W.takesIn K (.builtin "object.__class__") = some true) &&
  decide (PySem.W.mroIn K C (.type "object") = some true)))))))
theorem excCB_ok {K : PySem.W.Frag} {C : Addr} (h : excCB K C = true) : ExcC K C := by
  obtain ⟨h1, h⟩ := He.ba h
  obtain ⟨h2, h⟩ := He.ba h
  obtain ⟨h3, h⟩ := He.ba h
  obtain ⟨h4, h⟩ := He.ba h
  obtain ⟨h5, h⟩ := He.ba h
  obtain ⟨h6, h⟩ := He.ba h
  obtain ⟨h7, h8⟩ := He.ba h
  exact ⟨He.eqO_ok h1, He.eqO_ok h2, of_decide_eq_true h3, h4, He.eqO_ok h5, He.eqO_ok h6, of_decide_eq_true h7, of_decide_eq_true h8⟩
/-- a class as isinstance takes it: one of the text or one of the built-ins -/
def cvOf (K : PySem.W.Frag) : Str × Option String → Value
  | (x, none) => .ref (He.ga K x)
  | (_, some t) => .type t
/-- what is looked at beside the facts: tuples of texts, the raised classes under isinstance, under except -/
def exB (tups : List (Str × List Str)) (all : List Str) (iss : List ((Str × Option String) × List Str)) (cats : List (Str × List Str)) (K : PySem.W.Frag) : Bool :=
  (tups.all fun p => He.tupB K p.1 (p.2.map He.Dv.str)) && ((iss.isEmpty || all.all fun x => excCB K (He.ga K x)) &&
  ((iss.all fun t => all.all fun x => decide (PySem.W.kitOne K (.ref (He.ga K x)) (cvOf K t.1) = some (decide (x ∈ t.2)))) &&
  (cats.all fun t => all.all fun x => decide (PySem.W.exmOne K (.ref (He.ga K x)) (.ref (He.ga K t.1)) = some (decide (x ∈ t.2))))))
section
variable {tups : List (Str × List Str)} {all : List Str} {iss : List ((Str × Option String) × List Str)} {cats : List (Str × List Str)} {K : PySem.W.Frag}
theorem exB_tup (h : exB tups all iss cats K = true) {x : Str} {zs : List Str} (hm : (x, zs) ∈ tups) : He.tupB K x (zs.map He.Dv.str) = true :=
  List.all_eq_true.mp (He.ba h).1 _ hm
theorem exB_is (h : exB tups all iss cats K = true) {t : Str × Option String} {sub ns : List Str} (hm : (t, sub) ∈ iss) (c : Str) (C : Addr) (b : Bool) (hx : isx sub all c = some b) (hc : clsOf K ns c = some C) : PySem.W.kitOne K (.ref C) (cvOf K t) = some b ∧ ExcC K C := by
  obtain ⟨h1, rfl⟩ := isx_in hx
  obtain ⟨_, h2⟩ := He.ba h
  obtain ⟨h3, h4⟩ := He.ba h2
  obtain ⟨h5, _⟩ := He.ba h4
  cases clsOf_get hc
  refine ⟨of_decide_eq_true (List.all_eq_true.mp (List.all_eq_true.mp h5 _ hm) _ h1), excCB_ok ?_⟩
  rcases (Bool.or_eq_true _ _ ▸ h3 : _ ∨ _) with q | q
  · rw [List.isEmpty_iff.mp q] at hm
    cases hm
  · exact List.all_eq_true.mp q _ h1
theorem exB_cat (h : exB tups all iss cats K = true) {t : Str} {sub ns : List Str} (hm : (t, sub) ∈ cats) (c : Str) (C : Addr) (b : Bool) (hx : isx sub all c = some b) (hc : clsOf K ns c = some C) : PySem.W.exmOne K (.ref C) (.ref (He.ga K t)) = some b := by
  obtain ⟨h1, rfl⟩ := isx_in hx
  obtain ⟨_, h2⟩ := He.ba h
  obtain ⟨_, h4⟩ := He.ba h2
  obtain ⟨_, h6⟩ := He.ba h4
  cases clsOf_get hc
  exact of_decide_eq_true (List.all_eq_true.mp (List.all_eq_true.mp h6 _ hm) _ h1)
end
theorem excF_of {K : PySem.W.Frag} {h : Heap} {mg : Str → Option Value} (X : K.In h) (G : h.Ns mainGlobals mg) {x : Str} (g : (He.Fa.glo x).ok K = true) (e : (He.Fa.exc x).ok K = true) : ExcF K mg x :=
  let q := He.exc_ok e
  ⟨q.1, He.glo_ok X G g, q.2.1, q.2.2.1, q.2.2.2⟩
/-- a def's datum, by its statement -/
def dOf (x : Str) (st : Stmt) (dfl : List He.Dv) : He.DefD := ⟨(x, none), x, x, defArgs st, defBody st, defScope st, dfl, []⟩
structure DefOk (K : PySem.W.Frag) (mg : Str → Option Value) (x : Str) (st : Stmt) (dfl : List He.Dv) : Prop where
  d : ∃ fd, FunD K x x (defArgs st) (defBody st) (defScope st) (dfl.map (He.Dv.v K)) [] (He.ga K x) fd
  g : mg x = some (.ref (He.ga K x))
theorem call_ok {P : Program} {w : World} {K : PySem.W.Frag} {mg : Str → Option Value} {base : Heap} {k : Nat} {x : Str} {st : Stmt} {N ps : List Str} {g : G} {pb : XB}
    (T : DefOk K mg x st []) (S : FnScope N ps (defScope st))
    (hbody : ∀ (f : Addr) (cdv : Value) (A : Around) (outer : List PySem.Env) (s : Shared) (H : Hp) (E : XK), Room k (A.deeper (envOfC x (defScope st) s.heap.objs.size f cdv)) → PSs (cxOf (L2.CX P w) P w K mg base N x (defScope st) f cdv A outer s H E) (defBody st) (LS g (fun cls d _ H' => E cls d H') pb))
    (hb : ∀ (kV doc pm : Value) (an : Option Addr) (cdv ct : Value) (us : List Value), us.length = ps.length → bindArgs (PySem.W.fnOf x x (defArgs st) (defBody st) (defScope st) .none kV doc pm an cdv ct) ⟨us, []⟩ = pure (ps.zip us)) :
    CallOk P w K mg base g (k + 1) x (defF ps.length N.length pb) := by
  obtain ⟨⟨fd, FD⟩, gx⟩ := T
  exact ⟨_, fd, ps, fn_ok FD S (hbody _) defF_ok, gx, FD.kp, FunD.bindsN FD hb⟩
theorem call_okF {P : Program} {w : World} {K : PySem.W.Frag} {mg : Str → Option Value} {base : Heap} {k : Nat} {x : Str} {st : Stmt} {N ps : List Str} {g : G} {pb : XB} {dv : He.Dv}
    (T : DefOk K mg x st [dv]) (S : FnScope N ps (defScope st))
    (hbody : ∀ (f : Addr) (cdv : Value) (A : Around) (outer : List PySem.Env) (s : Shared) (H : Hp) (E : XK), Room k (A.deeper (envOfC x (defScope st) s.heap.objs.size f cdv)) → PSs (cxOf (L2.CX P w) P w K mg base N x (defScope st) f cdv A outer s H E) (defBody st) (LS g (fun cls d _ H' => E cls d H') pb))
    (hb : ∀ (T : Addr) (kV doc pm : Value) (an : Option Addr) (cdv ct : Value) (us its : List Value), us.length = ps.length → its.length = 1 →
      ∃ k, bindArgs (PySem.W.fnOf x x (defArgs st) (defBody st) (defScope st) (.ref T) kV doc pm an cdv ct) ⟨us, []⟩ = seqItems? (.ref T) >>= k ∧ k (some its.toArray) = pure (ps.zip (us ++ its.drop 1))) :
    CallOk P w K mg base g (k + 1) x (defF ps.length N.length pb) := by
  obtain ⟨⟨fd, FD⟩, gx⟩ := T
  obtain ⟨ds, h1, h2⟩ := FunD.binds1 FD ps.length 1 (by simp) (by simp) (ps := ps) hb
  have e : ds = [] := by
    cases ds with
    | nil => rfl
    | cons => cases h1
  subst e
  exact ⟨_, fd, ps, fn_ok FD S (hbody _) defF_ok, gx, FD.kp, h2⟩
theorem call_okD {P : Program} {w : World} {K : PySem.W.Frag} {mg : Str → Option Value} {base : Heap} {k : Nat} {x : Str} {st : Stmt} {N ps : List Str} {g : G} {pb : XB} {dv : He.Dv} {ex : D}
    (T : DefOk K mg x st [dv]) (S : FnScope N ps (defScope st)) (n : Nat) (hn : n + 1 = ps.length) (hv : ∀ H, Rep g H (dv.v K) ex)
    (hbody : ∀ (f : Addr) (cdv : Value) (A : Around) (outer : List PySem.Env) (s : Shared) (H : Hp) (E : XK), Room k (A.deeper (envOfC x (defScope st) s.heap.objs.size f cdv)) → PSs (cxOf (L2.CX P w) P w K mg base N x (defScope st) f cdv A outer s H E) (defBody st) (LS g (fun cls d _ H' => E cls d H') pb))
    (hb : ∀ (T : Addr) (kV doc pm : Value) (an : Option Addr) (cdv ct : Value) (us its : List Value), us.length = n → its.length = 1 →
      ∃ k, bindArgs (PySem.W.fnOf x x (defArgs st) (defBody st) (defScope st) (.ref T) kV doc pm an cdv ct) ⟨us, []⟩ = seqItems? (.ref T) >>= k ∧ k (some its.toArray) = pure (ps.zip (us ++ its.drop 0))) :
    CallOkD P w K mg base g (k + 1) x (defF ps.length N.length pb) [ex] := by
  obtain ⟨⟨fd, FD⟩, gx⟩ := T
  obtain ⟨ds, h1, h2⟩ := FunD.binds1 FD n 0 (by simp) (by simpa using hn) (ps := ps) hb
  exact ⟨_, fd, ps, ds, _, fn_ok FD S (hbody _) defF_ok, gx, FD.kp, h2, h1, fun H => .cons (hv H) .nil⟩
/-- the law's def: its promise, and that it takes the script -/
structure LawOk (P : Program) (w : World) (K : PySem.W.Frag) (mg : Str → Option Value) (g : G) (k : Nat) (x a : Str) (F : List D → R D) : Prop where
  ex : ∃ fd, (∀ (s : Shared) (u : Value), BindsTo s fd ⟨[u], []⟩ [(a, u)]) ∧ ∀ base : Heap, K.In base → base.Ns mainGlobals mg → FnOk P w K mg base (L2.CX P w) k (He.ga K x) fd [a] (SpP g F)
theorem law_ok {P : Program} {w : World} {K : PySem.W.Frag} {mg : Str → Option Value} {k : Nat} {x a : Str} {st : Stmt} {N : List Str} {g : G} {pb : XB}
    (T : DefOk K mg x st []) (S : FnScope N [a] (defScope st))
    (hbody : ∀ (base : Heap) (f : Addr) (cdv : Value) (A : Around) (outer : List PySem.Env) (s : Shared) (H : Hp) (E : XK), Room k (A.deeper (envOfC x (defScope st) s.heap.objs.size f cdv)) → PSs (cxOf (L2.CX P w) P w K mg base N x (defScope st) f cdv A outer s H E) (defBody st) (LS g (fun cls d _ H' => E cls d H') pb))
    (hb : ∀ (kV doc pm : Value) (an : Option Addr) (cdv ct : Value) (us : List Value), us.length = 1 → bindArgs (PySem.W.fnOf x x (defArgs st) (defBody st) (defScope st) .none kV doc pm an cdv ct) ⟨us, []⟩ = pure ([a].zip us)) :
    LawOk P w K mg g (k + 1) x a (defF 1 N.length pb) := by
  obtain ⟨⟨fd, FD⟩, gx⟩ := T
  exact ⟨fd, fun s u => FunD.bindsA (ps := [a]) FD hb s [u] rfl, fun base _ _ => fn_ok FD S (hbody base _) (fun ds r h => defF_ok (n := 1) ds r h)⟩
theorem reps_ints {g : G} {H : Hp} (ns : List Int) : Reps g H (ns.map V.int) (ns.map D.int) := by
  induction ns with
  | nil => exact .nil
  | cons n r ih => exact .cons (.int n) ih
theorem walk_P {l : PySem.W.OpenLaw} {n k : Nat} {q : Program} {loose : List Str} {XP : (Str → Option Value) → Heap → Prop} {YP : World → Heap → Prop} {d : PySem.DefRec} {x : Str} {F : List D → R D}
    (hn : l.most = some n) (hn2 : n ≤ sizeLine) (hdf : d.params.defaults = []) (hr : Room k callerA)
    (hF : ∀ (w : World) (mg : Str → Option Value) (h : Heap), YP w h → h.Ns mainGlobals mg → 
      ∃ (K : PySem.W.Frag) (g : G), g.K = K ∧ K.In h ∧ mg d.name = some (.ref (He.ga K d.name)) ∧ LawOk l.prog w K mg g k d.name x F)
    (plain : ∀ ns : List Int, ns.length ≤ n → (∀ z ∈ ns, Builtin.Int.intBits z ≤ 1048576) → F [.frz (ns.map .int)] = ok (.bl true)) :
    PySem.W.WalkO q loose XP YP l.row.toRowW d [] (fun f vs => PySem.call f vs) := by
  refine Att.attach_callB hn hdf fun w s₀ s₁ mg mb fa o pm cd doc a vs ns G Y ho hd hcd hmg hobj hints hlen hbits hg => ?_
  obtain ⟨K, g, gK, KX, gm, ⟨fd, hb, hf⟩⟩ := hF w mg _ Y G.T.g
  rw [hmg] at gm
  cases gm
  subst gK
  refine law_call (sp := SpP g F) KX G.T.g G.T.b G.T.builtins G.T.nolimit hg hobj hints (Nat.le_trans hlen hn2) hr hf hb (fun H hO hS => ?_) fun H e s' z => ?_
  · refine ⟨fun _ => False, [.frz (ns.map .int)], fun b hh => hh.elim, .cons (.frz ?_ (reps_ints ns)) .nil, ?_⟩
    · have : hid (fun _ => False) H = H := by funext b; simp [hid]
      rw [this]
      exact hS
    · rw [plain ns hlen hbits]
      intro H' _ v hv
      cases hv
      rfl
  · obtain ⟨_, _, _, _, _, _, _, _, _, _, _, _, z⟩ := z
    exact z.elim
end Pu

/-! Pu14: words to reckon a plain meaning with. -/
namespace Pu
open PySem PySem.Spec L2
def seqK (r : Option (Fl × Env)) (b : XB) : Option (Fl × Env) := match r with
  | some (.nx, Γ') => b Γ'
  | r => r
@[simp] theorem seqK_nx {Γ : Env} {b : XB} : seqK (some (.nx, Γ)) b = b Γ := rfl
@[simp] theorem seqK_rt {d : D} {Γ : Env} {b : XB} : seqK (some (.rt d, Γ)) b = some (.rt d, Γ) := rfl
@[simp] theorem seqK_bk {Γ : Env} {b : XB} : seqK (some (.bk, Γ)) b = some (.bk, Γ) := rfl
@[simp] theorem seqK_ct {Γ : Env} {b : XB} : seqK (some (.ct, Γ)) b = some (.ct, Γ) := rfl
@[simp] theorem seqK_exc {c : Str} {x} {Γ : Env} {b : XB} : seqK (some (.exc c x, Γ)) b = some (.exc c x, Γ) := rfl
@[simp] theorem seqK_none {b : XB} : seqK none b = none := rfl
def oneK {α : Type} (r : R α) (k : α → XB) (Γ : Env) : Option (Fl × Env) := match r with
  | none => none
  | some (.exc c x) => some (.exc c x, Γ)
  | some (.ok d) => k d Γ
@[simp] theorem oneK_ok {α : Type} {a : α} {k : α → XB} {Γ : Env} : oneK (some (.ok a)) k Γ = k a Γ := rfl
@[simp] theorem oneK_exc {α : Type} {c : Str} {x} {k : α → XB} {Γ : Env} : oneK (some (.exc c x)) k Γ = some (.exc c x, Γ) := rfl
@[simp] theorem oneK_none {α : Type} {k : α → XB} {Γ : Env} : oneK none k Γ = none := rfl
def slotV : Option Slot → R D
  | some (.val d) => ok d
  | _ => none
@[simp] theorem slotV_val {d : D} : slotV (some (.val d)) = ok d := rfl
def blT : D → R Bool
  | .bl b => ok b
  | _ => none
@[simp] theorem blT_bl {b : Bool} : blT (.bl b) = ok b := rfl
section
variable {Γ : Env} {p q r : XS} {a b : XB} {s t : XT} {pa qa : XA} {f f' : D → D → Option D} {d e : D} {i j : Nat}
@[simp] theorem e_var : pVar i Γ = slotV Γ[i]? := by
  unfold pVar slotV
  cases Γ[i]? with
  | none => rfl
  | some s => cases s <;> rfl
@[simp] theorem e_c : pC d Γ = ok d := rfl
@[simp] theorem e_un {f : D → Option D} : pUn f p Γ = (p Γ).bind fun a => ofO (f a) := rfl
@[simp] theorem e_op : pOp f p q Γ = (p Γ).bind fun a => (q Γ).bind fun b => ofO (f a b) := rfl
@[simp] theorem e_tst : pTst p Γ = (p Γ).bind blT := by
  unfold pTst
  refine congrArg _ (funext fun a => ?_)
  cases a <;> rfl
@[simp] theorem e_andT : pAndT s t Γ = (s Γ).bind fun b => if b = true then t Γ else ok false := rfl
@[simp] theorem e_orT : pOrT s t Γ = (s Γ).bind fun b => if b = true then ok true else t Γ := rfl
@[simp] theorem e_notT : pNotT s Γ = (s Γ).bind fun b => ok (!b) := rfl
@[simp] theorem e_and : pAnd p q Γ = (p Γ).bind fun a => (blT a).bind fun b => if b = true then q Γ else ok (.bl false) := by
  unfold pAnd
  refine congrArg _ (funext fun a => ?_)
  cases a <;> rfl
@[simp] theorem e_or : pOr p q Γ = (p Γ).bind fun a => (blT a).bind fun b => if b = true then ok (.bl true) else q Γ := by
  unfold pOr
  refine congrArg _ (funext fun a => ?_)
  cases a <;> rfl
@[simp] theorem e_not : pNot p Γ = (p Γ).bind fun a => (blT a).bind fun b => ok (.bl (!b)) := by
  unfold pNot
  refine congrArg _ (funext fun a => ?_)
  cases a <;> rfl
@[simp] theorem e_if : pIf s p q Γ = (s Γ).bind fun b => if b = true then p Γ else q Γ := rfl
@[simp] theorem e_nil : pNil Γ = ok [] := rfl
@[simp] theorem e_cons : pCons p pa Γ = (p Γ).bind fun a => (pa Γ).bind fun as => ok (a :: as) := rfl
@[simp] theorem e_callN {f : List D → Option D} : pCallN f pa Γ = (pa Γ).bind fun as => ofO (f as) := rfl
@[simp] theorem e_tup : pTup pa Γ = (pa Γ).bind fun as => ok (.tup as) := rfl
@[simp] theorem e_lst : pLst pa Γ = (pa Γ).bind fun as => ok (.lst as) := rfl
def chK (x : Option D) (k : R D) : R D := match x with
  | some (.bl true) => k
  | some (.bl false) => ok (.bl false)
  | _ => none
theorem chK_bl {b : Bool} {k : R D} : chK (some (.bl b)) k = if b = true then k else ok (.bl false) := by cases b <;> rfl
@[simp] theorem e_chain : pChain f f' p q r Γ = (p Γ).bind fun a => (q Γ).bind fun b => chK (f a b) ((r Γ).bind fun c => ofO (f' b c)) := by
  unfold pChain
  refine congrArg _ (funext fun a => congrArg _ (funext fun b => ?_))
  cases f a b with
  | none => rfl
  | some e => cases e with
    | bl k => cases k <;> rfl
    | _ => rfl
@[simp] theorem e_call {F : List D → R D} : pCall F pa Γ = (pa Γ).bind F := rfl
@[simp] theorem e_callD {F : List D → R D} {ex : List D} : pCallD F pa ex Γ = (pa Γ).bind fun ds => F (ds ++ ex) := rfl
@[simp] theorem e_is {f : D → Option Bool} : pIs f p Γ = (p Γ).bind fun d => ofO ((f d).map .bl) := rfl
def msK (f : Str → List D → Option D) (pa : R (List D)) : D → R D
  | .str z => pa.bind fun as => ofO (f z as)
  | _ => none
@[simp] theorem msK_str {f : Str → List D → Option D} {x : R (List D)} {z : Str} : msK f x (.str z) = x.bind fun as => ofO (f z as) := rfl
@[simp] theorem e_ms {f : Str → List D → Option D} : pMs f p pa Γ = (p Γ).bind (msK f (pa Γ)) := by
  unfold pMs
  refine congrArg _ (funext fun a => ?_)
  cases a <;> rfl
def mlK (f : List D → List D → Option D) (pa : R (List D)) : D → R D
  | .lst z => pa.bind fun as => ofO (f z as)
  | _ => none
@[simp] theorem mlK_lst {f : List D → List D → Option D} {x : R (List D)} {z : List D} : mlK f x (.lst z) = x.bind fun as => ofO (f z as) := rfl
@[simp] theorem e_ml {f : List D → List D → Option D} : pMl f p pa Γ = (p Γ).bind (mlK f (pa Γ)) := by
  unfold pMl
  refine congrArg _ (funext fun a => ?_)
  cases a <;> rfl
@[simp] theorem e_noPart : pNoPart Γ = ok none := rfl
def parK : D → R (Option Int)
  | .int i => ok (some i)
  | _ => none
@[simp] theorem parK_int {i : Int} : parK (.int i) = ok (some i) := rfl
@[simp] theorem e_sl {lo hi : XO} : pSl p lo hi Γ = (p Γ).bind fun a => (lo Γ).bind fun l => (hi Γ).bind fun h => ofO (dCut l h a) := rfl
-- statements
@[simp] theorem e_seq : pSeq a b Γ = seqK (a Γ) b := by
  unfold pSeq seqK
  split <;> simp_all
theorem e_E1 {k : D → XB} : pE1 p k Γ = oneK (p Γ) k Γ := by
  unfold pE1 oneK
  split <;> simp_all
theorem e_A1 {k : List D → XB} : pA1 pa k Γ = oneK (pa Γ) k Γ := by
  unfold pA1 oneK
  split <;> simp_all
theorem e_T1 {k : Bool → XB} : pT1 s k Γ = oneK (s Γ) k Γ := by
  unfold pT1 oneK
  split <;> simp_all
@[simp] theorem e_next : pNext Γ = some (.nx, Γ) := rfl
@[simp] theorem e_set : pSet i p Γ = oneK (p Γ) (fun d Γ => some (.nx, Γ.set i (.val d))) Γ := e_E1
@[simp] theorem e_ret : pRet p Γ = oneK (p Γ) (fun d Γ => some (.rt d, Γ)) Γ := e_E1
@[simp] theorem e_retN : pRetN Γ = some (.rt .non, Γ) := rfl
@[simp] theorem e_ifS : pIfS s a b Γ = oneK (s Γ) (fun k Γ => if k = true then a Γ else b Γ) Γ := by
  unfold pIfS
  rw [e_T1]
  refine congrArg (fun k => oneK (s Γ) k Γ) (funext fun k => funext fun Γ => ?_)
  cases k <;> rfl
@[simp] theorem e_expr : pExpr p Γ = oneK (p Γ) (fun _ Γ => some (.nx, Γ)) Γ := e_E1
@[simp] theorem e_break : pBreak Γ = some (.bk, Γ) := rfl
@[simp] theorem e_cont : pCont Γ = some (.ct, Γ) := rfl
@[simp] theorem e_raise {c : Str} : pRaise c Γ = some (.exc c none, Γ) := rfl
def ret1 (x : Option Env) : Option (Fl × Env) := x.map fun Γ' => (.nx, Γ')
@[simp] theorem ret1_some : ret1 (some Γ) = some (.nx, Γ) := rfl
@[simp] theorem e_asg {T : Tg} : pAsg T p Γ = oneK (p Γ) (fun d Γ => ret1 (stT T d Γ)) Γ := e_E1
@[simp] theorem st_one : stT (.one i) d Γ = some (Γ.set i (.val d)) := by rw [stT]
@[simp] theorem st_tup {ts : List Tg} {ds : List D} : stT (.tup ts) (.tup ds) Γ = stTs ts ds Γ := by rw [stT]
@[simp] theorem st_nil : stTs [] [] Γ = some Γ := by rw [stTs]
@[simp] theorem st_cons {t : Tg} {ts : List Tg} {ds : List D} : stTs (t :: ts) (d :: ds) Γ = (stT t d Γ).bind fun Γ' => stTs ts ds Γ' := by
  rw [stTs]
  cases stT t d Γ <;> rfl
def parS (i j : Nat) : List D → XB
  | [x, y], Γ => some (.nx, (Γ.set i (.val x)).set j (.val y))
  | _, _ => none
@[simp] theorem parS_two {x y : D} : parS i j [x, y] Γ = some (.nx, (Γ.set i (.val x)).set j (.val y)) := rfl
@[simp] theorem e_par : pPar i j pa Γ = oneK (pa Γ) (parS i j) Γ := by
  unfold pPar
  rw [e_A1]
  refine congrArg (fun k => oneK (pa Γ) k Γ) (funext fun ds => funext fun Γ => ?_)
  match ds with
  | [] => rfl
  | [_] => rfl
  | [_, _] => rfl
  | _ :: _ :: _ :: _ => rfl
@[simp] theorem e_for {pl : XI} {T : Tg} : pFor pl T b Γ = oneK (pl Γ) (fun ds Γ => forB T b ds Γ) Γ := e_A1
@[simp] theorem e_setF : pSetF i pa Γ = oneK (pa Γ) (fun ds Γ => some (.nx, Γ.set i (.own ds))) Γ := e_A1
noncomputable def appK (i : Nat) (p : XS) (Γ : Env) : Option Slot → Option (Fl × Env)
  | some (.own ds) => oneK (p Γ) (fun d Γ => if fit (ds.length + 1) then some (.nx, Γ.set i (.own (ds ++ [d]))) else none) Γ
  | _ => none
@[simp] theorem appK_own {ds : List D} : appK i p Γ (some (.own ds)) = oneK (p Γ) (fun d Γ => if fit (ds.length + 1) then some (.nx, Γ.set i (.own (ds ++ [d]))) else none) Γ := rfl
@[simp] theorem e_app : pApp i p Γ = appK i p Γ Γ[i]? := by
  unfold pApp appK
  cases Γ[i]? with
  | none => rfl
  | some s => cases s with
    | own ds => exact e_E1
    | _ => rfl
def shK (i : Nat) (Γ : Env) : Option Slot → Option (Fl × Env)
  | some (.own ds) => some (.nx, Γ.set i (.val (.lst ds)))
  | some (.val _) => some (.nx, Γ)
  | _ => none
@[simp] theorem shK_own {ds : List D} : shK i Γ (some (.own ds)) = some (.nx, Γ.set i (.val (.lst ds))) := rfl
@[simp] theorem shK_val : shK i Γ (some (.val d)) = some (.nx, Γ) := rfl
@[simp] theorem e_share : pShare i Γ = shK i Γ Γ[i]? := by
  unfold pShare shK
  cases Γ[i]? with
  | none => rfl
  | some s => cases s <;> rfl
def walkT : D → R (List D)
  | .str z => ok (z.cps.toList.map fun c => .str ⟨#[c]⟩)
  | _ => none
@[simp] theorem walkT_str {z : Str} : walkT (.str z) = ok (z.cps.toList.map fun c => .str ⟨#[c]⟩) := rfl
@[simp] theorem e_is' : pIs' p Γ = (p Γ).bind walkT := by
  unfold pIs'
  refine congrArg _ (funext fun a => ?_)
  cases a <;> rfl
def walkL : D → R (List D)
  | .lst ds => ok ds
  | .frz ds => ok ds
  | _ => none
@[simp] theorem walkL_lst {ds : List D} : walkL (.lst ds) = ok ds := rfl
@[simp] theorem walkL_frz {ds : List D} : walkL (.frz ds) = ok ds := rfl
@[simp] theorem e_il : pIl p Γ = (p Γ).bind walkL := by
  unfold pIl
  refine congrArg _ (funext fun a => ?_)
  cases a <;> rfl
def walkU : D → R (List D)
  | .tup ds => ok ds
  | _ => none
@[simp] theorem walkU_tup {ds : List D} : walkU (.tup ds) = ok ds := rfl
@[simp] theorem e_it : pIt p Γ = (p Γ).bind walkU := by
  unfold pIt
  refine congrArg _ (funext fun a => ?_)
  cases a <;> rfl
def tryK (cat : Str → Option Bool) (i : Nat) (suite : XB) : Option (Fl × Env) → Option (Fl × Env)
  | some (.exc c x, Γ1) => (match cat c with
    | some true => if noExn Γ1 = true then (match suite (Γ1.set i (.exn c x)) with
      | some (.exc _ _, _) => none
      | some (fl, Γ2) => if noExn (Γ2.set i .un) = true then some (fl, Γ2.set i .un) else none
      | none => none) else none
    | some false => some (.exc c x, Γ1)
    | none => none)
  | r => r
def tryS (i : Nat) : Option (Fl × Env) → Option (Fl × Env)
  | some (.exc _ _, _) => none
  | some (fl, Γ2) => if noExn (Γ2.set i .un) = true then some (fl, Γ2.set i .un) else none
  | none => none
theorem tryK_hit {cat : Str → Option Bool} {i : Nat} {su : XB} {c : Str} {x} {Γ1 : Env} (h : cat c = some true) (hn : noExn Γ1 = true) : tryK cat i su (some (.exc c x, Γ1)) = tryS i (su (Γ1.set i (.exn c x))) := by
  show (match cat c with
    | some true => if noExn Γ1 = true then (match su (Γ1.set i (.exn c x)) with
      | some (.exc _ _, _) => none
      | some (fl, Γ2) => if noExn (Γ2.set i .un) = true then some (fl, Γ2.set i .un) else none
      | none => none) else none
    | some false => some (.exc c x, Γ1)
    | none => none) = _
  rw [h]
  exact if_pos hn
theorem tryK_miss {cat : Str → Option Bool} {i : Nat} {su : XB} {c : Str} {x} {Γ1 : Env} (h : cat c = some false) : tryK cat i su (some (.exc c x, Γ1)) = some (.exc c x, Γ1) := by
  show (match cat c with
    | some true => if noExn Γ1 = true then (match su (Γ1.set i (.exn c x)) with
      | some (.exc _ _, _) => none
      | some (fl, Γ2) => if noExn (Γ2.set i .un) = true then some (fl, Γ2.set i .un) else none
      | none => none) else none
    | some false => some (.exc c x, Γ1)
    | none => none) = _
  rw [h]
@[simp] theorem tryK_nx {cat : Str → Option Bool} {i : Nat} {su : XB} {Γ1 : Env} : tryK cat i su (some (.nx, Γ1)) = some (.nx, Γ1) := rfl
@[simp] theorem tryK_rt {cat : Str → Option Bool} {i : Nat} {su : XB} {Γ1 : Env} : tryK cat i su (some (.rt d, Γ1)) = some (.rt d, Γ1) := rfl
@[simp] theorem tryS_nx {i : Nat} : tryS i (some (.nx, Γ)) = if noExn (Γ.set i .un) = true then some (.nx, Γ.set i .un) else none := rfl
@[simp] theorem tryS_rt {i : Nat} : tryS i (some (.rt d, Γ)) = if noExn (Γ.set i .un) = true then some (.rt d, Γ.set i .un) else none := rfl
@[simp] theorem tryS_ct {i : Nat} : tryS i (some (.ct, Γ)) = if noExn (Γ.set i .un) = true then some (.ct, Γ.set i .un) else none := rfl
@[simp] theorem e_tryAs {cat : Str → Option Bool} {i : Nat} {bo su : XB} : pTryAs cat i bo su Γ = tryK cat i su (bo Γ) := by
  unfold pTryAs tryK
  generalize bo Γ = z
  cases z with
  | none => rfl
  | some z =>
    obtain ⟨fl, Γ1⟩ := z
    cases fl <;> rfl
def isEK (f : Str → Option Bool) : Option Slot → R D
  | some (.exn c none) => ofO ((f c).map .bl)
  | _ => none
@[simp] theorem isEK_exn {f : Str → Option Bool} {c : Str} : isEK f (some (.exn c none)) = ofO ((f c).map .bl) := rfl
@[simp] theorem e_isE {f : Str → Option Bool} {i : Nat} : pIsE i f Γ = isEK f Γ[i]? := by
  unfold pIsE isEK
  cases Γ[i]? with
  | none => rfl
  | some s => cases s with
    | exn c x => cases x <;> rfl
    | _ => rfl
@[simp] theorem noExn_nil : noExn [] = true := rfl
@[simp] theorem noExn_un : noExn (.un :: Γ) = noExn Γ := rfl
@[simp] theorem noExn_val : noExn (.val d :: Γ) = noExn Γ := rfl
@[simp] theorem noExn_own {ds : List D} : noExn (.own ds :: Γ) = noExn Γ := rfl
noncomputable def rng1 : List D → R (List D)
  | [.int j] => if -(2 ^ 62) ≤ j ∧ j < 2 ^ 62 then ok (rangeD 0 j.toNat) else none
  | _ => none
noncomputable def rng2 : List D → R (List D)
  | [.int i, .int j] => if -(2 ^ 62) ≤ i ∧ i < 2 ^ 62 ∧ -(2 ^ 62) ≤ j ∧ j < 2 ^ 62 then ok (rangeD i (j - i).toNat) else none
  | _ => none
theorem rng1_int {j : Int} (h1 : -4611686018427387904 ≤ j) (h2 : j < 4611686018427387904) : rng1 [.int j] = ok (rangeD 0 j.toNat) := if_pos ⟨h1, h2⟩
theorem rng2_int {i j : Int} (h1 : -4611686018427387904 ≤ i) (h2 : i < 4611686018427387904) (h3 : -4611686018427387904 ≤ j) (h4 : j < 4611686018427387904) : rng2 [.int i, .int j] = ok (rangeD i (j - i).toNat) := if_pos ⟨h1, h2, h3, h4⟩
@[simp] theorem e_r1 : pR1 pa Γ = (pa Γ).bind rng1 := rfl
@[simp] theorem e_r2 : pR2 pa Γ = (pa Γ).bind rng2 := rfl
-- loops
def lpK (T : Tg) (b : XB) (ds : List D) : Option (Fl × Env) → Option (Fl × Env)
  | some (.nx, Γ2) => forB T b ds Γ2
  | some (.ct, Γ2) => forB T b ds Γ2
  | some (.bk, Γ2) => some (.nx, Γ2)
  | r => r
@[simp] theorem lpK_nx {T : Tg} {ds : List D} : lpK T b ds (some (.nx, Γ)) = forB T b ds Γ := rfl
@[simp] theorem lpK_ct {T : Tg} {ds : List D} : lpK T b ds (some (.ct, Γ)) = forB T b ds Γ := rfl
@[simp] theorem lpK_bk {T : Tg} {ds : List D} : lpK T b ds (some (.bk, Γ)) = some (.nx, Γ) := rfl
@[simp] theorem lpK_rt {T : Tg} {ds : List D} : lpK T b ds (some (.rt d, Γ)) = some (.rt d, Γ) := rfl
@[simp] theorem lpK_exc {T : Tg} {ds : List D} {c : Str} {x} : lpK T b ds (some (.exc c x, Γ)) = some (.exc c x, Γ) := rfl
theorem for_nil {T : Tg} : forB T b [] Γ = some (.nx, Γ) := rfl
theorem for_cons {T : Tg} {ds : List D} : forB T b (d :: ds) Γ = (stT T d Γ).bind fun Γ1 => lpK T b ds (b Γ1) := by
  show (match stT T d Γ with
    | none => none
    | some Γ1 => match b Γ1 with
      | some (.nx, Γ2) => forB T b ds Γ2
      | some (.ct, Γ2) => forB T b ds Γ2
      | some (.bk, Γ2) => some (.nx, Γ2)
      | r => r) = _
  cases stT T d Γ with
  | none => rfl
  | some Γ1 =>
    show (match b Γ1 with
      | some (.nx, Γ2) => forB T b ds Γ2
      | some (.ct, Γ2) => forB T b ds Γ2
      | some (.bk, Γ2) => some (.nx, Γ2)
      | r => r) = lpK T b ds (b Γ1)
    generalize b Γ1 = x
    cases x with
    | none => rfl
    | some r =>
      obtain ⟨fl, Γ2⟩ := r
      cases fl <;> rfl
theorem for_one {ds : List D} : forB (.one i) b (d :: ds) Γ = lpK (.one i) b ds (b (Γ.set i (.val d))) := by rw [for_cons, st_one]; rfl
def whK (s : XT) (b : XB) (n : Nat) : Option (Fl × Env) → Option (Fl × Env)
  | some (.nx, Γ') => whB s b n Γ'
  | some (.ct, Γ') => whB s b n Γ'
  | some (.bk, Γ') => some (.nx, Γ')
  | r => r
@[simp] theorem whK_nx {n : Nat} : whK s b n (some (.nx, Γ)) = whB s b n Γ := rfl
@[simp] theorem whK_ct {n : Nat} : whK s b n (some (.ct, Γ)) = whB s b n Γ := rfl
@[simp] theorem whK_bk {n : Nat} : whK s b n (some (.bk, Γ)) = some (.nx, Γ) := rfl
@[simp] theorem whK_rt {n : Nat} : whK s b n (some (.rt d, Γ)) = some (.rt d, Γ) := rfl
@[simp] theorem whK_exc {n : Nat} {c : Str} {x} : whK s b n (some (.exc c x, Γ)) = some (.exc c x, Γ) := rfl
theorem wh_succ {n : Nat} : whB s b (n + 1) Γ = oneK (s Γ) (fun k Γ => if k = true then whK s b n (b Γ) else some (.nx, Γ)) Γ := by
  rw [whB, e_T1]
  refine congrArg (fun k => oneK (s Γ) k Γ) (funext fun k => funext fun Γ => ?_)
  cases k with
  | false => rfl
  | true =>
    show (match b Γ with
      | some (.nx, Γ') => whB s b n Γ'
      | some (.ct, Γ') => whB s b n Γ'
      | some (.bk, Γ') => some (.nx, Γ')
      | r => r) = whK s b n (b Γ)
    generalize b Γ = x
    cases x with
    | none => rfl
    | some r =>
      obtain ⟨fl, Γ2⟩ := r
      cases fl <;> rfl
@[simp] theorem runB_rt : runB (some (.rt d, Γ)) = ok d := rfl
@[simp] theorem runB_nx : runB (some (.nx, Γ)) = ok .non := rfl
@[simp] theorem runB_exc {c : Str} {x} : runB (some (.exc c x, Γ)) = exc c x := rfl
-- values
@[simp] theorem is_int_non : isB "int" .non = some false := rfl
@[simp] theorem is_int_bl {x : Bool} : isB "int" (.bl x) = some true := rfl
@[simp] theorem is_int_int {x : Int} : isB "int" (.int x) = some true := rfl
@[simp] theorem is_int_str {x : Str} : isB "int" (.str x) = some false := rfl
@[simp] theorem is_int_lst {x : List D} : isB "int" (.lst x) = some false := rfl
@[simp] theorem is_int_frz {x : List D} : isB "int" (.frz x) = some false := rfl
@[simp] theorem is_int_tup {x : List D} : isB "int" (.tup x) = some false := rfl
@[simp] theorem is_bool_non : isB "bool" .non = some false := rfl
@[simp] theorem is_bool_bl {x : Bool} : isB "bool" (.bl x) = some true := rfl
@[simp] theorem is_bool_int {x : Int} : isB "bool" (.int x) = some false := rfl
@[simp] theorem is_bool_str {x : Str} : isB "bool" (.str x) = some false := rfl
@[simp] theorem is_bool_lst {x : List D} : isB "bool" (.lst x) = some false := rfl
@[simp] theorem is_bool_frz {x : List D} : isB "bool" (.frz x) = some false := rfl
@[simp] theorem is_bool_tup {x : List D} : isB "bool" (.tup x) = some false := rfl
@[simp] theorem is_str_non : isB "str" .non = some false := rfl
@[simp] theorem is_str_bl {x : Bool} : isB "str" (.bl x) = some false := rfl
@[simp] theorem is_str_int {x : Int} : isB "str" (.int x) = some false := rfl
@[simp] theorem is_str_str {x : Str} : isB "str" (.str x) = some true := rfl
@[simp] theorem is_str_lst {x : List D} : isB "str" (.lst x) = some false := rfl
@[simp] theorem is_str_frz {x : List D} : isB "str" (.frz x) = some false := rfl
@[simp] theorem is_str_tup {x : List D} : isB "str" (.tup x) = some false := rfl
@[simp] theorem is_list_non : isB "list" .non = some false := rfl
@[simp] theorem is_list_bl {x : Bool} : isB "list" (.bl x) = some false := rfl
@[simp] theorem is_list_int {x : Int} : isB "list" (.int x) = some false := rfl
@[simp] theorem is_list_str {x : Str} : isB "list" (.str x) = some false := rfl
@[simp] theorem is_list_lst {x : List D} : isB "list" (.lst x) = some true := rfl
@[simp] theorem is_list_frz {x : List D} : isB "list" (.frz x) = some true := rfl
@[simp] theorem is_list_tup {x : List D} : isB "list" (.tup x) = some false := rfl
@[simp] theorem is_tuple_non : isB "tuple" .non = some false := rfl
@[simp] theorem is_tuple_bl {x : Bool} : isB "tuple" (.bl x) = some false := rfl
@[simp] theorem is_tuple_int {x : Int} : isB "tuple" (.int x) = some false := rfl
@[simp] theorem is_tuple_str {x : Str} : isB "tuple" (.str x) = some false := rfl
@[simp] theorem is_tuple_lst {x : List D} : isB "tuple" (.lst x) = some false := rfl
@[simp] theorem is_tuple_frz {x : List D} : isB "tuple" (.frz x) = some false := rfl
@[simp] theorem is_tuple_tup {x : List D} : isB "tuple" (.tup x) = some true := rfl
end
end Pu

/-! Pu15: values: what the operations give. -/
namespace Pu
open PySem PySem.Spec L2
/-- a text by its codes -/
abbrev tx (l : List Nat) : Str := ⟨l.toArray⟩
@[simp] theorem len_tx (l : List Nat) : (tx l).length = l.length := SX.S_len l
@[simp] theorem cat_tx (a b : List Nat) : tx a ++ tx b = tx (a ++ b) := SX.S_cat a b
theorem tx_inj {a b : List Nat} : tx a = tx b ↔ a = b := ⟨SX.S_inj, fun h => by rw [h]⟩
theorem lit_tx (s : String) : Str.ofString s = tx (s.toList.map Char.toNat) := TL.ext_tl (TL.tl_ofString s)
theorem num_tx {i : Int} (h : 0 ≤ i) : Str.ofString (toString i) = tx (TL.numL i.toNat) := by
  obtain ⟨n, rfl⟩ := Int.eq_ofNat_of_zero_le h
  exact SX.num_S n
/-- codes of a text that can be compared deep down -/
def okL (l : List Nat) : Prop := ∀ c ∈ l, c < 1114112
theorem okL_ok {l : List Nat} (h : okL l) : SeqAt.shaped (toPy (.str (tx l))) = true := by
  rw [toPy, SeqAt.shaped, PyData.canLay0, PyData.depth]
  have e : PyData.strOk (tx l) = true := by
    unfold PyData.strOk
    rw [Array.all_eq_true_iff_forall_mem]
    intro c hc
    exact decide_eq_true (h c (by simpa using hc))
  rw [e]
  decide
theorem okL_num (n : Nat) : okL (TL.numL n) := fun c hc => by
  have := TL.numL_digits n c hc
  omega
theorem okL_dig {l : List Nat} (h : NumText.AllDigits l) : okL l := fun c hc => by
  have := h c hc
  omega
theorem okL_app {a b : List Nat} (ha : okL a) (hb : okL b) : okL (a ++ b) := fun c hc => (List.mem_append.mp hc).elim (ha c) (hb c)
section
variable {i j : Int} {a b : List Nat} {d e : D} {ds es : List D}
@[simp] theorem eq_int : dEq (.int i) (.int j) = some (.bl (decide (i = j))) := by
  unfold dEq
  rw [toPy, toPy, if_pos ⟨rfl, rfl⟩, PyData.eqv]
  by_cases h : i = j <;> simp [h]
@[simp] theorem ne_int : dNe (.int i) (.int j) = some (.bl (decide (i ≠ j))) := by
  unfold dNe
  rw [toPy, toPy, if_pos ⟨rfl, rfl⟩, PyData.eqv]
  congr 2
  by_cases h : i = j <;> simp [h]
theorem eq_str (ha : okL a) (hb : okL b) : dEq (.str (tx a)) (.str (tx b)) = some (.bl (decide (a = b))) := by
  unfold dEq
  rw [if_pos ⟨okL_ok ha, okL_ok hb⟩, toPy, toPy, PyData.eqv]
  congr 2
  by_cases h : a = b
  · simp [h]
  · have : ¬ tx a = tx b := fun z => h (SX.S_inj z)
    simp [h, this]
theorem ne_str (ha : okL a) (hb : okL b) : dNe (.str (tx a)) (.str (tx b)) = some (.bl (decide (a ≠ b))) := by
  unfold dNe
  rw [if_pos ⟨okL_ok ha, okL_ok hb⟩, toPy, toPy, PyData.eqv]
  congr 2
  by_cases h : a = b
  · simp [h]
  · have : ¬ tx a = tx b := fun z => h (SX.S_inj z)
    simp [h, this]
theorem shaped_pair : SeqAt.shaped (toPy (.tup [.int i, .int j])) = true := by
  simp only [toPy, toPys]
  rfl
@[simp] theorem eq_pair {k l : Int} : dEq (.tup [.int i, .int j]) (.tup [.int k, .int l]) = some (.bl (decide (i = k ∧ j = l))) := by
  unfold dEq
  rw [if_pos ⟨shaped_pair, shaped_pair⟩]
  simp only [toPy, toPys, PyData.eqv, PyData.eqvAll]
  congr 2
  by_cases h : i = k <;> by_cases h2 : j = l <;> simp [h, h2]
@[simp] theorem ne_pair {k l : Int} : dNe (.tup [.int i, .int j]) (.tup [.int k, .int l]) = some (.bl (decide (¬ (i = k ∧ j = l)))) := by
  unfold dNe
  rw [if_pos ⟨shaped_pair, shaped_pair⟩]
  simp only [toPy, toPys, PyData.eqv, PyData.eqvAll]
  congr 2
  by_cases h : i = k <;> by_cases h2 : j = l <;> simp [h, h2]
@[simp] theorem lt_int : dLt (.int i) (.int j) = some (.bl (decide (i < j))) := rfl
@[simp] theorem le_int' : dLe (.int i) (.int j) = some (.bl (decide (i ≤ j))) := rfl
@[simp] theorem gt_int : dGt (.int i) (.int j) = some (.bl (decide (j < i))) := rfl
@[simp] theorem ge_int : dGe (.int i) (.int j) = some (.bl (decide (j ≤ i))) := rfl
@[simp] theorem add_int : dAdd (.int i) (.int j) = some (.int (i + j)) := rfl
@[simp] theorem sub_int : dSub (.int i) (.int j) = some (.int (i - j)) := rfl
@[simp] theorem neg_int : dNeg (.int i) = some (.int (-i)) := rfl
theorem mod_int (h : 0 < j) : dMod (.int i) (.int j) = some (.int (i % j)) := if_pos h
theorem log2_lt {j : Int} {k : Nat} (h0 : 0 < j) (h : j < 2 ^ k) : j.natAbs.log2 < k := by
  obtain ⟨n, rfl⟩ := Int.eq_ofNat_of_zero_le (Int.le_of_lt h0)
  have h1 : n < 2 ^ k := by
    have e : ((2 : Int) ^ k) = ((2 ^ k : Nat) : Int) := by simp
    rw [e] at h
    exact Int.ofNat_lt.mp h
  have h2 : n ≠ 0 := by omega
  exact (Nat.log2_lt h2).mpr h1
theorem div_int (h : 0 < j) (h2 : j.natAbs.log2 < 9000) : dDiv (.int i) (.int j) = some (.int (i / j)) := if_pos ⟨h, h2⟩
theorem div_lit (h : 0 < j) (h2 : j < 1000000000000000000) : dDiv (.int i) (.int j) = some (.int (i / j)) :=
  div_int h (Nat.lt_trans (log2_lt (k := 60) h (Int.lt_trans h2 (by decide))) (by decide))
theorem mul_r (h : -1000000000000000000 < j) (h2 : j < 1000000000000000000) : dMulA (.int i) (.int j) = some (.int (i * j)) := by
  show dMul (.int i) (.int j) = _
  exact if_pos (Or.inr (Or.inl ⟨Int.lt_trans (by decide) h, Int.lt_trans h2 (by decide)⟩))
theorem mul_l (h : -1000000000000000000 < i) (h2 : i < 1000000000000000000) : dMulA (.int i) (.int j) = some (.int (i * j)) := by
  show dMul (.int i) (.int j) = _
  exact if_pos (Or.inl ⟨Int.lt_trans (by decide) h, Int.lt_trans h2 (by decide)⟩)
theorem pow_int {n : Nat} (h : (-1000000000000000000 : Int) < i) (h2 : i < 1000000000000000000) (hn : n ≤ 1000000) : dPow (.int i) (.int (n : Int)) = some (.int (i ^ n)) := by
  have : CPow i (n : Int) := ⟨Int.natCast_nonneg n, by omega, by
    have : (2 : Nat) ^ 64 = 18446744073709551616 := by decide
    omega⟩
  show (if CPow i (n : Int) then some (D.int (i ^ (n : Int).toNat)) else none) = _
  rw [if_pos this, Int.toNat_natCast]
theorem cat_str (h : a.length + b.length ≤ 16777216) : dAdd (.str (tx a)) (.str (tx b)) = some (.str (tx (a ++ b))) := by
  show (if fit ((tx a).length + (tx b).length) then some (D.str (tx a ++ tx b)) else none) = _
  rw [if_pos (fit_small (by simpa using h)), cat_tx]
theorem cat_lst (h : ds.length + es.length ≤ 16777216) : dAdd (.lst ds) (.lst es) = some (.lst (ds ++ es)) := if_pos (fit_small h)
theorem rep_str {n : Nat} (h : n ≤ 16777216) (h2 : n * a.length ≤ 16777216) : dMulA (.str (tx a)) (.int (n : Int)) = some (.str (tx (List.replicate n a).flatten)) := by
  show (if 0 ≤ (n : Int) ∧ (n : Int) ≤ 16777216 ∧ (n : Int).toNat * (tx a).length ≤ 16777216 then some (D.str (repS (tx a) (n : Int).toNat)) else none) = _
  rw [if_pos ⟨Int.natCast_nonneg n, by omega, by simpa using h2⟩]
  rfl
theorem str_int (h : 0 ≤ i) (h2 : i < 10 ^ 500) : fStr [.int i] = some (.str (tx (TL.numL i.toNat))) := by
  show (if i.natAbs.log2 < 1920 then some (D.str (Str.ofString (toString i))) else none) = _
  rw [num_tx h]
  refine if_pos ?_
  by_cases h0 : i = 0
  · subst h0; decide
  · exact log2_lt (by omega) (Int.lt_trans h2 (by decide +kernel))
theorem int_tx {l : List Nat} (h : NumText.AllDigits l) (hn : l ≠ []) (hl : l.length ≤ 640) : fInt [.str (tx l)] = some (.int (NumText.digitsVal l : Nat)) := by
  have e := PySem.intText_digits (x := tx l) h hn (by rw [len_tx]; omega)
  show (if (tx l).length ≤ 640 then (intText? (tx l)).map D.int else none) = _
  rw [e, if_pos (by rw [len_tx]; exact hl)] <;> rfl
@[simp] theorem len_lst : fLen [.lst ds] = some (.int ds.length) := rfl
@[simp] theorem len_tup : fLen [.tup ds] = some (.int ds.length) := rfl
@[simp] theorem len_frz : fLen [.frz ds] = some (.int ds.length) := rfl
theorem len_str (h : a.length ≤ 16777216) : fLen [.str (tx a)] = some (.int a.length) := by
  show (if (tx a).length ≤ 16777216 then some (D.int (tx a).length) else none) = _
  rw [len_tx, if_pos h]
@[simp] theorem abs_int : fAbs [.int i] = some (.int (if i < 0 then -i else i)) := rfl
@[simp] theorem ix_lst : dIx (.lst ds) (.int i) = atI ds i := rfl
@[simp] theorem ix_tup : dIx (.tup ds) (.int i) = atI ds i := rfl
@[simp] theorem ix_frz : dIx (.frz ds) (.int i) = atI ds i := rfl
theorem at_nat {α : Type} {xs : List α} (n : Nat) : atI xs (n : Int) = xs[n]? := by
  unfold atI ixN
  rw [if_pos (Int.natCast_nonneg n)]
  by_cases h : n < xs.length
  · rw [if_pos (by omega)]
    simp
  · rw [if_neg (by omega), List.getElem?_eq_none (by omega)]
    rfl
@[simp] theorem at_0 {α : Type} {xs : List α} : atI xs 0 = xs[0]? := at_nat 0
@[simp] theorem at_1 {α : Type} {xs : List α} : atI xs 1 = xs[1]? := at_nat 1
@[simp] theorem at_2 {α : Type} {xs : List α} : atI xs 2 = xs[2]? := at_nat 2
@[simp] theorem at_3 {α : Type} {xs : List α} : atI xs 3 = xs[3]? := at_nat 3
@[simp] theorem at_4 {α : Type} {xs : List α} : atI xs 4 = xs[4]? := at_nat 4
@[simp] theorem at_5 {α : Type} {xs : List α} : atI xs 5 = xs[5]? := at_nat 5
@[simp] theorem at_6 {α : Type} {xs : List α} : atI xs 6 = xs[6]? := at_nat 6
@[simp] theorem at_7 {α : Type} {xs : List α} : atI xs 7 = xs[7]? := at_nat 7
@[simp] theorem at_8 {α : Type} {xs : List α} : atI xs 8 = xs[8]? := at_nat 8
@[simp] theorem at_9 {α : Type} {xs : List α} : atI xs 9 = xs[9]? := at_nat 9
@[simp] theorem at_10 {α : Type} {xs : List α} : atI xs 10 = xs[10]? := at_nat 10
@[simp] theorem at_11 {α : Type} {xs : List α} : atI xs 11 = xs[11]? := at_nat 11
@[simp] theorem at_12 {α : Type} {xs : List α} : atI xs 12 = xs[12]? := at_nat 12
@[simp] theorem at_13 {α : Type} {xs : List α} : atI xs 13 = xs[13]? := at_nat 13
@[simp] theorem at_14 {α : Type} {xs : List α} : atI xs 14 = xs[14]? := at_nat 14
@[simp] theorem at_15 {α : Type} {xs : List α} : atI xs 15 = xs[15]? := at_nat 15
@[simp] theorem at_16 {α : Type} {xs : List α} : atI xs 16 = xs[16]? := at_nat 16
@[simp] theorem at_17 {α : Type} {xs : List α} : atI xs 17 = xs[17]? := at_nat 17
@[simp] theorem at_18 {α : Type} {xs : List α} : atI xs 18 = xs[18]? := at_nat 18
@[simp] theorem at_19 {α : Type} {xs : List α} : atI xs 19 = xs[19]? := at_nat 19
@[simp] theorem at_20 {α : Type} {xs : List α} : atI xs 20 = xs[20]? := at_nat 20
theorem at_toNat {α : Type} {xs : List α} {i : Int} (h : 0 ≤ i) : atI xs i = xs[i.toNat]? := by
  obtain ⟨n, rfl⟩ := Int.eq_ofNat_of_zero_le h
  exact at_nat n
theorem notIn_str {c : Nat} : dNotIn (.str (tx [c])) (.str (tx b)) = some (.bl (!decide (c ∈ b))) := rfl
theorem in_str {c : Nat} : dIn (.str (tx [c])) (.str (tx b)) = some (.bl (decide (c ∈ b))) := rfl
/-- starts with one sign -/
theorem starts_one {c : Nat} : mStarts (tx a) [.str (tx [c])] = some (.bl (decide (a.head? = some c))) := by
  show some (D.bl (Txt.startswith (tx a) (tx [c]))) = _
  congr 2
  unfold Txt.startswith Builtin.Str.subAt
  cases a with
  | nil => rfl
  | cons x r =>
    simp [Str.length]
    by_cases h : x = c <;> simp [h]
theorem part_some {c : Nat} {p q : List Nat} (h : c ∉ p) (hl : p.length + q.length + 1 ≤ 16777216) : mPart (tx (p ++ c :: q)) [.str (tx [c])] = some (.tup [.str (tx p), .str (tx [c]), .str (tx q)]) := by
  show (if ((tx [c]).length == 0) = false ∧ (tx (p ++ c :: q)).length ≤ 16777216 then _ else _) = _
  rw [if_pos ⟨rfl, by rw [len_tx]; simp; omega⟩]
  have e := SX.partition_some (a := p ++ c :: q) (b := [c]) (by simp) (SX.par_head q h)
  rw [e]
theorem part_none {c : Nat} {p : List Nat} (h : c ∉ p) (hl : p.length ≤ 16777216) : mPart (tx p) [.str (tx [c])] = some (.tup [.str (tx p), .str (tx []), .str (tx [])]) := by
  show (if ((tx [c]).length == 0) = false ∧ (tx p).length ≤ 16777216 then _ else _) = _
  rw [if_pos ⟨rfl, by rw [len_tx]; exact hl⟩]
  have e := SX.partition_none (a := p) (b := [c]) (by simp) (SX.par_head_none h)
  rw [e]
end
end Pu

namespace Pu
open PySem PySem.Spec L2
def raisedX : List Str := ["NoNumber", "NoText"]
def isx_BadMachine (c : Str) : Option Bool := isx [] raisedX c
def isx_NoMark (c : Str) : Option Bool := isx [] raisedX c
def isx_NoNumber (c : Str) : Option Bool := isx ["NoNumber"] raisedX c
def isx_NoRoad (c : Str) : Option Bool := isx [] raisedX c
def isx_NoRoom (c : Str) : Option Bool := isx [] raisedX c
def isx_NoRow (c : Str) : Option Bool := isx [] raisedX c
def isx_NoRun (c : Str) : Option Bool := isx [] raisedX c
def isx_NoText (c : Str) : Option Bool := isx ["NoText"] raisedX c
def isx_TooMany (c : Str) : Option Bool := isx [] raisedX c
def isx_ValueError (c : Str) : Option Bool := isx ["NoNumber", "NoText"] raisedX c
def cat_WalkError (c : Str) : Option Bool := isx ["NoNumber", "NoText"] raisedX c
noncomputable def sem_is_whole : XB := (pRet (pAnd (pIs (isB "int") (pVar 0)) (pNot (pIs (isB "bool") (pVar 0)))))
noncomputable def F_is_whole : List D → R D := defF 1 1 sem_is_whole
noncomputable def sem_divisor_l1 : XB := (pPar 0 1 (pCons (pVar 1) (pCons (pOp dMod (pVar 0) (pVar 1)) pNil)))
noncomputable def sem_divisor : XB := (pSeq (pWhile (pTst (pOp dNe (pVar 1) (pC (.int 0)))) sem_divisor_l1) (pRet (pCallN fAbs (pCons (pVar 0) pNil))))
noncomputable def F_divisor : List D → R D := defF 2 2 sem_divisor
noncomputable def sem_is_fraction_r1 : XB := (pSeq (pIfS (pOrT (pNotT (pTst (pCall F_is_whole (pCons (pOp dIx (pVar 0) (pC (.int 0))) pNil)))) (pOrT (pNotT (pTst (pCall F_is_whole (pCons (pOp dIx (pVar 0) (pC (.int 1))) pNil)))) (pTst (pOp dLt (pOp dIx (pVar 0) (pC (.int 1))) (pC (.int 1)))))) (pRet (pC (.bl false))) pNext) (pRet (pOp dEq (pCall F_divisor (pCons (pOp dIx (pVar 0) (pC (.int 0))) (pCons (pOp dIx (pVar 0) (pC (.int 1))) pNil))) (pC (.int 1)))))
noncomputable def sem_is_fraction : XB := (pSeq (pIfS (pOrT (pNotT (pTst (pIs (isB "tuple") (pVar 0)))) (pTst (pOp dNe (pCallN fLen (pCons (pVar 0) pNil)) (pC (.int 2))))) (pRet (pC (.bl false))) pNext) sem_is_fraction_r1)
noncomputable def F_is_fraction : List D → R D := defF 1 1 sem_is_fraction
noncomputable def sem_fraction_r2 : XB := (pSeq (pIfS (pTst (pOp dLt (pVar 1) (pC (.int 0)))) (pSet 2 (pOp dSub (pC (.int 0)) (pVar 2))) pNext) (pRet (pTup (pCons (pOp dDiv (pVar 0) (pVar 2)) (pCons (pOp dDiv (pVar 1) (pVar 2)) pNil)))))
noncomputable def sem_fraction_r1 : XB := (pSeq (pSet 2 (pCall F_divisor (pCons (pVar 0) (pCons (pVar 1) pNil)))) sem_fraction_r2)
noncomputable def sem_fraction : XB := (pSeq (pIfS (pOrT (pNotT (pTst (pCall F_is_whole (pCons (pVar 0) pNil)))) (pOrT (pNotT (pTst (pCall F_is_whole (pCons (pVar 1) pNil)))) (pTst (pOp dEq (pVar 1) (pC (.int 0)))))) (pRaise "NoNumber") pNext) sem_fraction_r1)
noncomputable def F_fraction : List D → R D := defF 2 3 sem_fraction
noncomputable def sem_read_number_l1 : XB := (pIfS (pTst (pOp dNotIn (pVar 1) (pC (.str "0123456789")))) (pRaise "NoText") pNext)
noncomputable def sem_read_number_r1 : XB := (pSeq (pFor (pIs' (pVar 0)) (.one 1) sem_read_number_l1) (pRet (pCallN fInt (pCons (pVar 0) pNil))))
noncomputable def sem_read_number : XB := (pSeq (pIfS (pOrT (pNotT (pTst (pChain dLe dLe (pC (.int 1)) (pCallN fLen (pCons (pVar 0) pNil)) (pC (.int 60))))) (pAndT (pTst (pMs mStarts (pVar 0) (pCons (pC (.str "0")) pNil))) (pTst (pOp dNe (pVar 0) (pC (.str "0")))))) (pRaise "NoText") pNext) sem_read_number_r1)
noncomputable def F_read_number : List D → R D := defF 1 2 sem_read_number
noncomputable def sem_show_fraction : XB := (pSeq (pIfS (pTst (pOp dEq (pOp dIx (pVar 0) (pC (.int 1))) (pC (.int 1)))) (pRet (pCallN fStr (pCons (pOp dIx (pVar 0) (pC (.int 0))) pNil))) pNext) (pRet (pOp dAdd (pOp dAdd (pCallN fStr (pCons (pOp dIx (pVar 0) (pC (.int 0))) pNil)) (pC (.str "/"))) (pCallN fStr (pCons (pOp dIx (pVar 0) (pC (.int 1))) pNil)))))
noncomputable def F_show_fraction : List D → R D := defF 1 1 sem_show_fraction
noncomputable def sem_read_fraction_r4 : XB := (pSeq (pIfS (pOrT (pTst (pOp dLt (pOp dIx (pVar 4) (pC (.int 1))) (pC (.int 2)))) (pNotT (pTst (pCall F_is_fraction (pCons (pVar 4) pNil))))) (pRaise "NoText") pNext) (pRet (pVar 4)))
noncomputable def sem_read_fraction_r3 : XB := (pSeq (pSet 4 (pTup (pCons (pCall F_read_number (pCons (pVar 1) pNil)) (pCons (pCall F_read_number (pCons (pVar 3) pNil)) pNil)))) sem_read_fraction_r4)
noncomputable def sem_read_fraction_r2 : XB := (pSeq (pIfS (pTst (pOp dEq (pVar 2) (pC (.str "")))) (pRet (pCallD F_fraction (pCons (pCall F_read_number (pCons (pVar 1) pNil)) pNil) [.int 1])) pNext) sem_read_fraction_r3)
noncomputable def sem_read_fraction_r1 : XB := (pSeq (pAsg (.tup [(.one 1), (.one 2), (.one 3)]) (pMs mPart (pVar 0) (pCons (pC (.str "/")) pNil))) sem_read_fraction_r2)
noncomputable def sem_read_fraction : XB := (pSeq (pIfS (pNotT (pTst (pIs (isB "str") (pVar 0)))) (pRaise "NoText") pNext) sem_read_fraction_r1)
noncomputable def F_read_fraction : List D → R D := defF 1 5 sem_read_fraction
noncomputable def sem__law_cell_at : XB := (pSeq (pIfS (pTst (pOp dLt (pVar 1) (pCallN fLen (pCons (pVar 0) pNil)))) (pRet (pOp dIx (pVar 0) (pVar 1))) pNext) (pRet (pC (.int 0))))
noncomputable def F__law_cell_at : List D → R D := defF 2 2 sem__law_cell_at
noncomputable def sem__law_divisor_l1 : XB := (pPar 0 1 (pCons (pVar 1) (pCons (pOp dMod (pVar 0) (pVar 1)) pNil)))
noncomputable def sem__law_divisor : XB := (pSeq (pWhile (pTst (pOp dNe (pVar 1) (pC (.int 0)))) sem__law_divisor_l1) (pRet (pCallN fAbs (pCons (pVar 0) pNil))))
noncomputable def F__law_divisor : List D → R D := defF 2 2 sem__law_divisor
noncomputable def sem__law_size_r1 : XB := (pSeq (pIfS (pTst (pOp dEq (pOp dMod (pVar 0) (pC (.int 3))) (pC (.int 1)))) (pRet (pOp dMod (pOp dMulA (pOp dDiv (pVar 0) (pC (.int 3))) (pC (.int 48271))) (pOp dPow (pC (.int 10)) (pC (.int 20))))) pNext) (pRet (pOp dAdd (pOp dPow (pC (.int 10)) (pC (.int 59))) (pOp dMod (pOp dMulA (pOp dDiv (pVar 0) (pC (.int 3))) (pC (.int 48271))) (pOp dMulA (pC (.int 9)) (pOp dPow (pC (.int 10)) (pC (.int 59))))))))
noncomputable def sem__law_size : XB := (pSeq (pIfS (pTst (pOp dEq (pOp dMod (pVar 0) (pC (.int 3))) (pC (.int 0)))) (pRet (pOp dMod (pOp dDiv (pVar 0) (pC (.int 3))) (pC (.int 10)))) pNext) sem__law_size_r1)
noncomputable def F__law_size : List D → R D := defF 1 1 sem__law_size
noncomputable def sem__law_refused : XB := (pSeq (pTryAs cat_WalkError 1 (pExpr (pCall F_read_fraction (pCons (pVar 0) pNil))) (pSeq (pSet 2 (pLst (pCons (pIsE 1 (isx_BadMachine)) (pCons (pIsE 1 (isx_NoMark)) (pCons (pIsE 1 (isx_NoNumber)) (pCons (pIsE 1 (isx_NoRoad)) pNil)))))) (pSeq (pSet 2 (pOp dAdd (pVar 2) (pLst (pCons (pIsE 1 (isx_NoRoom)) (pCons (pIsE 1 (isx_NoRow)) (pCons (pIsE 1 (isx_NoRun)) (pCons (pIsE 1 (isx_TooMany)) pNil))))))) (pRet (pAnd (pIsE 1 (isx_NoText)) (pAnd (pIsE 1 (isx_ValueError)) (pOp dNotIn (pC (.bl true)) (pVar 2)))))))) (pRet (pC (.bl false))))
noncomputable def F__law_refused : List D → R D := defF 1 3 sem__law_refused
noncomputable def sem__law_wrong_r8 : XB := (pSeq (pSet 5 (pOp dAdd (pVar 5) (pLst (pCons (pOp dAdd (pOp dAdd (pCallN fStr (pCons (pOp dMulA (pCallN fInt (pCons (pVar 3) pNil)) (pCallN fInt (pCons (pVar 6) pNil))) pNil)) (pC (.str "/"))) (pCallN fStr (pCons (pOp dMulA (pCallN fInt (pCons (pVar 4) pNil)) (pCallN fInt (pCons (pVar 6) pNil))) pNil))) (pCons (pLst (pCons (pVar 3) pNil)) pNil))))) (pRet (pOp dIx (pVar 5) (pOp dMod (pVar 0) (pCallN fLen (pCons (pVar 5) pNil))))))
noncomputable def sem__law_wrong_r7 : XB := (pSeq (pSet 6 (pCallN fStr (pCons (pOp dAdd (pC (.int 2)) (pOp dMod (pOp dDiv (pVar 0) (pC (.int 32))) (pC (.int 9)))) pNil))) sem__law_wrong_r8)
noncomputable def sem__law_wrong_r6 : XB := (pSeq (pSet 5 (pOp dAdd (pVar 5) (pLst (pCons (pOp dMulA (pC (.str "9")) (pC (.int 4400))) (pCons (pOp dAdd (pC (.str "1/")) (pOp dMulA (pC (.str "9")) (pC (.int 4400)))) (pCons (pOp dAdd (pC (.str "1")) (pOp dMulA (pC (.str "0")) (pC (.int 4300)))) pNil)))))) sem__law_wrong_r7)
noncomputable def sem__law_wrong_r5 : XB := (pSeq (pSet 5 (pOp dAdd (pVar 5) (pLst (pCons (pOp dAdd (pC (.str "1/1")) (pOp dMulA (pC (.str "0")) (pC (.int 60)))) (pCons (pOp dAdd (pVar 3) (pC (.str "\n"))) (pCons (pC (.str "x")) (pCons (pOp dAdd (pVar 3) (pC (.str "x"))) (pCons (pC (.str "1_0")) (pCons (pC (.str "0x1")) (pCons (pC (.str "00")) (pCons (pOp dAdd (pC (.str "0/")) (pVar 4)) (pCons (pC .non) (pCons (pC (.int 5)) (pCons (pTup (pCons (pC (.int 1)) (pCons (pC (.int 2)) pNil))) pNil)))))))))))))) sem__law_wrong_r6)
noncomputable def sem__law_wrong_r4 : XB := (pSeq (pSet 5 (pOp dAdd (pVar 5) (pLst (pCons (pOp dAdd (pOp dAdd (pOp dAdd (pOp dAdd (pVar 3) (pC (.str "/"))) (pVar 4)) (pC (.str "/"))) (pVar 4)) (pCons (pOp dAdd (pOp dAdd (pVar 3) (pC (.str "//"))) (pVar 4)) (pCons (pOp dAdd (pOp dAdd (pVar 3) (pC (.str " /"))) (pVar 4)) (pCons (pOp dAdd (pC (.str "1")) (pOp dMulA (pC (.str "0")) (pC (.int 60)))) pNil))))))) sem__law_wrong_r5)
noncomputable def sem__law_wrong_r3 : XB := (pSeq (pSet 5 (pOp dAdd (pVar 5) (pLst (pCons (pOp dAdd (pOp dAdd (pOp dAdd (pC (.str "-")) (pVar 3)) (pC (.str "/"))) (pVar 4)) (pCons (pOp dAdd (pOp dAdd (pVar 3) (pC (.str "/-"))) (pVar 4)) (pCons (pOp dAdd (pC (.str "+")) (pVar 3)) (pCons (pOp dAdd (pOp dAdd (pVar 3) (pC (.str "."))) (pVar 4)) (pCons (pOp dAdd (pVar 3) (pC (.str " "))) (pCons (pOp dAdd (pC (.str " ")) (pVar 3)) pNil))))))))) sem__law_wrong_r4)
noncomputable def sem__law_wrong_r2 : XB := (pSeq (pSet 5 (pLst (pCons (pC (.str "")) (pCons (pC (.str "/")) (pCons (pOp dAdd (pVar 3) (pC (.str "/"))) (pCons (pOp dAdd (pC (.str "/")) (pVar 4)) (pCons (pOp dAdd (pVar 3) (pC (.str "/0"))) (pCons (pOp dAdd (pVar 3) (pC (.str "/1"))) (pCons (pOp dAdd (pC (.str "0")) (pVar 3)) (pCons (pOp dAdd (pOp dAdd (pVar 3) (pC (.str "/0"))) (pVar 4)) (pCons (pOp dAdd (pC (.str "-")) (pVar 3)) pNil))))))))))) sem__law_wrong_r3)
noncomputable def sem__law_wrong_r1 : XB := (pSeq (pSet 4 (pCallN fStr (pCons (pOp dAdd (pC (.int 2)) (pOp dMod (pVar 2) (pOp dPow (pC (.int 10)) (pC (.int 20))))) pNil))) sem__law_wrong_r2)
noncomputable def sem__law_wrong : XB := (pSeq (pSet 3 (pCallN fStr (pCons (pOp dMod (pVar 1) (pOp dPow (pC (.int 10)) (pC (.int 20)))) pNil))) sem__law_wrong_r1)
noncomputable def F__law_wrong : List D → R D := defF 3 7 sem__law_wrong
noncomputable def sem_law_l1 : XB := (pSeq (pSet 8 (pOp dAdd (pOp dDiv (pCall F__law_cell_at (pCons (pVar 0) (pCons (pC (.int 2)) pNil))) (pOp dAdd (pVar 7) (pC (.int 1)))) (pOp dMulA (pC (.int 7)) (pVar 7)))) (pIfS (pNotT (pTst (pCall F__law_refused (pCons (pCall F__law_wrong (pCons (pVar 8) (pCons (pCall F__law_cell_at (pCons (pVar 0) (pCons (pOp dAdd (pC (.int 3)) (pVar 7)) pNil))) (pCons (pCall F__law_cell_at (pCons (pVar 0) (pCons (pC (.int 4)) pNil))) pNil)))) pNil)))) (pRet (pC (.bl false))) pNext))
noncomputable def sem_law_r10 : XB := (pSeq (pFor (pR1 (pCons (pC (.int 3)) pNil)) (.one 7) sem_law_l1) (pRet (pOp dEq (pCall F_read_fraction (pCons (pVar 5) pNil)) (pVar 4))))
noncomputable def sem_law_r9 : XB := (pSeq (pIfS (pOrT (pNotT (pTst (pIs (isB "tuple") (pVar 6)))) (pOrT (pTst (pOp dNe (pVar 6) (pVar 4))) (pOrT (pTst (pIs (isB "bool") (pOp dIx (pVar 6) (pC (.int 0))))) (pTst (pIs (isB "bool") (pOp dIx (pVar 6) (pC (.int 1)))))))) (pRet (pC (.bl false))) pNext) sem_law_r10)
noncomputable def sem_law_r8 : XB := (pSeq (pSet 6 (pCall F_read_fraction (pCons (pVar 5) pNil))) sem_law_r9)
noncomputable def sem_law_r7 : XB := (pSeq (pIfS (pTst (pOp dNe (pCall F_show_fraction (pCons (pVar 4) pNil)) (pVar 5))) (pRet (pC (.bl false))) pNext) sem_law_r8)
noncomputable def sem_law_r6 : XB := (pSeq (pIfS (pTst (pOp dGt (pOp dIx (pVar 4) (pC (.int 1))) (pC (.int 1)))) (pSet 5 (pOp dAdd (pOp dAdd (pVar 5) (pC (.str "/"))) (pCallN fStr (pCons (pOp dIx (pVar 4) (pC (.int 1))) pNil)))) pNext) sem_law_r7)
noncomputable def sem_law_r5 : XB := (pSeq (pSet 5 (pCallN fStr (pCons (pOp dIx (pVar 4) (pC (.int 0))) pNil))) sem_law_r6)
noncomputable def sem_law_r4 : XB := (pSeq (pSet 4 (pTup (pCons (pOp dDiv (pVar 1) (pVar 3)) (pCons (pOp dDiv (pVar 2) (pVar 3)) pNil)))) sem_law_r5)
noncomputable def sem_law_r3 : XB := (pSeq (pSet 3 (pCall F__law_divisor (pCons (pVar 1) (pCons (pVar 2) pNil)))) sem_law_r4)
noncomputable def sem_law_r2 : XB := (pSeq (pIfS (pTst (pOp dEq (pOp dMod (pCall F__law_cell_at (pCons (pVar 0) (pCons (pC (.int 2)) pNil))) (pC (.int 4))) (pC (.int 1)))) (pSet 2 (pC (.int 1))) pNext) sem_law_r3)
noncomputable def sem_law_r1 : XB := (pSeq (pSet 2 (pOp dAdd (pC (.int 1)) (pOp dMod (pCall F__law_size (pCons (pCall F__law_cell_at (pCons (pVar 0) (pCons (pC (.int 1)) pNil))) pNil)) (pOp dSub (pOp dPow (pC (.int 10)) (pC (.int 60))) (pC (.int 1)))))) sem_law_r2)
noncomputable def sem_law : XB := (pSeq (pSet 1 (pCall F__law_size (pCons (pCall F__law_cell_at (pCons (pVar 0) (pCons (pC (.int 0)) pNil))) pNil))) sem_law_r1)
noncomputable def F_law : List D → R D := defF 1 9 sem_law
end Pu

namespace Pu
open PySem PySem.Spec L2
open PyProof.Rows (envOfC)
def topS (i : Nat) : Stmt := PySem.Challenge.pw_zonewalk_k81_fractions_as_text.main.body.getD i (.Pass ⟨0, 0, 0, 0⟩)
abbrev allX : List Str := ["BadMachine", "NoMark", "NoNumber", "NoRoad", "NoRoom", "NoRow", "NoRun", "NoText", "TooMany", "WalkError"]
abbrev gg (K : PySem.W.Frag) : G := gOf K allX
structure Fx (K : PySem.W.Frag) (mg : Str → Option Value) : Prop where
  m_ValueError : mg "ValueError" = none
  m_abs : mg "abs" = none
  m_bool : mg "bool" = none
  m_int : mg "int" = none
  m_isinstance : mg "isinstance" = none
  m_len : mg "len" = none
  m_range : mg "range" = none
  m_str : mg "str" = none
  m_tuple : mg "tuple" = none
  k_FIGURES : ∃ t, mg "FIGURES" = some (.str "0123456789" t)
  k_MOST_FIGURES : ∃ t, mg "MOST_FIGURES" = some (.int 60 t)
  x_NoNumber : ExcF K mg "NoNumber"
  x_NoText : ExcF K mg "NoText"
  g_BadMachine : mg "BadMachine" = some (.ref (He.ga K "BadMachine"))
  g_NoMark : mg "NoMark" = some (.ref (He.ga K "NoMark"))
  g_NoNumber : mg "NoNumber" = some (.ref (He.ga K "NoNumber"))
  g_NoRoad : mg "NoRoad" = some (.ref (He.ga K "NoRoad"))
  g_NoRoom : mg "NoRoom" = some (.ref (He.ga K "NoRoom"))
  g_NoRow : mg "NoRow" = some (.ref (He.ga K "NoRow"))
  g_NoRun : mg "NoRun" = some (.ref (He.ga K "NoRun"))
  g_NoText : mg "NoText" = some (.ref (He.ga K "NoText"))
  g_TooMany : mg "TooMany" = some (.ref (He.ga K "TooMany"))
  g_WalkError : mg "WalkError" = some (.ref (He.ga K "WalkError"))
  i_BadMachine : ∀ c D b, isx_BadMachine c = some b → (gg K).cls c = some D → PySem.W.kitOne K (.ref D) (.ref (He.ga K "BadMachine")) = some b ∧ ExcC K D
  i_NoMark : ∀ c D b, isx_NoMark c = some b → (gg K).cls c = some D → PySem.W.kitOne K (.ref D) (.ref (He.ga K "NoMark")) = some b ∧ ExcC K D
  i_NoNumber : ∀ c D b, isx_NoNumber c = some b → (gg K).cls c = some D → PySem.W.kitOne K (.ref D) (.ref (He.ga K "NoNumber")) = some b ∧ ExcC K D
  i_NoRoad : ∀ c D b, isx_NoRoad c = some b → (gg K).cls c = some D → PySem.W.kitOne K (.ref D) (.ref (He.ga K "NoRoad")) = some b ∧ ExcC K D
  i_NoRoom : ∀ c D b, isx_NoRoom c = some b → (gg K).cls c = some D → PySem.W.kitOne K (.ref D) (.ref (He.ga K "NoRoom")) = some b ∧ ExcC K D
  i_NoRow : ∀ c D b, isx_NoRow c = some b → (gg K).cls c = some D → PySem.W.kitOne K (.ref D) (.ref (He.ga K "NoRow")) = some b ∧ ExcC K D
  i_NoRun : ∀ c D b, isx_NoRun c = some b → (gg K).cls c = some D → PySem.W.kitOne K (.ref D) (.ref (He.ga K "NoRun")) = some b ∧ ExcC K D
  i_NoText : ∀ c D b, isx_NoText c = some b → (gg K).cls c = some D → PySem.W.kitOne K (.ref D) (.ref (He.ga K "NoText")) = some b ∧ ExcC K D
  i_TooMany : ∀ c D b, isx_TooMany c = some b → (gg K).cls c = some D → PySem.W.kitOne K (.ref D) (.ref (He.ga K "TooMany")) = some b ∧ ExcC K D
  i_ValueError : ∀ c D b, isx_ValueError c = some b → (gg K).cls c = some D → PySem.W.kitOne K (.ref D) (.type "ValueError") = some b ∧ ExcC K D
  cat_WalkError : ∀ c C b, cat_WalkError c = some b → (gg K).cls c = some C → PySem.W.exmOne K (.ref C) (.ref (He.ga K "WalkError")) = some b
theorem cls_NoNumber {K : PySem.W.Frag} : (gg K).cls "NoNumber" = some (He.ga K "NoNumber") := clsOf_in (K := K) (ns := allX) (x := "NoNumber") (by decide +kernel)
theorem cls_NoText {K : PySem.W.Frag} : (gg K).cls "NoText" = some (He.ga K "NoText") := clsOf_in (K := K) (ns := allX) (x := "NoText") (by decide +kernel)
abbrev st_is_whole : Stmt := topS 12
theorem sc_is_whole : FnScope ["thing"] ["thing"] (defScope st_is_whole) := ⟨rfl, rfl, rfl, by decide +kernel, rfl, by decide +kernel, by decide +kernel⟩
theorem body_is_whole {P : Program} {w : World} {K : PySem.W.Frag} {mg : Str → Option Value} {base : Heap} {f : Addr} (T : Fx K mg) (cdv : Value) (A : Around) (outer : List PySem.Env) (s : Shared) (H : Hp) (E : XK) (hr : Room 0 (A.deeper (envOfC "is_whole" (defScope st_is_whole) s.heap.objs.size f cdv))) :
    PSs (cxOf (L2.CX P w) P w K mg base ["thing"] "is_whole" (defScope st_is_whole) f cdv A outer s H E) (defBody st_is_whole) (LS (gg K) (fun cls d _ H' => E cls d H') sem_is_whole) := by
  have S := sc_is_whole
  exact (ls_one (ls_ret (le_and (le_isB rfl T.m_isinstance T.m_int (le_var 0) (by decide +kernel) (by decide)) (le_one (le_not (le_isB rfl T.m_isinstance T.m_bool (le_var 0) (by decide +kernel) (by decide)))))))
abbrev st_divisor : Stmt := topS 13
theorem sc_divisor : FnScope ["one", "other"] ["one", "other"] (defScope st_divisor) := ⟨rfl, rfl, rfl, by decide +kernel, rfl, by decide +kernel, by decide +kernel⟩
theorem body_divisor {P : Program} {w : World} {K : PySem.W.Frag} {mg : Str → Option Value} {base : Heap} {f : Addr} (T : Fx K mg) (cdv : Value) (A : Around) (outer : List PySem.Env) (s : Shared) (H : Hp) (E : XK) (hr : Room 0 (A.deeper (envOfC "divisor" (defScope st_divisor) s.heap.objs.size f cdv))) :
    PSs (cxOf (L2.CX P w) P w K mg base ["one", "other"] "divisor" (defScope st_divisor) f cdv A outer s H E) (defBody st_divisor) (LS (gg K) (fun cls d _ H' => E cls d H') sem_divisor) := by
  have S := sc_divisor
  have pO : PassesOwn (model P w) (cxOf (L2.CX P w) P w K mg base ["one", "other"] "divisor" (defScope st_divisor) f cdv A outer s H E).A (cxOf (L2.CX P w) P w K mg base ["one", "other"] "divisor" (defScope st_divisor) f cdv A outer s H E).env (cxOf (L2.CX P w) P w K mg base ["one", "other"] "divisor" (defScope st_divisor) f cdv A outer s H E).xe := passes_of rfl
  exact (ls_cons (ls_while pO (t_ne (le_var 1) le_int hr.units) (ls_one (ls_par rfl S.nd (i := 0) (j := 1) rfl rfl (by decide) rfl rfl (la_cons (le_var 1) (la_cons (a_mod (le_var 0) (le_var 1)) la_nil)) rfl))) (ls_one (ls_ret (le_callB call_abs pure_abs T.m_abs (by decide +kernel) (la_cons (le_var 0) la_nil)))))
abbrev st_is_fraction : Stmt := topS 14
theorem sc_is_fraction : FnScope ["thing"] ["thing"] (defScope st_is_fraction) := ⟨rfl, rfl, rfl, by decide +kernel, rfl, by decide +kernel, by decide +kernel⟩
theorem body_is_fraction {P : Program} {w : World} {K : PySem.W.Frag} {mg : Str → Option Value} {base : Heap} {f : Addr} (T : Fx K mg) (c_is_whole : CallOk P w K mg base (gg K) 1 "is_whole" F_is_whole) (c_divisor : CallOk P w K mg base (gg K) 1 "divisor" F_divisor) (cdv : Value) (A : Around) (outer : List PySem.Env) (s : Shared) (H : Hp) (E : XK) (hr : Room 1 (A.deeper (envOfC "is_fraction" (defScope st_is_fraction) s.heap.objs.size f cdv))) :
    PSs (cxOf (L2.CX P w) P w K mg base ["thing"] "is_fraction" (defScope st_is_fraction) f cdv A outer s H E) (defBody st_is_fraction) (LS (gg K) (fun cls d _ H' => E cls d H') sem_is_fraction) := by
  have S := sc_is_fraction
  have tkW : Takes (cxOf (L2.CX P w) P w K mg base ["thing"] "is_fraction" (defScope st_is_fraction) f cdv A outer s H E) (fun cls d _ H' => E cls d H') := takes_of rfl rfl rfl rfl
  have tkC := fun σ => passAt tkW σ
  exact (ls_cons (ls_if (PW.pt (lw_or (lt_not (lt_of (le_isB rfl T.m_isinstance T.m_tuple (le_var 0) (by decide +kernel) (by decide)))) (lw_or1 (t_ne (le_callB call_len pure_len T.m_len (by decide +kernel) (la_cons (le_var 0) la_nil)) le_int hr.units)))) (ls_one (ls_ret le_bl)) ls_nil) (ls_cons (ls_if (PW.pt (lw_or (lt_not (lt_of (le_fn c_is_whole hr (by decide) tkC (la_cons (a_ix (le_var 0) le_int) la_nil)))) (lw_or (lt_not (lt_of (le_fn c_is_whole hr (by decide) tkC (la_cons (a_ix (le_var 0) le_int) la_nil)))) (lw_or1 (t_lt (a_ix (le_var 0) le_int) le_int))))) (ls_one (ls_ret le_bl)) ls_nil) (ls_one (ls_ret (c_eq (le_fn c_divisor hr (by decide) tkC (la_cons (a_ix (le_var 0) le_int) (la_cons (a_ix (le_var 0) le_int) la_nil))) le_int hr.units)))))
abbrev st_fraction : Stmt := topS 15
theorem sc_fraction : FnScope ["top", "bottom", "share"] ["top", "bottom"] (defScope st_fraction) := ⟨rfl, rfl, rfl, by decide +kernel, rfl, by decide +kernel, by decide +kernel⟩
theorem body_fraction {P : Program} {w : World} {K : PySem.W.Frag} {mg : Str → Option Value} {base : Heap} {f : Addr} (T : Fx K mg) (c_is_whole : CallOk P w K mg base (gg K) 1 "is_whole" F_is_whole) (c_divisor : CallOk P w K mg base (gg K) 1 "divisor" F_divisor) (cdv : Value) (A : Around) (outer : List PySem.Env) (s : Shared) (H : Hp) (E : XK) (hr : Room 1 (A.deeper (envOfC "fraction" (defScope st_fraction) s.heap.objs.size f cdv))) :
    PSs (cxOf (L2.CX P w) P w K mg base ["top", "bottom", "share"] "fraction" (defScope st_fraction) f cdv A outer s H E) (defBody st_fraction) (LS (gg K) (fun cls d _ H' => E cls d H') sem_fraction) := by
  have S := sc_fraction
  have tkW : Takes (cxOf (L2.CX P w) P w K mg base ["top", "bottom", "share"] "fraction" (defScope st_fraction) f cdv A outer s H E) (fun cls d _ H' => E cls d H') := takes_of rfl rfl rfl rfl
  have tkC := fun σ => passAt tkW σ
  exact (ls_cons (ls_if (PW.pt (lw_or (lt_not (lt_of (le_fn c_is_whole hr (by decide) tkC (la_cons (le_var 0) la_nil)))) (lw_or (lt_not (lt_of (le_fn c_is_whole hr (by decide) tkC (la_cons (le_var 1) la_nil)))) (lw_or1 (t_eq (le_var 1) le_int hr.units))))) (ls_one (ls_raiseF T.x_NoNumber rfl tkW cls_NoNumber)) ls_nil) (ls_cons (ls_set 2 S.nd (le_fn c_divisor hr (by decide) tkC (la_cons (le_var 0) (la_cons (le_var 1) la_nil)))) (ls_cons (ls_if (t_lt (le_var 1) le_int) (ls_one (ls_set 2 S.nd (a_sub le_int (le_var 2)))) ls_nil) (ls_one (ls_ret (le_tup (la_cons (a_div (le_var 0) (le_var 2)) (la_cons (a_div (le_var 1) (le_var 2)) la_nil)) (by decide) (pCons_len (pCons_len pNil_len))))))))
abbrev st_read_number : Stmt := topS 19
theorem sc_read_number : FnScope ["word", "sign"] ["word"] (defScope st_read_number) := ⟨rfl, rfl, rfl, by decide +kernel, rfl, by decide +kernel, by decide +kernel⟩
theorem body_read_number {P : Program} {w : World} {K : PySem.W.Frag} {mg : Str → Option Value} {base : Heap} {f : Addr} (T : Fx K mg) (cdv : Value) (A : Around) (outer : List PySem.Env) (s : Shared) (H : Hp) (E : XK) (hr : Room 0 (A.deeper (envOfC "read_number" (defScope st_read_number) s.heap.objs.size f cdv))) :
    PSs (cxOf (L2.CX P w) P w K mg base ["word", "sign"] "read_number" (defScope st_read_number) f cdv A outer s H E) (defBody st_read_number) (LS (gg K) (fun cls d _ H' => E cls d H') sem_read_number) := by
  have S := sc_read_number
  have tkW : Takes (cxOf (L2.CX P w) P w K mg base ["word", "sign"] "read_number" (defScope st_read_number) f cdv A outer s H E) (fun cls d _ H' => E cls d H') := takes_of rfl rfl rfl rfl
  have pO : PassesOwn (model P w) (cxOf (L2.CX P w) P w K mg base ["word", "sign"] "read_number" (defScope st_read_number) f cdv A outer s H E).A (cxOf (L2.CX P w) P w K mg base ["word", "sign"] "read_number" (defScope st_read_number) f cdv A outer s H E).env (cxOf (L2.CX P w) P w K mg base ["word", "sign"] "read_number" (defScope st_read_number) f cdv A outer s H E).xe := passes_of rfl
  exact (ls_cons (ls_if (PW.pt (lw_or (lt_not (t_lele le_int (le_callB call_len pure_len T.m_len (by decide +kernel) (la_cons (le_var 0) la_nil)) (le_gint T.k_MOST_FIGURES))) (lw_or1 (PW.pt (lw_and (lt_of (le_ms (pe_bm PySem.F.plainAttrs_str PySem.F.slot_str_startswith PySem.F.type_str_startswith mt_startswith (le_var 0) (la_cons le_str la_nil)) pure_starts)) (lw_and1 (t_ne (le_var 0) le_str hr.units))))))) (ls_one (ls_raiseF T.x_NoText rfl tkW cls_NoText)) ls_nil) (ls_cons (ls_for pO rfl (li_str (le_var 0)) (lg_name 1 S.nd) (ls_one (ls_if (t_notin (le_var 1) (le_gstr T.k_FIGURES)) (ls_one (ls_raiseF T.x_NoText rfl tkW cls_NoText)) ls_nil))) (ls_one (ls_ret (le_callTy call_intAll pure_int T.m_int (by decide +kernel) (la_cons (le_var 0) la_nil))))))
abbrev st_show_fraction : Stmt := topS 20
theorem sc_show_fraction : FnScope ["value"] ["value"] (defScope st_show_fraction) := ⟨rfl, rfl, rfl, by decide +kernel, rfl, by decide +kernel, by decide +kernel⟩
theorem body_show_fraction {P : Program} {w : World} {K : PySem.W.Frag} {mg : Str → Option Value} {base : Heap} {f : Addr} (T : Fx K mg) (cdv : Value) (A : Around) (outer : List PySem.Env) (s : Shared) (H : Hp) (E : XK) (hr : Room 0 (A.deeper (envOfC "show_fraction" (defScope st_show_fraction) s.heap.objs.size f cdv))) :
    PSs (cxOf (L2.CX P w) P w K mg base ["value"] "show_fraction" (defScope st_show_fraction) f cdv A outer s H E) (defBody st_show_fraction) (LS (gg K) (fun cls d _ H' => E cls d H') sem_show_fraction) := by
  have S := sc_show_fraction
  exact (ls_cons (ls_if (t_eq (a_ix (le_var 0) le_int) le_int hr.units) (ls_one (ls_ret (le_callTy call_str_int pure_str T.m_str (by decide +kernel) (la_cons (a_ix (le_var 0) le_int) la_nil)))) ls_nil) (ls_one (ls_ret (a_add (a_add (le_callTy call_str_int pure_str T.m_str (by decide +kernel) (la_cons (a_ix (le_var 0) le_int) la_nil)) le_str) (le_callTy call_str_int pure_str T.m_str (by decide +kernel) (la_cons (a_ix (le_var 0) le_int) la_nil))))))
abbrev st_read_fraction : Stmt := topS 21
theorem sc_read_fraction : FnScope ["text", "top", "stroke", "bottom", "value"] ["text"] (defScope st_read_fraction) := ⟨rfl, rfl, rfl, by decide +kernel, rfl, by decide +kernel, by decide +kernel⟩
theorem body_read_fraction {P : Program} {w : World} {K : PySem.W.Frag} {mg : Str → Option Value} {base : Heap} {f : Addr} (T : Fx K mg) (c_read_number : CallOk P w K mg base (gg K) 1 "read_number" F_read_number) (c_fraction__1 : CallOkD P w K mg base (gg K) 2 "fraction" F_fraction [.int 1]) (c_is_fraction : CallOk P w K mg base (gg K) 2 "is_fraction" F_is_fraction) (cdv : Value) (A : Around) (outer : List PySem.Env) (s : Shared) (H : Hp) (E : XK) (hr : Room 2 (A.deeper (envOfC "read_fraction" (defScope st_read_fraction) s.heap.objs.size f cdv))) :
    PSs (cxOf (L2.CX P w) P w K mg base ["text", "top", "stroke", "bottom", "value"] "read_fraction" (defScope st_read_fraction) f cdv A outer s H E) (defBody st_read_fraction) (LS (gg K) (fun cls d _ H' => E cls d H') sem_read_fraction) := by
  have S := sc_read_fraction
  have tkW : Takes (cxOf (L2.CX P w) P w K mg base ["text", "top", "stroke", "bottom", "value"] "read_fraction" (defScope st_read_fraction) f cdv A outer s H E) (fun cls d _ H' => E cls d H') := takes_of rfl rfl rfl rfl
  have tkC := fun σ => passAt tkW σ
  exact (ls_cons (ls_if (lt_not (lt_of (le_isB rfl T.m_isinstance T.m_str (le_var 0) (by decide +kernel) (by decide)))) (ls_one (ls_raiseF T.x_NoText rfl tkW cls_NoText)) ls_nil) (ls_cons (ls_asg (le_ms (pe_bm PySem.F.plainAttrs_str PySem.F.slot_str_partition PySem.F.type_str_partition mt_partition (le_var 0) (la_cons le_str la_nil)) pure_part) (lg_tup rfl rfl (lgs_cons (lg_name 1 S.nd) (lgs_cons (lg_name 2 S.nd) (lgs_cons (lg_name 3 S.nd) lgs_nil))))) (ls_cons (ls_if (t_eq (le_var 2) le_str hr.units) (ls_one (ls_ret (le_fnD c_fraction__1 hr (by decide) tkC (la_cons (le_fn c_read_number hr (by decide) tkC (la_cons (le_var 1) la_nil)) la_nil)))) ls_nil) (ls_cons (ls_set 4 S.nd (le_tup (la_cons (le_fn c_read_number hr (by decide) tkC (la_cons (le_var 1) la_nil)) (la_cons (le_fn c_read_number hr (by decide) tkC (la_cons (le_var 3) la_nil)) la_nil)) (by decide) (pCons_len (pCons_len pNil_len)))) (ls_cons (ls_if (PW.pt (lw_or (t_lt (a_ix (le_var 4) le_int) le_int) (lw_or1 (lt_not (lt_of (le_fn c_is_fraction hr (by decide) tkC (la_cons (le_var 4) la_nil))))))) (ls_one (ls_raiseF T.x_NoText rfl tkW cls_NoText)) ls_nil) (ls_one (ls_ret (le_var 4))))))))
abbrev st__law_cell_at : Stmt := topS 23
theorem sc__law_cell_at : FnScope ["_law_script", "_law_k"] ["_law_script", "_law_k"] (defScope st__law_cell_at) := ⟨rfl, rfl, rfl, by decide +kernel, rfl, by decide +kernel, by decide +kernel⟩
theorem body__law_cell_at {P : Program} {w : World} {K : PySem.W.Frag} {mg : Str → Option Value} {base : Heap} {f : Addr} (T : Fx K mg) (cdv : Value) (A : Around) (outer : List PySem.Env) (s : Shared) (H : Hp) (E : XK) (hr : Room 0 (A.deeper (envOfC "_law_cell_at" (defScope st__law_cell_at) s.heap.objs.size f cdv))) :
    PSs (cxOf (L2.CX P w) P w K mg base ["_law_script", "_law_k"] "_law_cell_at" (defScope st__law_cell_at) f cdv A outer s H E) (defBody st__law_cell_at) (LS (gg K) (fun cls d _ H' => E cls d H') sem__law_cell_at) := by
  have S := sc__law_cell_at
  exact (ls_cons (ls_if (t_lt (le_var 1) (le_callB call_len pure_len T.m_len (by decide +kernel) (la_cons (le_var 0) la_nil))) (ls_one (ls_ret (a_ix (le_var 0) (le_var 1)))) ls_nil) (ls_one (ls_ret le_int)))
abbrev st__law_divisor : Stmt := topS 24
theorem sc__law_divisor : FnScope ["_law_one", "_law_other"] ["_law_one", "_law_other"] (defScope st__law_divisor) := ⟨rfl, rfl, rfl, by decide +kernel, rfl, by decide +kernel, by decide +kernel⟩
theorem body__law_divisor {P : Program} {w : World} {K : PySem.W.Frag} {mg : Str → Option Value} {base : Heap} {f : Addr} (T : Fx K mg) (cdv : Value) (A : Around) (outer : List PySem.Env) (s : Shared) (H : Hp) (E : XK) (hr : Room 0 (A.deeper (envOfC "_law_divisor" (defScope st__law_divisor) s.heap.objs.size f cdv))) :
    PSs (cxOf (L2.CX P w) P w K mg base ["_law_one", "_law_other"] "_law_divisor" (defScope st__law_divisor) f cdv A outer s H E) (defBody st__law_divisor) (LS (gg K) (fun cls d _ H' => E cls d H') sem__law_divisor) := by
  have S := sc__law_divisor
  have pO : PassesOwn (model P w) (cxOf (L2.CX P w) P w K mg base ["_law_one", "_law_other"] "_law_divisor" (defScope st__law_divisor) f cdv A outer s H E).A (cxOf (L2.CX P w) P w K mg base ["_law_one", "_law_other"] "_law_divisor" (defScope st__law_divisor) f cdv A outer s H E).env (cxOf (L2.CX P w) P w K mg base ["_law_one", "_law_other"] "_law_divisor" (defScope st__law_divisor) f cdv A outer s H E).xe := passes_of rfl
  exact (ls_cons (ls_while pO (t_ne (le_var 1) le_int hr.units) (ls_one (ls_par rfl S.nd (i := 0) (j := 1) rfl rfl (by decide) rfl rfl (la_cons (le_var 1) (la_cons (a_mod (le_var 0) (le_var 1)) la_nil)) rfl))) (ls_one (ls_ret (le_callB call_abs pure_abs T.m_abs (by decide +kernel) (la_cons (le_var 0) la_nil)))))
abbrev st__law_size : Stmt := topS 25
theorem sc__law_size : FnScope ["_law_cell"] ["_law_cell"] (defScope st__law_size) := ⟨rfl, rfl, rfl, by decide +kernel, rfl, by decide +kernel, by decide +kernel⟩
theorem body__law_size {P : Program} {w : World} {K : PySem.W.Frag} {mg : Str → Option Value} {base : Heap} {f : Addr} (T : Fx K mg) (cdv : Value) (A : Around) (outer : List PySem.Env) (s : Shared) (H : Hp) (E : XK) (hr : Room 0 (A.deeper (envOfC "_law_size" (defScope st__law_size) s.heap.objs.size f cdv))) :
    PSs (cxOf (L2.CX P w) P w K mg base ["_law_cell"] "_law_size" (defScope st__law_size) f cdv A outer s H E) (defBody st__law_size) (LS (gg K) (fun cls d _ H' => E cls d H') sem__law_size) := by
  have S := sc__law_size
  exact (ls_cons (ls_if (t_eq (a_mod (le_var 0) le_int) le_int hr.units) (ls_one (ls_ret (a_mod (a_div (le_var 0) le_int) le_int))) ls_nil) (ls_cons (ls_if (t_eq (a_mod (le_var 0) le_int) le_int hr.units) (ls_one (ls_ret (a_mod (a_mul (a_div (le_var 0) le_int) le_int) (a_pow le_int le_int)))) ls_nil) (ls_one (ls_ret (a_add (a_pow le_int le_int) (a_mod (a_mul (a_div (le_var 0) le_int) le_int) (a_mul le_int (a_pow le_int le_int))))))))
abbrev st__law_refused : Stmt := topS 26
theorem sc__law_refused : FnScope ["_law_text", "e", "_law_others"] ["_law_text"] (defScope st__law_refused) := ⟨rfl, rfl, rfl, by decide +kernel, rfl, by decide +kernel, by decide +kernel⟩
theorem body__law_refused {P : Program} {w : World} {K : PySem.W.Frag} {mg : Str → Option Value} {base : Heap} {f : Addr} (T : Fx K mg) (c_read_fraction : CallOk P w K mg base (gg K) 3 "read_fraction" F_read_fraction) (cdv : Value) (A : Around) (outer : List PySem.Env) (s : Shared) (H : Hp) (E : XK) (hr : Room 3 (A.deeper (envOfC "_law_refused" (defScope st__law_refused) s.heap.objs.size f cdv))) :
    PSs (cxOf (L2.CX P w) P w K mg base ["_law_text", "e", "_law_others"] "_law_refused" (defScope st__law_refused) f cdv A outer s H E) (defBody st__law_refused) (LS (gg K) (fun cls d _ H' => E cls d H') sem__law_refused) := by
  have S := sc__law_refused
  have tkW : Takes (cxOf (L2.CX P w) P w K mg base ["_law_text", "e", "_law_others"] "_law_refused" (defScope st__law_refused) f cdv A outer s H E) (fun cls d _ H' => E cls d H') := takes_of rfl rfl rfl rfl
  have pO : PassesOwn (model P w) (cxOf (L2.CX P w) P w K mg base ["_law_text", "e", "_law_others"] "_law_refused" (defScope st__law_refused) f cdv A outer s H E).A (cxOf (L2.CX P w) P w K mg base ["_law_text", "e", "_law_others"] "_law_refused" (defScope st__law_refused) f cdv A outer s H E).env (cxOf (L2.CX P w) P w K mg base ["_law_text", "e", "_law_others"] "_law_refused" (defScope st__law_refused) f cdv A outer s H E).xe := passes_of rfl
  exact (ls_cons (ls_tryAs (x := "WalkError") (cv := .ref (He.ga K "WalkError")) (i := 1) rfl rfl rfl S.nd rfl rfl ⟨rfl, by decide, Or.inl T.g_WalkError⟩ tkW T.cat_WalkError (fun W2 pn xe tkB pOB => (ls_one (ls_expr (le_fn c_read_fraction hr (by decide) (fun σ => passAt tkB σ) (la_cons (le_var 0) la_nil))))) (fun a oe cls d pn hz hf => (ls_cons (ls_set 2 S.nd (le_lst (la_cons (le_isE rfl hz hf 1 T.m_isinstance (pv 1) (pe_glob (v := .ref (He.ga K "BadMachine")) rfl T.g_BadMachine rfl) (tv := .ref (He.ga K "BadMachine")) (fun u h => h) T.i_BadMachine) (la_cons (le_isE rfl hz hf 1 T.m_isinstance (pv 1) (pe_glob (v := .ref (He.ga K "NoMark")) rfl T.g_NoMark rfl) (tv := .ref (He.ga K "NoMark")) (fun u h => h) T.i_NoMark) (la_cons (le_isE rfl hz hf 1 T.m_isinstance (pv 1) (pe_glob (v := .ref (He.ga K "NoNumber")) rfl T.g_NoNumber rfl) (tv := .ref (He.ga K "NoNumber")) (fun u h => h) T.i_NoNumber) (la_cons (le_isE rfl hz hf 1 T.m_isinstance (pv 1) (pe_glob (v := .ref (He.ga K "NoRoad")) rfl T.g_NoRoad rfl) (tv := .ref (He.ga K "NoRoad")) (fun u h => h) T.i_NoRoad) la_nil)))) (by decide) (pCons_len (pCons_len (pCons_len (pCons_len pNil_len)))))) (ls_cons (ls_set 2 S.nd (a_add (le_var 2) (le_lst (la_cons (le_isE rfl hz hf 1 T.m_isinstance (pv 1) (pe_glob (v := .ref (He.ga K "NoRoom")) rfl T.g_NoRoom rfl) (tv := .ref (He.ga K "NoRoom")) (fun u h => h) T.i_NoRoom) (la_cons (le_isE rfl hz hf 1 T.m_isinstance (pv 1) (pe_glob (v := .ref (He.ga K "NoRow")) rfl T.g_NoRow rfl) (tv := .ref (He.ga K "NoRow")) (fun u h => h) T.i_NoRow) (la_cons (le_isE rfl hz hf 1 T.m_isinstance (pv 1) (pe_glob (v := .ref (He.ga K "NoRun")) rfl T.g_NoRun rfl) (tv := .ref (He.ga K "NoRun")) (fun u h => h) T.i_NoRun) (la_cons (le_isE rfl hz hf 1 T.m_isinstance (pv 1) (pe_glob (v := .ref (He.ga K "TooMany")) rfl T.g_TooMany rfl) (tv := .ref (He.ga K "TooMany")) (fun u h => h) T.i_TooMany) la_nil)))) (by decide) (pCons_len (pCons_len (pCons_len (pCons_len pNil_len))))))) (ls_one (ls_ret (le_and (le_isE rfl hz hf 1 T.m_isinstance (pv 1) (pe_glob (v := .ref (He.ga K "NoText")) rfl T.g_NoText rfl) (tv := .ref (He.ga K "NoText")) (fun u h => h) T.i_NoText) (le_and (le_isE rfl hz hf 1 T.m_isinstance (pv 1) (pe_bltn (v := .ty "ValueError") rfl T.m_ValueError (by decide +kernel) rfl) (tv := .type "ValueError") (fun u h => h) T.i_ValueError) (le_one (c_notin le_bl (le_var 2))))))))))) (ls_one (ls_ret le_bl)))
abbrev st__law_wrong : Stmt := topS 27
theorem sc__law_wrong : FnScope ["_law_cell", "_law_one", "_law_other", "_law_top", "_law_bottom", "_law_some", "_law_share"] ["_law_cell", "_law_one", "_law_other"] (defScope st__law_wrong) := ⟨rfl, rfl, rfl, by decide +kernel, rfl, by decide +kernel, by decide +kernel⟩
theorem body__law_wrong {P : Program} {w : World} {K : PySem.W.Frag} {mg : Str → Option Value} {base : Heap} {f : Addr} (T : Fx K mg) (cdv : Value) (A : Around) (outer : List PySem.Env) (s : Shared) (H : Hp) (E : XK) (hr : Room 0 (A.deeper (envOfC "_law_wrong" (defScope st__law_wrong) s.heap.objs.size f cdv))) :
    PSs (cxOf (L2.CX P w) P w K mg base ["_law_cell", "_law_one", "_law_other", "_law_top", "_law_bottom", "_law_some", "_law_share"] "_law_wrong" (defScope st__law_wrong) f cdv A outer s H E) (defBody st__law_wrong) (LS (gg K) (fun cls d _ H' => E cls d H') sem__law_wrong) := by
  have S := sc__law_wrong
  exact (ls_cons (ls_set 3 S.nd (le_callTy call_str_int pure_str T.m_str (by decide +kernel) (la_cons (a_mod (le_var 1) (a_pow le_int le_int)) la_nil))) (ls_cons (ls_set 4 S.nd (le_callTy call_str_int pure_str T.m_str (by decide +kernel) (la_cons (a_add le_int (a_mod (le_var 2) (a_pow le_int le_int))) la_nil))) (ls_cons (ls_set 5 S.nd (le_lst (la_cons le_str (la_cons le_str (la_cons (a_add (le_var 3) le_str) (la_cons (a_add le_str (le_var 4)) (la_cons (a_add (le_var 3) le_str) (la_cons (a_add (le_var 3) le_str) (la_cons (a_add le_str (le_var 3)) (la_cons (a_add (a_add (le_var 3) le_str) (le_var 4)) (la_cons (a_add le_str (le_var 3)) la_nil))))))))) (by decide) (pCons_len (pCons_len (pCons_len (pCons_len (pCons_len (pCons_len (pCons_len (pCons_len (pCons_len pNil_len))))))))))) (ls_cons (ls_set 5 S.nd (a_add (le_var 5) (le_lst (la_cons (a_add (a_add (a_add le_str (le_var 3)) le_str) (le_var 4)) (la_cons (a_add (a_add (le_var 3) le_str) (le_var 4)) (la_cons (a_add le_str (le_var 3)) (la_cons (a_add (a_add (le_var 3) le_str) (le_var 4)) (la_cons (a_add (le_var 3) le_str) (la_cons (a_add le_str (le_var 3)) la_nil)))))) (by decide) (pCons_len (pCons_len (pCons_len (pCons_len (pCons_len (pCons_len pNil_len))))))))) (ls_cons (ls_set 5 S.nd (a_add (le_var 5) (le_lst (la_cons (a_add (a_add (a_add (a_add (le_var 3) le_str) (le_var 4)) le_str) (le_var 4)) (la_cons (a_add (a_add (le_var 3) le_str) (le_var 4)) (la_cons (a_add (a_add (le_var 3) le_str) (le_var 4)) (la_cons (a_add le_str (a_mul le_str le_int)) la_nil)))) (by decide) (pCons_len (pCons_len (pCons_len (pCons_len pNil_len))))))) (ls_cons (ls_set 5 S.nd (a_add (le_var 5) (le_lst (la_cons (a_add le_str (a_mul le_str le_int)) (la_cons (a_add (le_var 3) le_str) (la_cons le_str (la_cons (a_add (le_var 3) le_str) (la_cons le_str (la_cons le_str (la_cons le_str (la_cons (a_add le_str (le_var 4)) (la_cons le_non (la_cons le_int (la_cons (le_tup (la_cons le_int (la_cons le_int la_nil)) (by decide) (pCons_len (pCons_len pNil_len))) la_nil))))))))))) (by decide) (pCons_len (pCons_len (pCons_len (pCons_len (pCons_len (pCons_len (pCons_len (pCons_len (pCons_len (pCons_len (pCons_len pNil_len)))))))))))))) (ls_cons (ls_set 5 S.nd (a_add (le_var 5) (le_lst (la_cons (a_mul le_str le_int) (la_cons (a_add le_str (a_mul le_str le_int)) (la_cons (a_add le_str (a_mul le_str le_int)) la_nil))) (by decide) (pCons_len (pCons_len (pCons_len pNil_len)))))) (ls_cons (ls_set 6 S.nd (le_callTy call_str_int pure_str T.m_str (by decide +kernel) (la_cons (a_add le_int (a_mod (a_div (le_var 0) le_int) le_int)) la_nil))) (ls_cons (ls_set 5 S.nd (a_add (le_var 5) (le_lst (la_cons (a_add (a_add (le_callTy call_str_int pure_str T.m_str (by decide +kernel) (la_cons (a_mul (le_callTy call_intAll pure_int T.m_int (by decide +kernel) (la_cons (le_var 3) la_nil)) (le_callTy call_intAll pure_int T.m_int (by decide +kernel) (la_cons (le_var 6) la_nil))) la_nil)) le_str) (le_callTy call_str_int pure_str T.m_str (by decide +kernel) (la_cons (a_mul (le_callTy call_intAll pure_int T.m_int (by decide +kernel) (la_cons (le_var 4) la_nil)) (le_callTy call_intAll pure_int T.m_int (by decide +kernel) (la_cons (le_var 6) la_nil))) la_nil))) (la_cons (le_lst (la_cons (le_var 3) la_nil) (by decide) (pCons_len pNil_len)) la_nil)) (by decide) (pCons_len (pCons_len pNil_len))))) (ls_one (ls_ret (a_ix (le_var 5) (a_mod (le_var 0) (le_callB call_len pure_len T.m_len (by decide +kernel) (la_cons (le_var 5) la_nil)))))))))))))))
abbrev st_law : Stmt := topS 28
theorem sc_law : FnScope ["_law_script", "_law_top", "_law_bottom", "_law_share", "_law_value", "_law_text", "_law_found", "_law_k", "_law_cell"] ["_law_script"] (defScope st_law) := ⟨rfl, rfl, rfl, by decide +kernel, rfl, by decide +kernel, by decide +kernel⟩
theorem body_law {P : Program} {w : World} {K : PySem.W.Frag} {mg : Str → Option Value} {base : Heap} {f : Addr} (T : Fx K mg) (c__law_size : CallOk P w K mg base (gg K) 1 "_law_size" F__law_size) (c__law_cell_at : CallOk P w K mg base (gg K) 1 "_law_cell_at" F__law_cell_at) (c__law_divisor : CallOk P w K mg base (gg K) 1 "_law_divisor" F__law_divisor) (c_show_fraction : CallOk P w K mg base (gg K) 1 "show_fraction" F_show_fraction) (c_read_fraction : CallOk P w K mg base (gg K) 3 "read_fraction" F_read_fraction) (c__law_refused : CallOk P w K mg base (gg K) 4 "_law_refused" F__law_refused) (c__law_wrong : CallOk P w K mg base (gg K) 1 "_law_wrong" F__law_wrong) (cdv : Value) (A : Around) (outer : List PySem.Env) (s : Shared) (H : Hp) (E : XK) (hr : Room 4 (A.deeper (envOfC "law" (defScope st_law) s.heap.objs.size f cdv))) :
    PSs (cxOf (L2.CX P w) P w K mg base ["_law_script", "_law_top", "_law_bottom", "_law_share", "_law_value", "_law_text", "_law_found", "_law_k", "_law_cell"] "law" (defScope st_law) f cdv A outer s H E) (defBody st_law) (LS (gg K) (fun cls d _ H' => E cls d H') sem_law) := by
  have S := sc_law
  have tkW : Takes (cxOf (L2.CX P w) P w K mg base ["_law_script", "_law_top", "_law_bottom", "_law_share", "_law_value", "_law_text", "_law_found", "_law_k", "_law_cell"] "law" (defScope st_law) f cdv A outer s H E) (fun cls d _ H' => E cls d H') := takes_of rfl rfl rfl rfl
  have tkC := fun σ => passAt tkW σ
  have pO : PassesOwn (model P w) (cxOf (L2.CX P w) P w K mg base ["_law_script", "_law_top", "_law_bottom", "_law_share", "_law_value", "_law_text", "_law_found", "_law_k", "_law_cell"] "law" (defScope st_law) f cdv A outer s H E).A (cxOf (L2.CX P w) P w K mg base ["_law_script", "_law_top", "_law_bottom", "_law_share", "_law_value", "_law_text", "_law_found", "_law_k", "_law_cell"] "law" (defScope st_law) f cdv A outer s H E).env (cxOf (L2.CX P w) P w K mg base ["_law_script", "_law_top", "_law_bottom", "_law_share", "_law_value", "_law_text", "_law_found", "_law_k", "_law_cell"] "law" (defScope st_law) f cdv A outer s H E).xe := passes_of rfl
  exact (ls_cons (ls_set 1 S.nd (le_fn c__law_size hr (by decide) tkC (la_cons (le_fn c__law_cell_at hr (by decide) tkC (la_cons (le_var 0) (la_cons le_int la_nil))) la_nil))) (ls_cons (ls_set 2 S.nd (a_add le_int (a_mod (le_fn c__law_size hr (by decide) tkC (la_cons (le_fn c__law_cell_at hr (by decide) tkC (la_cons (le_var 0) (la_cons le_int la_nil))) la_nil)) (a_sub (a_pow le_int le_int) le_int)))) (ls_cons (ls_if (t_eq (a_mod (le_fn c__law_cell_at hr (by decide) tkC (la_cons (le_var 0) (la_cons le_int la_nil))) le_int) le_int hr.units) (ls_one (ls_set 2 S.nd le_int)) ls_nil) (ls_cons (ls_set 3 S.nd (le_fn c__law_divisor hr (by decide) tkC (la_cons (le_var 1) (la_cons (le_var 2) la_nil)))) (ls_cons (ls_set 4 S.nd (le_tup (la_cons (a_div (le_var 1) (le_var 3)) (la_cons (a_div (le_var 2) (le_var 3)) la_nil)) (by decide) (pCons_len (pCons_len pNil_len)))) (ls_cons (ls_set 5 S.nd (le_callTy call_str_int pure_str T.m_str (by decide +kernel) (la_cons (a_ix (le_var 4) le_int) la_nil))) (ls_cons (ls_if (t_gt (a_ix (le_var 4) le_int) le_int) (ls_one (ls_set 5 S.nd (a_add (a_add (le_var 5) le_str) (le_callTy call_str_int pure_str T.m_str (by decide +kernel) (la_cons (a_ix (le_var 4) le_int) la_nil))))) ls_nil) (ls_cons (ls_if (t_ne (le_fn c_show_fraction hr (by decide) tkC (la_cons (le_var 4) la_nil)) (le_var 5) hr.units) (ls_one (ls_ret le_bl)) ls_nil) (ls_cons (ls_set 6 S.nd (le_fn c_read_fraction hr (by decide) tkC (la_cons (le_var 5) la_nil))) (ls_cons (ls_if (PW.pt (lw_or (lt_not (lt_of (le_isB rfl T.m_isinstance T.m_tuple (le_var 6) (by decide +kernel) (by decide)))) (lw_or (t_ne (le_var 6) (le_var 4) hr.units) (lw_or (lt_of (le_isB rfl T.m_isinstance T.m_bool (a_ix (le_var 6) le_int) (by decide +kernel) (by decide))) (lw_or1 (lt_of (le_isB rfl T.m_isinstance T.m_bool (a_ix (le_var 6) le_int) (by decide +kernel) (by decide)))))))) (ls_one (ls_ret le_bl)) ls_nil) (ls_cons (ls_for pO rfl (li_range1 T.m_range (la_cons le_int la_nil)) (lg_name 7 S.nd) (ls_cons (ls_set 8 S.nd (a_add (a_div (le_fn c__law_cell_at hr (by decide) tkC (la_cons (le_var 0) (la_cons le_int la_nil))) (a_add (le_var 7) le_int)) (a_mul le_int (le_var 7)))) (ls_one (ls_if (lt_not (lt_of (le_fn c__law_refused hr (by decide) tkC (la_cons (le_fn c__law_wrong hr (by decide) tkC (la_cons (le_var 8) (la_cons (le_fn c__law_cell_at hr (by decide) tkC (la_cons (le_var 0) (la_cons (a_add le_int (le_var 7)) la_nil))) (la_cons (le_fn c__law_cell_at hr (by decide) tkC (la_cons (le_var 0) (la_cons le_int la_nil))) la_nil)))) la_nil)))) (ls_one (ls_ret le_bl)) ls_nil)))) (ls_one (ls_ret (c_eq (le_fn c_read_fraction hr (by decide) tkC (la_cons (le_var 5) la_nil)) (le_var 4) hr.units))))))))))))))
end Pu

namespace Pu
open PySem PySem.Spec L2
theorem lt_30_31_32_33_34_35_36_37_38_39 : Str.ofString "0123456789" = tx [48, 49, 50, 51, 52, 53, 54, 55, 56, 57] := by decide +kernel
theorem lt_2f : Str.ofString "/" = tx [47] := by decide +kernel
theorem lt : Str.ofString "" = tx [] := by decide +kernel
theorem lt_2f_30 : Str.ofString "/0" = tx [47, 48] := by decide +kernel
theorem lt_2f_31 : Str.ofString "/1" = tx [47, 49] := by decide +kernel
theorem lt_30 : Str.ofString "0" = tx [48] := by decide +kernel
theorem lt_2d : Str.ofString "-" = tx [45] := by decide +kernel
theorem lt_78 : Str.ofString "x" = tx [120] := by decide +kernel
theorem lt_31_5f_30 : Str.ofString "1_0" = tx [49, 95, 48] := by decide +kernel
theorem lt_30_78_31 : Str.ofString "0x1" = tx [48, 120, 49] := by decide +kernel
theorem lt_30_30 : Str.ofString "00" = tx [48, 48] := by decide +kernel
theorem lt_2b : Str.ofString "+" = tx [43] := by decide +kernel
theorem lt_20 : Str.ofString " " = tx [32] := by decide +kernel
theorem lt_31 : Str.ofString "1" = tx [49] := by decide +kernel
theorem lt_31_2f_31 : Str.ofString "1/1" = tx [49, 47, 49] := by decide +kernel
theorem lt_a : Str.ofString "\n" = tx [10] := by decide +kernel
theorem lt_30_2f : Str.ofString "0/" = tx [48, 47] := by decide +kernel
theorem lt_39 : Str.ofString "9" = tx [57] := by decide +kernel
theorem lt_31_2f : Str.ofString "1/" = tx [49, 47] := by decide +kernel
theorem lt_2f_2d : Str.ofString "/-" = tx [47, 45] := by decide +kernel
theorem lt_2e : Str.ofString "." = tx [46] := by decide +kernel
theorem lt_2f_2f : Str.ofString "//" = tx [47, 47] := by decide +kernel
theorem lt_20_2f : Str.ofString " /" = tx [32, 47] := by decide +kernel
theorem gcd_step (a b : Int) : Int.gcd b (a % b) = Int.gcd a b := by
  rw [Int.emod_def, Int.gcd_sub_mul_left_right, Int.gcd_comm]
abbrev gcdC : XT := pTst (pOp dNe (pVar 1) (pC (.int 0)))
abbrev gcdS : XB := pPar 0 1 (pCons (pVar 1) (pCons (pOp dMod (pVar 0) (pVar 1)) pNil))
theorem gcd_loop : ∀ (n : Nat) (a b : Int), 0 ≤ b → b.toNat < n → ∃ c : Int, whB gcdC gcdS n [.val (.int a), .val (.int b)] = some (.nx, [.val (.int c), .val (.int 0)]) ∧ c.natAbs = Int.gcd a b := by
  intro n
  induction n with
  | zero => intro a b h0 h; omega
  | succ n ih =>
    intro a b h0 h
    rw [wh_succ]
    by_cases hb : b = 0
    · subst hb
      exact ⟨a, by simp, by simp⟩
    · have hp : 0 < b := by omega
      have h1 := Int.emod_nonneg a hb
      have h2 := Int.emod_lt_of_pos a hp
      obtain ⟨c, e, g⟩ := ih b (a % b) h1 (by omega)
      refine ⟨c, ?_, by rw [g, gcd_step]⟩
      simp [hb, mod_int hp]
      exact e
theorem divisor_run {a b : Int} (h : 0 ≤ b) : runB (sem_divisor (initE 2 [.int a, .int b])) = ok (.int (Int.gcd a b)) := by
  obtain ⟨c, e, g⟩ := gcd_loop (b.toNat + 1) a b h (by omega)
  have e2 : pWhile gcdC sem_divisor_l1 [.val (.int a), .val (.int b)] = some (.nx, [.val (.int c), .val (.int 0)]) := pWhile_of e
  unfold sem_divisor
  simp [initE]
  rw [e2]
  simp
  omega
theorem F_divisor_ok {a b : Int} (h : 0 ≤ b) : F_divisor [.int a, .int b] = ok (.int (Int.gcd a b)) := divisor_run h
theorem F__law_divisor_ok {a b : Int} (h : 0 ≤ b) : F__law_divisor [.int a, .int b] = ok (.int (Int.gcd a b)) := divisor_run h
@[simp] theorem F_is_whole_int {a : Int} : F_is_whole [.int a] = ok (.bl true) := rfl
theorem F_is_fraction_ok {a b : Int} : F_is_fraction [.tup [.int a, .int b]] = ok (.bl (decide (1 ≤ b ∧ Int.gcd a b = 1))) := by
  unfold F_is_fraction sem_is_fraction defF
  simp only [sem_is_fraction_r1]
  simp [initE, isB, tyD]
  by_cases h : b < 1
  · simp [h]
    omega
  · simp [h, F_divisor_ok (a := a) (b := b) (by omega)]
    by_cases g : Int.gcd a b = 1 <;> simp [g] <;> omega
theorem F_fraction_one {a : Int} : F_fraction [.int a, .int 1] = ok (.tup [.int a, .int 1]) := by
  unfold F_fraction sem_fraction defF
  simp only [sem_fraction_r2, sem_fraction_r1]
  simp [initE, F_divisor_ok, div_lit]
abbrev digB : XB := pIfS (pTst (pOp dNotIn (pVar 1) (pC (.str "0123456789")))) (pRaise "NoText") pNext
theorem lit_digits : ("0123456789" : Str) = tx [48, 49, 50, 51, 52, 53, 54, 55, 56, 57] := by decide +kernel
theorem lit_0 : ("0" : Str) = tx [48] := by decide +kernel
theorem lit_slash : ("/" : Str) = tx [47] := by decide +kernel
theorem dig_mem {c : Nat} : c ∈ [48, 49, 50, 51, 52, 53, 54, 55, 56, 57] ↔ 48 ≤ c ∧ c ≤ 57 := by
  constructor
  · intro h
    simp at h
    omega
  · intro h
    simp
    omega
theorem dig_loop : ∀ (l : List Nat) (z s : Slot), (NumText.AllDigits l → ∃ s', forB (.one 1) digB (l.map fun c => .str (tx [c])) [z, s] = some (.nx, [z, s'])) ∧ (¬ NumText.AllDigits l → ∃ s', forB (.one 1) digB (l.map fun c => .str (tx [c])) [z, s] = some (.exc "NoText" none, [z, s'])) := by
  intro l
  induction l with
  | nil => intro z s; exact ⟨fun _ => ⟨s, rfl⟩, fun h => (h fun c hc => by cases hc).elim⟩
  | cons c r ih =>
    intro z s
    rw [List.map_cons, for_one]
    by_cases hc : 48 ≤ c ∧ c ≤ 57
    · have hm := dig_mem.mpr hc
      obtain ⟨i1, i2⟩ := ih z (.val (.str (tx [c])))
      have e : digB ([z, s].set 1 (.val (.str (tx [c])))) = some (.nx, [z, .val (.str (tx [c]))]) := by
        simp [lit_digits, notIn_str]
        omega
      rw [e, lpK_nx]
      refine ⟨fun h => i1 h.tail, fun h => i2 fun h2 => h fun d hd => ?_⟩
      rcases List.mem_cons.mp hd with rfl | hd
      · exact hc
      · exact h2 d hd
    · refine ⟨fun h => (hc h.head).elim, fun _ => ⟨.val (.str (tx [c])), ?_⟩⟩
      have hm : ¬ c ∈ [48, 49, 50, 51, 52, 53, 54, 55, 56, 57] := fun z => hc (dig_mem.mp z)
      have e : digB ([z, s].set 1 (.val (.str (tx [c])))) = some (.exc "NoText" none, [z, .val (.str (tx [c]))]) := by
        simp [lit_digits, notIn_str, List.set]
        simp at hm
        omega
      rw [e, lpK_exc]
/-- a number as read_number takes it -/
def NumOk (l : List Nat) : Prop := 1 ≤ l.length ∧ l.length ≤ 60 ∧ ¬ (l.head? = some 48 ∧ l ≠ [48]) ∧ NumText.AllDigits l
theorem read_run {l : List Nat} (hl : l.length ≤ 16777216) (hk : okL l) : (NumOk l → F_read_number [.str (tx l)] = ok (.int (NumText.digitsVal l : Nat))) ∧ (¬ NumOk l → F_read_number [.str (tx l)] = exc "NoText" none) := by
  have h0 : okL [48] := fun c hc => by simp at hc; omega
  obtain ⟨i1, i2⟩ := dig_loop l (.val (.str (tx l))) .un
  unfold F_read_number sem_read_number defF
  simp only [sem_read_number_l1, sem_read_number_r1]
  by_cases h1 : 1 ≤ l.length
  · by_cases h2 : l.length ≤ 60
    · by_cases h3 : l.head? = some 48 ∧ l ≠ [48]
      · have no : ¬ NumOk l := fun z => z.2.2.1 h3
        refine ⟨fun z => (no z).elim, fun _ => ?_⟩
        have e1 : (1 : Int) ≤ l.length := by omega
        have e2 : (l.length : Int) ≤ 60 := by omega
        simp [initE, len_str hl, chK_bl, lit_0, starts_one, ne_str hk h0, e1, e2, h3.1, h3.2]
      · have e1 : (1 : Int) ≤ l.length := by omega
        have e2 : (l.length : Int) ≤ 60 := by omega
        have e3 : (if l.head? = some 48 then ok (!decide (l = [48])) else ok false : R Bool) = ok false := by
          by_cases q : l.head? = some 48
          · have : l = [48] := by
              by_cases q2 : l = [48]
              · exact q2
              · exact (h3 ⟨q, q2⟩).elim
            simp [this]
          · simp [q]
        constructor
        · intro z
          obtain ⟨s', e⟩ := i1 z.2.2.2
          have hne : l ≠ [] := by intro q; rw [q] at h1; simp at h1
          simp [initE, len_str hl, chK_bl, lit_0, starts_one, ne_str hk h0, e1, e2, e3]
          rw [e]
          simp [int_tx z.2.2.2 hne (by omega)]
        · intro z
          have h5 : ¬ NumText.AllDigits l := fun q => z ⟨h1, h2, h3, q⟩
          obtain ⟨s', e⟩ := i2 h5
          simp [initE, len_str hl, chK_bl, lit_0, starts_one, ne_str hk h0, e1, e2, e3]
          rw [e]
          simp
    · refine ⟨fun z => (h2 z.2.1).elim, fun _ => ?_⟩
      have e1 : (1 : Int) ≤ l.length := by omega
      have e2 : ¬ (l.length : Int) ≤ 60 := by omega
      simp [initE, len_str hl, chK_bl, lit_0, starts_one, ne_str hk h0, e1, e2]
  · refine ⟨fun z => (h1 z.1).elim, fun _ => ?_⟩
    have e1 : ¬ (1 : Int) ≤ l.length := by omega
    simp [initE, len_str hl, chK_bl, lit_0, starts_one, ne_str hk h0, e1]
theorem read_ok {l : List Nat} (h : NumOk l) : F_read_number [.str (tx l)] = ok (.int (NumText.digitsVal l : Nat)) := (read_run (by have := h.2.1; omega) (okL_dig h.2.2.2)).1 h
theorem read_bad {l : List Nat} (hl : l.length ≤ 16777216) (hk : okL l) (h : ¬ NumOk l) : F_read_number [.str (tx l)] = exc "NoText" none := (read_run hl hk).2 h
theorem F_show_ok {a b : Int} (ha : 0 ≤ a) (ha2 : a < 10 ^ 500) (hb : 0 ≤ b) (hb2 : b < 10 ^ 500) (hla : (TL.numL a.toNat).length ≤ 600) (hlb : (TL.numL b.toNat).length ≤ 600) : F_show_fraction [.tup [.int a, .int b]] = ok (.str (tx (if b = 1 then TL.numL a.toNat else TL.numL a.toNat ++ 47 :: TL.numL b.toNat))) := by
  unfold F_show_fraction sem_show_fraction defF
  by_cases h : b = 1
  · simp [initE, h, str_int ha ha2]
  · have c1 : dAdd (.str (tx (TL.numL a.toNat))) (.str (tx [47])) = some (.str (tx (TL.numL a.toNat ++ [47]))) := cat_str (by simp; omega)
    have c2 : dAdd (.str (tx (TL.numL a.toNat ++ [47]))) (.str (tx (TL.numL b.toNat))) = some (.str (tx (TL.numL a.toNat ++ [47] ++ TL.numL b.toNat))) := cat_str (by simp; omega)
    simp [initE, h, str_int ha ha2, str_int hb hb2, lit_slash, c1, c2]
/-- a text without a stroke -/
theorem rf_one {l : List Nat} (h : 47 ∉ l) (hl : l.length ≤ 16777216) : F_read_fraction [.str (tx l)] = ((F_read_number [.str (tx l)]).bind fun d => F_fraction [d, .int 1]) := by
  unfold F_read_fraction sem_read_fraction defF
  simp only [sem_read_fraction_r4, sem_read_fraction_r3, sem_read_fraction_r2, sem_read_fraction_r1]
  have e := part_none h hl
  have e0 : dEq (.str (tx [])) (.str ("" : Str)) = some (.bl true) := by
    have : ("" : Str) = tx [] := by decide +kernel
    rw [this, eq_str (fun c hc => by cases hc) (fun c hc => by cases hc)]
    rfl
  simp [initE, lit_slash, e, e0]
  cases F_read_number [.str (tx l)] with
  | none => rfl
  | some o =>
    cases o with
    | exc c x => rfl
    | ok d =>
      simp
      cases F_fraction [d, .int 1] with
      | none => rfl
      | some o => cases o <;> rfl
theorem rf_two {p q : List Nat} (h : 47 ∉ p) (hl : p.length + q.length + 1 ≤ 16777216) : F_read_fraction [.str (tx (p ++ 47 :: q))] = ((F_read_number [.str (tx p)]).bind fun a => (F_read_number [.str (tx q)]).bind fun b => 
    ((ofO (dLt b (.int 2))).bind blT).bind fun k => if k = true then exc "NoText" none else ((F_is_fraction [.tup [a, b]]).bind blT).bind fun z => if z = true then ok (.tup [a, b]) else exc "NoText" none) := by
  unfold F_read_fraction sem_read_fraction defF
  simp only [sem_read_fraction_r4, sem_read_fraction_r3, sem_read_fraction_r2, sem_read_fraction_r1]
  have e := part_some h hl
  have e0 : dEq (.str (tx [47])) (.str ("" : Str)) = some (.bl false) := by
    have : ("" : Str) = tx [] := by decide +kernel
    rw [this, eq_str (fun c hc => by simp at hc; omega) (fun c hc => by cases hc)]
    rfl
  simp [initE, lit_slash, e, e0]
  cases F_read_number [.str (tx p)] with
  | none => rfl
  | some o =>
    cases o with
    | exc c x => rfl
    | ok a =>
      simp
      cases F_read_number [.str (tx q)] with
      | none => rfl
      | some o =>
        cases o with
        | exc c x => rfl
        | ok b =>
          simp
          cases dLt b (.int 2) with
          | none => rfl
          | some k =>
            cases k with
            | bl k =>
              cases k with
              | true => simp
              | false =>
                simp
                cases F_is_fraction [.tup [a, b]] with
                | none => rfl
                | some o => cases o with
                  | exc c x => rfl
                  | ok z => cases z with
                    | bl z => cases z <;> simp
                    | _ => rfl
            | _ => rfl
theorem rf_okOne {l : List Nat} (h : NumOk l) : F_read_fraction [.str (tx l)] = ok (.tup [.int (NumText.digitsVal l : Nat), .int 1]) := by
  have h47 : 47 ∉ l := fun z => by have := h.2.2.2 47 z; omega
  rw [rf_one h47 (by have := h.2.1; omega), read_ok h]
  exact F_fraction_one
theorem rf_badOne {l : List Nat} (h47 : 47 ∉ l) (hl : l.length ≤ 16777216) (hk : okL l) (h : ¬ NumOk l) : F_read_fraction [.str (tx l)] = exc "NoText" none := by
  rw [rf_one h47 hl, read_bad hl hk h]
  rfl
theorem rf_okTwo {p q : List Nat} (hp : NumOk p) (hq : NumOk q) (h2 : 2 ≤ NumText.digitsVal q) (hg : Nat.gcd (NumText.digitsVal p) (NumText.digitsVal q) = 1) : F_read_fraction [.str (tx (p ++ 47 :: q))] = ok (.tup [.int (NumText.digitsVal p : Nat), .int (NumText.digitsVal q : Nat)]) := by
  have h47 : 47 ∉ p := fun z => by have := hp.2.2.2 47 z; omega
  have e1 : ¬ ((NumText.digitsVal q : Nat) : Int) < 2 := by omega
  have e2 : (1 : Int) ≤ ((NumText.digitsVal q : Nat) : Int) := by omega
  rw [rf_two h47 (by have := hp.2.1; have := hq.2.1; omega), read_ok hp, read_ok hq]
  simp [F_is_fraction_ok, e1, e2, hg]
theorem rf_badTwo {p q : List Nat} (h47 : 47 ∉ p) (hl : p.length + q.length + 1 ≤ 16777216) (hkp : okL p) (hkq : okL q) (h : ¬ NumOk p ∨ ¬ NumOk q ∨ NumText.digitsVal q < 2 ∨ Nat.gcd (NumText.digitsVal p) (NumText.digitsVal q) ≠ 1) : F_read_fraction [.str (tx (p ++ 47 :: q))] = exc "NoText" none := by
  rw [rf_two h47 hl]
  by_cases hp : NumOk p
  · by_cases hq : NumOk q
    · rw [read_ok hp, read_ok hq]
      have h' : NumText.digitsVal q < 2 ∨ Nat.gcd (NumText.digitsVal p) (NumText.digitsVal q) ≠ 1 := by
        rcases h with h | h | h
        · exact (h hp).elim
        · exact (h hq).elim
        · exact h
      by_cases e1 : ((NumText.digitsVal q : Nat) : Int) < 2
      · simp [e1]
      · have hg : Nat.gcd (NumText.digitsVal p) (NumText.digitsVal q) ≠ 1 := h'.elim (fun z => (e1 (by omega)).elim) id
        simp [F_is_fraction_ok, e1, hg]
    · rw [read_ok hp, read_bad (by omega) hkq hq]
      rfl
  · rw [read_bad (by omega) hkp hp]
    rfl
theorem rf_other {d : D} (h : isB "str" d = some false) : F_read_fraction [d] = exc "NoText" none := by
  unfold F_read_fraction sem_read_fraction defF
  simp only [sem_read_fraction_r4, sem_read_fraction_r3, sem_read_fraction_r2, sem_read_fraction_r1]
  simp [initE, h]
theorem refused_of {d : D} (h : F_read_fraction [d] = exc "NoText" none) : F__law_refused [d] = ok (.bl true) := by
  have t1 : isx_BadMachine "NoText" = some false := by decide +kernel
  have t2 : isx_NoMark "NoText" = some false := by decide +kernel
  have t3 : isx_NoNumber "NoText" = some false := by decide +kernel
  have t4 : isx_NoRoad "NoText" = some false := by decide +kernel
  have t5 : isx_NoRoom "NoText" = some false := by decide +kernel
  have t6 : isx_NoRow "NoText" = some false := by decide +kernel
  have t7 : isx_NoRun "NoText" = some false := by decide +kernel
  have t8 : isx_NoText "NoText" = some true := by decide +kernel
  have t9 : isx_TooMany "NoText" = some false := by decide +kernel
  have t10 : isx_ValueError "NoText" = some true := by decide +kernel
  have tc : cat_WalkError "NoText" = some true := by decide +kernel
  unfold F__law_refused sem__law_refused defF
  simp [initE, h]
  rw [tryK_hit tc rfl]
  simp [t1, t2, t3, t4, t5, t6, t7, t8, t9, t10, cat_lst, dNotIn, inB, itemsD, flatD, inD, eqD]
theorem numL_head : ∀ n : Nat, 1 ≤ n → (TL.numL n).head? ≠ some 48 := by
  intro n
  induction n using Nat.strongRecOn with
  | _ n ih =>
    intro h1
    by_cases h : n < 10
    · rw [TL.numL_lt h]
      simp
      omega
    · rw [TL.numL_step (by omega)]
      have := ih (n / 10) (by omega) (by omega)
      have ne := TL.numL_ne (n / 10)
      cases hq : TL.numL (n / 10) with
      | nil => exact (ne hq).elim
      | cons c r =>
        rw [hq] at this
        simpa using this
theorem numOk {n : Nat} (h : n < 10 ^ 60) : NumOk (TL.numL n) := by
  refine ⟨?_, TL.numL_len (by decide) h, ?_, TL.numL_digits n⟩
  · cases hq : TL.numL n with
    | nil => exact (TL.numL_ne n hq).elim
    | cons c r => simp
  · intro ⟨h1, h2⟩
    by_cases h0 : n = 0
    · subst h0
      exact h2 (TL.numL_lt (by decide))
    · exact numL_head n (by omega) h1
theorem pick {L : List D} {c N : Int} {P : D → Prop} {Γ : Env} (hN : N = L.length) (h0 : 0 < N) (hP : ∀ x ∈ L, P x) : ∃ x, runB (oneK (ofO (atI L (c % N))) (fun d Γ => some (.rt d, Γ)) Γ) = ok x ∧ P x := by
  have h1 := Int.emod_nonneg c (Int.ne_of_gt h0)
  have h2 := Int.emod_lt_of_pos c h0
  rw [at_toNat h1]
  have h3 : (c % N).toNat < L.length := by omega
  exact ⟨L[(c % N).toNat], by rw [List.getElem?_eq_getElem h3]; rfl, hP _ (List.getElem_mem h3)⟩
theorem okL_nil : okL [] := fun c hc => by cases hc
theorem okL_cons {c : Nat} {l : List Nat} (h : c < 1114112) (hl : okL l) : okL (c :: l) := fun d hd => by
  rcases List.mem_cons.mp hd with rfl | hd
  · exact h
  · exact hl d hd
theorem no_nil : ¬ NumOk [] := fun z => by have := z.1; simp at this
theorem no_zero {l : List Nat} (h : l ≠ []) : ¬ NumOk (48 :: l) := fun z => z.2.2.1 ⟨rfl, by simpa using h⟩
theorem no_mem {c : Nat} {l : List Nat} (h : c ∈ l) (hc : c < 48 ∨ 57 < c) : ¬ NumOk l := fun z => by have := z.2.2.2 c h; omega
theorem no_len {l : List Nat} (h : 60 < l.length) : ¬ NumOk l := fun z => by have := z.2.1; omega
end Pu

namespace Pu
open PySem PySem.Spec L2
theorem fa_cons {P : D → Prop} {a : D} {l : List D} (h : P a) (r : ∀ x ∈ l, P x) : ∀ x ∈ a :: l, P x := fun x hx => by
  rcases List.mem_cons.mp hx with rfl | hx
  · exact h
  · exact r x hx
theorem bad2 {p q l : List Nat} (e : l = p ++ 47 :: q) (h47 : 47 ∉ p) (hl : p.length + q.length + 1 ≤ 16777216) (hkp : okL p) (hkq : okL q) (h : ¬ NumOk p ∨ ¬ NumOk q ∨ NumText.digitsVal q < 2 ∨ Nat.gcd (NumText.digitsVal p) (NumText.digitsVal q) ≠ 1) : F_read_fraction [.str (tx l)] = exc "NoText" none := by
  rw [e]
  exact rf_badTwo h47 hl hkp hkq h
theorem wrong_all {n m uk wk z60 z4400 z4300 : List Nat} {w vu vw : Nat} (fn : 47 ∉ n) (fm : 47 ∉ m) (fuk : 47 ∉ uk) (f60 : 47 ∉ z60) (f4400 : 47 ∉ z4400) (f4300 : 47 ∉ z4300)
    (okn : okL n) (okm : okL m) (okuk : okL uk) (okwk : okL wk) (o60 : okL z60) (o4400 : okL z4400) (o4300 : okL z4300) (ln : n.length ≤ 20) (lm : m.length ≤ 21) (luk : uk.length ≤ 22) (lwk : wk.length ≤ 22)
    (l60 : z60.length = 60) (l4400 : z4400.length = 4400) (l4300 : z4300.length = 4300) (nn : n ≠ []) (nm : m ≠ []) (vm : NumText.digitsVal m = w) (hw : 2 ≤ w) (vuk : NumText.digitsVal uk = vu) (vwk : NumText.digitsVal wk = vw) (hg : Nat.gcd vu vw ≠ 1) :
    ∀ x ∈ ([.str (tx []), .str (tx [47]), .str (tx (n ++ [47])), .str (tx (47 :: m)),
  .str (tx (n ++ [47, 48])), .str (tx (n ++ [47, 49])),
  .str (tx (48 :: n)), .str (tx (n ++ [47, 48] ++ m)),
  .str (tx (45 :: n)), .str (tx (45 :: (n ++ [47] ++ m))),
  .str (tx (n ++ [47, 45] ++ m)), .str (tx (43 :: n)),
  .str (tx (n ++ [46] ++ m)), .str (tx (n ++ [32])),
  .str (tx (32 :: n)), .str (tx (n ++ [47] ++ m ++ [47] ++ m)),
  .str (tx (n ++ [47, 47] ++ m)), .str (tx (n ++ [32, 47] ++ m)),
  .str (tx (49 :: z60)), .str (tx (49 :: 47 :: 49 :: z60)), .str (tx (n ++ [10])),
  .str (tx [120]), .str (tx (n ++ [120])), .str (tx [49, 95, 48]),
  .str (tx [48, 120, 49]), .str (tx [48, 48]), .str (tx (48 :: 47 :: m)), .non, .int 5,
  .tup [.int 1, .int 2], .str (tx z4400), .str (tx (49 :: 47 :: z4400)),
  .str (tx (49 :: z4300)), .str (tx (uk ++ [47] ++ wk)),
  .lst [.str (tx n)]] : List D), F_read_fraction [x] = exc "NoText" none := by
  refine fa_cons (rf_badOne (by first | assumption | (simp [*]; done)) (by first | omega | (simp; done) | (simp; omega)) (by repeat first | assumption | exact okL_nil | apply okL_cons (by decide) | apply okL_app) no_nil) ?_
  refine fa_cons (bad2 (p := []) (q := []) (by simp) (by first | assumption | (simp [*]; done)) (by first | omega | (simp; done) | (simp; omega)) (by repeat first | assumption | exact okL_nil | apply okL_cons (by decide) | apply okL_app) (by repeat first | assumption | exact okL_nil | apply okL_cons (by decide) | apply okL_app) (Or.inl no_nil)) ?_
  refine fa_cons (bad2 (p := n) (q := []) (by simp) (by first | assumption | (simp [*]; done)) (by first | omega | (simp; done) | (simp; omega)) (by repeat first | assumption | exact okL_nil | apply okL_cons (by decide) | apply okL_app) (by repeat first | assumption | exact okL_nil | apply okL_cons (by decide) | apply okL_app) (Or.inr (Or.inl no_nil))) ?_
  refine fa_cons (bad2 (p := []) (q := m) (by simp) (by first | assumption | (simp [*]; done)) (by first | omega | (simp; done) | (simp; omega)) (by repeat first | assumption | exact okL_nil | apply okL_cons (by decide) | apply okL_app) (by repeat first | assumption | exact okL_nil | apply okL_cons (by decide) | apply okL_app) (Or.inl no_nil)) ?_
  refine fa_cons (bad2 (p := n) (q := [48]) (by simp) (by first | assumption | (simp [*]; done)) (by first | omega | (simp; done) | (simp; omega)) (by repeat first | assumption | exact okL_nil | apply okL_cons (by decide) | apply okL_app) (by repeat first | assumption | exact okL_nil | apply okL_cons (by decide) | apply okL_app) (Or.inr (Or.inr (Or.inl (by decide))))) ?_
  refine fa_cons (bad2 (p := n) (q := [49]) (by simp) (by first | assumption | (simp [*]; done)) (by first | omega | (simp; done) | (simp; omega)) (by repeat first | assumption | exact okL_nil | apply okL_cons (by decide) | apply okL_app) (by repeat first | assumption | exact okL_nil | apply okL_cons (by decide) | apply okL_app) (Or.inr (Or.inr (Or.inl (by decide))))) ?_
  refine fa_cons (rf_badOne (by first | assumption | (simp [*]; done)) (by first | omega | (simp; done) | (simp; omega)) (by repeat first | assumption | exact okL_nil | apply okL_cons (by decide) | apply okL_app) (no_zero (by simp [*]))) ?_
  refine fa_cons (bad2 (p := n) (q := (48 :: m)) (by simp) (by first | assumption | (simp [*]; done)) (by first | omega | (simp; done) | (simp; omega)) (by repeat first | assumption | exact okL_nil | apply okL_cons (by decide) | apply okL_app) (by repeat first | assumption | exact okL_nil | apply okL_cons (by decide) | apply okL_app) (Or.inr (Or.inl (no_zero (by simp [*]))))) ?_
  refine fa_cons (rf_badOne (by first | assumption | (simp [*]; done)) (by first | omega | (simp; done) | (simp; omega)) (by repeat first | assumption | exact okL_nil | apply okL_cons (by decide) | apply okL_app) (no_mem (c := 45) (by simp) (by decide))) ?_
  refine fa_cons (bad2 (p := (45 :: n)) (q := m) (by simp) (by first | assumption | (simp [*]; done)) (by first | omega | (simp; done) | (simp; omega)) (by repeat first | assumption | exact okL_nil | apply okL_cons (by decide) | apply okL_app) (by repeat first | assumption | exact okL_nil | apply okL_cons (by decide) | apply okL_app) (Or.inl (no_mem (c := 45) (by simp) (by decide)))) ?_
  refine fa_cons (bad2 (p := n) (q := (45 :: m)) (by simp) (by first | assumption | (simp [*]; done)) (by first | omega | (simp; done) | (simp; omega)) (by repeat first | assumption | exact okL_nil | apply okL_cons (by decide) | apply okL_app) (by repeat first | assumption | exact okL_nil | apply okL_cons (by decide) | apply okL_app) (Or.inr (Or.inl (no_mem (c := 45) (by simp) (by decide))))) ?_
  refine fa_cons (rf_badOne (by first | assumption | (simp [*]; done)) (by first | omega | (simp; done) | (simp; omega)) (by repeat first | assumption | exact okL_nil | apply okL_cons (by decide) | apply okL_app) (no_mem (c := 43) (by simp) (by decide))) ?_
  refine fa_cons (rf_badOne (by first | assumption | (simp [*]; done)) (by first | omega | (simp; done) | (simp; omega)) (by repeat first | assumption | exact okL_nil | apply okL_cons (by decide) | apply okL_app) (no_mem (c := 46) (by simp) (by decide))) ?_
  refine fa_cons (rf_badOne (by first | assumption | (simp [*]; done)) (by first | omega | (simp; done) | (simp; omega)) (by repeat first | assumption | exact okL_nil | apply okL_cons (by decide) | apply okL_app) (no_mem (c := 32) (by simp) (by decide))) ?_
  refine fa_cons (rf_badOne (by first | assumption | (simp [*]; done)) (by first | omega | (simp; done) | (simp; omega)) (by repeat first | assumption | exact okL_nil | apply okL_cons (by decide) | apply okL_app) (no_mem (c := 32) (by simp) (by decide))) ?_
  refine fa_cons (bad2 (p := n) (q := (m ++ 47 :: m)) (by simp) (by first | assumption | (simp [*]; done)) (by first | omega | (simp; done) | (simp; omega)) (by repeat first | assumption | exact okL_nil | apply okL_cons (by decide) | apply okL_app) (by repeat first | assumption | exact okL_nil | apply okL_cons (by decide) | apply okL_app) (Or.inr (Or.inl (no_mem (c := 47) (by simp) (by decide))))) ?_
  refine fa_cons (bad2 (p := n) (q := (47 :: m)) (by simp) (by first | assumption | (simp [*]; done)) (by first | omega | (simp; done) | (simp; omega)) (by repeat first | assumption | exact okL_nil | apply okL_cons (by decide) | apply okL_app) (by repeat first | assumption | exact okL_nil | apply okL_cons (by decide) | apply okL_app) (Or.inr (Or.inl (no_mem (c := 47) (by simp) (by decide))))) ?_
  refine fa_cons (bad2 (p := (n ++ [32])) (q := m) (by simp) (by first | assumption | (simp [*]; done)) (by first | omega | (simp; done) | (simp; omega)) (by repeat first | assumption | exact okL_nil | apply okL_cons (by decide) | apply okL_app) (by repeat first | assumption | exact okL_nil | apply okL_cons (by decide) | apply okL_app) (Or.inl (no_mem (c := 32) (by simp) (by decide)))) ?_
  refine fa_cons (rf_badOne (by first | assumption | (simp [*]; done)) (by first | omega | (simp; done) | (simp; omega)) (by repeat first | assumption | exact okL_nil | apply okL_cons (by decide) | apply okL_app) (no_len (by first | omega | (simp; omega)))) ?_
  refine fa_cons (bad2 (p := [49]) (q := (49 :: z60)) (by simp) (by first | assumption | (simp [*]; done)) (by first | omega | (simp; done) | (simp; omega)) (by repeat first | assumption | exact okL_nil | apply okL_cons (by decide) | apply okL_app) (by repeat first | assumption | exact okL_nil | apply okL_cons (by decide) | apply okL_app) (Or.inr (Or.inl (no_len (by first | omega | (simp; omega)))))) ?_
  refine fa_cons (rf_badOne (by first | assumption | (simp [*]; done)) (by first | omega | (simp; done) | (simp; omega)) (by repeat first | assumption | exact okL_nil | apply okL_cons (by decide) | apply okL_app) (no_mem (c := 10) (by simp) (by decide))) ?_
  refine fa_cons (rf_badOne (by first | assumption | (simp [*]; done)) (by first | omega | (simp; done) | (simp; omega)) (by repeat first | assumption | exact okL_nil | apply okL_cons (by decide) | apply okL_app) (no_mem (c := 120) (by simp) (by decide))) ?_
  refine fa_cons (rf_badOne (by first | assumption | (simp [*]; done)) (by first | omega | (simp; done) | (simp; omega)) (by repeat first | assumption | exact okL_nil | apply okL_cons (by decide) | apply okL_app) (no_mem (c := 120) (by simp) (by decide))) ?_
  refine fa_cons (rf_badOne (by first | assumption | (simp [*]; done)) (by first | omega | (simp; done) | (simp; omega)) (by repeat first | assumption | exact okL_nil | apply okL_cons (by decide) | apply okL_app) (no_mem (c := 95) (by simp) (by decide))) ?_
  refine fa_cons (rf_badOne (by first | assumption | (simp [*]; done)) (by first | omega | (simp; done) | (simp; omega)) (by repeat first | assumption | exact okL_nil | apply okL_cons (by decide) | apply okL_app) (no_mem (c := 120) (by simp) (by decide))) ?_
  refine fa_cons (rf_badOne (by first | assumption | (simp [*]; done)) (by first | omega | (simp; done) | (simp; omega)) (by repeat first | assumption | exact okL_nil | apply okL_cons (by decide) | apply okL_app) (no_zero (by simp))) ?_
  refine fa_cons (bad2 (p := [48]) (q := m) (by simp) (by first | assumption | (simp [*]; done)) (by first | omega | (simp; done) | (simp; omega)) (by repeat first | assumption | exact okL_nil | apply okL_cons (by decide) | apply okL_app) (by repeat first | assumption | exact okL_nil | apply okL_cons (by decide) | apply okL_app) (Or.inr (Or.inr (Or.inr (by rw [vm]; show Nat.gcd 0 w ≠ 1; rw [Nat.gcd_zero_left]; omega))))) ?_
  refine fa_cons (rf_other rfl) ?_
  refine fa_cons (rf_other rfl) ?_
  refine fa_cons (rf_other rfl) ?_
  refine fa_cons (rf_badOne (by first | assumption | (simp [*]; done)) (by first | omega | (simp; done) | (simp; omega)) (by repeat first | assumption | exact okL_nil | apply okL_cons (by decide) | apply okL_app) (no_len (by first | omega | (simp; omega)))) ?_
  refine fa_cons (bad2 (p := [49]) (q := z4400) (by simp) (by first | assumption | (simp [*]; done)) (by first | omega | (simp; done) | (simp; omega)) (by repeat first | assumption | exact okL_nil | apply okL_cons (by decide) | apply okL_app) (by repeat first | assumption | exact okL_nil | apply okL_cons (by decide) | apply okL_app) (Or.inr (Or.inl (no_len (by first | omega | (simp; omega)))))) ?_
  refine fa_cons (rf_badOne (by first | assumption | (simp [*]; done)) (by first | omega | (simp; done) | (simp; omega)) (by repeat first | assumption | exact okL_nil | apply okL_cons (by decide) | apply okL_app) (no_len (by first | omega | (simp; omega)))) ?_
  refine fa_cons (bad2 (p := uk) (q := wk) (by simp) (by first | assumption | (simp [*]; done)) (by first | omega | (simp; done) | (simp; omega)) (by repeat first | assumption | exact okL_nil | apply okL_cons (by decide) | apply okL_app) (by repeat first | assumption | exact okL_nil | apply okL_cons (by decide) | apply okL_app) (Or.inr (Or.inr (Or.inr (by rw [vuk, vwk]; exact hg))))) ?_
  refine fa_cons (rf_other rfl) ?_
  exact fun x h => nomatch h
theorem wrong_ok {a b c : Int} : ∃ x, F__law_wrong [.int c, .int a, .int b] = ok x ∧ F_read_fraction [x] = exc "NoText" none := by
  have p20 : dPow (.int 10) (.int 20) = some (.int 100000000000000000000) := pow_int (n := 20) (by decide) (by decide) (by decide)
  have m20 (x : Int) : dMod (.int x) (.int 100000000000000000000) = some (.int (x % 100000000000000000000)) := mod_int (by decide)
  have d32 (x : Int) : dDiv (.int x) (.int 32) = some (.int (x / 32)) := div_lit (by decide) (by decide)
  have m9 (x : Int) : dMod (.int x) (.int 9) = some (.int (x % 9)) := mod_int (by decide)
  have m35 (x : Int) : dMod (.int x) (.int 35) = some (.int (x % 35)) := mod_int (by decide)
  obtain ⟨u, hu, hu2⟩ : ∃ u : Nat, a % 100000000000000000000 = u ∧ u < 100000000000000000000 := ⟨(a % 100000000000000000000).toNat, by omega, by omega⟩
  obtain ⟨w, hw, hw2, hw1⟩ : ∃ w : Nat, 2 + b % 100000000000000000000 = w ∧ w < 100000000000000000002 ∧ 2 ≤ w := ⟨(2 + b % 100000000000000000000).toNat, by omega, by omega, by omega⟩
  obtain ⟨k, hk, hk2, hk1⟩ : ∃ k : Nat, 2 + c / 32 % 9 = k ∧ k < 11 ∧ 2 ≤ k := ⟨(2 + c / 32 % 9).toNat, by omega, by omega, by omega⟩
  have su : fStr [.int (u : Int)] = some (.str (tx (TL.numL u))) := str_int (by omega) (Int.lt_trans (b := 100000000000000000000) (by omega) (by decide +kernel))
  have sw : fStr [.int (w : Int)] = some (.str (tx (TL.numL w))) := str_int (by omega) (Int.lt_trans (b := 100000000000000000002) (by omega) (by decide +kernel))
  have sk : fStr [.int (k : Int)] = some (.str (tx (TL.numL k))) := str_int (by omega) (Int.lt_trans (b := 11) (by omega) (by decide +kernel))
  have lu : (TL.numL u).length ≤ 20 := TL.numL_len (by decide) (Nat.lt_of_lt_of_le hu2 (by decide))
  have lw : (TL.numL w).length ≤ 21 := TL.numL_len (by decide) (Nat.lt_trans hw2 (by decide))
  have lk : (TL.numL k).length ≤ 2 := TL.numL_len (by decide) (Nat.lt_trans hk2 (by decide))
  have iu : fInt [.str (tx (TL.numL u))] = some (.int u) := by rw [int_tx (TL.numL_digits u) (TL.numL_ne u) (by omega), TL.numL_val]
  have iw : fInt [.str (tx (TL.numL w))] = some (.int w) := by rw [int_tx (TL.numL_digits w) (TL.numL_ne w) (by omega), TL.numL_val]
  have ik : fInt [.str (tx (TL.numL k))] = some (.int k) := by rw [int_tx (TL.numL_digits k) (TL.numL_ne k) (by omega), TL.numL_val]
  have muk : dMulA (.int u) (.int k) = some (.int ((u * k : Nat) : Int)) := by rw [mul_r (by omega) (by omega)]; simp
  have mwk : dMulA (.int w) (.int k) = some (.int ((w * k : Nat) : Int)) := by rw [mul_r (by omega) (by omega)]; simp
  have huk : u * k < 10 ^ 22 := Nat.lt_of_lt_of_le (Nat.mul_lt_mul_of_lt_of_le hu2 (Nat.le_of_lt hk2) (by omega)) (by decide)
  have hwk : w * k < 10 ^ 22 := Nat.lt_of_lt_of_le (Nat.mul_lt_mul_of_lt_of_le hw2 (Nat.le_of_lt hk2) (by omega)) (by decide)
  have suk : fStr [.int ((u * k : Nat) : Int)] = some (.str (tx (TL.numL (u * k)))) := str_int (by omega) (Int.lt_trans (b := 10 ^ 22) (by exact_mod_cast huk) (by decide +kernel))
  have swk : fStr [.int ((w * k : Nat) : Int)] = some (.str (tx (TL.numL (w * k)))) := str_int (by omega) (Int.lt_trans (b := 10 ^ 22) (by exact_mod_cast hwk) (by decide +kernel))
  have luk : (TL.numL (u * k)).length ≤ 22 := TL.numL_len (by decide) huk
  have lwk : (TL.numL (w * k)).length ≤ 22 := TL.numL_len (by decide) hwk
  have r60 : dMulA (.str (tx [48])) (.int 60) = some (.str (tx (List.replicate 60 [48]).flatten)) := rep_str (n := 60) (by decide) (by decide)
  have r4400 : dMulA (.str (tx [57])) (.int 4400) = some (.str (tx (List.replicate 4400 [57]).flatten)) := rep_str (n := 4400) (by decide) (by decide)
  have r4300 : dMulA (.str (tx [48])) (.int 4300) = some (.str (tx (List.replicate 4300 [48]).flatten)) := rep_str (n := 4300) (by decide) (by decide)
  have l60 : (List.replicate 60 [48]).flatten.length = 60 := by simp
  have l4400 : (List.replicate 4400 [57]).flatten.length = 4400 := by simp
  have l4300 : (List.replicate 4300 [48]).flatten.length = 4300 := by simp
  generalize ez60 : (List.replicate 60 [48]).flatten = z60 at r60 l60
  generalize ez4400 : (List.replicate 4400 [57]).flatten = z4400 at r4400 l4400
  generalize ez4300 : (List.replicate 4300 [48]).flatten = z4300 at r4300 l4300
  have c35 : ((35 : Nat) : Int) = 35 := rfl
  clear huk hwk hu2 hw2
  unfold F__law_wrong sem__law_wrong defF
  simp only [sem__law_wrong_r8, sem__law_wrong_r7, sem__law_wrong_r6, sem__law_wrong_r5, sem__law_wrong_r4, sem__law_wrong_r3, sem__law_wrong_r2, sem__law_wrong_r1]
  simp (disch := (simp only [List.length_append, List.length_cons, List.length_nil]; omega)) only [List.length_cons, List.length_nil, if_true, initE, List.map_cons, List.map_nil, List.replicate, List.append, List.cons_append, List.nil_append, Nat.reduceAdd, Nat.reduceSub, e_seq, e_set, e_ret, e_op, e_callN, e_cons, e_nil, e_var, e_c, e_lst, e_tup, List.getElem?_cons_zero, List.getElem?_cons_succ, slotV_val, R.bind_ok, p20, m20, d32, m9, m35, hu, hw, hk, add_int, ofO_some, su, sw, sk, oneK_ok, List.set_cons_succ, List.set_cons_zero, seqK_nx, lt_2f, lt, lt_2f_30, lt_2f_31, lt_30, lt_2d, lt_78, lt_31_5f_30, lt_30_78_31, lt_30_30, lt_2b, lt_20, lt_31, lt_31_2f_31, lt_a, lt_30_2f, lt_39, lt_31_2f, lt_2f_2d, lt_2e, lt_2f_2f, lt_20_2f, cat_str, cat_lst, r60, r4400, r4300, iu, iw, ik, muk, mwk, suk, swk, len_lst, ix_lst, c35, m35, ok]
  refine pick rfl (by decide) ?_
  have fn : ∀ n : Nat, 47 ∉ TL.numL n := fun n => TL.numL_free (Or.inl (by decide))
  have f60 : 47 ∉ z60 := by rw [← ez60]; simp
  have f4400 : 47 ∉ z4400 := by rw [← ez4400]; simp
  have f4300 : 47 ∉ z4300 := by rw [← ez4300]; simp
  have o60 : okL z60 := by rw [← ez60]; intro c hc; simp at hc; omega
  have o4400 : okL z4400 := by rw [← ez4400]; intro c hc; simp at hc; omega
  have o4300 : okL z4300 := by rw [← ez4300]; intro c hc; simp at hc; omega
  exact wrong_all (fn _) (fn _) (fn _) f60 f4400 f4300 (okL_num _) (okL_num _) (okL_num _) (okL_num _) o60 o4400 o4300 lu lw luk lwk l60 l4400 l4300 (TL.numL_ne _) (TL.numL_ne _) (TL.numL_val _) hw1 (TL.numL_val _) (TL.numL_val _)
    (by rw [Nat.gcd_mul_right]; intro e; have := Nat.eq_one_of_mul_eq_one_left e; omega)
end Pu

namespace Pu
open PySem PySem.Spec L2
theorem cell_ok {ns : List Int} {k : Nat} : ∃ v, F__law_cell_at [.frz (ns.map .int), .int (k : Int)] = ok (.int v) := by
  unfold F__law_cell_at sem__law_cell_at defF
  by_cases h : k < ns.length
  · have e : (k : Int) < (ns.length : Int) := by omega
    exact ⟨ns[k], by simp [initE, e, at_nat, h]⟩
  · have e : ¬ (k : Int) < (ns.length : Int) := by omega
    exact ⟨0, by simp [initE, e]⟩
theorem size_ok (n : Int) : ∃ v, F__law_size [.int n] = ok (.int v) ∧ 0 ≤ v ∧ v < 10 ^ 60 := by
  have p20 : dPow (.int 10) (.int 20) = some (.int 100000000000000000000) := pow_int (n := 20) (by decide) (by decide) (by decide)
  have p59 : dPow (.int 10) (.int 59) = some (.int 100000000000000000000000000000000000000000000000000000000000) := pow_int (n := 59) (by decide) (by decide) (by decide)
  have e60 : (10 : Int) ^ 60 = 1000000000000000000000000000000000000000000000000000000000000 := by decide
  have m3 (x : Int) : dMod (.int x) (.int 3) = some (.int (x % 3)) := mod_int (by decide)
  have d3 (x : Int) : dDiv (.int x) (.int 3) = some (.int (x / 3)) := div_lit (by decide) (by decide)
  have m10 (x : Int) : dMod (.int x) (.int 10) = some (.int (x % 10)) := mod_int (by decide)
  have m20 (x : Int) : dMod (.int x) (.int 100000000000000000000) = some (.int (x % 100000000000000000000)) := mod_int (by decide)
  have m59 (x : Int) : dMod (.int x) (.int 900000000000000000000000000000000000000000000000000000000000) = some (.int (x % 900000000000000000000000000000000000000000000000000000000000)) := mod_int (by decide)
  have mu (x : Int) : dMulA (.int x) (.int 48271) = some (.int (x * 48271)) := mul_r (by decide) (by decide)
  have m9 (x : Int) : dMulA (.int 9) (.int x) = some (.int (9 * x)) := mul_l (by decide) (by decide)
  unfold F__law_size sem__law_size defF
  simp only [sem__law_size_r1]
  rw [e60]
  by_cases h0 : n % 3 = 0
  · exact ⟨n / 3 % 10, by simp [initE, h0, m3, d3, m10], by omega, by omega⟩
  · by_cases h1 : n % 3 = 1
    · exact ⟨n / 3 * 48271 % 100000000000000000000, by simp [initE, h1, m3, d3, mu, p20, m20], by omega, by omega⟩
    · exact ⟨100000000000000000000000000000000000000000000000000000000000 + n / 3 * 48271 % 900000000000000000000000000000000000000000000000000000000000, by simp [initE, h0, h1, m3, d3, mu, p59, m9, m59], by omega, by omega⟩
/-- the loop: each i in it is a number from 0 to 2 -/
theorem spoil_loop {ns : List Int} {d1 d2 d3 d4 d5 d6 : D} : ∀ (l : List Nat) (s7 s8 : Slot), (∀ i ∈ l, i < 3) → ∃ t7 t8, forB (.one 7) sem_law_l1 (l.map fun i => .int (i : Nat)) [.val (.frz (ns.map .int)), .val d1, .val d2, .val d3, .val d4, .val d5, .val d6, s7, s8] = some (.nx, [.val (.frz (ns.map .int)), .val d1, .val d2, .val d3, .val d4, .val d5, .val d6, t7, t8]) := by
  intro l
  induction l with
  | nil => intro s7 s8 _; exact ⟨s7, s8, rfl⟩
  | cons i r ih =>
    intro s7 s8 hl
    have hi := hl i List.mem_cons_self
    obtain ⟨v2, c2⟩ : ∃ v, F__law_cell_at [.frz (ns.map .int), .int 2] = ok (.int v) := cell_ok (k := 2)
    obtain ⟨v3, c3⟩ : ∃ v, F__law_cell_at [.frz (ns.map .int), .int (3 + (i : Nat))] = ok (.int v) := by
      have := cell_ok (ns := ns) (k := 3 + i)
      simpa using this
    obtain ⟨v4, c4⟩ : ∃ v, F__law_cell_at [.frz (ns.map .int), .int 4] = ok (.int v) := cell_ok (k := 4)
    have d : dDiv (.int v2) (.int ((i : Nat) + 1)) = some (.int (v2 / ((i : Nat) + 1))) := div_lit (by omega) (by omega)
    have m : dMulA (.int 7) (.int (i : Nat)) = some (.int (7 * (i : Nat))) := mul_l (by decide) (by decide)
    obtain ⟨x, wx, rx⟩ := wrong_ok (a := v3) (b := v4) (c := v2 / ((i : Nat) + 1) + 7 * (i : Nat))
    have rf := refused_of rx
    rw [List.map_cons, for_one]
    have e : sem_law_l1 ([Slot.val (.frz (ns.map .int)), .val d1, .val d2, .val d3, .val d4, .val d5, .val d6, s7, s8].set 7 (.val (.int (i : Nat)))) = some (.nx, [Slot.val (.frz (ns.map .int)), .val d1, .val d2, .val d3, .val d4, .val d5, .val d6, .val (.int (i : Nat)), .val (.int (v2 / ((i : Nat) + 1) + 7 * (i : Nat)))]) := by
      unfold sem_law_l1
      simp [c2, c3, c4, d, m, wx, rf]
    rw [e, lpK_nx]
    exact ih _ _ fun j hj => hl j (List.mem_cons_of_mem _ hj)
theorem gcd_lows {A B : Nat} (hB : 1 ≤ B) : 1 ≤ Nat.gcd A B ∧ Nat.gcd A B ≤ B ∧ 1 ≤ B / Nat.gcd A B ∧ Nat.gcd (A / Nat.gcd A B) (B / Nat.gcd A B) = 1 := by
  have g : 0 < Nat.gcd A B := Nat.gcd_pos_of_pos_right A hB
  have gl : Nat.gcd A B ≤ B := Nat.gcd_le_right A hB
  exact ⟨g, gl, Nat.div_pos gl g, Nat.gcd_div_gcd_div_gcd_of_pos_right hB⟩
theorem law_rest {ns : List Int} {A B : Nat} (hA : A < 10 ^ 60) (hB1 : 1 ≤ B) (hB : B < 10 ^ 60) : runB (sem_law_r3 [.val (.frz (ns.map .int)), .val (.int A), .val (.int B), .un, .un, .un, .un, .un, .un]) = ok (.bl true) := by
  obtain ⟨g1, gl, q1, cop⟩ := gcd_lows (A := A) hB1
  generalize hg : Nat.gcd A B = g at g1 gl q1 cop
  have hdv : F__law_divisor [.int A, .int B] = ok (.int g) := by rw [F__law_divisor_ok (by omega)]; simp [hg]
  have lg : (g : Int).natAbs.log2 < 9000 := by
    refine Nat.lt_trans (log2_lt (k := 200) (by omega) ?_) (by decide)
    have h1 : g < 10 ^ 60 := Nat.lt_of_le_of_lt gl hB
    have h2 : (10 : Nat) ^ 60 < 2 ^ 200 := by decide +kernel
    exact_mod_cast Nat.lt_trans h1 h2
  have dA : dDiv (.int A) (.int g) = some (.int ((A / g : Nat) : Int)) := by rw [div_int (by omega) lg]; simp
  have dB : dDiv (.int B) (.int g) = some (.int ((B / g : Nat) : Int)) := by rw [div_int (by omega) lg]; simp
  have hp : A / g < 10 ^ 60 := Nat.lt_of_le_of_lt (Nat.div_le_self _ _) hA
  have hq : B / g < 10 ^ 60 := Nat.lt_of_le_of_lt (Nat.div_le_self _ _) hB
  generalize A / g = p at dA hp cop
  generalize B / g = q at dB hq cop q1
  have np := numOk hp
  have nq := numOk hq
  have b500 : ∀ n : Nat, n < 10 ^ 60 → (n : Int) < 10 ^ 500 := fun n h => by
    have h2 : (10 : Nat) ^ 60 < 10 ^ 500 := by decide +kernel
    exact_mod_cast Nat.lt_trans h h2
  have sp : fStr [.int (p : Int)] = some (.str (tx (TL.numL p))) := str_int (by omega) (b500 p hp)
  have sq : fStr [.int (q : Int)] = some (.str (tx (TL.numL q))) := str_int (by omega) (b500 q hq)
  have sh := F_show_ok (a := p) (b := q) (by omega) (b500 p hp) (by omega) (b500 q hq) (by have := np.2.1; simp; omega) (by have := nq.2.1; simp; omega)
  have r3 : rng1 [.int 3] = ok ([0, 1, 2].map fun (i : Nat) => D.int (i : Int)) := rng1_int (by decide) (by decide)
  have lp := np.2.1
  have lq := nq.2.1
  simp only [sem_law_r3, sem_law_r4, sem_law_r5, sem_law_r6, sem_law_r7, sem_law_r8, sem_law_r9, sem_law_r10]
  by_cases h1 : q = 1
  · subst h1
    have rd := rf_okOne np
    rw [TL.numL_val] at rd
    have ne : dNe (.str (tx (TL.numL p))) (.str (tx (TL.numL p))) = some (.bl false) := by rw [ne_str (okL_num _) (okL_num _)]; simp
    obtain ⟨t7, t8, e⟩ := spoil_loop (ns := ns) (d1 := .int A) (d2 := .int B) (d3 := .int g) (d4 := .tup [.int p, .int 1]) (d5 := .str (tx (TL.numL p))) (d6 := .tup [.int p, .int 1]) [0, 1, 2] .un .un (by decide)
    simp at sh
    simp [hdv, dA, dB, sp, sh, rd, ne, r3]
    simp at e
    rw [e]
    simp [rd]
  · have h2 : (1 : Int) < (q : Int) := by omega
    have rd := rf_okTwo np nq (by rw [TL.numL_val]; omega) (by rw [TL.numL_val, TL.numL_val]; exact cop)
    rw [TL.numL_val, TL.numL_val] at rd
    have ok1 : okL (TL.numL p ++ 47 :: TL.numL q) := okL_app (okL_num _) (okL_cons (by decide) (okL_num _))
    have ne : dNe (.str (tx (TL.numL p ++ 47 :: TL.numL q))) (.str (tx (TL.numL p ++ 47 :: TL.numL q))) = some (.bl false) := by rw [ne_str ok1 ok1]; simp
    have c1 : dAdd (.str (tx (TL.numL p))) (.str (tx [47])) = some (.str (tx (TL.numL p ++ [47]))) := cat_str (by simp; omega)
    have c2 : dAdd (.str (tx (TL.numL p ++ [47]))) (.str (tx (TL.numL q))) = some (.str (tx (TL.numL p ++ 47 :: TL.numL q))) := by rw [cat_str (by simp; omega)]; simp
    have h3 : ¬ (q : Int) = 1 := by omega
    obtain ⟨t7, t8, e⟩ := spoil_loop (ns := ns) (d1 := .int A) (d2 := .int B) (d3 := .int g) (d4 := .tup [.int p, .int q]) (d5 := .str (tx (TL.numL p ++ 47 :: TL.numL q))) (d6 := .tup [.int p, .int q]) [0, 1, 2] .un .un (by decide)
    simp [h3] at sh
    simp [hdv, dA, dB, sp, sq, h2, lit_slash, c1, c2, sh, rd, ne, r3]
    simp at e
    rw [e]
    simp [rd]
theorem plain_law : ∀ ns : List Int, ns.length ≤ 63 → (∀ z ∈ ns, Builtin.Int.intBits z ≤ 1048576) → F_law [.frz (ns.map .int)] = ok (.bl true) := by
  intro ns _ _
  obtain ⟨v0, c0⟩ : ∃ v, F__law_cell_at [.frz (ns.map .int), .int 0] = ok (.int v) := cell_ok (k := 0)
  obtain ⟨v1, c1⟩ : ∃ v, F__law_cell_at [.frz (ns.map .int), .int 1] = ok (.int v) := cell_ok (k := 1)
  obtain ⟨v2, c2⟩ : ∃ v, F__law_cell_at [.frz (ns.map .int), .int 2] = ok (.int v) := cell_ok (k := 2)
  obtain ⟨a, s0, a0, a1⟩ := size_ok v0
  obtain ⟨b, s1, b0, b1⟩ := size_ok v1
  have p60 : dPow (.int 10) (.int 60) = some (.int 1000000000000000000000000000000000000000000000000000000000000) := pow_int (n := 60) (by decide) (by decide) (by decide)
  have m59 : dMod (.int b) (.int 999999999999999999999999999999999999999999999999999999999999) = some (.int (b % 999999999999999999999999999999999999999999999999999999999999)) := mod_int (by decide)
  have m4 : dMod (.int v2) (.int 4) = some (.int (v2 % 4)) := mod_int (by decide)
  have e60 : (10 : Int) ^ 60 = 1000000000000000000000000000000000000000000000000000000000000 := by decide
  have e60n : (10 : Nat) ^ 60 = 1000000000000000000000000000000000000000000000000000000000000 := by decide
  rw [e60] at a1 b1
  obtain ⟨A, rfl⟩ := Int.eq_ofNat_of_zero_le a0
  have hA : A < 10 ^ 60 := by rw [e60n]; omega
  unfold F_law sem_law defF
  simp only [sem_law_r1, sem_law_r2]
  by_cases h : v2 % 4 = 1
  · simp [initE, c0, c1, c2, s0, s1, p60, m59, m4, h]
    exact law_rest (B := 1) hA (by decide) (by decide)
  · obtain ⟨B, hB⟩ : ∃ B : Nat, 1 + b % 999999999999999999999999999999999999999999999999999999999999 = (B : Int) := ⟨(1 + b % 999999999999999999999999999999999999999999999999999999999999).toNat, by omega⟩
    simp [initE, c0, c1, c2, s0, s1, p60, m59, m4, h, hB]
    exact law_rest hA (by omega) (by rw [e60n]; omega)
end Pu

namespace Pu
open PySem PySem.Spec L2
open PyProof.Rows (envOfC)
structure Dx (K : PySem.W.Frag) (mg : Str → Option Value) : Prop where
  d_is_whole : DefOk K mg "is_whole" st_is_whole []
  d_divisor : DefOk K mg "divisor" st_divisor []
  d_is_fraction : DefOk K mg "is_fraction" st_is_fraction []
  d_fraction : DefOk K mg "fraction" st_fraction [.int 1]
  d_read_number : DefOk K mg "read_number" st_read_number []
  d_show_fraction : DefOk K mg "show_fraction" st_show_fraction []
  d_read_fraction : DefOk K mg "read_fraction" st_read_fraction []
  d__law_cell_at : DefOk K mg "_law_cell_at" st__law_cell_at []
  d__law_divisor : DefOk K mg "_law_divisor" st__law_divisor []
  d__law_size : DefOk K mg "_law_size" st__law_size []
  d__law_refused : DefOk K mg "_law_refused" st__law_refused []
  d__law_wrong : DefOk K mg "_law_wrong" st__law_wrong []
  d_law : DefOk K mg "law" st_law []
theorem ok_is_whole {P : Program} {w : World} {K : PySem.W.Frag} {mg : Str → Option Value} {base : Heap} (T : Fx K mg) (D : Dx K mg) : CallOk P w K mg base (gg K) 1 "is_whole" F_is_whole :=
  call_ok D.d_is_whole sc_is_whole (fun f cdv A outer s H E hr => body_is_whole T cdv A outer s H E hr) (fun _ _ _ _ _ _ us hl => match us, hl with | [_], _ => rfl)
theorem ok_divisor {P : Program} {w : World} {K : PySem.W.Frag} {mg : Str → Option Value} {base : Heap} (T : Fx K mg) (D : Dx K mg) : CallOk P w K mg base (gg K) 1 "divisor" F_divisor :=
  call_ok D.d_divisor sc_divisor (fun f cdv A outer s H E hr => body_divisor T cdv A outer s H E hr) (fun _ _ _ _ _ _ us hl => match us, hl with | [_, _], _ => rfl)
theorem ok_is_fraction {P : Program} {w : World} {K : PySem.W.Frag} {mg : Str → Option Value} {base : Heap} (T : Fx K mg) (D : Dx K mg) : CallOk P w K mg base (gg K) 2 "is_fraction" F_is_fraction :=
  call_ok D.d_is_fraction sc_is_fraction (fun f cdv A outer s H E hr => body_is_fraction T (ok_is_whole T D) (ok_divisor T D) cdv A outer s H E hr) (fun _ _ _ _ _ _ us hl => match us, hl with | [_], _ => rfl)
theorem ok_fraction__1 {P : Program} {w : World} {K : PySem.W.Frag} {mg : Str → Option Value} {base : Heap} (T : Fx K mg) (D : Dx K mg) : CallOkD P w K mg base (gg K) 2 "fraction" F_fraction [.int 1] :=
  call_okD D.d_fraction sc_fraction 1 rfl (fun _ => .int _) (fun f cdv A outer s H E hr => body_fraction T (ok_is_whole T D) (ok_divisor T D) cdv A outer s H E hr) (fun _ _ _ _ _ _ _ us its hl hi => match us, its, hl, hi with | [_], [_], _, _ => ⟨_, rfl, rfl⟩)
theorem ok_read_number {P : Program} {w : World} {K : PySem.W.Frag} {mg : Str → Option Value} {base : Heap} (T : Fx K mg) (D : Dx K mg) : CallOk P w K mg base (gg K) 1 "read_number" F_read_number :=
  call_ok D.d_read_number sc_read_number (fun f cdv A outer s H E hr => body_read_number T cdv A outer s H E hr) (fun _ _ _ _ _ _ us hl => match us, hl with | [_], _ => rfl)
theorem ok_show_fraction {P : Program} {w : World} {K : PySem.W.Frag} {mg : Str → Option Value} {base : Heap} (T : Fx K mg) (D : Dx K mg) : CallOk P w K mg base (gg K) 1 "show_fraction" F_show_fraction :=
  call_ok D.d_show_fraction sc_show_fraction (fun f cdv A outer s H E hr => body_show_fraction T cdv A outer s H E hr) (fun _ _ _ _ _ _ us hl => match us, hl with | [_], _ => rfl)
theorem ok_read_fraction {P : Program} {w : World} {K : PySem.W.Frag} {mg : Str → Option Value} {base : Heap} (T : Fx K mg) (D : Dx K mg) : CallOk P w K mg base (gg K) 3 "read_fraction" F_read_fraction :=
  call_ok D.d_read_fraction sc_read_fraction (fun f cdv A outer s H E hr => body_read_fraction T (ok_read_number T D) (ok_fraction__1 T D) (ok_is_fraction T D) cdv A outer s H E hr) (fun _ _ _ _ _ _ us hl => match us, hl with | [_], _ => rfl)
theorem ok__law_cell_at {P : Program} {w : World} {K : PySem.W.Frag} {mg : Str → Option Value} {base : Heap} (T : Fx K mg) (D : Dx K mg) : CallOk P w K mg base (gg K) 1 "_law_cell_at" F__law_cell_at :=
  call_ok D.d__law_cell_at sc__law_cell_at (fun f cdv A outer s H E hr => body__law_cell_at T cdv A outer s H E hr) (fun _ _ _ _ _ _ us hl => match us, hl with | [_, _], _ => rfl)
theorem ok__law_divisor {P : Program} {w : World} {K : PySem.W.Frag} {mg : Str → Option Value} {base : Heap} (T : Fx K mg) (D : Dx K mg) : CallOk P w K mg base (gg K) 1 "_law_divisor" F__law_divisor :=
  call_ok D.d__law_divisor sc__law_divisor (fun f cdv A outer s H E hr => body__law_divisor T cdv A outer s H E hr) (fun _ _ _ _ _ _ us hl => match us, hl with | [_, _], _ => rfl)
theorem ok__law_size {P : Program} {w : World} {K : PySem.W.Frag} {mg : Str → Option Value} {base : Heap} (T : Fx K mg) (D : Dx K mg) : CallOk P w K mg base (gg K) 1 "_law_size" F__law_size :=
  call_ok D.d__law_size sc__law_size (fun f cdv A outer s H E hr => body__law_size T cdv A outer s H E hr) (fun _ _ _ _ _ _ us hl => match us, hl with | [_], _ => rfl)
theorem ok__law_refused {P : Program} {w : World} {K : PySem.W.Frag} {mg : Str → Option Value} {base : Heap} (T : Fx K mg) (D : Dx K mg) : CallOk P w K mg base (gg K) 4 "_law_refused" F__law_refused :=
  call_ok D.d__law_refused sc__law_refused (fun f cdv A outer s H E hr => body__law_refused T (ok_read_fraction T D) cdv A outer s H E hr) (fun _ _ _ _ _ _ us hl => match us, hl with | [_], _ => rfl)
theorem ok__law_wrong {P : Program} {w : World} {K : PySem.W.Frag} {mg : Str → Option Value} {base : Heap} (T : Fx K mg) (D : Dx K mg) : CallOk P w K mg base (gg K) 1 "_law_wrong" F__law_wrong :=
  call_ok D.d__law_wrong sc__law_wrong (fun f cdv A outer s H E hr => body__law_wrong T cdv A outer s H E hr) (fun _ _ _ _ _ _ us hl => match us, hl with | [_, _, _], _ => rfl)
theorem ok_law {P : Program} {w : World} {K : PySem.W.Frag} {mg : Str → Option Value} (T : Fx K mg) (D : Dx K mg) : LawOk P w K mg (gg K) 5 "law" "_law_script" F_law :=
  law_ok D.d_law sc_law (fun base f cdv A outer s H E hr => body_law (base := base) T (ok__law_size (base := base) T D) (ok__law_cell_at (base := base) T D) (ok__law_divisor (base := base) T D) (ok_show_fraction (base := base) T D) (ok_read_fraction (base := base) T D) (ok__law_refused (base := base) T D) (ok__law_wrong (base := base) T D) cdv A outer s H E hr) (fun _ _ _ _ _ _ us hl => match us, hl with | [_], _ => rfl)
def fa : List He.Fa := [.free "ValueError", .free "abs", .free "bool", .free "int", .free "isinstance", .free "len", .free "range", .free "str", .free "tuple", .str "FIGURES" "0123456789", .int "MOST_FIGURES" 60, .glo "BadMachine", .glo "NoMark", .glo "NoNumber", .glo "NoRoad", .glo "NoRoom", .glo "NoRow", .glo "NoRun", .glo "NoText", .glo "TooMany", .glo "WalkError", .exc "NoNumber", .exc "NoText", .glo "is_whole", .glo "divisor", .glo "is_fraction", .glo "fraction", .glo "read_number", .glo "show_fraction", .glo "read_fraction", .glo "_law_cell_at", .glo "_law_divisor", .glo "_law_size", .glo "_law_refused", .glo "_law_wrong", .glo "law"]
def fnD : List He.DefD := [dOf "is_whole" st_is_whole [], dOf "divisor" st_divisor [], dOf "is_fraction" st_is_fraction [], dOf "fraction" st_fraction [.int 1], dOf "read_number" st_read_number [], dOf "show_fraction" st_show_fraction [], dOf "read_fraction" st_read_fraction [], dOf "_law_cell_at" st__law_cell_at [], dOf "_law_divisor" st__law_divisor [], dOf "_law_size" st__law_size [], dOf "_law_refused" st__law_refused [], dOf "_law_wrong" st__law_wrong [], dOf "law" st_law []]
def tupL : List (Str × List Str) := []
def issL : List ((Str × Option String) × List Str) := [(("BadMachine", none), []), (("NoMark", none), []), (("NoNumber", none), ["NoNumber"]), (("NoRoad", none), []), (("NoRoom", none), []), (("NoRow", none), []), (("NoRun", none), []), (("NoText", none), ["NoText"]), (("TooMany", none), []), (("ValueError", some "ValueError"), ["NoNumber", "NoText"])]
def catL : List (Str × List Str) := [("WalkError", ["NoNumber", "NoText"])]
def exq : PySem.W.Frag → Bool := exB tupL raisedX issL catL
theorem fx_of {K : PySem.W.Frag} {h : Heap} {mg : Str → Option Value} (X : K.In h) (G : h.Ns mainGlobals mg) (c : He.SaysD fa fnD K) (e : exq K = true) : Fx K mg where
  m_ValueError := He.free_ok X G (c.fact 0 rfl)
  m_abs := He.free_ok X G (c.fact 1 rfl)
  m_bool := He.free_ok X G (c.fact 2 rfl)
  m_int := He.free_ok X G (c.fact 3 rfl)
  m_isinstance := He.free_ok X G (c.fact 4 rfl)
  m_len := He.free_ok X G (c.fact 5 rfl)
  m_range := He.free_ok X G (c.fact 6 rfl)
  m_str := He.free_ok X G (c.fact 7 rfl)
  m_tuple := He.free_ok X G (c.fact 8 rfl)
  k_FIGURES := He.str_ok X G (c.fact 9 rfl)
  k_MOST_FIGURES := He.int_ok X G (c.fact 10 rfl)
  g_BadMachine := He.glo_ok X G (c.fact 11 rfl)
  g_NoMark := He.glo_ok X G (c.fact 12 rfl)
  g_NoNumber := He.glo_ok X G (c.fact 13 rfl)
  g_NoRoad := He.glo_ok X G (c.fact 14 rfl)
  g_NoRoom := He.glo_ok X G (c.fact 15 rfl)
  g_NoRow := He.glo_ok X G (c.fact 16 rfl)
  g_NoRun := He.glo_ok X G (c.fact 17 rfl)
  g_NoText := He.glo_ok X G (c.fact 18 rfl)
  g_TooMany := He.glo_ok X G (c.fact 19 rfl)
  g_WalkError := He.glo_ok X G (c.fact 20 rfl)
  x_NoNumber := excF_of X G (c.fact 13 rfl) (c.fact 21 rfl)
  x_NoText := excF_of X G (c.fact 18 rfl) (c.fact 22 rfl)
  i_BadMachine := exB_is e (List.mem_of_getElem? (i := 0) rfl)
  i_NoMark := exB_is e (List.mem_of_getElem? (i := 1) rfl)
  i_NoNumber := exB_is e (List.mem_of_getElem? (i := 2) rfl)
  i_NoRoad := exB_is e (List.mem_of_getElem? (i := 3) rfl)
  i_NoRoom := exB_is e (List.mem_of_getElem? (i := 4) rfl)
  i_NoRow := exB_is e (List.mem_of_getElem? (i := 5) rfl)
  i_NoRun := exB_is e (List.mem_of_getElem? (i := 6) rfl)
  i_NoText := exB_is e (List.mem_of_getElem? (i := 7) rfl)
  i_TooMany := exB_is e (List.mem_of_getElem? (i := 8) rfl)
  i_ValueError := exB_is e (List.mem_of_getElem? (i := 9) rfl)
  cat_WalkError := exB_cat e (List.mem_of_getElem? (i := 0) rfl)
theorem dx_of {K : PySem.W.Frag} {h : Heap} {mg : Str → Option Value} (X : K.In h) (G : h.Ns mainGlobals mg) (c : He.SaysD fa fnD K) : Dx K mg where
  d_is_whole := ⟨c.def_ 0 rfl, He.glo_ok X G (c.fact 23 rfl)⟩
  d_divisor := ⟨c.def_ 1 rfl, He.glo_ok X G (c.fact 24 rfl)⟩
  d_is_fraction := ⟨c.def_ 2 rfl, He.glo_ok X G (c.fact 25 rfl)⟩
  d_fraction := ⟨c.def_ 3 rfl, He.glo_ok X G (c.fact 26 rfl)⟩
  d_read_number := ⟨c.def_ 4 rfl, He.glo_ok X G (c.fact 27 rfl)⟩
  d_show_fraction := ⟨c.def_ 5 rfl, He.glo_ok X G (c.fact 28 rfl)⟩
  d_read_fraction := ⟨c.def_ 6 rfl, He.glo_ok X G (c.fact 29 rfl)⟩
  d__law_cell_at := ⟨c.def_ 7 rfl, He.glo_ok X G (c.fact 30 rfl)⟩
  d__law_divisor := ⟨c.def_ 8 rfl, He.glo_ok X G (c.fact 31 rfl)⟩
  d__law_size := ⟨c.def_ 9 rfl, He.glo_ok X G (c.fact 32 rfl)⟩
  d__law_refused := ⟨c.def_ 10 rfl, He.glo_ok X G (c.fact 33 rfl)⟩
  d__law_wrong := ⟨c.def_ 11 rfl, He.glo_ok X G (c.fact 34 rfl)⟩
  d_law := ⟨c.def_ 12 rfl, He.glo_ok X G (c.fact 35 rfl)⟩
abbrev Rw : PySem.W.OpenRow := PySem.W.OpenLaw.row PySem.Challenge.rw_zonewalk_k81_fractions_as_text
abbrev hkq : PySem.W.Hook := He.hookX 4 fa fnD [] [] exq
def obq (s : PySem.W.SharedT) : hkq.α := He.obsX 4 fa fnD [] [] exq (HandSHeadRun.getT s)
theorem obq_eq (s : PySem.W.SharedT) : obq s = hkq.obs s.abs := He.obsX_eq (HandSHeadRun.getT_eq s)
def looseL : List Str := (["__name__", "WalkError", "NoNumber", "BadMachine", "TooMany", "NoRun", "NoMark", "NoRoad", "NoRoom", "NoText", "NoRow", "is_whole", "divisor", "is_fraction", "fraction", "FIGURES", "MOST_FIGURES", "read_number", "show_fraction", "read_fraction", "_law_cell_at", "_law_divisor", "_law_size", "_law_refused", "_law_wrong"] : List Str)
theorem runq (w : World) : HandSHeadRun.RunEq Rw (PySem.W.view Rw.prog [28]) hkq obq 15000 looseL w := by
  intro os
  kernel_rfl
end Pu
open PySem PySem.W PySem.Calls PyProof.Rows
theorem PySem.Challenge.cw_zonewalk_k81_fractions_as_text_holds : PySem.Challenge.rw_zonewalk_k81_fractions_as_text.Holds := by
  w_on; o_law
  refine HandSHeadRun.head_any (r := OpenLaw.row PySem.Challenge.rw_zonewalk_k81_fractions_as_text) (q := view (OpenLaw.row PySem.Challenge.rw_zonewalk_k81_fractions_as_text).prog [28]) (H := Pu.hkq) (ob := Pu.obq) (M := 15000) (loose := Pu.looseL) (d := HandSHeadRun.topDef (OpenLaw.row PySem.Challenge.rw_zonewalk_k81_fractions_as_text).prog 28) (kwd := []) Pu.obq_eq
    (by kernel_rfl) (fun s => by kernel_rfl) Pu.runq (by kernel_rfl) (by kernel_rfl) (by kernel_rfl) (by rfl) (by first | assumption | decide +kernel) (by decide +kernel) ⟨rfl, rfl, rfl, rfl, rfl, by decide +kernel⟩ ?hw ?hc
  case hw => w_witness2
  case hc =>
    refine Pu.walk_P (l := PySem.Challenge.rw_zonewalk_k81_fractions_as_text) (n := 63) (k := 5) (x := "_law_script") (F := Pu.F_law) rfl (by decide) (by kernel_rfl) ⟨rfl, by decide, by decide⟩ ?F Pu.plain_law
    intro w mg h Y G
    obtain ⟨K, KX, c⟩ := Y
    have T := Pu.fx_of KX G c.t.d c.more
    have D := Pu.dx_of KX G c.t.d
    have e : (HandSHeadRun.topDef (OpenLaw.row PySem.Challenge.rw_zonewalk_k81_fractions_as_text).prog 28).name = ("law" : PySem.Str) := by kernel_rfl
    rw [e]
    exact ⟨K, Pu.gg K, rfl, KX, D.d_law.g, Pu.ok_law T D⟩

