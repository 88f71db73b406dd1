import PyProof.Rows.All
import Wide.All
import OpenK.AllK
import Wide.FinOn
import PyProof.EqAt
import PyProof.EqKinds
import PyProof.TupleCall
import HandS.ForMost
import HandS.ForExc
import HandS.CallSlots
import HandS.Wide
import HandS.Zip
import HandS.Style
import HandS.Rev
import HandS.IsInst
import HandS.Strs
import HandS.TupAny
import HandS.Text
import HandS.Dict
import HandS.Iter
import KE.KDictPairs
import HandS.WideMore
import PySem.Challenge.RW_saidbelow_k00_cells_as_figures_and_back
set_option Elab.async false
set_option linter.all false
set_option maxRecDepth 100000
/-! # DX: values as trees. What an expression, a statement, a def does, told by a function over trees of data; the heap is told once, here. -/
namespace DX
open PySem PySem.Spec PyProof.Rows L2

inductive D where
  | non
  | bl (b : Bool)
  | int (i : Int)
  | str (x : Str)
  | tup (xs : List D)
  | lst (xs : List D)
  | rdl (xs : List D)
  | dic (ks : List Key) (xs : List D)
  | ins (C : Addr) (ns : List Str) (xs : List D)
  | tuf (xs : List D)
  deriving Inhabited

mutual
inductive Rep (K : PySem.W.Frag) (F : Hp) : V → D → Prop
  | non : Rep K F .non .non
  | bl (b : Bool) : Rep K F (.bl b) (.bl b)
  | int (i : Int) : Rep K F (.int i) (.int i)
  | str (x : Str) : Rep K F (.str x) (.str x)
  | tup {a : Addr} {vs : List V} {ds : List D} : SqT K F a vs → Reps K F vs ds → Rep K F (.ref a) (.tup ds)
  | rdl {a : Addr} {vs : List V} {ds : List D} : SqL K F a vs → Reps K F vs ds → Rep K F (.ref a) (.rdl ds)
  | tuf {a : Addr} {o : Obj} {vs : List V} {ds : List D} : F a = some (.frz o (.tup vs)) → o.cls = .type "tuple" → o.dict = none → Reps K F vs ds → Rep K F (.ref a) (.tuf ds)
  | cell {a : Addr} {o : HO} {d : D} : F a = some o → Cont K F o d → Rep K F (.ref a) d
inductive Reps (K : PySem.W.Frag) (F : Hp) : List V → List D → Prop
  | nil : Reps K F [] []
  | cons {v : V} {vs : List V} {d : D} {ds : List D} : Rep K F v d → Reps K F vs ds → Reps K F (v :: vs) (d :: ds)
inductive Cont (K : PySem.W.Frag) (F : Hp) : HO → D → Prop
  | lst {vs : List V} {ds : List D} : Reps K F vs ds → Cont K F (.lst vs) (.lst ds)
  | dic {kvs : List (Key × V)} {vs : List V} {ks : List Key} {ds : List D} : kvs.map (·.1) = ks → kvs.map (·.2) = vs → Reps K F vs ds → Cont K F (.dK kvs) (.dic ks ds)
  | ins {C dx : Addr} {fs : List (Str × V)} {vs : List V} {ns : List Str} {ds : List D} : fs.map (·.1) = ns → fs.map (·.2) = vs → Reps K F vs ds → Cont K F (.ins C dx fs) (.ins C ns ds)
end

def Le (F H : Hp) : Prop := ∀ a o, F a = some o → H a = some o
theorem Le.refl (F : Hp) : Le F F := fun _ _ h => h
theorem Le.trans {F G H : Hp} (a : Le F G) (b : Le G H) : Le F H := fun x o h => b x o (a x o h)
theorem Le.updR {F H : Hp} {p : Addr} {o : HO} (e : Le F H) (h : F p = none) : Le F (L2.upd H p o) := fun a u ha => by
  have z : a ≠ p := fun q => by rw [q, h] at ha; cases ha
  rw [upd_ne z]; exact e a u ha
theorem Le.updB {F H : Hp} {p : Addr} {o : HO} (e : Le F H) : Le (upd F p o) (upd H p o) := fun a u ha => by
  by_cases z : a = p
  · subst z; rw [upd_same] at ha ⊢; exact ha
  · rw [upd_ne z] at ha ⊢; exact e a u ha
theorem Le.mk {F H : Hp} {p : Addr} {o : HO} (e : Le F H) (h : H p = some o) : Le (upd F p o) H := fun a u ha => by
  by_cases z : a = p
  · subst z; rw [upd_same] at ha; rw [h]; exact ha
  · rw [upd_ne z] at ha; exact e a u ha
theorem Le.new {F H : Hp} {p : Addr} (e : Le F H) (h : H p = none) : F p = none := by
  cases q : F p with
  | none => rfl
  | some u => rw [e p u q] at h; cases h

abbrev Sg := List (Option V)
variable {K : PySem.W.Frag}
theorem sqT_mono {F F' : Hp} {a : Addr} {xs : List V} (e : Le F F') (h : SqT K F a xs) : SqT K F' a xs := by
  rcases h with (h | ⟨o, h⟩) | h
  · exact .inl (.inl (e _ _ h))
  · exact .inl (.inr ⟨o, e _ _ h⟩)
  · exact .inr h
theorem sqL_mono {F F' : Hp} {a : Addr} {xs : List V} (e : Le F F') (h : SqL K F a xs) : SqL K F' a xs := by
  rcases h with (h | ⟨o, h⟩) | h
  · exact .inl (.inl (e _ _ h))
  · exact .inl (.inr ⟨o, e _ _ h⟩)
  · exact .inr h
mutual
theorem Rep.mono {F F' : Hp} (e : Le F F') : ∀ {v : V} {d : D}, Rep K F v d → Rep K F' v d
  | _, _, .non => .non
  | _, _, .bl b => .bl b
  | _, _, .int i => .int i
  | _, _, .str x => .str x
  | _, _, .tup h r => .tup (sqT_mono e h) (Reps.mono e r)
  | _, _, .rdl h r => .rdl (sqL_mono e h) (Reps.mono e r)
  | _, _, .tuf h h2 h3 r => .tuf (e _ _ h) h2 h3 (Reps.mono e r)
  | _, _, .cell h r => .cell (e _ _ h) (Cont.mono e r)
theorem Reps.mono {F F' : Hp} (e : Le F F') : ∀ {vs : List V} {ds : List D}, Reps K F vs ds → Reps K F' vs ds
  | _, _, .nil => .nil
  | _, _, .cons h r => .cons (Rep.mono e h) (Reps.mono e r)
theorem Cont.mono {F F' : Hp} (e : Le F F') : ∀ {o : HO} {d : D}, Cont K F o d → Cont K F' o d
  | _, _, .lst r => .lst (Reps.mono e r)
  | _, _, .dic h h2 r => .dic h h2 (Reps.mono e r)
  | _, _, .ins h h2 r => .ins h h2 (Reps.mono e r)
end
theorem Reps.length {F : Hp} : ∀ {vs : List V} {ds : List D}, Reps K F vs ds → vs.length = ds.length
  | _, _, .nil => rfl
  | _, _, .cons _ r => by simp [Reps.length r]
theorem Reps.get {F : Hp} : ∀ {vs : List V} {ds : List D} {i : Nat} {d : D}, Reps K F vs ds → ds[i]? = some d → ∃ v, vs[i]? = some v ∧ Rep K F v d
  | _, _, _, _, .nil, e => by simp at e
  | _, _, 0, _, .cons h _, e => by simp at e; subst e; exact ⟨_, rfl, h⟩
  | _, _, i + 1, _, .cons _ r, e => by
    obtain ⟨v, h1, h2⟩ := Reps.get (i := i) r (by simpa using e)
    exact ⟨v, by simpa using h1, h2⟩
theorem Reps.get' {F : Hp} : ∀ {vs : List V} {ds : List D} {i : Nat} {v : V}, Reps K F vs ds → vs[i]? = some v → ∃ d, ds[i]? = some d ∧ Rep K F v d
  | _, _, _, _, .nil, e => by simp at e
  | _, _, 0, _, .cons h _, e => by simp at e; subst e; exact ⟨_, rfl, h⟩
  | _, _, i + 1, _, .cons _ r, e => by
    obtain ⟨v, h1, h2⟩ := Reps.get' (i := i) r (by simpa using e)
    exact ⟨v, by simpa using h1, h2⟩
theorem Reps.append {F : Hp} : ∀ {vs us : List V} {ds es : List D}, Reps K F vs ds → Reps K F us es → Reps K F (vs ++ us) (ds ++ es)
  | _, _, _, _, .nil, s => s
  | _, _, _, _, .cons h r, s => .cons h (Reps.append r s)
theorem Reps.drop {F : Hp} : ∀ {vs : List V} {ds : List D} (n : Nat), Reps K F vs ds → Reps K F (vs.drop n) (ds.drop n)
  | _, _, 0, r => r
  | _, _, _ + 1, .nil => .nil
  | _, _, n + 1, .cons _ r => Reps.drop n r
theorem Reps.take {F : Hp} : ∀ {vs : List V} {ds : List D} (n : Nat), Reps K F vs ds → Reps K F (vs.take n) (ds.take n)
  | _, _, 0, _ => .nil
  | _, _, _ + 1, .nil => .nil
  | _, _, n + 1, .cons h r => .cons h (Reps.take n r)
theorem Reps.set {F : Hp} {v : V} {d : D} (h : Rep K F v d) : ∀ {vs : List V} {ds : List D} (i : Nat), Reps K F vs ds → Reps K F (vs.set i v) (ds.set i d)
  | _, _, _, .nil => .nil
  | _, _, 0, .cons _ t => .cons h t
  | _, _, i + 1, .cons q t => .cons q (Reps.set h i t)
theorem Reps.reverse {F : Hp} {vs : List V} {ds : List D} (r : Reps K F vs ds) : Reps K F vs.reverse ds.reverse := by
  induction vs generalizing ds with
  | nil => cases r; exact .nil
  | cons v vs ih =>
    cases r with
    | cons h r => rw [List.reverse_cons, List.reverse_cons]; exact (ih r).append (.cons h .nil)
theorem Reps.one {F : Hp} {v : V} {d : D} (h : Rep K F v d) : Reps K F [v] [d] := .cons h .nil

/-! ### slots -/
inductive Sl where
  | no | fz (d : D) | own (d : D) | par (d : D)
  deriving Inhabited
abbrev En := List Sl
inductive SlR (K : PySem.W.Frag) (F H : Hp) : Option V → Sl → Option Addr → Prop
  | no {o : Option V} : SlR K F H o .no none
  | fz {v : V} {d : D} : Rep K F v d → SlR K F H (some v) (.fz d) none
  | own {l : Addr} {o : HO} {d : D} : H l = some o → F l = none → Cont K F o d → SlR K F H (some (.ref l)) (.own d) (some l)
  | par {l : Addr} {o : HO} {d : D} : H l = some o → F l = none → Cont K F o d → SlR K F H (some (.ref l)) (.par d) (some l)
abbrev AM := Nat → Option Addr
def gE (E : En) (i : Nat) : Sl := (E[i]?).getD .no
def gS (σ : Sg) (i : Nat) : Option V := (σ[i]?).getD none
theorem gE_set {E : En} {i j : Nat} {s : Sl} (h : i < E.length) : gE (E.set i s) j = if i = j then s else gE E j := by
  unfold gE
  by_cases z : i = j
  · subst z; rw [if_pos rfl, List.getElem?_set_self h]; rfl
  · rw [if_neg z, List.getElem?_set_ne z]
theorem gS_set {σ : Sg} {i j : Nat} {s : Option V} (h : i < σ.length) : gS (σ.set i s) j = if i = j then s else gS σ j := by
  unfold gS
  by_cases z : i = j
  · subst z; rw [if_pos rfl, List.getElem?_set_self h]; rfl
  · rw [if_neg z, List.getElem?_set_ne z]
def Own (A : AM) (a : Addr) : Prop := ∃ i, A i = some a
def OwnO (A : AM) (E : En) (a : Addr) : Prop := ∃ i d, A i = some a ∧ gE E i = .own d
structure Stt (K : PySem.W.Frag) (F H : Hp) (σ : Sg) (E : En) (A : AM) : Prop where
  le : Le F H
  len : σ.length = E.length
  sl : ∀ i, SlR K F H (gS σ i) (gE E i) (A i)
  inj : ∀ i j a, A i = some a → A j = some a → i = j
structure Step (A : AM) (E : En) (F H : Hp) (A' : AM) (E' : En) (F' H' : Hp) : Prop where
  fz : Le F F'
  keep : ∀ b o, H b = some o → ¬ Own A b → H' b = some o
  alive : ∀ b, H b ≠ none → H' b ≠ none
  st : ∀ b, H b ≠ none → ¬ Own A b → F' b = F b
  own : ∀ i a d, A' i = some a → gE E' i = .own d → OwnO A E a ∨ H a = none
  par : ∀ i a d, A' i = some a → gE E' i = .par d → A i = some a ∧ ∃ d', gE E i = .par d'
section
variable {A A1 A2 : AM} {E E1 E2 : En} {F H F1 H1 F2 H2 : Hp} {σ σ1 : Sg}
theorem Stt.ownOr (S : Stt K F H σ E A) {i : Nat} {a : Addr} (h : A i = some a) : ∃ d o, (gE E i = .own d ∨ gE E i = .par d) ∧ H a = some o ∧ F a = none ∧ Cont K F o d ∧ gS σ i = some (.ref a) := by
  have q := S.sl i
  generalize e1 : gS σ i = x at q
  generalize e2 : gE E i = y at q
  rw [h] at q
  cases q with
  | own h1 h2 h3 => exact ⟨_, _, .inl rfl, h1, h2, h3, rfl⟩
  | par h1 h2 h3 => exact ⟨_, _, .inr rfl, h1, h2, h3, rfl⟩
theorem Step.refl (S : Stt K F H σ E A) : Step A E F H A E F H :=
  ⟨Le.refl _, fun _ _ h _ => h, fun _ h => h, fun _ _ _ => rfl, fun i a d h1 h2 => .inl ⟨i, d, h1, h2⟩, fun i a d h1 h2 => ⟨h1, d, h2⟩⟩
theorem Step.sub (s : Step A E F H A1 E1 F1 H1) (S1 : Stt K F1 H1 σ1 E1 A1) {a : Addr} (h : Own A1 a) : Own A a ∨ H a = none := by
  obtain ⟨i, h⟩ := h
  obtain ⟨d, o, q | q, _⟩ := S1.ownOr h
  · rcases s.own i a d h q with ⟨j, _, z, _⟩ | z
    · exact .inl ⟨j, z⟩
    · exact .inr z
  · exact .inl ⟨i, (s.par i a d h q).1⟩
theorem Step.fresh (s : Step A E F H A1 E1 F1 H1) {a : Addr} (h : H1 a = none) : H a = none := by
  cases q : H a with
  | none => rfl
  | some o => exact absurd h (s.alive a (by rw [q]; intro z; cases z))
theorem Step.trans (s : Step A E F H A1 E1 F1 H1) (S1 : Stt K F1 H1 σ1 E1 A1) (t : Step A1 E1 F1 H1 A2 E2 F2 H2) : Step A E F H A2 E2 F2 H2 := by
  have n : ∀ b, H b ≠ none → ¬ Own A b → ¬ Own A1 b := fun b hb ha z => by
    rcases s.sub S1 z with q | q
    · exact ha q
    · exact hb q
  refine ⟨s.fz.trans t.fz, fun b o h ha => t.keep b o (s.keep b o h ha) (n b (by rw [h]; intro z; cases z) ha), fun b h => t.alive b (s.alive b h), fun b hb ha => ?_, fun i a d h1 h2 => ?_, fun i a d h1 h2 => ?_⟩
  · rw [t.st b (s.alive b hb) (n b hb ha)]; exact s.st b hb ha
  · rcases t.own i a d h1 h2 with ⟨j, d', z1, z2⟩ | z
    · exact s.own j a d' z1 z2
    · exact .inr (s.fresh z)
  · obtain ⟨z1, d', z2⟩ := t.par i a d h1 h2
    exact s.par i a d' z1 z2
/-- the heap grows, the slots are as they were -/
structure Grow (F H F' H' : Hp) : Prop where
  fz : Le F F'
  hp : Le H H'
  le : Le F' H'
  st : ∀ b, H b ≠ none → F' b = F b
theorem Grow.refl (e : Le F H) : Grow F H F H := ⟨Le.refl _, Le.refl _, e, fun _ _ => rfl⟩
theorem Grow.trans (g : Grow F H F1 H1) (k : Grow F1 H1 F2 H2) : Grow F H F2 H2 := ⟨g.fz.trans k.fz, g.hp.trans k.hp, k.le, fun b h => by
  rw [k.st b (fun z => by
    cases q : H b with
    | none => exact h q
    | some o => rw [g.hp b o q] at z; cases z)]; exact g.st b h⟩
/-- a new object that may change -/
theorem Grow.tmp {p : Addr} {o : HO} (e : Le F H) (h : H p = none) : Grow F H F (upd H p o) := ⟨Le.refl _, fun a u q => by
  rw [upd_ne (fun z => by rw [z, h] at q; cases q)]; exact q, e.updR (e.new h), fun _ _ => rfl⟩
/-- one that stays -/
theorem Grow.new {p : Addr} {o : HO} (e : Le F H) (h : H p = none) : Grow F H (upd F p o) (upd H p o) := ⟨(Le.refl F).updR (e.new h), (Le.refl H).updR h, e.updB, fun b z => upd_ne (fun q => z (by rw [q]; exact h))⟩
theorem SlR.grow {v : Option V} {s : Sl} {a : Option Addr} (g : Grow F H F1 H1) (h : SlR K F H v s a) : SlR K F1 H1 v s a := by
  cases h with
  | no => exact .no
  | fz r => exact .fz (r.mono g.fz)
  | own h1 h2 h3 => exact .own (g.hp _ _ h1) (by rw [g.st _ (by rw [h1]; intro z; cases z)]; exact h2) (h3.mono g.fz)
  | par h1 h2 h3 => exact .par (g.hp _ _ h1) (by rw [g.st _ (by rw [h1]; intro z; cases z)]; exact h2) (h3.mono g.fz)
theorem Stt.grow (S : Stt K F H σ E A) (g : Grow F H F1 H1) : Stt K F1 H1 σ E A := ⟨g.le, S.len, fun i => (S.sl i).grow g, S.inj⟩
theorem Step.grow (S : Stt K F H σ E A) (g : Grow F H F1 H1) : Step A E F H A E F1 H1 :=
  ⟨g.fz, fun b o h _ => g.hp b o h, fun b h z => (by
    cases q : H b with
    | none => exact h q
    | some o => rw [g.hp b o q] at z; cases z), fun b h _ => g.st b h, fun i a d h1 h2 => .inl ⟨i, d, h1, h2⟩, fun i a d h1 h2 => ⟨h1, d, h2⟩⟩
end

/-! ### results -/
inductive R where
  | fz (d : D) | tmp (d : D) | sl (i : Nat)
inductive Rt where
  | fz (d : D) | tmp (d : D)
def Rt.r : Rt → R
  | .fz d => .fz d
  | .tmp d => .tmp d
def Rt.d : Rt → D
  | .fz d => d
  | .tmp d => d
inductive RvR (K : PySem.W.Frag) (F H : Hp) (A : AM) (σ : Sg) : V → R → Prop
  | fz {v : V} {d : D} : Rep K F v d → RvR K F H A σ v (.fz d)
  | tmp {l : Addr} {o : HO} {d : D} : H l = some o → F l = none → Cont K F o d → ¬ Own A l → RvR K F H A σ (.ref l) (.tmp d)
  | sl {v : V} {i : Nat} : σ[i]? = some (some v) → RvR K F H A σ v (.sl i)
/-- a new thing is new -/
def Fresh (H : Hp) (v : V) (r : R) : Prop := ∀ l d, r = .tmp d → v = .ref l → H l = none
structure Exn where
  cls : Value
  ns : List Str
  ds : List D
inductive Rs (α : Type) where
  | ok (a : α) (E : En)
  | ex (x : Exn) (E : En)
  | no
def Rs.bind {α β : Type} (r : Rs α) (f : α → En → Rs β) : Rs β := match r with
  | .ok a E => f a E
  | .ex x E => .ex x E
  | .no => .no
@[simp] theorem Rs.bind_ok {α β : Type} {a : α} {E : En} {f : α → En → Rs β} : Rs.bind (.ok a E) f = f a E := rfl
@[simp] theorem Rs.bind_ex {α β : Type} {x : Exn} {E : En} {f : α → En → Rs β} : Rs.bind (.ex x E) f = .ex x E := rfl
@[simp] theorem Rs.bind_no {α β : Type} {f : α → En → Rs β} : Rs.bind .no f = .no := rfl
def ExR (K : PySem.W.Frag) (F : Hp) (cls : Value) (dd : Option Addr) (x : Exn) : Prop := cls = x.cls ∧ match dd with
  | none => x.ns = []
  | some a => ∃ fs, F a = some (.xd fs) ∧ fs.map (·.1) = x.ns ∧ Reps K F (fs.map (·.2)) x.ds
/-- what is to be shown behind a result -/
def Post {α : Type} (K : PySem.W.Frag) (F H : Hp) (σ : Sg) (E : En) (A : AM) (W : WX) (P : α → En → Hp → Hp → AM → Prop) : Rs α → Prop
  | .ok a E' => ∀ F' H' A', Step A E F H A' E' F' H' → Stt K F' H' σ E' A' → P a E' F' H' A'
  | .ex x E' => ∀ F' H' A' cls dd, Step A E F H A' E' F' H' → Stt K F' H' σ E' A' → ExR K F' cls dd x → W cls dd σ H'
  | .no => False
abbrev XP (K : PySem.W.Frag) (H : Hp) (σ : Sg) (Q : VK) : R → En → Hp → Hp → AM → Prop := fun r _ F' H' A' => ∀ v, RvR K F' H' A' σ v r → Fresh H v r → Q v H'
def XOk (K : PySem.W.Frag) (te : WX → TE) (ev : En → Rs R) : Prop := ∀ F H σ E A, Stt K F H σ E A → ∀ (W : WX) (Q : VK), Post K F H σ E A W (XP K H σ Q) (ev E) → te W σ H Q
structure SX (K : PySem.W.Frag) where
  te : WX → TE
  ev : En → Rs R
  ok : XOk K te ev
section
variable {A A1 A2 : AM} {E E1 E2 : En} {F H F1 H1 F2 H2 : Hp} {σ : Sg} {W : WX}
theorem Post.later {α : Type} {P : α → En → Hp → Hp → AM → Prop} {P' : α → En → Hp → Hp → AM → Prop} {r : Rs α} (s : Step A E F H A1 E1 F1 H1) (S1 : Stt K F1 H1 σ E1 A1) (h : Post K F H σ E A W P r)
    (hp : ∀ a E' F' H' A', P a E' F' H' A' → P' a E' F' H' A') : Post K F1 H1 σ E1 A1 W P' r := by
  cases r with
  | ok a E' => exact fun F' H' A' t S' => hp _ _ _ _ _ (h F' H' A' (s.trans S1 t) S')
  | ex x E' => exact fun F' H' A' cls dd t S' q => h F' H' A' cls dd (s.trans S1 t) S' q
  | no => exact h
/-- one behind the other -/
theorem Post.bind {α β : Type} {P : β → En → Hp → Hp → AM → Prop} {r : Rs α} {f : α → En → Rs β} (h : Post K F H σ E A W P (r.bind f)) :
    Post K F H σ E A W (fun a E' F' H' A' => Step A E F H A' E' F' H' ∧ Stt K F' H' σ E' A' ∧ Post K F H σ E A W P (f a E')) r := by
  cases r with
  | ok a E' => exact fun F' H' A' s S => ⟨s, S, h⟩
  | ex x E' => exact h
  | no => exact h
theorem RvR.later {v : V} {r : R} (s : Step A E F H A1 E1 F1 H1) (S1 : Stt K F1 H1 σ E1 A1) (h : RvR K F H A σ v r) : RvR K F1 H1 A1 σ v r := by
  cases h with
  | fz r => exact .fz (r.mono s.fz)
  | tmp h1 h2 h3 h4 =>
    have ha : H _ ≠ none := fun z => by rw [h1] at z; cases z
    refine .tmp (s.keep _ _ h1 h4) (by rw [s.st _ ha h4]; exact h2) (h3.mono s.fz) fun z => ?_
    rcases s.sub S1 z with q | q
    · exact h4 q
    · exact ha q
  | sl h => exact .sl h
end
end DX
set_option Elab.async false
set_option linter.all false
set_option maxRecDepth 100000
namespace DX
open PySem PySem.Spec PyProof.Rows L2
variable {K : PySem.W.Frag}
def Sl.d? : Sl → Option D
  | .no => none
  | .fz d => some d
  | .own d => some d
  | .par d => some d
def look (E : En) : R → Option D
  | .fz d => some d
  | .tmp d => some d
  | .sl i => (gE E i).d?
inductive See (K : PySem.W.Frag) (F H : Hp) : V → D → Prop
  | fz {v : V} {d : D} : Rep K F v d → See K F H v d
  | top {l : Addr} {o : HO} {d : D} : H l = some o → Cont K F o d → See K F H (.ref l) d
inductive RtR (K : PySem.W.Frag) (H0 F H : Hp) : V → Rt → Prop
  | fz {v : V} {d : D} : Rep K F v d → RtR K H0 F H v (.fz d)
  | tmp {l : Addr} {o : HO} {d : D} : H l = some o → F l = none → Cont K F o d → H0 l = none → RtR K H0 F H (.ref l) (.tmp d)
def VRes (K : PySem.W.Frag) (F H : Hp) (Q : VK) (rt : Rt) : Prop := ∀ F' H' v, Grow F H F' H' → RtR K H F' H' v rt → Q v H'
theorem gS_some {σ : Sg} {i : Nat} {v : V} (h : gS σ i = some v) : σ[i]? = some (some v) := by
  unfold gS at h
  cases q : σ[i]? with
  | none => rw [q] at h; cases h
  | some x => rw [q] at h; rw [show x = some v from h]
theorem gS_of {σ : Sg} {i : Nat} {v : V} (h : σ[i]? = some (some v)) : gS σ i = some v := by
  unfold gS; rw [h]; rfl
section
variable {A A1 A2 : AM} {E E1 E2 : En} {F H F1 H1 F2 H2 : Hp} {σ : Sg} {W : WX}
theorem SlR.see {v : V} {d : D} {a : Option Addr} {s : Sl} (h : SlR K F H (some v) s a) (l : s.d? = some d) : See K F H v d := by
  cases h with
  | no => cases l
  | fz r => cases l; exact .fz r
  | own h1 h2 h3 => cases l; exact .top h1 h3
  | par h1 h2 h3 => cases l; exact .top h1 h3
theorem see_of (S : Stt K F H σ E A) {v : V} {r : R} {d : D} (h : RvR K F H A σ v r) (l : look E r = some d) : See K F H v d := by
  cases h with
  | fz r => cases l; exact .fz r
  | tmp h1 h2 h3 h4 => cases l; exact .top h1 h3
  | @sl v i h =>
    have q := S.sl i
    rw [gS_of h] at q
    exact q.see l
theorem Post.imp {α : Type} {P P' : α → En → Hp → Hp → AM → Prop} {r : Rs α} (h : Post K F H σ E A W P r) (hp : ∀ a E' F' H' A', P a E' F' H' A' → P' a E' F' H' A') : Post K F H σ E A W P' r := by
  cases r with
  | ok a E' => exact fun F' H' A' s S' => hp _ _ _ _ _ (h F' H' A' s S')
  | ex x E' => exact h
  | no => exact h
theorem Fresh.back {v : V} {r : R} (s : Step A E F H A1 E1 F1 H1) (h : Fresh H1 v r) : Fresh H v r := fun l d e1 e2 => s.fresh (h l d e1 e2)
theorem Post.xp {Q : VK} {r : Rs R} (s : Step A E F H A1 E1 F1 H1) (S1 : Stt K F1 H1 σ E1 A1) (h : Post K F H σ E A W (XP K H σ Q) r) : Post K F1 H1 σ E1 A1 W (XP K H1 σ Q) r :=
  h.later s S1 fun _ _ _ _ _ p v rv f => p v rv (f.back s)
theorem Post.fin {Q : VK} {rt : Rt} (S : Stt K F H σ E A) (h : Post K F H σ E A W (XP K H σ Q) (.ok rt.r E)) : VRes K F H Q rt := fun F' H' v g rr => by
  cases rr with
  | fz r => exact h F' H' A (Step.grow S g) (S.grow g) _ (.fz r) (fun _ _ z => by cases z)
  | tmp h1 h2 h3 h4 =>
    refine h F' H' A (Step.grow S g) (S.grow g) _ (.tmp h1 h2 h3 fun ⟨i, z⟩ => ?_) (fun l d e1 e2 => by cases e2; exact h4)
    obtain ⟨_, _, _, z2, _⟩ := S.ownOr z
    rw [h4] at z2; cases z2
/-- seq of two expressions -/
theorem XOk.seq {a : SX K} {f : R → En → Rs R} {Q : VK} (S : Stt K F H σ E A) (h : Post K F H σ E A W (XP K H σ Q) ((a.ev E).bind f))
    {g : V → Hp → Prop} (hg : ∀ x r E1 F1 H1 A1, Step A E F H A1 E1 F1 H1 → Stt K F1 H1 σ E1 A1 → RvR K F1 H1 A1 σ x r → Fresh H x r → Post K F1 H1 σ E1 A1 W (XP K H1 σ Q) (f r E1) → g x H1) : a.te W σ H g := by
  refine a.ok F H σ E A S W _ ?_
  refine (h.bind).imp fun r E1 F1 H1 A1 ⟨s, S1, q⟩ v rv fr => ?_
  exact hg v r E1 F1 H1 A1 s S1 rv fr (q.xp s S1)
end
/-- a name -/
def SX.var (i : Nat) : SX K where
  te := fun _ => tVar i
  ev := fun E => match gE E i with
    | .no => .no
    | _ => .ok (.sl i) E
  ok := fun F H σ E A S W Q h => by
    have q := S.sl i
    have fin : ∀ v, gS σ i = some v → Post K F H σ E A W (XP K H σ Q) (.ok (.sl i) E) → tVar i σ H Q := fun v e p =>
      ⟨v, gS_some e, p F H A (Step.refl S) S v (.sl (gS_some e)) (fun _ _ z => by cases z)⟩
    generalize e1 : gS σ i = x at q
    generalize e2 : gE E i = y at q
    generalize e3 : A i = z at q
    dsimp only at h
    rw [e2] at h
    cases q with
    | no => exact h.elim
    | fz r => exact fin _ e1 h
    | own h1 h2 h3 => exact fin _ e1 h
    | par h1 h2 h3 => exact fin _ e1 h
/-- a constant -/
def SX.con (v : V) (d : D) (hr : ∀ F, Rep K F v d) : SX K where
  te := fun _ => tC v
  ev := fun E => .ok (.fz d) E
  ok := fun F H σ E A S W Q h => h F H A (Step.refl S) S v (.fz (hr F)) (fun _ _ z => by cases z)
abbrev SX.int (i : Int) : SX K := .con (.int i) (.int i) fun _ => .int i
abbrev SX.str (i : Str) : SX K := .con (.str i) (.str i) fun _ => .str i
abbrev SX.bl (i : Bool) : SX K := .con (.bl i) (.bl i) fun _ => .bl i
abbrev SX.non : SX K := .con .non .non fun _ => .non
def rsOf (E : En) : Option Rt → Rs R
  | some rt => .ok rt.r E
  | none => .no
@[simp] theorem rsOf_some {E : En} {rt : Rt} : rsOf E (some rt) = .ok rt.r E := rfl
@[simp] theorem rsOf_none {E : En} : rsOf E none = .no := rfl
@[simp] def look2 (E : En) (ra rb : R) (f : D → D → Option Rt) : Rs R := match look E ra, look E rb with
  | some da, some db => rsOf E (f da db)
  | _, _ => .no
@[simp] def look1 (E : En) (ra : R) (f : D → Option Rt) : Rs R := match look E ra with
  | some da => rsOf E (f da)
  | _ => .no
def R2Ok (K : PySem.W.Frag) (r : R2) (f : D → D → Option Rt) : Prop := ∀ (F H : Hp) (x y : V) (dx dy : D) (rt : Rt) (Q : VK), Le F H → See K F H x dx → See K F H y dy → f dx dy = some rt → VRes K F H Q rt → r x y H Q
def R1Ok (K : PySem.W.Frag) (r : V → Hp → VK → Prop) (f : D → Option Rt) : Prop := ∀ (F H : Hp) (x : V) (dx : D) (rt : Rt) (Q : VK), Le F H → See K F H x dx → f dx = some rt → VRes K F H Q rt → r x H Q
/-- an operation on two values, by its rule -/
structure O2 (K : PySem.W.Frag) where
  r : R2
  f : D → D → Option Rt
  ok : R2Ok K r f
structure O1 (K : PySem.W.Frag) where
  r : V → Hp → VK → Prop
  f : D → Option Rt
  ok : R1Ok K r f
def SX.op (o : O2 K) (a b : SX K) : SX K where
  te := fun W => tOp o.r (a.te W) (b.te W)
  ev := fun E => (a.ev E).bind fun ra E1 => (b.ev E1).bind fun rb E2 => look2 E2 ra rb o.f
  ok := fun F H σ E A S W Q h => by
    refine XOk.seq S h fun x ra E1 F1 H1 A1 s1 S1 rx _ h1 => ?_
    refine XOk.seq S1 h1 fun y rb E2 F2 H2 A2 s2 S2 ry _ h2 => ?_
    have rx2 := rx.later s2 S2
    unfold look2 at h2
    split at h2
    · rename_i da db e1 e2
      cases e : o.f da db with
      | none => rw [e] at h2; exact h2.elim
      | some rt =>
        rw [e] at h2
        exact o.ok F2 H2 x y da db rt Q S2.le (see_of S2 rx2 e1) (see_of S2 ry e2) e (h2.fin S2)
    · exact h2.elim
def SX.un (o : O1 K) (a : SX K) : SX K where
  te := fun W => tUn o.r (a.te W)
  ev := fun E => (a.ev E).bind fun ra E1 => look1 E1 ra o.f
  ok := fun F H σ E A S W Q h => by
    refine XOk.seq S h fun x ra E1 F1 H1 A1 s1 S1 rx _ h1 => ?_
    unfold look1 at h1
    split at h1
    · rename_i da e1
      cases e : o.f da with
      | none => rw [e] at h1; exact h1.elim
      | some rt =>
        rw [e] at h1
        exact o.ok F1 H1 x da rt Q S1.le (see_of S1 rx e1) e (h1.fin S1)
    · exact h1.elim
/-! ### freezing -/
section
variable {A A1 A2 : AM} {E E1 E2 : En} {F H F1 H1 F2 H2 : Hp} {σ : Sg} {W : WX}
/-- a new thing stays from now on -/
theorem settle {l : Addr} {o : HO} {d : D} (S : Stt K F H σ E A) (h1 : H l = some o) (h2 : F l = none) (h3 : Cont K F o d) (h4 : ¬ Own A l) (h0 : H1 l = none) (e : Le F1 F) (s : Step A1 E1 F1 H1 A E F H) :
    Step A1 E1 F1 H1 A E (upd F l o) H ∧ Stt K (upd F l o) H σ E A ∧ Rep K (upd F l o) (.ref l) d := by
  have up : Le F (upd F l o) := (Le.refl F).updR h2
  refine ⟨⟨s.fz.trans up, s.keep, s.alive, fun b hb ha => ?_, s.own, s.par⟩, ⟨S.le.mk h1, S.len, fun i => ?_, S.inj⟩, .cell upd_same (h3.mono up)⟩
  · rw [upd_ne (fun z => hb (by rw [z]; exact h0))]; exact s.st b hb ha
  · have q := S.sl i
    have ne : ∀ a, A i = some a → a ≠ l := fun a z w => h4 ⟨i, by rw [z, w]⟩
    generalize gS σ i = x at q ⊢
    generalize gE E i = y at q ⊢
    generalize e3 : A i = z at q ⊢
    cases q with
    | no => exact .no
    | fz r => exact .fz (r.mono up)
    | own q1 q2 q3 => exact .own q1 (by rw [upd_ne (ne _ e3)]; exact q2) (q3.mono up)
    | par q1 q2 q3 => exact .par q1 (by rw [upd_ne (ne _ e3)]; exact q2) (q3.mono up)
def AM.drop (A : AM) (i : Nat) : AM := fun j => if j = i then none else A j
/-- a slot's own thing stays from now on -/
theorem share {i : Nat} {d : D} (S : Stt K F H σ E A) (h : gE E i = .own d) :
    ∃ l o, gS σ i = some (.ref l) ∧ Step A E F H (A.drop i) (E.set i (.fz d)) (upd F l o) H ∧ Stt K (upd F l o) H σ (E.set i (.fz d)) (A.drop i) ∧ Rep K (upd F l o) (.ref l) d := by
  have q := S.sl i
  rw [h] at q
  generalize e1 : gS σ i = x at q
  generalize e2 : A i = y at q
  cases q with
  | @own l o _ h1 h2 h3 =>
    have up : Le F (upd F l o) := (Le.refl F).updR h2
    have hi : i < E.length := by
      unfold gE at h
      cases z : E[i]? with
      | none => rw [z] at h; cases h
      | some _ => exact (List.getElem?_eq_some_iff.mp z).1
    have rp : Rep K (upd F l o) (.ref l) d := .cell upd_same (h3.mono up)
    have oi : Own A l := ⟨i, e2⟩
    refine ⟨l, o, rfl, ⟨up, fun b o h _ => h, fun b h => h, fun b hb ha => upd_ne (fun z => ha (by rw [z]; exact oi)), fun j a d' z1 z2 => ?_, fun j a d' z1 z2 => ?_⟩, ⟨S.le.mk h1, by rw [List.length_set]; exact S.len, fun j => ?_, fun j k a z1 z2 => ?_⟩, rp⟩
    · unfold AM.drop at z1
      split at z1
      · cases z1
      · rename_i hj
        rw [gE_set hi, if_neg (fun z => hj z.symm)] at z2
        exact .inl ⟨j, d', z1, z2⟩
    · unfold AM.drop at z1
      split at z1
      · cases z1
      · rename_i hj
        rw [gE_set hi, if_neg (fun z => hj z.symm)] at z2
        exact ⟨z1, d', z2⟩
    · rw [gE_set hi]
      unfold AM.drop
      by_cases z : i = j
      · subst z
        rw [if_pos rfl, if_pos rfl, e1]
        exact .fz rp
      · rw [if_neg z, if_neg (fun y => z y.symm)]
        have q := S.sl j
        have ne : ∀ a, A j = some a → a ≠ l := fun a z1 w => z (S.inj i j l e2 (by rw [z1, w]))
        generalize gS σ j = x at q ⊢
        generalize gE E j = y at q ⊢
        generalize e3 : A j = z at q ⊢
        cases q with
        | no => exact .no
        | fz r => exact .fz (r.mono up)
        | own q1 q2 q3 => exact .own q1 (by rw [upd_ne (ne _ e3)]; exact q2) (q3.mono up)
        | par q1 q2 q3 => exact .par q1 (by rw [upd_ne (ne _ e3)]; exact q2) (q3.mono up)
    · unfold AM.drop at z1 z2
      split at z1
      · cases z1
      · split at z2
        · cases z2
        · exact S.inj j k a z1 z2
def shareR (E : En) : R → Option (D × En)
  | .fz d => some (d, E)
  | .tmp d => some (d, E)
  | .sl i => match gE E i with
    | .no => none
    | .fz d => some (d, E)
    | .own d => some (d, E.set i (.fz d))
    | .par _ => none
/-- a result stays from now on -/
theorem shareR_ok {v : V} {r : R} {d : D} (S0 : Stt K F H σ E A) (s : Step A E F H A1 E1 F1 H1) (S1 : Stt K F1 H1 σ E1 A1) (rv : RvR K F1 H1 A1 σ v r) (fr : Fresh H v r) (h : shareR E1 r = some (d, E2)) :
    ∃ A2 F2, Step A E F H A2 E2 F2 H1 ∧ Stt K F2 H1 σ E2 A2 ∧ Rep K F2 v d ∧ Le F1 F2 := by
  cases rv with
  | fz r => cases h; exact ⟨A1, F1, s, S1, r, Le.refl _⟩
  | @tmp l o d' h1 h2 h3 h4 =>
    cases h
    obtain ⟨a, b, c⟩ := settle (H1 := H) S1 h1 h2 h3 h4 (fr l d rfl rfl) s.fz s
    exact ⟨A1, _, a, b, c, (Le.refl _).updR h2⟩
  | @sl v i hv =>
    unfold shareR at h
    dsimp only at h
    have q := S1.sl i
    rw [gS_of hv] at q
    split at h
    · cases h
    · rename_i d' e
      cases h
      rw [e] at q
      generalize e3 : A1 i = z at q
      cases q with
      | fz r => exact ⟨A1, F1, s, S1, r, Le.refl _⟩
    · rename_i d' e
      cases h
      obtain ⟨l, o, g, t, S2, rp⟩ := share S1 e
      rw [gS_of hv] at g
      cases g
      exact ⟨_, _, s.trans S1 t, S2, rp, t.fz⟩
    · cases h
end
/-! ### lists of arguments -/
structure SA (K : PySem.W.Frag) where
  ta : WX → TA
  ev : En → Rs (List D)
  ok : ∀ F H σ E A, Stt K F H σ E A → ∀ (W : WX) (Q : List V → Hp → Prop), Post K F H σ E A W (fun ds _ F' H' _ => ∀ vs, Reps K F' vs ds → Q vs H') (ev E) → ta W σ H Q
@[simp] def shareE (E : En) (r : R) : Rs D := match shareR E r with
  | some (d, E') => .ok d E'
  | none => .no
def SA.nil : SA K where
  ta := fun _ => tNil
  ev := fun E => .ok [] E
  ok := fun F H σ E A S W Q h => h F H A (Step.refl S) S [] .nil
def SA.cons (a : SX K) (r : SA K) : SA K where
  ta := fun W => tCons (a.te W) (r.ta W)
  ev := fun E => (a.ev E).bind fun ra E1 => (shareE E1 ra).bind fun d E2 => (r.ev E2).bind fun ds E3 => .ok (d :: ds) E3
  ok := fun F H σ E A S W Q h => by
    refine a.ok F H σ E A S W _ ?_
    refine (h.bind).imp fun ra E1 F1 H1 A1 ⟨s1, S1, q1⟩ v rv fr => ?_
    unfold shareE at q1
    split at q1
    · rename_i d E2 e
      obtain ⟨A2, F2, s2, S2, rp, le2⟩ := shareR_ok S s1 S1 rv fr e
      refine r.ok F2 H1 σ E2 A2 S2 W _ ?_
      dsimp only [Rs.bind_ok] at q1
      refine ((q1.later s2 S2 (fun _ _ _ _ _ p => p)).bind).imp fun ds E3 F3 H3 A3 ⟨s3, S3, q3⟩ vs rvs => ?_
      exact q3 F3 H3 A3 s3 S3 (v :: vs) (.cons (rp.mono s3.fz) rvs)
    · exact q1.elim
/-- (a, b, ..) -/
def SX.tup (a : SA K) : SX K where
  te := fun W => tTup (a.ta W)
  ev := fun E => (a.ev E).bind fun ds E1 => if ds.length ≤ sizeLine then .ok (.fz (.tup ds)) E1 else .no
  ok := fun F H σ E A S W Q h => by
    refine a.ok F H σ E A S W _ ?_
    refine (h.bind).imp fun ds E1 F1 H1 A1 ⟨s1, S1, q1⟩ vs rvs => ?_
    by_cases hl : ds.length ≤ sizeLine
    · rw [if_pos hl] at q1
      refine ⟨by rw [rvs.length]; exact hl, fun p hp => ?_⟩
      have g : Grow F1 H1 (upd F1 p (.tup vs)) (upd H1 p (.tup vs)) := Grow.new S1.le hp
      exact ((q1.xp s1 S1).fin (rt := .fz (.tup ds)) S1) _ _ _ g (.fz (.tup (.inl (.inl upd_same)) (rvs.mono g.fz)))
    · rw [if_neg hl] at q1; exact q1.elim
/-- [a, b, ..] -/
def SX.lst (a : SA K) : SX K where
  te := fun W => tLst (a.ta W)
  ev := fun E => (a.ev E).bind fun ds E1 => if ds.length ≤ sizeLine then .ok (.tmp (.lst ds)) E1 else .no
  ok := fun F H σ E A S W Q h => by
    refine a.ok F H σ E A S W _ ?_
    refine (h.bind).imp fun ds E1 F1 H1 A1 ⟨s1, S1, q1⟩ vs rvs => ?_
    by_cases hl : ds.length ≤ sizeLine
    · rw [if_pos hl] at q1
      refine ⟨by rw [rvs.length]; exact hl, fun p hp => ?_⟩
      have g : Grow F1 H1 F1 (upd H1 p (.lst vs)) := Grow.tmp S1.le hp
      exact ((q1.xp s1 S1).fin (rt := .tmp (.lst ds)) S1) _ _ _ g (.tmp upd_same (S1.le.new hp) (.lst rvs) hp)
    · rw [if_neg hl] at q1; exact q1.elim
/-! ### calls of built-ins -/
structure ON (K : PySem.W.Frag) where
  r : List V → Hp → VK → Prop
  f : List D → Option Rt
  ok : ∀ (F H : Hp) (xs : List V) (ds : List D) (rt : Rt) (Q : VK), Le F H → Reps K F xs ds → f ds = some rt → VRes K F H Q rt → r xs H Q
def SX.cb (o : ON K) (a : SA K) : SX K where
  te := fun W => tCB o.r (a.ta W)
  ev := fun E => (a.ev E).bind fun ds E1 => rsOf E1 (o.f ds)
  ok := fun F H σ E A S W Q h => by
    refine a.ok F H σ E A S W _ ?_
    refine (h.bind).imp fun ds E1 F1 H1 A1 ⟨s1, S1, q1⟩ vs rvs => ?_
    cases e : o.f ds with
    | none => rw [e] at q1; exact q1.elim
    | some rt =>
      rw [e] at q1
      exact o.ok F1 H1 vs ds rt Q S1.le rvs e ((q1.xp s1 S1).fin S1)
/-! ### tests -/
structure ST (K : PySem.W.Frag) where
  tt : WX → TT
  ev : En → Rs Bool
  ok : ∀ F H σ E A, Stt K F H σ E A → ∀ (W : WX) (Q : Bool → Hp → Prop), Post K F H σ E A W (fun b _ _ H' _ => Q b H') (ev E) → tt W σ H Q
@[simp] def lookB (E : En) (r : R) : Rs Bool := match look E r with
  | some (.bl b) => .ok b E
  | _ => .no
theorem See.bl {F H : Hp} {v : V} {b : Bool} (h : See K F H v (.bl b)) : v = .bl b := by
  cases h with
  | fz r => cases r with
    | bl => rfl
    | cell h c => cases c
  | top h c => cases c
theorem See.int {F H : Hp} {v : V} {b : Int} (h : See K F H v (.int b)) : v = .int b := by
  cases h with
  | fz r => cases r with
    | int => rfl
    | cell h c => cases c
  | top h c => cases c
theorem See.str {F H : Hp} {v : V} {b : Str} (h : See K F H v (.str b)) : v = .str b := by
  cases h with
  | fz r => cases r with
    | str => rfl
    | cell h c => cases c
  | top h c => cases c
theorem See.non {F H : Hp} {v : V} (h : See K F H v .non) : v = .non := by
  cases h with
  | fz r => cases r with
    | non => rfl
    | cell h c => cases c
  | top h c => cases c
theorem See.tup {F H : Hp} {v : V} {ds : List D} (e : Le F H) (h : See K F H v (.tup ds)) : ∃ a vs, v = .ref a ∧ SqT K H a vs ∧ Reps K F vs ds := by
  cases h with
  | fz r => cases r with
    | tup h r => exact ⟨_, _, rfl, sqT_mono e h, r⟩
    | cell h c => cases c
  | top h c => cases c
theorem See.rdl {F H : Hp} {v : V} {ds : List D} (e : Le F H) (h : See K F H v (.rdl ds)) : ∃ a vs, v = .ref a ∧ SqL K H a vs ∧ Reps K F vs ds := by
  cases h with
  | fz r => cases r with
    | rdl h r => exact ⟨_, _, rfl, sqL_mono e h, r⟩
    | cell h c => cases c
  | top h c => cases c
theorem See.lst {F H : Hp} {v : V} {ds : List D} (e : Le F H) (h : See K F H v (.lst ds)) : ∃ a vs, v = .ref a ∧ H a = some (.lst vs) ∧ Reps K F vs ds := by
  cases h with
  | fz r => cases r with
    | cell h c => cases c with | lst r => exact ⟨_, _, rfl, e _ _ h, r⟩
  | top h c => cases c with | lst r => exact ⟨_, _, rfl, h, r⟩
theorem See.tuf {F H : Hp} {v : V} {ds : List D} (e : Le F H) (h : See K F H v (.tuf ds)) : ∃ a o vs, v = .ref a ∧ H a = some (.frz o (.tup vs)) ∧ o.cls = .type "tuple" ∧ o.dict = none ∧ Reps K F vs ds := by
  cases h with
  | fz r => cases r with
    | tuf h h2 h3 r => exact ⟨_, _, _, rfl, e _ _ h, h2, h3, r⟩
    | cell h c => cases c
  | top h c => cases c
theorem See.dic {F H : Hp} {v : V} {ks : List Key} {ds : List D} (e : Le F H) (h : See K F H v (.dic ks ds)) : ∃ a kvs, v = .ref a ∧ H a = some (.dK kvs) ∧ kvs.map (·.1) = ks ∧ Reps K F (kvs.map (·.2)) ds := by
  cases h with
  | fz r => cases r with
    | cell h c => cases c with | dic h1 h2 r => subst h2; exact ⟨_, _, rfl, e _ _ h, h1, r⟩
  | top h c => cases c with | dic h1 h2 r => subst h2; exact ⟨_, _, rfl, h, h1, r⟩
theorem See.ins {F H : Hp} {v : V} {C : Addr} {ns : List Str} {ds : List D} (e : Le F H) (h : See K F H v (.ins C ns ds)) : ∃ a dx fs, v = .ref a ∧ H a = some (.ins C dx fs) ∧ fs.map (·.1) = ns ∧ Reps K F (fs.map (·.2)) ds := by
  cases h with
  | fz r => cases r with
    | cell h c => cases c with | ins h1 h2 r => subst h2; exact ⟨_, _, _, rfl, e _ _ h, h1, r⟩
  | top h c => cases c with | ins h1 h2 r => subst h2; exact ⟨_, _, _, rfl, h, h1, r⟩
/-- a test of a truth value: tTest (comparisons) and tB are one -/
def ST.of (a : SX K) : ST K where
  tt := fun W => tTest (a.te W)
  ev := fun E => (a.ev E).bind fun r E1 => lookB E1 r
  ok := fun F H σ E A S W Q h => by
    refine a.ok F H σ E A S W _ ?_
    refine (h.bind).imp fun ra E1 F1 H1 A1 ⟨s1, S1, q1⟩ v rv fr => ?_
    unfold lookB at q1
    split at q1
    · rename_i b e
      exact ⟨b, (see_of S1 rv e).bl, q1 F1 H1 A1 s1 S1⟩
    · exact q1.elim
def ST.not (a : ST K) : ST K where
  tt := fun W => tNot (a.tt W)
  ev := fun E => (a.ev E).bind fun b E1 => .ok (!b) E1
  ok := fun F H σ E A S W Q h => by
    refine a.ok F H σ E A S W _ ?_
    exact (h.bind).imp fun b E1 F1 H1 A1 ⟨s1, S1, q1⟩ => q1 F1 H1 A1 s1 S1
def ST.and (a b : ST K) : ST K where
  tt := fun W => tAnd (a.tt W) (b.tt W)
  ev := fun E => (a.ev E).bind fun c E1 => if c = true then b.ev E1 else .ok false E1
  ok := fun F H σ E A S W Q h => by
    refine a.ok F H σ E A S W _ ?_
    refine (h.bind).imp fun c E1 F1 H1 A1 ⟨s1, S1, q1⟩ => ?_
    cases c with
    | true => rw [if_pos rfl]; rw [if_pos rfl] at q1; exact b.ok F1 H1 σ E1 A1 S1 W _ (q1.later s1 S1 fun _ _ _ _ _ p => p)
    | false => rw [if_neg Bool.false_ne_true]; rw [if_neg Bool.false_ne_true] at q1; exact q1 F1 H1 A1 s1 S1
def ST.or (a b : ST K) : ST K where
  tt := fun W => tOr (a.tt W) (b.tt W)
  ev := fun E => (a.ev E).bind fun c E1 => if c = true then .ok true E1 else b.ev E1
  ok := fun F H σ E A S W Q h => by
    refine a.ok F H σ E A S W _ ?_
    refine (h.bind).imp fun c E1 F1 H1 A1 ⟨s1, S1, q1⟩ => ?_
    cases c with
    | true => rw [if_pos rfl]; rw [if_pos rfl] at q1; exact q1 F1 H1 A1 s1 S1
    | false => rw [if_neg Bool.false_ne_true]; rw [if_neg Bool.false_ne_true] at q1; exact b.ok F1 H1 σ E1 A1 S1 W _ (q1.later s1 S1 fun _ _ _ _ _ p => p)
/-- a if t else b -/
def SX.ite (t : ST K) (a b : SX K) : SX K where
  te := fun W => tIf (t.tt W) (a.te W) (b.te W)
  ev := fun E => (t.ev E).bind fun c E1 => if c = true then a.ev E1 else b.ev E1
  ok := fun F H σ E A S W Q h => by
    refine t.ok F H σ E A S W _ ?_
    refine (h.bind).imp fun c E1 F1 H1 A1 ⟨s1, S1, q1⟩ => ?_
    cases c with
    | true => rw [if_pos rfl]; rw [if_pos rfl] at q1; exact a.ok F1 H1 σ E1 A1 S1 W _ (q1.xp s1 S1)
    | false => rw [if_neg Bool.false_ne_true]; rw [if_neg Bool.false_ne_true] at q1; exact b.ok F1 H1 σ E1 A1 S1 W _ (q1.xp s1 S1)
/-- a and b, truth values -/
def SX.and (a b : SX K) : SX K where
  te := fun W => tAndV (a.te W) (b.te W)
  ev := fun E => (a.ev E).bind fun r E1 => (lookB E1 r).bind fun c E2 => if c = true then b.ev E2 else .ok (.fz (.bl false)) E2
  ok := fun F H σ E A S W Q h => by
    refine XOk.seq S h fun x ra E1 F1 H1 A1 s1 S1 rx _ h1 => ?_
    unfold lookB at h1
    split at h1
    · rename_i c e
      refine ⟨c, (see_of S1 rx e).bl, ?_⟩
      dsimp only [Rs.bind_ok] at h1
      cases c with
      | true => rw [if_pos rfl]; rw [if_pos rfl] at h1; exact b.ok F1 H1 σ E1 A1 S1 W _ h1
      | false => rw [if_neg Bool.false_ne_true]; rw [if_neg Bool.false_ne_true] at h1; exact h1 F1 H1 A1 (Step.refl S1) S1 _ (.fz (.bl _)) (fun _ _ z => by cases z)
    · exact h1.elim
def SX.or (a b : SX K) : SX K where
  te := fun W => tOrV (a.te W) (b.te W)
  ev := fun E => (a.ev E).bind fun r E1 => (lookB E1 r).bind fun c E2 => if c = true then .ok (.fz (.bl true)) E2 else b.ev E2
  ok := fun F H σ E A S W Q h => by
    refine XOk.seq S h fun x ra E1 F1 H1 A1 s1 S1 rx _ h1 => ?_
    unfold lookB at h1
    split at h1
    · rename_i c e
      refine ⟨c, (see_of S1 rx e).bl, ?_⟩
      dsimp only [Rs.bind_ok] at h1
      cases c with
      | true => rw [if_pos rfl]; rw [if_pos rfl] at h1; exact h1 F1 H1 A1 (Step.refl S1) S1 _ (.fz (.bl _)) (fun _ _ z => by cases z)
      | false => rw [if_neg Bool.false_ne_true]; rw [if_neg Bool.false_ne_true] at h1; exact b.ok F1 H1 σ E1 A1 S1 W _ h1
    · exact h1.elim
def SX.not (a : SX K) : SX K where
  te := fun W => tNotV (a.te W)
  ev := fun E => (a.ev E).bind fun r E1 => (lookB E1 r).bind fun c E2 => .ok (.fz (.bl (!c))) E2
  ok := fun F H σ E A S W Q h => by
    refine XOk.seq S h fun x ra E1 F1 H1 A1 s1 S1 rx _ h1 => ?_
    unfold lookB at h1
    split at h1
    · rename_i c e
      exact ⟨c, (see_of S1 rx e).bl, h1 F1 H1 A1 (Step.refl S1) S1 _ (.fz (.bl _)) (fun _ _ z => by cases z)⟩
    · exact h1.elim
end DX
set_option Elab.async false
set_option linter.all false
set_option maxRecDepth 100000
namespace DX
open PySem PySem.Spec PyProof.Rows L2
variable {K : PySem.W.Frag}
inductive Fl where
  | nx (E : En) | rt (r : Rt) (E : En) | bk (E : En) | ct (E : En) | ex (x : Exn) (E : En) | no
def Rs.fl {α : Type} (r : Rs α) (f : α → En → Fl) : Fl := match r with
  | .ok a E => f a E
  | .ex x E => .ex x E
  | .no => .no
@[simp] theorem Rs.fl_ok {α : Type} {a : α} {E : En} {f : α → En → Fl} : Rs.fl (.ok a E) f = f a E := rfl
@[simp] theorem Rs.fl_ex {α : Type} {x : Exn} {E : En} {f : α → En → Fl} : Rs.fl (.ex x E) f = .ex x E := rfl
@[simp] theorem Rs.fl_no {α : Type} {f : α → En → Fl} : Rs.fl .no f = .no := rfl
inductive RvT (K : PySem.W.Frag) (H : Hp) (E : En) (A : AM) (F' H' : Hp) (A' : AM) : V → Rt → Prop
  | fz {v : V} {d : D} : Rep K F' v d → RvT K H E A F' H' A' v (.fz d)
  | tmp {l : Addr} {o : HO} {d : D} : H' l = some o → F' l = none → Cont K F' o d → ¬ Own A' l → (OwnO A E l ∨ H l = none) → RvT K H E A F' H' A' (.ref l) (.tmp d)
def SPost (K : PySem.W.Frag) (F H : Hp) (E : En) (A : AM) (W : WX) (N : Ends) : Fl → Prop
  | .nx E' => ∀ F' H' σ' A', Step A E F H A' E' F' H' → Stt K F' H' σ' E' A' → N.nx σ' H'
  | .bk E' => ∀ F' H' σ' A', Step A E F H A' E' F' H' → Stt K F' H' σ' E' A' → N.bk σ' H'
  | .ct E' => ∀ F' H' σ' A', Step A E F H A' E' F' H' → Stt K F' H' σ' E' A' → N.ct σ' H'
  | .rt r E' => ∀ F' H' σ' A' v, Step A E F H A' E' F' H' → Stt K F' H' σ' E' A' → RvT K H E A F' H' A' v r → N.rt v H'
  | .ex x E' => ∀ F' H' σ' A' cls dd, Step A E F H A' E' F' H' → Stt K F' H' σ' E' A' → ExR K F' cls dd x → W cls dd σ' H'
  | .no => False
structure SS (K : PySem.W.Frag) where
  ts : WX → TS
  ev : En → Fl
  ok : ∀ F H σ E A, Stt K F H σ E A → ∀ (W : WX) (N : Ends), SPost K F H E A W N (ev E) → ts W N σ H
section
variable {A A1 A2 : AM} {E E1 E2 : En} {F H F1 H1 F2 H2 : Hp} {σ σ1 : Sg} {W : WX} {N : Ends}
theorem RvT.back {v : V} {r : Rt} (s : Step A E F H A1 E1 F1 H1) (h : RvT K H1 E1 A1 F2 H2 A2 v r) : RvT K H E A F2 H2 A2 v r := by
  cases h with
  | fz r => exact .fz r
  | tmp h1 h2 h3 h4 h5 =>
    refine .tmp h1 h2 h3 h4 ?_
    rcases h5 with ⟨i, d, z1, z2⟩ | z
    · exact s.own i _ d z1 z2
    · exact .inr (s.fresh z)
theorem SPost.later {f : Fl} (s : Step A E F H A1 E1 F1 H1) (S1 : Stt K F1 H1 σ1 E1 A1) (h : SPost K F H E A W N f) : SPost K F1 H1 E1 A1 W N f := by
  cases f with
  | nx E' => exact fun F' H' σ' A' t S' => h F' H' σ' A' (s.trans S1 t) S'
  | bk E' => exact fun F' H' σ' A' t S' => h F' H' σ' A' (s.trans S1 t) S'
  | ct E' => exact fun F' H' σ' A' t S' => h F' H' σ' A' (s.trans S1 t) S'
  | rt r E' => exact fun F' H' σ' A' v t S' q => h F' H' σ' A' v (s.trans S1 t) S' (q.back s)
  | ex x E' => exact fun F' H' σ' A' cls dd t S' q => h F' H' σ' A' cls dd (s.trans S1 t) S' q
  | no => exact h
theorem SPost.fl {α : Type} {r : Rs α} {f : α → En → Fl} (h : SPost K F H E A W N (r.fl f)) :
    Post K F H σ E A W (fun a E' F' H' A' => Step A E F H A' E' F' H' ∧ Stt K F' H' σ E' A' ∧ SPost K F H E A W N (f a E')) r := by
  cases r with
  | ok a E' => exact fun F' H' A' s S => ⟨s, S, h⟩
  | ex x E' => exact fun F' H' A' cls dd s S q => h F' H' σ A' cls dd s S q
  | no => exact h
theorem fl_seq {a : SX K} {f : R → En → Fl} (S : Stt K F H σ E A) (h : SPost K F H E A W N ((a.ev E).fl f))
    {g : V → Hp → Prop} (hg : ∀ x r E1 F1 H1 A1, Step A E F H A1 E1 F1 H1 → Stt K F1 H1 σ E1 A1 → RvR K F1 H1 A1 σ x r → Fresh H x r → SPost K F H E A W N (f r E1) → g x H1) : a.te W σ H g := by
  refine a.ok F H σ E A S W _ ?_
  refine (h.fl).imp fun r E1 F1 H1 A1 ⟨s, S1, q⟩ v rv fr => ?_
  exact hg v r E1 F1 H1 A1 s S1 rv fr q
/-! ### a slot is set -/
def AM.put (A : AM) (i : Nat) (l : Addr) : AM := fun j => if j = i then some l else A j
theorem set_fz {i : Nat} {v : V} {d : D} (s : Step A E F H A1 E1 F1 H1) (S : Stt K F1 H1 σ E1 A1) (hi : i < E1.length) (r : Rep K F1 v d) :
    Step A E F H (A1.drop i) (E1.set i (.fz d)) F1 H1 ∧ Stt K F1 H1 (σ.set i (some v)) (E1.set i (.fz d)) (A1.drop i) := by
  refine ⟨⟨s.fz, s.keep, s.alive, s.st, fun j a d' z1 z2 => ?_, fun j a d' z1 z2 => ?_⟩, S.le, by rw [List.length_set, List.length_set]; exact S.len, fun j => ?_, fun j k a z1 z2 => ?_⟩
  · unfold AM.drop at z1
    split at z1
    · cases z1
    · rename_i hj
      rw [gE_set hi, if_neg (fun z => hj z.symm)] at z2
      exact s.own j a d' z1 z2
  · unfold AM.drop at z1
    split at z1
    · cases z1
    · rename_i hj
      rw [gE_set hi, if_neg (fun z => hj z.symm)] at z2
      exact s.par j a d' z1 z2
  · rw [gE_set hi, gS_set (by rw [S.len]; exact hi)]
    unfold AM.drop
    by_cases z : i = j
    · subst z; rw [if_pos rfl, if_pos rfl, if_pos rfl]; exact .fz r
    · rw [if_neg z, if_neg z, if_neg (fun y => z y.symm)]; exact S.sl j
  · unfold AM.drop at z1 z2
    split at z1
    · cases z1
    · split at z2
      · cases z2
      · exact S.inj j k a z1 z2
theorem set_own {i : Nat} {l : Addr} {o : HO} {d : D} (s : Step A E F H A1 E1 F1 H1) (S : Stt K F1 H1 σ E1 A1) (hi : i < E1.length) (h1 : H1 l = some o) (h2 : F1 l = none) (h3 : Cont K F1 o d) (h4 : ¬ Own A1 l) (h0 : H l = none) :
    Step A E F H (A1.put i l) (E1.set i (.own d)) F1 H1 ∧ Stt K F1 H1 (σ.set i (some (.ref l))) (E1.set i (.own d)) (A1.put i l) := by
  refine ⟨⟨s.fz, s.keep, s.alive, s.st, fun j a d' z1 z2 => ?_, fun j a d' z1 z2 => ?_⟩, S.le, by rw [List.length_set, List.length_set]; exact S.len, fun j => ?_, fun j k a z1 z2 => ?_⟩
  · unfold AM.put at z1
    rw [gE_set hi] at z2
    by_cases z : j = i
    · rw [if_pos z] at z1; cases z1; exact .inr h0
    · rw [if_neg z] at z1; rw [if_neg (fun y => z y.symm)] at z2; exact s.own j a d' z1 z2
  · unfold AM.put at z1
    rw [gE_set hi] at z2
    by_cases z : j = i
    · rw [if_pos z.symm] at z2; cases z2
    · rw [if_neg z] at z1; rw [if_neg (fun y => z y.symm)] at z2; exact s.par j a d' z1 z2
  · rw [gE_set hi, gS_set (by rw [S.len]; exact hi)]
    unfold AM.put
    by_cases z : i = j
    · subst z; rw [if_pos rfl, if_pos rfl, if_pos rfl]; exact .own h1 h2 h3
    · rw [if_neg z, if_neg z, if_neg (fun y => z y.symm)]; exact S.sl j
  · unfold AM.put at z1 z2
    split at z1
    · split at z2
      · rename_i a b; rw [a, b]
      · cases z1; exact absurd ⟨k, z2⟩ h4
    · split at z2
      · cases z2; exact absurd ⟨j, z1⟩ h4
      · exact S.inj j k a z1 z2
@[simp] def asgE (i : Nat) (r : R) (E : En) : Fl := if i < E.length then (match r with
  | .fz d => .nx (E.set i (.fz d))
  | .tmp d => .nx (E.set i (.own d))
  | .sl j => match shareR E (.sl j) with
    | some (d, E2) => .nx (E2.set i (.fz d))
    | none => .no) else .no
theorem shareR_len {r : R} {d : D} (h : shareR E r = some (d, E2)) : E2.length = E.length := by
  unfold shareR at h
  split at h
  · cases h; rfl
  · cases h; rfl
  · split at h
    · cases h
    · cases h; rfl
    · cases h; rw [List.length_set]
    · cases h
theorem asgE_ok {i : Nat} {v : V} {r : R} (S0 : Stt K F H σ E A) (s : Step A E F H A1 E1 F1 H1) (S : Stt K F1 H1 σ E1 A1) (rv : RvR K F1 H1 A1 σ v r) (fr : Fresh H v r) (h : SPost K F H E A W N (asgE i r E1)) : N.nx (σ.set i (some v)) H1 := by
  unfold asgE at h
  split at h
  · rename_i hi
    cases rv with
    | fz r =>
      obtain ⟨t, T⟩ := set_fz s S hi r
      exact h _ _ _ _ t T
    | tmp h1 h2 h3 h4 =>
      obtain ⟨t, T⟩ := set_own s S hi h1 h2 h3 h4 (fr _ _ rfl rfl)
      exact h _ _ _ _ t T
    | @sl v j hv =>
      dsimp only at h
      split at h
      · rename_i d E2 e
        obtain ⟨A2, F2, s2, S2, rp, _⟩ := shareR_ok S0 s S (.sl hv) (fun _ _ z => by cases z) e
        obtain ⟨t, T⟩ := set_fz s2 S2 (by rw [shareR_len e]; exact hi) rp
        exact h _ _ _ _ t T
      · exact h.elim
  · exact h.elim
end
/-- x = e -/
def SS.asg (i : Nat) (a : SX K) : SS K where
  ts := fun W => tAsg (a.te W) (gName i)
  ev := fun E => (a.ev E).fl fun r E1 => asgE i r E1
  ok := fun F H σ E A S W N h => fl_seq S h fun x r E1 F1 H1 A1 s1 S1 rx fx h1 => asgE_ok S s1 S1 rx fx h1
/-! ### targets -/
def Off (sl : List Nat) (σ σ' : Sg) : Prop := σ'.length = σ.length ∧ ∀ j, j ∉ sl → σ'[j]? = σ[j]?
structure SG (K : PySem.W.Frag) where
  g : TG
  sl : List Nat
  ev : D → En → Option En
  ok : ∀ A0 E0 F0 H0 F H σ E A, Step A0 E0 F0 H0 A E F H → Stt K F H σ E A → ∀ v d E' (Q : Sg → Hp → Prop), Rep K F v d → ev d E = some E' →
    (∀ F' σ' A', Off sl σ σ' → Le F F' → Step A0 E0 F0 H0 A' E' F' H → Stt K F' H σ' E' A' → Q σ' H) → g v σ H Q
structure SGs (K : PySem.W.Frag) where
  g : TGs
  sl : List Nat
  ev : List D → En → Option En
  ok : ∀ A0 E0 F0 H0 F H σ E A, Step A0 E0 F0 H0 A E F H → Stt K F H σ E A → ∀ vs ds E' (Q : Sg → Hp → Prop), Reps K F vs ds → ev ds E = some E' →
    (∀ F' σ' A', Off sl σ σ' → Le F F' → Step A0 E0 F0 H0 A' E' F' H → Stt K F' H σ' E' A' → Q σ' H) → g vs σ H Q
def SG.name (i : Nat) : SG K where
  g := gName i
  sl := [i]
  ev := fun d E => if i < E.length then some (E.set i (.fz d)) else none
  ok := fun A0 E0 F0 H0 F H σ E A s S v d E' Q r h q => by
    split at h
    · rename_i hi
      cases h
      obtain ⟨t, T⟩ := set_fz s S hi r
      exact q _ _ _ ⟨List.length_set, fun j hj => List.getElem?_set_ne (fun z => hj (by rw [z]; exact List.mem_cons_self))⟩ (Le.refl _) t T
    · cases h
def SGs.nil : SGs K where
  g := gNil
  sl := []
  ev := fun ds E => match ds with
    | [] => some E
    | _ => none
  ok := fun A0 E0 F0 H0 F H σ E A s S vs ds E' Q r h q => by
    cases r with
    | nil => cases h; exact ⟨rfl, q F σ A ⟨rfl, fun _ _ => rfl⟩ (Le.refl _) s S⟩
    | cons _ _ => cases h
def SGs.cons (a : SG K) (b : SGs K) : SGs K where
  g := gCons a.g b.g
  sl := a.sl ++ b.sl
  ev := fun ds E => match ds with
    | [] => none
    | d :: ds => match a.ev d E with
      | none => none
      | some E1 => b.ev ds E1
  ok := fun A0 E0 F0 H0 F H σ E A s S vs ds E' Q r h q => by
    cases r with
    | nil => cases h
    | cons r rs =>
      dsimp only at h
      split at h
      · cases h
      · rename_i E1 e
        refine ⟨_, _, rfl, a.ok A0 E0 F0 H0 F H σ E A s S _ _ _ _ r e fun F' σ' A' o1 l1 s1 S1 => ?_⟩
        exact b.ok A0 E0 F0 H0 F' H σ' E1 A' s1 S1 _ _ _ _ (rs.mono l1) h fun F2 σ2 A2 o2 l2 s2 S2 => q F2 σ2 A2 ⟨o2.1.trans o1.1, fun j hj => (o2.2 j fun z => hj (List.mem_append_right _ z)).trans (o1.2 j fun z => hj (List.mem_append_left _ z))⟩ (l1.trans l2) s2 S2
/-- a, b, .. (n names) from a tuple -/
def SG.tup (n : Nat) (a : SGs K) : SG K where
  g := gTup K n a.g
  sl := a.sl
  ev := fun d E => match d with
    | .tup ds => if ds.length = n then a.ev ds E else none
    | _ => none
  ok := fun A0 E0 F0 H0 F H σ E A s S v d E' Q r h q => by
    split at h
    · rename_i ds
      split at h
      · rename_i hn
        obtain ⟨p, vs, e, hs, rs⟩ := See.tup S.le (See.fz r)
        exact ⟨p, vs, e, hs, by rw [rs.length]; exact hn, a.ok A0 E0 F0 H0 F H σ E A s S vs ds E' Q rs h q⟩
      · cases h
    · cases h
/-- target = e -/
def SS.asgG (g : SG K) (a : SX K) : SS K where
  ts := fun W => tAsg (a.te W) g.g
  ev := fun E => (a.ev E).fl fun r E1 => match shareR E1 r with
    | none => .no
    | some (d, E2) => match g.ev d E2 with
      | none => .no
      | some E3 => .nx E3
  ok := fun F H σ E A S W N h => fl_seq S h fun x r E1 F1 H1 A1 s1 S1 rx fx h1 => by
    split at h1
    · exact h1.elim
    · rename_i d E2 e
      obtain ⟨A2, F2, s2, S2, rp, _⟩ := shareR_ok S s1 S1 rx fx e
      split at h1
      · exact h1.elim
      · rename_i E3 e3
        exact g.ok _ _ _ _ F2 H1 σ E2 A2 s2 S2 x d E3 _ rp e3 fun F' σ' A' _ _ t T => h1 F' H1 σ' A' t T
/-- x op= e -/
def SS.aug (i : Nat) (o : O2 K) (b : SX K) : SS K where
  ts := fun W => tAug i (b.te W) o.r
  ev := fun E => match gE E i with
    | .fz _ => (b.ev E).fl fun rb E1 => match look E1 (.sl i), look E1 rb with
      | some da, some db => match o.f da db with
        | some rt => asgE i rt.r E1
        | none => .no
      | _, _ => .no
    | _ => .no
  ok := fun F H σ E A S W N h => by
    have q := S.sl i
    generalize e1 : gS σ i = x at q
    generalize e2 : gE E i = y at q
    generalize e3 : A i = z at q
    rw [e2] at h
    cases q with
    | no => exact h.elim
    | own _ _ _ => exact h.elim
    | par _ _ _ => exact h.elim
    | @fz v d r =>
      refine ⟨v, gS_some e1, fl_seq S h fun y rb E1 F1 H1 A1 s1 S1 ry _ h1 => ?_⟩
      split at h1
      · rename_i da db l1 l2
        split at h1
        · rename_i rt e
          refine o.ok F1 H1 v y da db rt _ S1.le (see_of S1 (r := .sl i) (.sl (gS_some e1)) l1) (see_of S1 ry l2) e fun F2 H2 u g rr => ?_
          have t := s1.trans S1 (Step.grow S1 g)
          have T := S1.grow g
          cases rr with
          | fz r2 => exact asgE_ok S t T (.fz r2) (fun _ _ z => by cases z) h1
          | tmp z1 z2 z3 z4 =>
            refine asgE_ok S t T (.tmp z1 z2 z3 fun ⟨j, w⟩ => ?_) (fun l d w1 w2 => by cases w2; exact s1.fresh z4) h1
            obtain ⟨_, _, _, w2, _⟩ := S1.ownOr w
            rw [z4] at w2; cases w2
        · exact h1.elim
      · exact h1.elim
/-- one behind the other -/
def flS (f : Fl) (g : En → Fl) : Fl := match f with
  | .nx E => g E
  | f => f
@[simp] theorem flS_nx {E : En} {g : En → Fl} : flS (.nx E) g = g E := rfl
@[simp] theorem flS_rt {r : Rt} {E : En} {g : En → Fl} : flS (.rt r E) g = .rt r E := rfl
@[simp] theorem flS_bk {E : En} {g : En → Fl} : flS (.bk E) g = .bk E := rfl
@[simp] theorem flS_ct {E : En} {g : En → Fl} : flS (.ct E) g = .ct E := rfl
@[simp] theorem flS_ex {x : Exn} {E : En} {g : En → Fl} : flS (.ex x E) g = .ex x E := rfl
@[simp] theorem flS_no {g : En → Fl} : flS .no g = .no := rfl
def SS.seq (a b : SS K) : SS K where
  ts := fun W => tSeq (a.ts W) (b.ts W)
  ev := fun E => flS (a.ev E) b.ev
  ok := fun F H σ E A S W N h => by
    refine a.ok F H σ E A S W _ ?_
    generalize a.ev E = f at h
    cases f with
    | nx E1 => exact fun F1 H1 σ1 A1 s1 S1 => b.ok F1 H1 σ1 E1 A1 S1 W N (SPost.later (f := b.ev E1) s1 S1 h)
    | rt r E1 => exact h
    | bk E1 => exact h
    | ct E1 => exact h
    | ex x E1 => exact h
    | no => exact h
def SS.ite (t : ST K) (a b : SS K) : SS K where
  ts := fun W => tIfS (t.tt W) (a.ts W) (b.ts W)
  ev := fun E => (t.ev E).fl fun c E1 => if c = true then a.ev E1 else b.ev E1
  ok := fun F H σ E A S W N h => by
    refine t.ok F H σ E A S W _ ?_
    refine (h.fl).imp fun c E1 F1 H1 A1 ⟨s1, S1, q1⟩ => ?_
    cases c with
    | true => rw [if_pos rfl]; rw [if_pos rfl] at q1; exact a.ok F1 H1 σ E1 A1 S1 W N (q1.later s1 S1)
    | false => rw [if_neg Bool.false_ne_true]; rw [if_neg Bool.false_ne_true] at q1; exact b.ok F1 H1 σ E1 A1 S1 W N (q1.later s1 S1)
@[simp] def retE (r : R) (E : En) : Fl := match r with
  | .fz d => .rt (.fz d) E
  | .tmp d => .rt (.tmp d) E
  | .sl i => match gE E i with
    | .fz d => .rt (.fz d) E
    | .own d => .rt (.tmp d) (E.set i .no)
    | _ => .no
def SS.ret (a : SX K) : SS K where
  ts := fun W => tRet (a.te W)
  ev := fun E => (a.ev E).fl fun r E1 => retE r E1
  ok := fun F H σ E A S W N h => fl_seq S h fun x r E1 F1 H1 A1 s1 S1 rx fx h1 => by
    cases rx with
    | fz r => exact h1 F1 H1 σ A1 x s1 S1 (.fz r)
    | tmp z1 z2 z3 z4 => exact h1 F1 H1 σ A1 _ s1 S1 (.tmp z1 z2 z3 z4 (.inr (fx _ _ rfl rfl)))
    | @sl v i hv =>
      unfold retE at h1
      dsimp only at h1
      have q := S1.sl i
      rw [gS_of hv] at q
      generalize e3 : A1 i = z at q
      split at h1
      · rename_i d e
        rw [e] at q
        cases q with
        | fz r => exact h1 F1 H1 σ A1 x s1 S1 (.fz r)
      · rename_i d e
        rw [e] at q
        cases q with
        | @own l o _ z1 z2 z3 =>
          have hi : i < E1.length := by
            unfold gE at e
            cases z : E1[i]? with
            | none => rw [z] at e; cases e
            | some _ => exact (List.getElem?_eq_some_iff.mp z).1
          refine h1 F1 H1 σ (A1.drop i) _ ⟨s1.fz, s1.keep, s1.alive, s1.st, fun j a d' w1 w2 => ?_, fun j a d' w1 w2 => ?_⟩ ⟨S1.le, by rw [List.length_set]; exact S1.len, fun j => ?_, fun j k a w1 w2 => ?_⟩ (.tmp z1 z2 z3 ?_ (s1.own i l d e3 e))
          · unfold AM.drop at w1
            split at w1
            · cases w1
            · rename_i hj
              rw [gE_set hi, if_neg (fun z => hj z.symm)] at w2
              exact s1.own j a d' w1 w2
          · unfold AM.drop at w1
            split at w1
            · cases w1
            · rename_i hj
              rw [gE_set hi, if_neg (fun z => hj z.symm)] at w2
              exact s1.par j a d' w1 w2
          · rw [gE_set hi]
            unfold AM.drop
            by_cases z : i = j
            · rw [if_pos z, if_pos z.symm]; exact .no
            · rw [if_neg z, if_neg (fun y => z y.symm)]; exact S1.sl j
          · unfold AM.drop at w1 w2
            split at w1
            · cases w1
            · split at w2
              · cases w2
              · exact S1.inj j k a w1 w2
          · rintro ⟨j, w⟩
            unfold AM.drop at w
            split at w
            · cases w
            · rename_i hj
              exact hj (S1.inj j i l w e3)
      · exact h1.elim
def SS.retN : SS K where
  ts := fun _ => tRetN
  ev := fun E => .rt (.fz .non) E
  ok := fun F H σ E A S W N h => h F H σ A .non (Step.refl S) S (.fz .non)
def SS.drop (a : SX K) : SS K where
  ts := fun W => tDrop (a.te W)
  ev := fun E => (a.ev E).fl fun _ E1 => .nx E1
  ok := fun F H σ E A S W N h => fl_seq S h fun x r E1 F1 H1 A1 s1 S1 rx fx h1 => h1 F1 H1 σ A1 s1 S1
def SS.pass : SS K where
  ts := fun _ => tNext
  ev := fun E => .nx E
  ok := fun F H σ E A S W N h => h F H σ A (Step.refl S) S
def SS.brk : SS K where
  ts := fun _ => tBreak
  ev := fun E => .bk E
  ok := fun F H σ E A S W N h => h F H σ A (Step.refl S) S
def SS.cont : SS K where
  ts := fun _ => tCont
  ev := fun E => .ct E
  ok := fun F H σ E A S W N h => h F H σ A (Step.refl S) S
def SS.never : SS K where
  ts := fun _ => tNever
  ev := fun _ => .no
  ok := fun F H σ E A S W N h => h.elim
/-! ### loops -/
def Walks (K : PySem.W.Frag) (F0 : Hp) (J : It) (ds : List D) : Prop := ∀ i F H, Le F0 F → Le F H →
  (i < ds.length → J.go i H ∧ ∀ x H', J.yld i H x H' → ∃ F' d, Grow F H F' H' ∧ ds[i]? = some d ∧ Rep K F' x d) ∧ (ds.length ≤ i → J.stop i H)
structure SI (K : PySem.W.Frag) where
  wi : WX → TI
  ev : En → Rs (List D)
  ok : ∀ F H σ E A, Stt K F H σ E A → ∀ (W : WX) (R : It → Hp → Prop), Post K F H σ E A W (fun ds _ F' H' _ => ∀ J, Walks K F' J ds → R J H') (ev E) → wi W σ H R
def forL (g : D → En → Option En) (b : En → Fl) : List D → En → Fl
  | [], E => .nx E
  | d :: ds, E => match g d E with
    | none => .no
    | some E1 => match b E1 with
      | .nx E2 => forL g b ds E2
      | .ct E2 => forL g b ds E2
      | .bk E2 => .nx E2
      | .rt r E2 => .rt r E2
      | .ex x E2 => .ex x E2
      | .no => .no
def SS.for_ (it : SI K) (g : SG K) (b : SS K) : SS K where
  ts := fun W => tFor (it.wi W) g.g (b.ts W)
  ev := fun E => (it.ev E).fl fun ds E1 => forL g.ev b.ev ds E1
  ok := fun F H σ E A S W N h => by
    refine it.ok F H σ E A S W _ ?_
    refine (h.fl).imp fun ds E1 F1 H1 A1 ⟨s1, S1, q1⟩ J hJ => ?_
    refine ⟨fun i m σ' H' => m = ds.length - i ∧ i ≤ ds.length ∧ ∃ F' E' A', Le F1 F' ∧ Stt K F' H' σ' E' A' ∧ SPost K F' H' E' A' W N (forL g.ev b.ev (ds.drop i) E'), ⟨_, rfl, Nat.zero_le _, F1, E1, A1, Le.refl _, S1, q1.later s1 S1⟩, ?_⟩
    rintro i m σ' H' ⟨rfl, hi, F', E', A', l', S', q⟩
    obtain ⟨go, stop⟩ := hJ i F' H' l' S'.le
    by_cases hlt : i < ds.length
    · obtain ⟨g1, yl⟩ := go hlt
      refine .inr ⟨g1, fun σ2 H2 => ∃ F2 E2 A2, Le F1 F2 ∧ Stt K F2 H2 σ2 E2 A2 ∧ SPost K F2 H2 E2 A2 W N (forL g.ev b.ev (ds.drop (i + 1)) E2), fun σ2 H2 w => ⟨_, by omega, rfl, hlt, w⟩, fun x H2 y => ?_⟩
      obtain ⟨F2, d, gr, ed, rp⟩ := yl x H2 y
      have e : ds.drop i = d :: ds.drop (i + 1) := by
        rw [List.drop_eq_getElem_cons hlt]
        rw [List.getElem?_eq_getElem hlt] at ed
        rw [Option.some.inj ed]
      rw [e] at q
      unfold forL at q
      split at q
      · exact q.elim
      · rename_i E3 e3
        refine g.ok _ _ _ _ F2 H2 σ' E' A' (Step.grow S' gr) (S'.grow gr) x d E3 _ rp e3 fun F3 σ3 A3 _ l3 s3 S3 => ?_
        refine b.ok F3 H2 σ3 E3 A3 S3 W _ ?_
        have lf := (l'.trans gr.fz).trans l3
        generalize b.ev E3 = f at q
        cases f with
        | nx E4 => exact fun F5 H5 σ5 A5 s5 S5 => ⟨F5, E4, A5, lf.trans s5.fz, S5, SPost.later (s3.trans S3 s5) S5 q⟩
        | ct E4 => exact fun F5 H5 σ5 A5 s5 S5 => ⟨F5, E4, A5, lf.trans s5.fz, S5, SPost.later (s3.trans S3 s5) S5 q⟩
        | bk E4 => exact fun F5 H5 σ5 A5 s5 S5 => q F5 H5 σ5 A5 (s3.trans S3 s5) S5
        | rt r E4 => exact SPost.later (f := .rt r E4) s3 S3 q
        | ex r E4 => exact SPost.later (f := .ex r E4) s3 S3 q
        | no => exact q
    · have e : i = ds.length := by omega
      subst e
      rw [List.drop_length] at q
      exact .inl ⟨stop (Nat.le_refl _), q F' H' σ' A' (Step.refl S') S'⟩
def whL (c : En → Rs Bool) (b : En → Fl) : Nat → En → Fl
  | 0, _ => .no
  | n + 1, E => (c E).fl fun t E1 => if t = true then (match b E1 with
      | .nx E2 => whL c b n E2
      | .ct E2 => whL c b n E2
      | .bk E2 => .nx E2
      | .rt r E2 => .rt r E2
      | .ex x E2 => .ex x E2
      | .no => .no) else .nx E1
def SS.wh (n : En → Nat) (c : ST K) (b : SS K) : SS K where
  ts := fun W => tWhile (c.tt W) (b.ts W)
  ev := fun E => whL c.ev b.ev (n E) E
  ok := fun F H σ E A S W N h => by
    refine ⟨fun m σ' H' => ∃ F' E' A', Stt K F' H' σ' E' A' ∧ SPost K F' H' E' A' W N (whL c.ev b.ev m E'), ⟨n E, F, E, A, S, h⟩, ?_⟩
    rintro m σ' H' ⟨F', E', A', S', q⟩
    cases m with
    | zero => exact q.elim
    | succ m =>
      refine c.ok F' H' σ' E' A' S' W _ ?_
      unfold whL at q
      refine (q.fl).imp fun t E1 F1 H1 A1 ⟨s1, S1, q1⟩ => ?_
      cases t with
      | false => rw [if_neg Bool.false_ne_true]; rw [if_neg Bool.false_ne_true] at q1; exact q1 F1 H1 σ' A1 s1 S1
      | true =>
        rw [if_pos rfl]; rw [if_pos rfl] at q1
        refine ⟨fun σ2 H2 => ∃ F2 E2 A2, Stt K F2 H2 σ2 E2 A2 ∧ SPost K F2 H2 E2 A2 W N (whL c.ev b.ev m E2), fun σ2 H2 w => ⟨m, Nat.lt_succ_self m, w⟩, ?_⟩
        refine b.ok F1 H1 σ' E1 A1 S1 W _ ?_
        generalize b.ev E1 = f at q1
        cases f with
        | nx E4 => exact fun F5 H5 σ5 A5 s5 S5 => ⟨F5, E4, A5, S5, SPost.later (s1.trans S1 s5) S5 q1⟩
        | ct E4 => exact fun F5 H5 σ5 A5 s5 S5 => ⟨F5, E4, A5, S5, SPost.later (s1.trans S1 s5) S5 q1⟩
        | bk E4 => exact fun F5 H5 σ5 A5 s5 S5 => q1 F5 H5 σ5 A5 (s1.trans S1 s5) S5
        | rt r E4 => exact SPost.later (f := .rt r E4) s1 S1 q1
        | ex r E4 => exact SPost.later (f := .ex r E4) s1 S1 q1
        | no => exact q1
end DX
set_option Elab.async false
set_option linter.all false
set_option maxRecDepth 100000
namespace DX
open PySem PySem.Spec PyProof.Rows L2
variable {K : PySem.W.Frag}
/-! ### comprehensions -/
def wipeE (E : En) : List Nat → En
  | [] => E
  | v :: vs => (wipeE E vs).set v .no
def backE (E E2 : En) : List Nat → En
  | [] => E2
  | v :: vs => (backE E E2 vs).set v (gE E v)
def AM.drops (A : AM) (vs : List Nat) : AM := fun i => if i ∈ vs then none else A i
def stays (E : En) (vs : List Nat) : Bool := vs.all fun v => decide (v < E.length) && match gE E v with
  | .no => true
  | .fz _ => true
  | _ => false
theorem gE_wipe {E : En} {i : Nat} : ∀ {vs : List Nat}, gE (wipeE E vs) i = if i ∈ vs then .no else gE E i
  | [] => by simp [wipeE]
  | v :: vs => by
    unfold wipeE
    by_cases h : v = i
    · subst h
      simp only [List.mem_cons, true_or, if_true]
      unfold gE
      by_cases q : v < (wipeE E vs).length
      · rw [List.getElem?_set_self q]; rfl
      · rw [List.getElem?_eq_none (by simpa using q)]; rfl
    · have e : gE ((wipeE E vs).set v .no) i = gE (wipeE E vs) i := by unfold gE; rw [List.getElem?_set_ne h]
      rw [e, gE_wipe]
      have : (i ∈ v :: vs) ↔ i ∈ vs := by simp [List.mem_cons, Ne.symm h]
      simp only [this]
theorem gS_wipe {σ : Sg} {i : Nat} : ∀ {vs : List Nat}, gS (wipe σ vs) i = if i ∈ vs then none else gS σ i
  | [] => by simp [wipe]
  | v :: vs => by
    unfold wipe
    by_cases h : v = i
    · subst h
      simp only [List.mem_cons, true_or, if_true]
      unfold gS
      by_cases q : v < (wipe σ vs).length
      · rw [List.getElem?_set_self q]; rfl
      · rw [List.getElem?_eq_none (by simpa using q)]; rfl
    · have e : gS ((wipe σ vs).set v none) i = gS (wipe σ vs) i := by unfold gS; rw [List.getElem?_set_ne h]
      rw [e, gS_wipe]
      have : (i ∈ v :: vs) ↔ i ∈ vs := by simp [List.mem_cons, Ne.symm h]
      simp only [this]
theorem wipeE_length {E : En} : ∀ {vs : List Nat}, (wipeE E vs).length = E.length
  | [] => rfl
  | v :: vs => by unfold wipeE; rw [List.length_set, wipeE_length]
theorem backE_length {E E2 : En} : ∀ {vs : List Nat}, (backE E E2 vs).length = E2.length
  | [] => rfl
  | v :: vs => by unfold backE; rw [List.length_set, backE_length]
theorem gE_back {E E2 : En} {i : Nat} : ∀ {vs : List Nat}, (∀ v ∈ vs, v < E2.length) → gE (backE E E2 vs) i = if i ∈ vs then gE E i else gE E2 i
  | [], _ => by simp [backE]
  | v :: vs, hv => by
    have ih := gE_back (E := E) (E2 := E2) (i := i) (vs := vs) (fun v h => hv v (List.mem_cons_of_mem _ h))
    unfold backE
    have hl : v < (backE E E2 vs).length := by rw [backE_length]; exact hv v List.mem_cons_self
    rw [gE_set hl]
    by_cases h : v = i
    · subst h; simp
    · rw [if_neg h, ih]
      have : (i ∈ v :: vs) ↔ i ∈ vs := by simp [List.mem_cons, Ne.symm h]
      simp only [this]
theorem stays_mem {E : En} {vs : List Nat} (h : stays E vs = true) {v : Nat} (hv : v ∈ vs) : v < E.length ∧ (gE E v = .no ∨ ∃ d, gE E v = .fz d) := by
  unfold stays at h
  have q := List.all_eq_true.mp h v hv
  rw [Bool.and_eq_true, decide_eq_true_eq] at q
  refine ⟨q.1, ?_⟩
  have q2 := q.2
  split at q2
  · rename_i e; exact .inl e
  · rename_i d e; exact .inr ⟨d, e⟩
  · cases q2
theorem wipe_get {σ : Sg} {i : Nat} : ∀ {vs : List Nat}, (wipe σ vs)[i]? = if i ∈ vs then (σ[i]?).map (fun _ => none) else σ[i]?
  | [] => by simp [wipe]
  | v :: vs => by
    unfold wipe
    by_cases h : v = i
    · subst h
      simp only [List.mem_cons, true_or, if_true]
      by_cases q : v < (wipe σ vs).length
      · rw [List.getElem?_set_self q]
        rw [wipe_length] at q
        rw [List.getElem?_eq_getElem q]; rfl
      · rw [List.getElem?_eq_none (by simpa using q)]
        rw [wipe_length] at q
        rw [List.getElem?_eq_none (by omega)]; rfl
    · rw [List.getElem?_set_ne h, wipe_get]
      have : (i ∈ v :: vs) ↔ i ∈ vs := by simp [List.mem_cons, Ne.symm h]
      simp only [this]
theorem wipe_off {σ σ2 : Sg} {sl vs : List Nat} (o : Off sl (wipe σ vs) σ2) (h : ∀ j ∈ sl, j ∈ vs) : wipe σ2 vs = wipe σ vs := by
  refine List.ext_getElem? fun i => ?_
  rw [wipe_get]
  have hl : σ2.length = σ.length := by rw [o.1, wipe_length]
  by_cases hi : i ∈ vs
  · rw [if_pos hi, wipe_get, if_pos hi]
    by_cases q : i < σ.length
    · rw [List.getElem?_eq_getElem q, List.getElem?_eq_getElem (by rw [hl]; exact q)]; rfl
    · rw [List.getElem?_eq_none (by omega), List.getElem?_eq_none (by omega)]
  · rw [if_neg hi, o.2 i (fun z => hi (h i z))]
section
variable {A A1 A2 : AM} {E E1 E2 : En} {F H F1 H1 F2 H2 : Hp} {σ σ1 σ2 : Sg} {W : WX}
theorem Stt.none_of (S : Stt K F H σ E A) {i : Nat} (h : gE E i = .no ∨ ∃ d, gE E i = .fz d) : A i = none := by
  have q := S.sl i
  generalize gS σ i = x at q
  generalize A i = y at q ⊢
  rcases h with h | ⟨d, h⟩
  · rw [h] at q; cases q; rfl
  · rw [h] at q; cases q; rfl
theorem Stt.wiped (S : Stt K F H σ E A) {vs : List Nat} (h : stays E vs = true) : Stt K F H (wipe σ vs) (wipeE E vs) A ∧ Step A E F H A (wipeE E vs) F H := by
  have n : ∀ v ∈ vs, A v = none := fun v hv => S.none_of (stays_mem h hv).2
  refine ⟨⟨S.le, by rw [wipe_length, wipeE_length]; exact S.len, fun i => ?_, S.inj⟩, ⟨Le.refl _, fun _ _ h _ => h, fun _ h => h, fun _ _ _ => rfl, fun i a d z1 z2 => ?_, fun i a d z1 z2 => ?_⟩⟩
  · rw [gS_wipe, gE_wipe]
    by_cases hi : i ∈ vs
    · rw [if_pos hi, if_pos hi, n i hi]; exact .no
    · rw [if_neg hi, if_neg hi]; exact S.sl i
  · rw [gE_wipe] at z2
    split at z2
    · cases z2
    · exact .inl ⟨i, d, z1, z2⟩
  · rw [gE_wipe] at z2
    split at z2
    · cases z2
    · exact ⟨z1, d, z2⟩
/-- behind the turn of a comprehension: its own names are as they were -/
theorem Stt.backed (S : Stt K F H σ E A) {vs : List Nat} (h : stays E vs = true) (hw : wipe σ2 vs = wipe σ vs) (e : Le F F2) (S2 : Stt K F2 H2 σ2 E2 A2) (hl : E2.length = E.length) (s : Step A1 E1 F1 H1 A2 E2 F2 H2) :
    Stt K F2 H2 σ (backE E E2 vs) (A2.drops vs) ∧ Step A1 E1 F1 H1 (A2.drops vs) (backE E E2 vs) F2 H2 := by
  have hv : ∀ v ∈ vs, v < E2.length := fun v q => by rw [hl]; exact (stays_mem h q).1
  refine ⟨⟨S2.le, by rw [backE_length, hl]; exact S.len, fun i => ?_, fun j k a z1 z2 => ?_⟩, ⟨s.fz, s.keep, s.alive, s.st, fun i a d z1 z2 => ?_, fun i a d z1 z2 => ?_⟩⟩
  · rw [gE_back hv]
    unfold AM.drops
    by_cases hi : i ∈ vs
    · rw [if_pos hi, if_pos hi]
      have q := S.sl i
      rw [S.none_of (stays_mem h hi).2] at q
      generalize gS σ i = x at q ⊢
      generalize gE E i = y at q ⊢
      cases q with
      | no => exact .no
      | fz r => exact .fz (r.mono e)
    · rw [if_neg hi, if_neg hi]
      have q : gS (wipe σ2 vs) i = gS (wipe σ vs) i := by rw [hw]
      rw [gS_wipe, gS_wipe, if_neg hi, if_neg hi] at q
      rw [← q]
      exact S2.sl i
  · unfold AM.drops at z1 z2
    split at z1
    · cases z1
    · split at z2
      · cases z2
      · exact S2.inj j k a z1 z2
  · rw [gE_back hv] at z2
    unfold AM.drops at z1
    split at z1
    · cases z1
    · rename_i hi
      rw [if_neg hi] at z2
      exact s.own i a d z1 z2
  · rw [gE_back hv] at z2
    unfold AM.drops at z1
    split at z1
    · cases z1
    · rename_i hi
      rw [if_neg hi] at z2
      exact s.par i a d z1 z2
theorem Step.tweak {D0 : Addr} {o : HO} (s : Step A E F H A1 E1 F1 H1) (h : H D0 = none) : Step A E F H A1 E1 F1 (upd H1 D0 o) := by
  have n : ∀ b, H b ≠ none → b ≠ D0 := fun b hb z => hb (by rw [z]; exact h)
  refine ⟨s.fz, fun b u q ha => ?_, fun b hb => ?_, s.st, s.own, s.par⟩
  · rw [upd_ne (n b (by rw [q]; intro z; cases z))]; exact s.keep b u q ha
  · rw [upd_ne (n b hb)]; exact s.alive b hb
theorem Stt.tweak {D0 : Addr} {o : HO} (S : Stt K F H σ E A) (h : F D0 = none) (hn : ¬ Own A D0) : Stt K F (upd H D0 o) σ E A := by
  refine ⟨fun a u q => ?_, S.len, fun i => ?_, S.inj⟩
  · rw [upd_ne (fun z => by rw [z, h] at q; cases q)]; exact S.le a u q
  · have q := S.sl i
    have ne : ∀ a, A i = some a → a ≠ D0 := fun a z w => hn ⟨i, by rw [z, w]⟩
    generalize gS σ i = x at q ⊢
    generalize gE E i = y at q ⊢
    generalize e3 : A i = z at q ⊢
    cases q with
    | no => exact .no
    | fz r => exact .fz r
    | own q1 q2 q3 => exact .own (by rw [upd_ne (ne _ e3)]; exact q1) q2 q3
    | par q1 q2 q3 => exact .par (by rw [upd_ne (ne _ e3)]; exact q1) q2 q3
end
theorem Step.acc {A A1 : AM} {E E1 : En} {F H F1 H1 : Hp} {σ1 : Sg} {Dl : Addr} {o : HO} (s : Step A E F H A1 E1 F1 H1) (S1 : Stt K F1 H1 σ1 E1 A1) (hd : H Dl = some o) (hf : F Dl = none) (ho : ¬ Own A Dl) : H1 Dl = some o ∧ F1 Dl = none ∧ ¬ Own A1 Dl := by
  have n : H Dl ≠ none := by rw [hd]; intro z; cases z
  refine ⟨s.keep _ _ hd ho, by rw [s.st _ n ho]; exact hf, fun z => ?_⟩
  rcases s.sub S1 z with w | w
  · exact ho w
  · exact n w
/-- nothing is raised in a comprehension -/
def Rs.noex {α : Type} (r : Rs α) : Rs α := match r with
  | .ok a E => .ok a E
  | _ => .no
@[simp] theorem Rs.noex_ok {α : Type} {a : α} {E : En} : Rs.noex (.ok a E) = .ok a E := rfl
def lcL (g : D → En → Option En) (t : En → Rs Bool) (e : En → Rs R) (vs : List Nat) : List D → En → List D → Rs (List D)
  | [], E, acc => .ok acc E
  | d :: ds, E, acc => if stays E vs = true then (match g d (wipeE E vs) with
    | none => .no
    | some E1 => (t E1).noex.bind fun c E2 => if c = true then
        ((e E2).noex.bind fun r E3 => (shareE E3 r).bind fun d' E4 => if E4.length = E.length ∧ acc.length < sizeLine then lcL g t e vs ds (backE E E4 vs) (acc ++ [d']) else .no)
        else if E2.length = E.length then lcL g t e vs ds (backE E E2 vs) acc else .no) else .no
abbrev W0 : WX := fun _ _ _ _ => False
theorem Post.noex {α : Type} {F H : Hp} {σ : Sg} {E : En} {A : AM} {W W' : WX} {P : α → En → Hp → Hp → AM → Prop} {r : Rs α} (h : Post K F H σ E A W P r.noex) : Post K F H σ E A W' P r := by
  cases r with
  | ok a E' => exact h
  | ex x E' => exact h.elim
  | no => exact h
theorem Post.noex' {α : Type} {F H : Hp} {σ σ' : Sg} {E : En} {A : AM} {W W' : WX} {P : α → En → Hp → Hp → AM → Prop} {r : Rs α} (h : ∀ a E', r = .ok a E' → ∀ F' H' A', Step A E F H A' E' F' H' → Stt K F' H' σ E' A' → P a E' F' H' A') (n : r.noex ≠ .no) : Post K F H σ E A W' P r := by
  cases r with
  | ok a E' => exact h a E' rfl
  | ex x E' => exact (n rfl).elim
  | no => exact (n rfl).elim
def LcP (K : PySem.W.Frag) (F0 H0 : Hp) (σ : Sg) (E0 : En) (A0 : AM) (Q : VK) (D0 : Addr) : Rs (List D) → Prop
  | .ok acc E => ∀ F H A vs, Step A0 E0 F0 H0 A E F H → Stt K F H σ E A → H D0 = some (.lst vs) → F D0 = none → ¬ Own A D0 → Reps K F vs acc → Q (.ref D0) H
  | _ => False
theorem lc_ok {g : SG K} {t : ST K} {e : SX K} {vs : List Nat} {σ : Sg} {F0 H0 : Hp} {E0 : En} {A0 : AM} {ds : List D} {Q : VK} {J : It} {Dl : Addr} (S0 : Stt K F0 H0 σ E0 A0) (hD : H0 Dl = none) (hg : ∀ j ∈ g.sl, j ∈ vs) (hJ : Walks K F0 J ds)
    (h : LcP K F0 H0 σ E0 A0 Q Dl (lcL g.ev t.ev e.ev vs ds E0 [])) :
    ∃ W : Nat → Nat → Hp → Prop, (∃ m, W 0 m (upd H0 Dl (.lst []))) ∧ ∀ i m H, W i m H →
      (J.stop i H ∧ Q (.ref Dl) H) ∨ (J.go i H ∧ ∃ Nx : Hp → Prop, (∀ H', Nx H' → ∃ m', m' < m ∧ W (i + 1) m' H') ∧ ∀ x H', J.yld i H x H' → g.g x (wipe σ vs) H' fun σ2 H2 => wipe σ2 vs = wipe σ vs ∧ t.tt W0 σ2 H2 fun b H3 =>
        if b = true then e.te W0 σ2 H3 fun y H4 => ∃ acc, H4 Dl = some (.lst acc) ∧ acc.length < sizeLine ∧ Nx (upd H4 Dl (.lst (acc ++ [y]))) else Nx H3) := by
  let G := fun (i : Nat) (H : Hp) => ∃ F E A us acc, Step A0 E0 F0 H0 A E F H ∧ Stt K F H σ E A ∧ H Dl = some (.lst us) ∧ F Dl = none ∧ ¬ Own A Dl ∧ Reps K F us acc ∧ LcP K F0 H0 σ E0 A0 Q Dl (lcL g.ev t.ev e.ev vs (ds.drop i) E acc)
  refine ⟨fun i m H => m = ds.length - i ∧ i ≤ ds.length ∧ G i H, ⟨_, rfl, Nat.zero_le _, F0, E0, A0, [], [], (Step.refl S0).tweak hD, S0.tweak (S0.le.new hD) ?_, upd_same, S0.le.new hD, ?_, .nil, h⟩, ?_⟩
  · rintro ⟨i, z⟩; obtain ⟨_, _, _, z2, _⟩ := S0.ownOr z; rw [hD] at z2; cases z2
  · rintro ⟨i, z⟩; obtain ⟨_, _, _, z2, _⟩ := S0.ownOr z; rw [hD] at z2; cases z2
  rintro i m H ⟨rfl, hi, F, E, A, us, acc, s, S, hd, hf, ho, rs, q⟩
  obtain ⟨go, stop⟩ := hJ i F H s.fz S.le
  by_cases hlt : i < ds.length
  · obtain ⟨g1, yl⟩ := go hlt
    refine .inr ⟨g1, G (i + 1), fun H' w => ⟨_, by omega, rfl, hlt, w⟩, fun x H1 y => ?_⟩
    obtain ⟨F1, d, gr, ed, rp⟩ := yl x H1 y
    have ee : ds.drop i = d :: ds.drop (i + 1) := by
      rw [List.drop_eq_getElem_cons hlt]
      rw [List.getElem?_eq_getElem hlt] at ed
      rw [Option.some.inj ed]
    rw [ee] at q
    unfold lcL at q
    split at q
    · rename_i hst
      split at q
      · exact q.elim
      · rename_i E1 e1
        obtain ⟨Sw, sw⟩ := S.wiped hst
        have hd1 : H1 Dl = some (.lst us) := gr.hp _ _ hd
        have hf1 : F1 Dl = none := by rw [gr.st Dl (by rw [hd]; intro z; cases z)]; exact hf
        -- the target: its slots are the comprehension's own
        have sg : Step A E F H A (wipeE E vs) F1 H1 := sw.trans Sw (Step.grow Sw gr)
        refine g.ok _ _ _ _ F1 H1 (wipe σ vs) (wipeE E vs) A sg (Sw.grow gr) x d E1 _ rp e1 fun F2 σ2 A2 o2 l2 s2 S2 => ?_
        have hw := wipe_off o2 hg
        refine ⟨hw, t.ok F2 H1 σ2 E1 A2 S2 W0 _ ?_⟩
        cases ht : t.ev E1 with
        | no => rw [ht] at q; exact q.elim
        | ex x E2 => rw [ht] at q; exact q.elim
        | ok c E2 =>
          rw [ht, Rs.noex_ok, Rs.bind_ok] at q
          intro F3 H3 A3 s3 S3
          have s03 := s2.trans S2 s3
          obtain ⟨k1, k2, k3⟩ := s03.acc S3 hd hf ho
          cases c with
          | false =>
            rw [if_neg Bool.false_ne_true] at q ⊢
            split at q
            · rename_i hl
              obtain ⟨T, w⟩ := S.backed hst hw s03.fz S3 hl (s.trans S s03)
              exact ⟨F3, _, _, us, acc, w, T, k1, k2, fun ⟨j, z⟩ => k3 (by unfold AM.drops at z; split at z; cases z; exact ⟨j, z⟩), rs.mono s03.fz, q⟩
            · exact q.elim
          | true =>
            rw [if_pos rfl] at q ⊢
            refine e.ok F3 H3 σ2 E2 A3 S3 W0 _ ?_
            cases he : e.ev E2 with
            | no => rw [he] at q; exact q.elim
            | ex x E3 => rw [he] at q; exact q.elim
            | ok r E3 =>
              rw [he, Rs.noex_ok, Rs.bind_ok] at q
              intro F4 H4 A4 s4 S4 v rv fr
              unfold shareE at q
              split at q
              · rename_i d' E4 e4
                obtain ⟨A5, F5, s5, S5, rp5, l5⟩ := shareR_ok S3 s4 S4 rv fr e4
                rw [Rs.bind_ok] at q
                split at q
                · rename_i hl
                  have s05 := s03.trans S3 s5
                  obtain ⟨j1, j2, j3⟩ := s05.acc S5 hd hf ho
                  obtain ⟨T, w⟩ := S.backed hst hw s05.fz S5 hl.1 (s.trans S s05)
                  have no5 : ¬ Own (A5.drops vs) Dl := fun ⟨j, z⟩ => j3 (by unfold AM.drops at z; split at z; cases z; exact ⟨j, z⟩)
                  exact ⟨us, j1, by rw [rs.length]; exact hl.2, F5, _, _, us ++ [v], acc ++ [d'], w.tweak hD, T.tweak j2 no5, upd_same, j2, no5, (rs.mono s05.fz).append (.one rp5), q⟩
                · exact q.elim
              · exact q.elim
    · exact q.elim
  · have e : i = ds.length := by omega
    subst e
    rw [List.drop_length] at q
    exact .inl ⟨stop (Nat.le_refl _), q F H A us s S hd hf ho rs⟩
/-- [e for target in it if t] -/
def SX.lc (it : SI K) (g : SG K) (t : ST K) (e : SX K) (vs : List Nat) (hg : ∀ j ∈ g.sl, j ∈ vs) : SX K where
  te := fun W => tLc (it.wi W) g.g (t.tt W0) (e.te W0) vs
  ev := fun E => (it.ev E).bind fun ds E1 => (lcL g.ev t.ev e.ev vs ds E1 []).noex.bind fun acc E2 => .ok (.tmp (.lst acc)) E2
  ok := fun F H σ E A S W Q h => by
    refine it.ok F H σ E A S W _ ?_
    refine (h.bind).imp fun ds E1 F1 H1 A1 ⟨s1, S1, q1⟩ J hJ Dl hD => ?_
    refine lc_ok S1 hD hg hJ ?_
    cases hl : lcL g.ev t.ev e.ev vs ds E1 [] with
    | no => rw [hl] at q1; exact q1.elim
    | ex x E2 => rw [hl] at q1; exact q1.elim
    | ok acc E2 =>
      rw [hl, Rs.noex_ok, Rs.bind_ok] at q1
      exact fun F2 H2 A2 us s S hd hf ho rs => q1 F2 H2 A2 (s1.trans S1 s) S _ (.tmp hd hf (.lst rs) ho) (fun l d z1 z2 => by cases z2; exact s1.fresh hD)
def ST.yes : ST K where
  tt := fun _ => tYes
  ev := fun E => .ok true E
  ok := fun F H σ E A S W Q h => h F H A (Step.refl S) S
end DX
set_option Elab.async false
set_option linter.all false
set_option maxRecDepth 100000
namespace DX
open PySem PySem.Spec PyProof.Rows L2
variable {K : PySem.W.Frag}
/-! ### what a def promises: f tells, of the slots of its parameters, what it hands back and what its parameters' own things are then -/
def spF (K : PySem.W.Frag) (n : Nat) (f : En → Rs Rt) : Sp := fun vs H Q E => ∃ (F : Hp) (E0 : En) (A : AM), vs.length = n ∧ Stt K F H (vs.map some) E0 A ∧ (∀ i d, gE E0 i ≠ .own d) ∧
  Post K F H (vs.map some) E0 A (fun cls dd _ H' => E cls dd H') (fun r _ F' H' A' => ∀ v, RvT K H E0 A F' H' A' v r → Q v H') (f E0)
theorem spF_len {n : Nat} {f : En → Rs Rt} (vs : List V) (H : Hp) (Q : VK) (E : XK) (h : spF K n f vs H Q E) : vs.length = n := by
  obtain ⟨_, _, _, h, _⟩ := h; exact h
/-- what is left of the parameters -/
def keepP : Nat → En → En
  | 0, _ => []
  | n + 1, [] => .no :: keepP n []
  | n + 1, s :: E => (match s with
    | .par d => .par d
    | _ => .no) :: keepP n E
theorem keepP_length : ∀ (n : Nat) (E : En), (keepP n E).length = n
  | 0, _ => rfl
  | n + 1, [] => by simp [keepP, keepP_length n]
  | n + 1, s :: E => by simp [keepP, keepP_length n]
theorem gE_nil {i : Nat} : gE [] i = .no := by simp [gE]
theorem gE_zero {s : Sl} {E : En} : gE (s :: E) 0 = s := rfl
theorem gE_succ {s : Sl} {E : En} {i : Nat} : gE (s :: E) (i + 1) = gE E i := by simp [gE]
theorem gE_keepP : ∀ (n : Nat) (E : En) (i : Nat), gE (keepP n E) i = if i < n then (match gE E i with
    | .par d => .par d
    | _ => .no) else .no
  | 0, _, i => by simp [keepP, gE_nil]
  | n + 1, [], 0 => by simp [keepP, gE_nil, gE_zero]
  | n + 1, [], i + 1 => by
    have := gE_keepP n [] i
    simp only [keepP, gE_succ, this, gE_nil]
    simp
  | n + 1, s :: E, 0 => by simp [keepP, gE_zero]
  | n + 1, s :: E, i + 1 => by
    have := gE_keepP n E i
    simp only [keepP, gE_succ, this]
    by_cases h : i < n
    · rw [if_pos h, if_pos (by omega)]
    · rw [if_neg h, if_neg (by omega)]
def runF (n N : Nat) (b : En → Fl) : En → Rs Rt := fun E0 => match b (E0 ++ List.replicate (N - n) .no) with
  | .rt r E => .ok r (keepP n E)
  | .nx E => .ok (.fz .non) (keepP n E)
  | .ex x E => .ex x (keepP n E)
  | _ => .no
theorem gE_append {E E' : En} {i : Nat} : gE (E ++ E') i = if i < E.length then gE E i else gE E' (i - E.length) := by
  unfold gE
  by_cases h : i < E.length
  · rw [if_pos h, List.getElem?_append_left h]
  · rw [if_neg h, List.getElem?_append_right (by omega)]
theorem gE_rep {n i : Nat} : gE (List.replicate n .no) i = .no := by
  unfold gE
  rw [List.getElem?_replicate]
  split <;> rfl
theorem gE_out {E : En} {i : Nat} (h : E.length ≤ i) : gE E i = .no := by
  unfold gE
  rw [List.getElem?_eq_none h]; rfl
theorem gS_map {vs : List V} {i : Nat} : gS (vs.map some) i = vs[i]? := by
  unfold gS
  rw [List.getElem?_map]
  cases vs[i]? <;> rfl
section
variable {A A1 A2 : AM} {E E1 E2 : En} {F H F1 H1 F2 H2 : Hp} {σ σ1 : Sg} {W : WX}
theorem start_ok {N : List Str} {vs : List V} {E0 : En} (S : Stt K F H (vs.map some) E0 A) (n : vs.length ≤ N.length) :
    Stt K F H (start N vs) (E0 ++ List.replicate (N.length - vs.length) .no) A ∧ Step A E0 F H A (E0 ++ List.replicate (N.length - vs.length) .no) F H := by
  have hl : E0.length = vs.length := by rw [← S.len, List.length_map]
  have gE' : ∀ i, gE (E0 ++ List.replicate (N.length - vs.length) .no) i = gE E0 i := fun i => by
    rw [gE_append]
    split
    · rfl
    · rw [gE_rep, gE_out (by omega)]
  refine ⟨⟨S.le, ?_, fun i => ?_, S.inj⟩, ⟨Le.refl _, fun _ _ h _ => h, fun _ h => h, fun _ _ _ => rfl, fun i a d z1 z2 => ?_, fun i a d z1 z2 => ?_⟩⟩
  · unfold L2.start
    rw [List.length_append, List.length_append, List.length_map, List.length_replicate, List.length_replicate, hl]
  · rw [gE']
    have q := S.sl i
    unfold L2.start
    by_cases hi : i < vs.length
    · have e : gS (vs.map some ++ List.replicate (N.length - vs.length) none) i = gS (vs.map some) i := by
        unfold gS
        rw [List.getElem?_append_left (by rw [List.length_map]; exact hi)]
      rw [e]; exact q
    · rw [gE_out (by omega)] at q ⊢
      generalize A i = y at q
      generalize gS (vs.map some) i = z at q
      cases q; exact .no
  · rw [gE'] at z2; exact .inl ⟨i, d, z1, z2⟩
  · rw [gE'] at z2; exact ⟨z1, d, z2⟩
/-- the state that a body leaves, seen by its parameters -/
theorem kept_ok {n : Nat} {vs : List V} {E0 E' : En} {A0 A' : AM} {σ' : Sg} {F' H' : Hp} (S : Stt K F H (vs.map some) E0 A0) (hn : E0.length = n) (s : Step A0 E0 F H A' E' F' H') (S' : Stt K F' H' σ' E' A') :
    Stt K F' H' (vs.map some) (keepP n E') (fun i => match gE (keepP n E') i with
      | .par _ => A' i
      | _ => none) ∧ Step A0 E0 F H (fun i => match gE (keepP n E') i with
      | .par _ => A' i
      | _ => none) (keepP n E') F' H' := by
  have pr : ∀ i d, gE (keepP n E') i = .par d → gE E' i = .par d := fun i d h => by
    rw [gE_keepP] at h
    split at h
    · split at h
      · cases h; assumption
      · cases h
    · cases h
  have sub : ∀ i a, (match gE (keepP n E') i with | .par _ => A' i | _ => none) = some a → (∃ d, gE E' i = .par d ∧ gE (keepP n E') i = .par d) ∧ A' i = some a := fun i a h => by
    split at h
    · rename_i d e; exact ⟨⟨d, pr i d e, e⟩, h⟩
    · cases h
  refine ⟨⟨S'.le, by rw [keepP_length, ← hn]; exact S.len, fun i => ?_, fun j k a z1 z2 => S'.inj j k a (sub j a z1).2 (sub k a z2).2⟩, ⟨s.fz, s.keep, s.alive, s.st, fun i a d z1 z2 => ?_, fun i a d z1 z2 => s.par i a d (sub i a z1).2 (pr i d z2)⟩⟩
  · cases e : gE (keepP n E') i with
    | no => exact .no
    | fz d =>
      rw [gE_keepP] at e
      split at e
      · split at e <;> cases e
      · cases e
    | own d =>
      rw [gE_keepP] at e
      split at e
      · split at e <;> cases e
      · cases e
    | par d =>
      have q := S'.sl i
      rw [pr i d e] at q
      generalize e2 : A' i = y at q
      generalize gS σ' i = z at q
      cases q with
      | @par l o _ h1 h2 h3 =>
        obtain ⟨h4, _⟩ := s.par i l d e2 (pr i d e)
        obtain ⟨_, _, _, _, _, _, h5⟩ := S.ownOr h4
        rw [h5]
        exact .par h1 h2 h3
  · obtain ⟨⟨d', z3, z4⟩, _⟩ := sub i a z1
    rw [z4] at z2; cases z2
end
/-- a def's body keeps its promise -/
theorem body_ok {n : Nat} {N : List Str} {b : SS K} {vs : List V} {H : Hp} {Q : VK} {E : XK} (hN : n ≤ N.length) (h : spF K n (runF n N.length b.ev) vs H Q E) :
    b.ts (fun cls dd _ H' => E cls dd H') { nx := fun _ H' => Q .non H', rt := Q } (start N vs) H := by
  obtain ⟨F, E0, A, hl, S, no, p⟩ := h
  obtain ⟨S1, s1⟩ := start_ok (N := N) S (by rw [hl]; exact hN)
  have hE : E0.length = n := by rw [← S.len, List.length_map, hl]
  refine b.ok F H _ _ A S1 _ _ ?_
  unfold runF at p
  rw [hl]
  rw [hl] at S1 s1
  generalize b.ev (E0 ++ List.replicate (N.length - n) .no) = f at p
  cases f with
  | nx E' =>
    intro F' H' σ' A' s S'
    obtain ⟨T, t⟩ := kept_ok S hE (s1.trans S1 s) S'
    exact p F' H' _ t T .non (.fz .non)
  | rt r E' =>
    intro F' H' σ' A' v s S' rv
    obtain ⟨T, t⟩ := kept_ok S hE (s1.trans S1 s) S'
    refine p F' H' _ t T v ?_
    have rv' := rv.back s1
    cases rv' with
    | fz r => exact .fz r
    | tmp h1 h2 h3 h4 h5 =>
      refine .tmp h1 h2 h3 (fun ⟨i, z⟩ => ?_) h5
      dsimp only at z
      split at z
      · exact h4 ⟨i, z⟩
      · cases z
  | ex x E' =>
    intro F' H' σ' A' cls dd s S' q
    obtain ⟨T, t⟩ := kept_ok S hE (s1.trans S1 s) S'
    exact p F' H' _ cls dd t T q
  | bk E' => exact p.elim
  | ct E' => exact p.elim
  | no => exact p.elim
/-! ### calls -/
inductive Ag where
  | d (d : D) | m (i : Nat)
inductive AgR (K : PySem.W.Frag) (F : Hp) (σ : Sg) : V → Ag → Prop
  | d {v : V} {d : D} : Rep K F v d → AgR K F σ v (.d d)
  | m {v : V} {i : Nat} : σ[i]? = some (some v) → AgR K F σ v (.m i)
abbrev AgRs (K : PySem.W.Frag) (F : Hp) (σ : Sg) : List V → List Ag → Prop := Paired (AgR K F σ)
structure SP (K : PySem.W.Frag) where
  ta : WX → TA
  ev : En → Rs (List Ag)
  ok : ∀ F H σ E A, Stt K F H σ E A → ∀ (W : WX) (Q : List V → Hp → Prop), Post K F H σ E A W (fun ags _ F' H' _ => ∀ vs, AgRs K F' σ vs ags → Q vs H') (ev E) → ta W σ H Q
def SP.nil : SP K where
  ta := fun _ => tNil
  ev := fun E => .ok [] E
  ok := fun F H σ E A S W Q h => h F H A (Step.refl S) S [] .nil
def SP.cons (a : SX K) (r : SP K) : SP K where
  ta := fun W => tCons (a.te W) (r.ta W)
  ev := fun E => (a.ev E).bind fun ra E1 => (shareE E1 ra).bind fun d E2 => (r.ev E2).bind fun ds E3 => .ok (.d d :: ds) E3
  ok := fun F H σ E A S W Q h => by
    refine a.ok F H σ E A S W _ ?_
    refine (h.bind).imp fun ra E1 F1 H1 A1 ⟨s1, S1, q1⟩ v rv fr => ?_
    unfold shareE at q1
    split at q1
    · rename_i d E2 e
      obtain ⟨A2, F2, s2, S2, rp, le2⟩ := shareR_ok S s1 S1 rv fr e
      refine r.ok F2 H1 σ E2 A2 S2 W _ ?_
      dsimp only [Rs.bind_ok] at q1
      refine ((q1.later s2 S2 (fun _ _ _ _ _ p => p)).bind).imp fun ds E3 F3 H3 A3 ⟨s3, S3, q3⟩ vs rvs => ?_
      exact q3 F3 H3 A3 s3 S3 (v :: vs) (.cons (.d (rp.mono s3.fz)) rvs)
    · exact q1.elim
/-- a slot whose own thing the callee may change -/
def SP.mut (i : Nat) (r : SP K) : SP K where
  ta := fun W => tCons (tVar i) (r.ta W)
  ev := fun E => match gE E i with
    | .no => .no
    | _ => (r.ev E).bind fun ds E3 => .ok (.m i :: ds) E3
  ok := fun F H σ E A S W Q h => by
    have q := S.sl i
    have fin : ∀ v, gS σ i = some v → Post K F H σ E A W (fun ags _ F' H' _ => ∀ vs, AgRs K F' σ vs ags → Q vs H') ((r.ev E).bind fun ds E3 => .ok (.m i :: ds) E3) → tCons (tVar i) (r.ta W) σ H Q := fun v e p => by
      refine ⟨v, gS_some e, r.ok F H σ E A S W _ ?_⟩
      refine (p.bind).imp fun ds E3 F3 H3 A3 ⟨s3, S3, q3⟩ vs rvs => ?_
      exact q3 F3 H3 A3 s3 S3 (v :: vs) (.cons (.m (gS_some e)) rvs)
    generalize e1 : gS σ i = x at q
    generalize e2 : gE E i = y at q
    generalize e3 : A i = z at q
    rw [e2] at h
    cases q with
    | no => exact h.elim
    | fz r => exact fin _ e1 h
    | own h1 h2 h3 => exact fin _ e1 h
    | par h1 h2 h3 => exact fin _ e1 h
def agE (E : En) : Ag → Sl
  | .d d => .fz d
  | .m i => match gE E i with
    | .own d => .par d
    | .par d => .par d
    | _ => .no
def agM : List Ag → List Nat
  | [] => []
  | .d _ :: r => agM r
  | .m i :: r => i :: agM r
def upS (s : Sl) (d : D) : Sl := match s with
  | .own _ => .own d
  | .par _ => .par d
  | s => s
def backM : En → List Ag → En → Option En
  | E, [], _ => some E
  | E, .d _ :: r, _ :: E0 => backM E r E0
  | E, .m i :: r, .par d :: E0 => backM (E.set i (upS (gE E i) d)) r E0
  | _, _, _ => none
def Sl.mut : Sl → Bool
  | .own _ => true
  | .par _ => true
  | _ => false
def agOk (E : En) (ags : List Ag) : Bool := decide (agM ags).Nodup && (agM ags).all fun i => (gE E i).mut
def callB (E : En) (ags : List Ag) : Rs Rt → Rs R
  | .ok r E0 => match backM E ags E0 with
    | some E' => .ok r.r E'
    | none => .no
  | .ex x E0 => match backM E ags E0 with
    | some E' => .ex x E'
    | none => .no
  | .no => .no
def callE (f : En → Rs Rt) (E : En) (ags : List Ag) : Rs R := if agOk E ags = true then callB E ags (f (ags.map (agE E))) else .no
theorem upS_own {s : Sl} {d d' : D} (h : upS s d = .own d') : ∃ d0, s = .own d0 ∧ d' = d := by
  unfold upS at h
  split at h
  · cases h; exact ⟨_, rfl, rfl⟩
  · cases h
  · subst h; simp_all
theorem upS_par {s : Sl} {d d' : D} (h : upS s d = .par d') : ∃ d0, s = .par d0 ∧ d' = d := by
  unfold upS at h
  split at h
  · cases h
  · cases h; exact ⟨_, rfl, rfl⟩
  · subst h; simp_all
/-- what the callee left in its parameters comes back -/
theorem backM_ok : ∀ {ags : List Ag} {E E0 E' : En}, (agM ags).Nodup → (∀ i ∈ agM ags, i < E.length) → backM E ags E0 = some E' →
    E'.length = E.length ∧ (∀ i, i ∉ agM ags → gE E' i = gE E i) ∧ (∀ j i, ags[j]? = some (.m i) → ∃ d, gE E0 j = .par d ∧ gE E' i = upS (gE E i) d)
  | [], E, E0, E', _, _, h => by
    unfold backM at h; cases h
    exact ⟨rfl, fun _ _ => rfl, fun j i q => by simp at q⟩
  | .d d :: r, E, [], E', _, _, h => by simp [backM] at h
  | .d d :: r, E, s :: E0, E', nd, hl, h => by
    obtain ⟨a, b, c⟩ := backM_ok (ags := r) (E := E) (E0 := E0) nd hl (by simpa [backM] using h)
    refine ⟨a, b, fun j i q => ?_⟩
    cases j with
    | zero => simp at q
    | succ j =>
      obtain ⟨d, z1, z2⟩ := c j i (by simpa using q)
      exact ⟨d, by rw [gE_succ]; exact z1, z2⟩
  | .m k :: r, E, [], E', _, _, h => by simp [backM] at h
  | .m k :: r, E, .no :: E0, E', _, _, h => by simp [backM] at h
  | .m k :: r, E, .fz _ :: E0, E', _, _, h => by simp [backM] at h
  | .m k :: r, E, .own _ :: E0, E', _, _, h => by simp [backM] at h
  | .m k :: r, E, .par d :: E0, E', nd, hl, h => by
    have nd' : k ∉ agM r ∧ (agM r).Nodup := by simpa [agM] using nd
    have hk : k < E.length := hl k (by simp [agM])
    obtain ⟨a, b, c⟩ := backM_ok (ags := r) (E := E.set k (upS (gE E k) d)) (E0 := E0) nd'.2 (fun i hi => by rw [List.length_set]; exact hl i (by simp [agM, hi])) (by simpa [backM] using h)
    rw [List.length_set] at a
    refine ⟨a, fun i hi => ?_, fun j i q => ?_⟩
    · have hi' : i ≠ k ∧ i ∉ agM r := by simpa [agM] using hi
      rw [b i hi'.2, gE_set hk, if_neg (Ne.symm hi'.1)]
    · cases j with
      | zero =>
        have e : k = i := by simpa using q
        subst e
        exact ⟨d, rfl, by rw [b k nd'.1, gE_set hk, if_pos rfl]⟩
      | succ j =>
        have q' : r[j]? = some (.m i) := by simpa using q
        obtain ⟨d', z1, z2⟩ := c j i q'
        have hm : i ∈ agM r := by
          clear z2 z1 b c a h hl nd
          induction r generalizing j with
          | nil => simp at q'
          | cons x r ih =>
            cases j with
            | zero => simp at q'; subst q'; simp [agM]
            | succ j =>
              have w := ih (by
                cases x with
                | d _ => simpa [agM] using nd'
                | m _ => simp only [agM, List.mem_cons, not_or, List.nodup_cons] at nd'; exact ⟨nd'.1.2, nd'.2.2⟩) j (by simpa using q) (by simpa using q')
              cases x with
              | d _ => simpa [agM] using w
              | m _ => simp [agM, w]
        have ne : k ≠ i := fun z => nd'.1 (by rw [z]; exact hm)
        exact ⟨d', by rw [gE_succ]; exact z1, by rw [z2, gE_set hk, if_neg ne]⟩
theorem Paired.get {α β : Type} {R : α → β → Prop} : ∀ {xs : List α} {ys : List β} {i : Nat} {x : α}, Paired R xs ys → xs[i]? = some x → ∃ y, ys[i]? = some y ∧ R x y
  | _, _, _, _, .nil, e => by simp at e
  | _, _, 0, _, .cons h _, e => by simp at e; subst e; exact ⟨_, rfl, h⟩
  | _, _, i + 1, _, .cons _ r, e => by
    obtain ⟨v, h1, h2⟩ := Paired.get (i := i) r (by simpa using e)
    exact ⟨v, by simpa using h1, h2⟩
theorem agM_mem {ags : List Ag} {j i : Nat} (h : ags[j]? = some (.m i)) : i ∈ agM ags := by
  induction ags generalizing j with
  | nil => simp at h
  | cons x r ih =>
    cases j with
    | zero => simp at h; subst h; simp [agM]
    | succ j =>
      have w := ih (j := j) (by simpa using h)
      cases x with
      | d _ => simpa [agM] using w
      | m _ => simp [agM, w]
theorem agM_of {ags : List Ag} {i : Nat} (h : i ∈ agM ags) : ∃ j : Nat, ags[j]? = some (Ag.m i) := by
  induction ags with
  | nil => simp [agM] at h
  | cons x r ih =>
    cases x with
    | d _ => obtain ⟨j, z⟩ := ih (by simpa [agM] using h); exact ⟨j + 1, by simpa using z⟩
    | m k =>
      have h' : i = k ∨ i ∈ agM r := by simpa [agM] using h
      rcases h' with e | h'
      · exact ⟨0, by rw [e]; rfl⟩
      · obtain ⟨j, z⟩ := ih h'; exact ⟨j + 1, by simpa using z⟩
theorem agM_inj {ags : List Ag} {j k i : Nat} (nd : (agM ags).Nodup) (h : ags[j]? = some (Ag.m i)) (h' : ags[k]? = some (Ag.m i)) : j = k := by
  induction ags generalizing j k with
  | nil => simp at h
  | cons x r ih =>
    cases j with
    | zero =>
      cases k with
      | zero => rfl
      | succ k =>
        simp at h; subst h
        have w := agM_mem (ags := r) (j := k) (by simpa using h')
        exact absurd w (by simpa [agM] using (List.nodup_cons.mp (by simpa [agM] using nd)).1)
    | succ j =>
      cases k with
      | zero =>
        simp at h'; subst h'
        have w := agM_mem (ags := r) (j := j) (by simpa using h)
        exact absurd w (by simpa [agM] using (List.nodup_cons.mp (by simpa [agM] using nd)).1)
      | succ k =>
        have nd' : (agM r).Nodup := by
          cases x with
          | d _ => simpa [agM] using nd
          | m _ => exact (List.nodup_cons.mp (by simpa [agM] using nd)).2
        exact congrArg (· + 1) (ih (j := j) (k := k) nd' (by simpa using h) (by simpa using h'))
/-- the callee's own addresses -/
def agA (A : AM) (ags : List Ag) : AM := fun j => match ags[j]? with
  | some (.m i) => A i
  | _ => none
theorem gE_ags {E : En} {ags : List Ag} {j : Nat} : gE (ags.map (agE E)) j = match ags[j]? with
    | some a => agE E a
    | none => .no := by
  unfold gE
  rw [List.getElem?_map]
  cases ags[j]? <;> rfl
section
variable {A A1 A2 : AM} {E E1 E2 : En} {F H F1 H1 F2 H2 : Hp} {σ σ1 : Sg} {W : WX}
theorem ags_start {ags : List Ag} {vs : List V} (S : Stt K F H σ E A) (ok : agOk E ags = true) (r : AgRs K F σ vs ags) : Stt K F H (vs.map some) (ags.map (agE E)) (agA A ags) := by
  unfold agOk at ok
  rw [Bool.and_eq_true, decide_eq_true_eq] at ok
  refine ⟨S.le, by rw [List.length_map, List.length_map]; exact r.length, fun j => ?_, fun j k a z1 z2 => ?_⟩
  · rw [gS_map, gE_ags]
    unfold agA
    cases e : vs[j]? with
    | none =>
      rw [List.getElem?_eq_none (by rw [← r.length]; exact List.getElem?_eq_none_iff.mp e)]
      exact .no
    | some v =>
      obtain ⟨a, e2, ar⟩ := Paired.get r e
      rw [e2]
      cases ar with
      | d rp => exact .fz rp
      | @m i hv =>
        dsimp only
        have q := S.sl i
        rw [gS_of hv] at q
        have mt := List.all_eq_true.mp ok.2 i (agM_mem e2)
        unfold agE
        dsimp only
        generalize gE E i = y at q mt ⊢
        generalize A i = z at q ⊢
        cases q with
        | no => cases mt
        | fz _ => cases mt
        | own h1 h2 h3 => exact .par h1 h2 h3
        | par h1 h2 h3 => exact .par h1 h2 h3
  · unfold agA at z1 z2
    split at z1
    · rename_i i e
      split at z2
      · rename_i i' e'
        have w := S.inj i i' a z1 z2
        subst w
        exact agM_inj ok.1 e e'
      · cases z2
    · cases z1
/-- behind the callee -/
theorem ags_end {ags : List Ag} {vs : List V} {E0 E' : En} {A0 : AM} {F' H' : Hp} (S : Stt K F H σ E A) (ok : agOk E ags = true) (r : AgRs K F σ vs ags)
    (s : Step (agA A ags) (ags.map (agE E)) F H A0 E0 F' H') (S' : Stt K F' H' (vs.map some) E0 A0) (b : backM E ags E0 = some E') :
    Step A E F H A E' F' H' ∧ Stt K F' H' σ E' A := by
  have ok' := ok
  unfold agOk at ok'
  rw [Bool.and_eq_true, decide_eq_true_eq] at ok'
  have lt : ∀ i ∈ agM ags, i < E.length := fun i hi => by
    have mt := List.all_eq_true.mp ok'.2 i hi
    cases Nat.lt_or_ge i E.length with
    | inl h => exact h
    | inr h => rw [gE_out h] at mt; cases mt
  obtain ⟨bl, b1, b2⟩ := backM_ok ok'.1 lt b
  have own0 : ∀ a, Own (agA A ags) a → ∃ i, i ∈ agM ags ∧ A i = some a := fun a ⟨j, z⟩ => by
    unfold agA at z
    split at z
    · rename_i i e; exact ⟨i, agM_mem e, z⟩
    · cases z
  have sub : ∀ a, Own (agA A ags) a → Own A a := fun a h => by
    obtain ⟨i, _, z⟩ := own0 a h; exact ⟨i, z⟩
  refine ⟨⟨s.fz, fun b o h ha => s.keep b o h fun z => ha (sub b z), s.alive, fun b h ha => s.st b h fun z => ha (sub b z), fun i a d z1 z2 => ?_, fun i a d z1 z2 => ?_⟩, ⟨S'.le, by rw [bl]; exact S.len, fun i => ?_, S.inj⟩⟩
  · by_cases hi : i ∈ agM ags
    · obtain ⟨j, ej⟩ := agM_of hi
      obtain ⟨d0, w1, w2⟩ := b2 j i ej
      rw [w2] at z2
      obtain ⟨d1, w3, _⟩ := upS_own z2
      exact .inl ⟨i, d1, z1, w3⟩
    · rw [b1 i hi] at z2; exact .inl ⟨i, d, z1, z2⟩
  · by_cases hi : i ∈ agM ags
    · obtain ⟨j, ej⟩ := agM_of hi
      obtain ⟨d0, w1, w2⟩ := b2 j i ej
      rw [w2] at z2
      obtain ⟨d1, w3, _⟩ := upS_par z2
      exact ⟨z1, d1, w3⟩
    · rw [b1 i hi] at z2; exact ⟨z1, d, z2⟩
  · have q := S.sl i
    by_cases hi : i ∈ agM ags
    · obtain ⟨j, ej⟩ := agM_of hi
      obtain ⟨d0, w1, w2⟩ := b2 j i ej
      rw [w2]
      have q' := S'.sl j
      rw [w1] at q'
      have mt := List.all_eq_true.mp ok'.2 i hi
      generalize e5 : A0 j = y at q'
      generalize e6 : gS (vs.map some) j = z at q'
      cases q' with
      | @par l o _ h1 h2 h3 =>
        obtain ⟨h4, _⟩ := s.par j l d0 e5 w1
        have h5 : A i = some l := by
          unfold agA at h4
          rw [ej] at h4
          exact h4
        obtain ⟨_, _, _, _, _, _, h6⟩ := S.ownOr h5
        rw [h6, h5] at q
        rw [h6, h5]
        generalize gE E i = y at q mt ⊢
        cases q with
        | own _ _ _ => exact .own h1 h2 h3
        | par _ _ _ => exact .par h1 h2 h3
    · rw [b1 i hi]
      have no : ∀ a, A i = some a → ¬ Own (agA A ags) a := fun a z w => by
        obtain ⟨k, hk, e⟩ := own0 a w
        exact hi (by rw [S.inj i k a z e]; exact hk)
      generalize gS σ i = x at q ⊢
      generalize gE E i = y at q ⊢
      generalize e3 : A i = z at q ⊢
      cases q with
      | no => exact .no
      | fz r => exact .fz (r.mono s.fz)
      | own h1 h2 h3 => exact .own (s.keep _ _ h1 (no _ e3)) (by rw [s.st _ (by rw [h1]; intro z; cases z) (no _ e3)]; exact h2) (h3.mono s.fz)
      | par h1 h2 h3 => exact .par (s.keep _ _ h1 (no _ e3)) (by rw [s.st _ (by rw [h1]; intro z; cases z) (no _ e3)]; exact h2) (h3.mono s.fz)
/-- a call, from the caller's side -/
theorem call_ok {n : Nat} {f : En → Rs Rt} {ags : List Ag} {vs : List V} {Q : VK} (S : Stt K F H σ E A) (r : AgRs K F σ vs ags) (hn : ags.length = n) (h : Post K F H σ E A W (XP K H σ Q) (callE f E ags)) : spF K n f vs H Q (fun cls dd H' => W cls dd σ H') := by
  unfold callE at h
  split at h
  · rename_i ok
    refine ⟨F, ags.map (agE E), agA A ags, by rw [← hn]; exact r.length, ags_start S ok r, fun i d z => ?_, ?_⟩
    · rw [gE_ags] at z
      split at z
      · rename_i a _
        cases a with
        | d _ => cases z
        | m k => unfold agE at z; dsimp only at z; split at z <;> cases z
      · cases z
    · generalize f (ags.map (agE E)) = z at h
      cases z with
      | no => exact h
      | ok rt E0 =>
        unfold callB at h
        dsimp only at h
        split at h
        · rename_i E' eb
          intro F' H' A0 s S' v rv
          obtain ⟨t, T⟩ := ags_end S ok r s S' eb
          cases rv with
          | fz rp => exact h F' H' A t T v (.fz rp) (fun _ _ z => by cases z)
          | @tmp l o d h1 h2 h3 h4 h5 =>
            have hn : H l = none := by
              rcases h5 with ⟨i, d', _, z⟩ | z
              · exfalso
                rw [gE_ags] at z
                split at z
                · rename_i a _
                  cases a with
                  | d _ => cases z
                  | m k => unfold agE at z; dsimp only at z; split at z <;> cases z
                · cases z
              · exact z
            refine h F' H' A t T _ (.tmp h1 h2 h3 fun ⟨i, z⟩ => ?_) (fun l d z1 z2 => by cases z2; exact hn)
            obtain ⟨_, _, _, z2, _⟩ := S.ownOr z
            rw [hn] at z2; cases z2
        · exact h.elim
      | ex x E0 =>
        unfold callB at h
        dsimp only at h
        split at h
        · rename_i E' eb
          intro F' H' A0 cls dd s S' q
          obtain ⟨t, T⟩ := ags_end S ok r s S' eb
          exact h F' H' A cls dd t T q
        · exact h.elim
  · exact h.elim
end
/-- f(..) -/
def SX.call (n : Nat) (f : En → Rs Rt) (p : SP K) : SX K where
  te := fun W => tCallSD (spF K n f) [] (WE W) (p.ta W)
  ev := fun E => (p.ev E).bind fun ags E1 => if ags.length = n then callE f E1 ags else .no
  ok := fun F H σ E A S W Q h => by
    refine p.ok F H σ E A S W _ ?_
    refine (h.bind).imp fun ags E1 F1 H1 A1 ⟨s1, S1, q1⟩ vs rvs => ?_
    split at q1
    · rename_i hn
      rw [List.append_nil]
      exact call_ok S1 rvs hn (q1.xp s1 S1)
    · exact q1.elim
end DX
set_option Elab.async false
set_option linter.all false
set_option maxRecDepth 100000
namespace DX
open PySem PySem.Spec PyProof.Rows L2
variable {K : PySem.W.Frag}
/-! ### results of value rules -/
section
variable {F H : Hp} {Q : VK}
theorem VRes.val {v : V} {d : D} (e : Le F H) (h : VRes K F H Q (.fz d)) (r : Rep K F v d) : Q v H := h F H v (Grow.refl e) (.fz r)
theorem VRes.int {i : Int} (e : Le F H) (h : VRes K F H Q (.fz (.int i))) : Q (.int i) H := h.val e (.int i)
theorem VRes.bl {i : Bool} (e : Le F H) (h : VRes K F H Q (.fz (.bl i))) : Q (.bl i) H := h.val e (.bl i)
theorem VRes.str {i : Str} (e : Le F H) (h : VRes K F H Q (.fz (.str i))) : Q (.str i) H := h.val e (.str i)
theorem VRes.lst {ds : List D} {vs : List V} (e : Le F H) (h : VRes K F H Q (.tmp (.lst ds))) (r : Reps K F vs ds) : ∀ p, H p = none → Q (.ref p) (upd H p (.lst vs)) := fun p hp =>
  h F _ _ (Grow.tmp e hp) (.tmp upd_same (e.new hp) (.lst r) hp)
theorem VRes.tup {ds : List D} {vs : List V} (e : Le F H) (h : VRes K F H Q (.fz (.tup ds))) (r : Reps K F vs ds) : ∀ p, H p = none → Q (.ref p) (upd H p (.tup vs)) := fun p hp =>
  h _ _ _ (Grow.new e hp) (.fz (.tup (.inl (.inl upd_same)) (r.mono (Grow.new e hp).fz)))
end
def rOr (r s : R2) : R2 := fun x y H Q => r x y H Q ∨ s x y H Q
theorem rOr_ok {X : Cx} {f : Value → Value → Sem Value} {r s : R2} (a : OpR X f r) (b : OpR X f s) : OpR X f (rOr r s) := fun pins st σ H x y v u Q I rx ry h => by
  rcases h with h | h
  · exact a pins st σ H x y v u Q I rx ry h
  · exact b pins st σ H x y v u Q I rx ry h
/-! ### arithmetic -/
def intsF (C : Int → Int → Bool) (g : Int → Int → D) : D → D → Option Rt
  | .int i, .int j => if C i j = true then some (.fz (g i j)) else none
  | _, _ => none
def oI (r : R2) (C : Int → Int → Bool) (g : Int → Int → Int) (h : ∀ i j H (Q : VK), C i j = true → Q (.int (g i j)) H → r (.int i) (.int j) H Q) : O2 K where
  r := r
  f := intsF C fun i j => .int (g i j)
  ok := fun F H x y dx dy rt Q e sx sy ef q => by
    unfold intsF at ef
    split at ef
    · split at ef
      · rename_i hc
        cases ef
        rw [sx.int, sy.int]
        exact h _ _ _ _ hc (q.int e)
      · cases ef
    · cases ef
def oSub : O2 K := oI (rI0 fun i j => .int (i - j)) (fun _ _ => true) (fun i j => i - j) fun i j H Q _ q => ⟨i, j, rfl, rfl, q⟩
def mulOk (i j : Int) : Bool := decide (i.natAbs.log2 + j.natAbs.log2 < 100000000)
theorem mulOk_ok {i j : Int} (h : mulOk i j = true) : IntMulOk i j := by
  have b : ∀ x : Int, Builtin.Int.intBits x ≤ x.natAbs.log2 + 1 := fun x => by
    unfold Builtin.Int.intBits
    split <;> omega
  have h1 := b i
  have h2 := b j
  have h3 : i.natAbs.log2 + j.natAbs.log2 < 100000000 := of_decide_eq_true h
  have e : bitsLine = 134217728 := by decide
  unfold IntMulOk
  intro z
  rw [Bool.and_eq_true] at z
  have z2 := z.2
  unfold Builtin.Int.intTooBig at z2
  have z3 := of_decide_eq_true z2
  rw [e] at z3
  omega
def CMulX (i j : Int) : Prop := mulOk i j = true
theorem op_mulX {X : Cx} : OpR X (binaryOp .Mult) (rI CMulX fun i j => .int (i * j)) := opI fun _ _ _ _ _ _ _ hc q => mul_int q (mulOk_ok hc)
def oMulI : O2 K := oI (rI CMulX fun i j => .int (i * j)) mulOk (fun i j => i * j) fun i j H Q hc q => ⟨i, j, rfl, rfl, hc, q⟩
def divOk (_ j : Int) : Bool := decide (0 < j ∧ j.natAbs.log2 < 9000)
def oDiv : O2 K := oI (rI CDivW fun i j => .int (i / j)) divOk (fun i j => i / j) fun i j H Q hc q => by
  have h : 0 < j ∧ j.natAbs.log2 < 9000 := of_decide_eq_true hc
  exact ⟨i, j, rfl, rfl, h, q⟩
def modOk (_ j : Int) : Bool := decide (0 < j)
theorem fmod_pos {i j : Int} (h : 0 < j) : i.fmod j = i % j := Int.fmod_eq_emod_of_nonneg i (by omega)
def rMod : R2 := rI (fun _ j => j ≠ 0) fun i j => .int (i.fmod j)
theorem op_modX {X : Cx} : OpR X (binaryOp .Mod) rMod := op_modN
def oMod : O2 K := oI rMod modOk (fun i j => i % j) fun i j H Q hc q => by
  have h : 0 < j := of_decide_eq_true hc
  refine ⟨i, j, rfl, rfl, by omega, ?_⟩
  show Q (.int (i.fmod j)) H
  rw [fmod_pos h]; exact q
def powOk (i j : Int) : Bool := decide (0 ≤ j ∧ j ≤ 1000000 ∧ i.natAbs < 2 ^ 64)
def oPow : O2 K := oI (rI CPow fun i j => .int (i ^ j.toNat)) powOk (fun i j => i ^ j.toNat) fun i j H Q hc q => by
  have h : 0 ≤ j ∧ j ≤ 1000000 ∧ i.natAbs < 2 ^ 64 := of_decide_eq_true hc
  exact ⟨i, j, rfl, rfl, h, q⟩
@[simp] def cmpF (g : Int → Int → Bool) : D → D → Option Rt
  | .int i, .int j => some (.fz (.bl (g i j)))
  | _, _ => none
def oCmp (g : Int → Int → Bool) : O2 K where
  r := rI0 fun i j => .bl (g i j)
  f := cmpF g
  ok := fun F H x y dx dy rt Q e sx sy ef q => by
    unfold cmpF at ef
    split at ef
    · cases ef
      rw [sx.int, sy.int]
      exact ⟨_, _, rfl, rfl, q.bl e⟩
    · cases ef
def oLt : O2 K := oCmp fun i j => decide (i < j)
def oLe : O2 K := oCmp fun i j => decide (i ≤ j)
def oGt : O2 K := oCmp fun i j => decide (j < i)
def oGe : O2 K := oCmp fun i j => decide (j ≤ i)
/-- == of scalars -/
def D.scal : D → D → Option Bool
  | .non, .non => some true
  | .int i, .int j => some (decide (i = j))
  | .bl i, .bl j => some (decide (i = j))
  | .str i, .str j => some (decide (i = j))
  | .non, .int _ => some false
  | .int _, .non => some false
  | .non, .str _ => some false
  | .str _, .non => some false
  | .int _, .str _ => some false
  | .str _, .int _ => some false
  | .bl _, .str _ => some false
  | .str _, .bl _ => some false
  | _, _ => none
def blF (f : D → D → Option Bool) (neg : Bool) : D → D → Option Rt := fun a b => match f a b with
  | some c => some (.fz (.bl (if neg then !c else c)))
  | none => none
theorem scal_ok {F H : Hp} {x y : V} {dx dy : D} {b : Bool} (sx : See K F H x dx) (sy : See K F H y dy) (h : D.scal dx dy = some b) : L2.scal x y = true ∧ decide (x = y) = b := by
  unfold D.scal at h
  split at h <;> first
    | (cases h
       first
         | rw [sx.int] | rw [sx.bl] | rw [sx.str] | rw [sx.non]
       first
         | rw [sy.int] | rw [sy.bl] | rw [sy.str] | rw [sy.non]
       refine ⟨rfl, ?_⟩
       simp)
    | cases h
def oEqS : O2 K where
  r := rEq
  f := blF D.scal false
  ok := fun F H x y dx dy rt Q e sx sy ef q => by
    unfold blF at ef
    split at ef
    · rename_i c hc
      cases ef
      obtain ⟨a, b⟩ := scal_ok sx sy hc
      refine ⟨a, ?_⟩
      rw [b]
      exact q.bl e
    · cases ef
def oNeS : O2 K where
  r := rNe
  f := blF D.scal true
  ok := fun F H x y dx dy rt Q e sx sy ef q => by
    unfold blF at ef
    split at ef
    · rename_i c hc
      cases ef
      obtain ⟨a, b⟩ := scal_ok sx sy hc
      refine ⟨a, ?_⟩
      rw [b]
      exact q.bl e
    · cases ef
/-! ### + of ints, texts, lists, tuples -/
def rStrC : R2 := fun x y H Q => ∃ i j, x = .str i ∧ y = .str j ∧ i.length + j.length ≤ sizeLine ∧ Q (.str (i ++ j)) H
def rAddX (K : PySem.W.Frag) : R2 := rOr (rI0 fun i j => .int (i + j)) (rOr rStrC (rOr rCat (rCatA K)))
@[simp] def addF : D → D → Option Rt
  | .int i, .int j => some (.fz (.int (i + j)))
  | .str i, .str j => if i.length + j.length ≤ sizeLine then some (.fz (.str (i ++ j))) else none
  | .lst a, .lst b => if a.length + b.length ≤ sizeLine then some (.tmp (.lst (a ++ b))) else none
  | .tup a, .tup b => if a.length + b.length ≤ sizeLine then some (.fz (.tup (a ++ b))) else none
  | _, _ => none
theorem nil_of_nil {F : Hp} {vs : List V} {ds : List D} (r : Reps K F vs ds) : vs = [] ↔ ds = [] := by
  cases r <;> simp
def oAdd : O2 K where
  r := rAddX K
  f := addF
  ok := fun F H x y dx dy rt Q e sx sy ef q => by
    unfold addF at ef
    split at ef
    · cases ef; rw [sx.int, sy.int]; exact .inl ⟨_, _, rfl, rfl, q.int e⟩
    · split at ef
      · rename_i hl; cases ef; rw [sx.str, sy.str]; exact .inr (.inl ⟨_, _, rfl, rfl, hl, q.str e⟩)
      · cases ef
    · split at ef
      · rename_i hl
        cases ef
        obtain ⟨a, vs, rfl, h1, r1⟩ := sx.lst e
        obtain ⟨b, us, rfl, h2, r2⟩ := sy.lst e
        exact .inr (.inr (.inl ⟨a, b, vs, us, rfl, rfl, h1, h2, by rw [r1.length, r2.length]; exact hl, q.lst e (r1.append r2)⟩))
      · cases ef
    · split at ef
      · rename_i hl
        cases ef
        cases sx with
        | top h c => cases c
        | fz rx =>
        cases sy with
        | top h c => cases c
        | fz ry =>
        obtain ⟨a, vs, ea, h1, r1⟩ := See.tup e (See.fz rx)
        obtain ⟨b, us, eb, h2, r2⟩ := See.tup e (See.fz ry)
        subst ea; subst eb
        refine .inr (.inr (.inr ⟨a, b, vs, us, rfl, rfl, h1, h2, by rw [r1.length, r2.length]; exact hl, fun z => ?_, fun _ z => ?_, fun _ _ => q.tup e (r1.append r2)⟩))
        · have w := (nil_of_nil r1).mp z
          subst w
          exact q.val e (by simpa using ry)
        · have w := (nil_of_nil r2).mp z
          subst w
          exact q.val e (by simpa using rx)
      · cases ef
    · cases ef
theorem op_addX {X : Cx} : OpR X (binaryOp .Add) (rAddX X.K) := rOr_ok op_add (rOr_ok op_add_str (rOr_ok op_cat op_catA))
/-! ### an item of a list, a tuple, a text -/
def atD (ds : List D) (i : Int) : Option D := atI ds i
theorem atI_reps {F : Hp} {vs : List V} {ds : List D} {i : Int} {d : D} (r : Reps K F vs ds) (h : atI ds i = some d) : ∃ v, atI vs i = some v ∧ Rep K F v d := by
  unfold atI at h ⊢
  rw [r.length]
  cases e : ixN ds.length i with
  | none => rw [e] at h; cases h
  | some j => rw [e] at h; exact r.get h
def ixF : D → D → Option Rt
  | .lst ds, .int i => (atI ds i).map .fz
  | .rdl ds, .int i => (atI ds i).map .fz
  | .tup ds, .int i => (atI ds i).map .fz
  | .tuf ds, .int i => (atI ds i).map .fz
  | .str z, .int i => if z.length ≤ sizeLine then (atI z.cps.toList i).map fun c => .fz (.str ⟨#[c]⟩) else none
  | _, _ => none
def oIx : O2 K where
  r := rIx K
  f := ixF
  ok := fun F H x y dx dy rt Q e sx sy ef q => by
    unfold ixF at ef
    split at ef
    · obtain ⟨d, h1, h2⟩ := Option.map_eq_some_iff.mp ef
      subst h2
      obtain ⟨a, vs, rfl, h3, r⟩ := sx.lst e
      obtain ⟨v, h4, rv⟩ := atI_reps r h1
      rw [sy.int]
      exact .inl ⟨a, vs, _, v, rfl, rfl, SqL.of h3, h4, q.val e rv⟩
    · obtain ⟨d, h1, h2⟩ := Option.map_eq_some_iff.mp ef
      subst h2
      obtain ⟨a, vs, rfl, h3, r⟩ := sx.rdl e
      obtain ⟨v, h4, rv⟩ := atI_reps r h1
      rw [sy.int]
      exact .inl ⟨a, vs, _, v, rfl, rfl, h3, h4, q.val e rv⟩
    · obtain ⟨d, h1, h2⟩ := Option.map_eq_some_iff.mp ef
      subst h2
      obtain ⟨a, vs, rfl, h3, r⟩ := sx.tup e
      obtain ⟨v, h4, rv⟩ := atI_reps r h1
      rw [sy.int]
      exact .inr (.inl ⟨a, vs, _, v, rfl, rfl, h3, h4, q.val e rv⟩)
    · obtain ⟨d, h1, h2⟩ := Option.map_eq_some_iff.mp ef
      subst h2
      obtain ⟨a, o, vs, rfl, h3, _, _, r⟩ := sx.tuf e
      obtain ⟨v, h4, rv⟩ := atI_reps r h1
      rw [sy.int]
      exact .inr (.inl ⟨a, vs, _, v, rfl, rfl, .inl (.inr ⟨o, h3⟩), h4, q.val e rv⟩)
    · split at ef
      · rename_i hl
        obtain ⟨d, h1, h2⟩ := Option.map_eq_some_iff.mp ef
        subst h2
        rw [sx.str, sy.int]
        exact .inr (.inr ⟨_, _, d, rfl, rfl, hl, h1, q.str e⟩)
      · cases ef
    · cases ef
/-! ### slices -/
structure OS (K : PySem.W.Frag) where
  r : V → Option Int → Option Int → Hp → VK → Prop
  f : D → Option Int → Option Int → Option Rt
  ok : ∀ (F H : Hp) (x : V) (dx : D) (lo hi : Option Int) (rt : Rt) (Q : VK), Le F H → See K F H x dx → f dx lo hi = some rt → VRes K F H Q rt → r x lo hi H Q
structure SO (K : PySem.W.Frag) where
  to : WX → TO
  ev : En → Rs (Option Int)
  ok : ∀ F H σ E A, Stt K F H σ E A → ∀ (W : WX) (Q : Option Int → Hp → Prop), Post K F H σ E A W (fun o _ _ H' _ => Q o H') (ev E) → to W σ H Q
def SO.none : SO K where
  to := fun _ => tNoPart
  ev := fun E => .ok .none E
  ok := fun F H σ E A S W Q h => h F H A (Step.refl S) S
@[simp] def lookI (E : En) (r : R) : Rs (Option Int) := match look E r with
  | some (.int i) => .ok (some i) E
  | _ => .no
def SO.some (a : SX K) : SO K where
  to := fun W => tPart (a.te W)
  ev := fun E => (a.ev E).bind fun r E1 => lookI E1 r
  ok := fun F H σ E A S W Q h => by
    refine a.ok F H σ E A S W _ ?_
    refine (h.bind).imp fun ra E1 F1 H1 A1 ⟨s1, S1, q1⟩ v rv fr => ?_
    unfold lookI at q1
    split at q1
    · rename_i b e
      exact ⟨b, (see_of S1 rv e).int, q1 F1 H1 A1 s1 S1⟩
    · exact q1.elim
def SX.sl (o : OS K) (a : SX K) (lo hi : SO K) : SX K where
  te := fun W => tSl o.r (a.te W) (lo.to W) (hi.to W)
  ev := fun E => (a.ev E).bind fun ra E1 => (lo.ev E1).bind fun l E2 => (hi.ev E2).bind fun h E3 => match look E3 ra with
    | some d => rsOf E3 (o.f d l h)
    | none => .no
  ok := fun F H σ E A S W Q h => by
    refine XOk.seq S h fun x ra E1 F1 H1 A1 s1 S1 rx _ h1 => ?_
    refine lo.ok F1 H1 σ E1 A1 S1 W _ ?_
    refine (h1.bind).imp fun l E2 F2 H2 A2 ⟨s2, S2, h2⟩ => ?_
    refine hi.ok F2 H2 σ E2 A2 S2 W _ ?_
    refine ((h2.xp s2 S2).bind).imp fun u E3 F3 H3 A3 ⟨s3, S3, h3⟩ => ?_
    have rx3 := (rx.later s2 S2).later s3 S3
    split at h3
    · rename_i d e1
      cases e : o.f d l u with
      | none => rw [e] at h3; exact h3.elim
      | some rt =>
        rw [e] at h3
        exact o.ok F3 H3 x d l u rt Q S3.le (see_of S3 rx3 e1) e ((h3.xp s3 S3).fin S3)
    · exact h3.elim
def cutD (ds : List D) (lo hi : Option Int) : List D := (ds.drop (HT.sIx ds.length 0 lo)).take (HT.sIx ds.length ds.length hi - HT.sIx ds.length 0 lo)
theorem cut_reps {F : Hp} {vs : List V} {ds : List D} (r : Reps K F vs ds) (lo hi : Option Int) : Reps K F (cutV vs lo hi) (cutD ds lo hi) := by
  unfold cutV cutD
  rw [r.length]
  exact (r.drop _).take _
def rSlX (K : PySem.W.Frag) : V → Option Int → Option Int → Hp → VK → Prop := fun x lo hi H Q => rSlL K x lo hi H Q ∨ rSlA K x lo hi H Q ∨ rSlS x lo hi H Q
theorem sl_X {X : Cx} : L2.SlR X (rSlX X.K) := by
  intro pins s σ H x v vl vu lo hi sl Q I rx hs pl pu h
  rcases h with h | h | h
  · exact sl_list pins s σ H x v vl vu lo hi sl Q I rx hs pl pu h
  · exact sl_tupA pins s σ H x v vl vu lo hi sl Q I rx hs pl pu h
  · exact sl_str pins s σ H x v vl vu lo hi sl Q I rx hs pl pu h
def slF : D → Option Int → Option Int → Option Rt
  | .lst ds, lo, hi => some (.tmp (.lst (cutD ds lo hi)))
  | .rdl ds, lo, hi => some (.tmp (.lst (cutD ds lo hi)))
  | .tup ds, lo, hi => some (.fz (.tup (cutD ds lo hi)))
  | .tuf ds, lo, hi => if HT.sIx ds.length 0 lo = 0 ∧ HT.sIx ds.length ds.length hi = ds.length then some (.fz (.tuf ds)) else some (.fz (.tup (cutD ds lo hi)))
  | .str z, lo, hi => if z.length ≤ sizeLine then some (.fz (.str (cutS z lo hi))) else none
  | _, _, _ => none
def oSl : OS K where
  r := rSlX K
  f := slF
  ok := fun F H x dx lo hi rt Q e sx ef q => by
    unfold slF at ef
    split at ef
    · cases ef
      obtain ⟨a, vs, rfl, h3, r⟩ := sx.lst e
      exact .inl ⟨a, vs, rfl, SqL.of h3, q.lst e (cut_reps r lo hi)⟩
    · cases ef
      obtain ⟨a, vs, rfl, h3, r⟩ := sx.rdl e
      exact .inl ⟨a, vs, rfl, h3, q.lst e (cut_reps r lo hi)⟩
    · cases ef
      cases sx with
      | top h c => cases c
      | fz rx =>
      obtain ⟨a, vs, ea, h3, r⟩ := See.tup e (See.fz rx)
      subst ea
      refine .inr (.inl ⟨a, vs, rfl, h3, fun w => ?_, fun _ => q.tup e (cut_reps r lo hi)⟩)
      refine q.val e ?_
      rw [r.length] at w
      rename_i ds
      have z : cutD ds lo hi = ds := by
        unfold cutD
        rw [w.1, w.2, List.drop_zero, Nat.sub_zero, List.take_length]
      rw [z]; exact rx
    · cases sx with
      | top h c => cases c
      | fz rx =>
      obtain ⟨a, o, vs, ea, h3, _, _, r⟩ := See.tuf e (See.fz rx)
      subst ea
      split at ef
      · rename_i w0
        cases ef
        exact .inr (.inl ⟨a, vs, rfl, .inl (.inr ⟨o, h3⟩), fun _ => q.val e rx, fun w => absurd w0 (by rw [← r.length]; exact w)⟩)
      · rename_i w0
        cases ef
        exact .inr (.inl ⟨a, vs, rfl, .inl (.inr ⟨o, h3⟩), fun w => absurd w (by rw [r.length]; exact w0), fun _ => q.tup e (cut_reps r lo hi)⟩)
    · split at ef
      · rename_i hl
        cases ef
        rw [sx.str]
        exact .inr (.inr ⟨_, rfl, hl, q.str e⟩)
      · cases ef
    · cases ef
/-! ### calls of built-ins -/
theorem Reps.one' {F : Hp} {xs : List V} {d : D} (r : Reps K F xs [d]) : ∃ v, xs = [v] ∧ Rep K F v d := by
  cases r with
  | cons h t => cases t; exact ⟨_, rfl, h⟩
theorem Reps.two' {F : Hp} {xs : List V} {d e : D} (r : Reps K F xs [d, e]) : ∃ v u, xs = [v, u] ∧ Rep K F v d ∧ Rep K F u e := by
  cases r with
  | cons h t =>
    obtain ⟨u, rfl, h2⟩ := t.one'
    exact ⟨_, _, rfl, h, h2⟩
@[simp] def lenF : List D → Option Rt
  | [.lst ds] => some (.fz (.int ds.length))
  | [.rdl ds] => some (.fz (.int ds.length))
  | [.tup ds] => some (.fz (.int ds.length))
  | [.tuf ds] => some (.fz (.int ds.length))
  | [.str z] => if z.length ≤ sizeLine then some (.fz (.int z.length)) else none
  | _ => none
def oLen : ON K where
  r := fun xs H Q => ∃ x n, xs = [x] ∧ LenV K x H n ∧ Q (.int n) H
  f := lenF
  ok := fun F H xs ds rt Q e r ef q => by
    unfold lenF at ef
    split at ef
    · cases ef
      obtain ⟨v, rfl, rv⟩ := r.one'
      obtain ⟨a, vs, rfl, h3, r⟩ := (See.fz rv).lst e
      exact ⟨_, _, rfl, .inl ⟨vs, SqL.of h3, r.length.symm⟩, q.int e⟩
    · cases ef
      obtain ⟨v, rfl, rv⟩ := r.one'
      obtain ⟨a, vs, rfl, h3, r⟩ := (See.fz rv).rdl e
      exact ⟨_, _, rfl, .inl ⟨vs, h3, r.length.symm⟩, q.int e⟩
    · cases ef
      obtain ⟨v, rfl, rv⟩ := r.one'
      obtain ⟨a, vs, rfl, h3, r⟩ := (See.fz rv).tup e
      exact ⟨_, _, rfl, .inr ⟨vs, h3, r.length.symm⟩, q.int e⟩
    · cases ef
      obtain ⟨v, rfl, rv⟩ := r.one'
      obtain ⟨a, o, vs, rfl, h3, _, _, r⟩ := (See.fz rv).tuf e
      exact ⟨_, _, rfl, .inr ⟨vs, .inl (.inr ⟨o, h3⟩), r.length.symm⟩, q.int e⟩
    · split at ef
      · rename_i hl
        cases ef
        obtain ⟨v, rfl, rv⟩ := r.one'
        rw [(See.fz (H := H) rv).str]
        exact ⟨_, _, rfl, ⟨hl, rfl⟩, q.int e⟩
      · cases ef
    · cases ef
@[simp] def intF : List D → Option Rt
  | [.int i] => some (.fz (.int i))
  | [.bl b] => some (.fz (.int (if b then 1 else 0)))
  | _ => none
def oInt : ON K where
  r := fun xs H Q => (∃ i, xs = [.int i] ∧ Q (.int i) H) ∨ ∃ k, xs = [.bl k] ∧ Q (.int (if k then 1 else 0)) H
  f := intF
  ok := fun F H xs ds rt Q e r ef q => by
    unfold intF at ef
    split at ef
    · cases ef
      obtain ⟨v, rfl, rv⟩ := r.one'
      rw [(See.fz (H := H) rv).int]
      exact .inl ⟨_, rfl, q.int e⟩
    · cases ef
      obtain ⟨v, rfl, rv⟩ := r.one'
      rw [(See.fz (H := H) rv).bl]
      exact .inr ⟨_, rfl, q.int e⟩
    · cases ef
@[simp] def int1F (g : Int → Int) : List D → Option Rt
  | [.int i] => some (.fz (.int (g i)))
  | _ => none
def oInt1 (g : Int → Int) : ON K where
  r := fun xs H Q => ∃ i, xs = [.int i] ∧ Q (.int (g i)) H
  f := int1F g
  ok := fun F H xs ds rt Q e r ef q => by
    unfold int1F at ef
    split at ef
    · cases ef
      obtain ⟨v, rfl, rv⟩ := r.one'
      rw [(See.fz (H := H) rv).int]
      exact ⟨_, rfl, q.int e⟩
    · cases ef
def oAbs : ON K := oInt1 fun i => if i < 0 then -i else i
@[simp] def int2F (g : Int → Int → Int) : List D → Option Rt
  | [.int i, .int j] => some (.fz (.int (g i j)))
  | _ => none
def oInt2 (g : Int → Int → Int) : ON K where
  r := fun xs H Q => ∃ i j, xs = [.int i, .int j] ∧ Q (.int (g i j)) H
  f := int2F g
  ok := fun F H xs ds rt Q e r ef q => by
    unfold int2F at ef
    split at ef
    · cases ef
      obtain ⟨v, u, rfl, rv, ru⟩ := r.two'
      rw [(See.fz (H := H) rv).int, (See.fz (H := H) ru).int]
      exact ⟨_, _, rfl, q.int e⟩
    · cases ef
def oMax2 : ON K := oInt2 fun i j => if j > i then j else i
def oMin2 : ON K := oInt2 fun i j => if j < i then j else i
@[simp] def tupF : List D → Option Rt
  | [.lst ds] => some (.fz (.tup ds))
  | [.rdl ds] => some (.fz (.tup ds))
  | [.tup ds] => some (.fz (.tup ds))
  | _ => none
def oTup : ON K where
  r := fun xs H Q => ∃ p ys, xs = [.ref p] ∧ ((SqL K H p ys ∧ ∀ l, H l = none → Q (.ref l) (upd H l (.tup ys))) ∨ (SqT K H p ys ∧ Q (.ref p) H))
  f := tupF
  ok := fun F H xs ds rt Q e r ef q => by
    unfold tupF at ef
    split at ef
    · cases ef
      obtain ⟨v, rfl, rv⟩ := r.one'
      obtain ⟨a, vs, rfl, h3, r⟩ := (See.fz rv).lst e
      exact ⟨_, _, rfl, .inl ⟨SqL.of h3, q.tup e r⟩⟩
    · cases ef
      obtain ⟨v, rfl, rv⟩ := r.one'
      obtain ⟨a, vs, rfl, h3, r⟩ := (See.fz rv).rdl e
      exact ⟨_, _, rfl, .inl ⟨h3, q.tup e r⟩⟩
    · cases ef
      obtain ⟨v, rfl, rv⟩ := r.one'
      obtain ⟨a, vs, rfl, h3, r⟩ := (See.fz rv).tup e
      exact ⟨_, _, rfl, .inr ⟨h3, q.val e rv⟩⟩
    · cases ef
@[simp] def listF : List D → Option Rt
  | [.lst ds] => some (.tmp (.lst ds))
  | [.rdl ds] => some (.tmp (.lst ds))
  | [.tup ds] => some (.tmp (.lst ds))
  | _ => none
def oList : ON K where
  r := fun xs H Q => ∃ p ys, xs = [.ref p] ∧ (SqL K H p ys ∨ SqT K H p ys) ∧ ∀ l, H l = none → Q (.ref l) (upd H l (.lst ys))
  f := listF
  ok := fun F H xs ds rt Q e r ef q => by
    unfold listF at ef
    split at ef
    · cases ef
      obtain ⟨v, rfl, rv⟩ := r.one'
      obtain ⟨a, vs, rfl, h3, r⟩ := (See.fz rv).lst e
      exact ⟨_, _, rfl, .inl (SqL.of h3), q.lst e r⟩
    · cases ef
      obtain ⟨v, rfl, rv⟩ := r.one'
      obtain ⟨a, vs, rfl, h3, r⟩ := (See.fz rv).rdl e
      exact ⟨_, _, rfl, .inl h3, q.lst e r⟩
    · cases ef
      obtain ⟨v, rfl, rv⟩ := r.one'
      obtain ⟨a, vs, rfl, h3, r⟩ := (See.fz rv).tup e
      exact ⟨_, _, rfl, .inr h3, q.lst e r⟩
    · cases ef
def blsOf : List D → Option (List Bool)
  | [] => some []
  | .bl b :: r => (blsOf r).map (b :: ·)
  | _ => none
theorem bls_reps {F : Hp} : ∀ {vs : List V} {ds : List D} {bs : List Bool}, Reps K F vs ds → blsOf ds = some bs → vs = bs.map V.bl
  | _, _, _, .nil, h => by cases h; rfl
  | _, .non :: _, _, .cons r t, h => by cases h
  | _, .int _ :: _, _, .cons r t, h => by cases h
  | _, .str _ :: _, _, .cons r t, h => by cases h
  | _, .tup _ :: _, _, .cons r t, h => by cases h
  | _, .lst _ :: _, _, .cons r t, h => by cases h
  | _, .rdl _ :: _, _, .cons r t, h => by cases h
  | _, .dic _ _ :: _, _, .cons r t, h => by cases h
  | _, .ins _ _ _ :: _, _, .cons r t, h => by cases h
  | _, .tuf _ :: _, _, .cons r t, h => by cases h
  | _, .bl b :: _, bs, .cons r t, h => by
    obtain ⟨cs, h1, h2⟩ := Option.map_eq_some_iff.mp h
    subst h2
    rw [bls_reps t h1, (See.fz (H := F) r).bl]; rfl
def allF (g : List Bool → Bool) : List D → Option Rt
  | [.lst ds] => (blsOf ds).map fun bs => .fz (.bl (g bs))
  | _ => none
def oAllG (g : List Bool → Bool) : ON K where
  r := fun vs H Q => ∃ (a : Addr) (bs : List Bool), vs = [V.ref a] ∧ SqL K H a (bs.map V.bl) ∧ Q (.bl (g bs)) H
  f := allF g
  ok := fun F H xs ds rt Q e r ef q => by
    unfold allF at ef
    split at ef
    · obtain ⟨bs, h1, h2⟩ := Option.map_eq_some_iff.mp ef
      subst h2
      obtain ⟨v, rfl, rv⟩ := r.one'
      obtain ⟨a, vs, rfl, h3, r⟩ := (See.fz rv).lst e
      have w := bls_reps r h1
      subst w
      exact ⟨a, bs, rfl, SqL.of h3, q.bl e⟩
    · cases ef
def oAll : ON K := oAllG fun bs => bs.all id
def oAny : ON K := oAllG fun bs => bs.any id
/-! ### what is walked -/
def SI.seq (a : SX K) : SI K where
  wi := fun W => fun σ H R => a.te W σ H fun x H1 => ∃ p, x = .ref p ∧ (((∃ xs, SqL K H1 p xs) ∧ R (Itl K p) H1) ∨ ((∃ xs, SqT K H1 p xs) ∧ R (Itt K p) H1))
  ev := fun E => (a.ev E).bind fun r E1 => (shareE E1 r).bind fun d E2 => match d with
    | .lst ds => .ok ds E2
    | .rdl ds => .ok ds E2
    | .tup ds => .ok ds E2
    | .tuf ds => .ok ds E2
    | _ => .no
  ok := fun F H σ E A S W R h => by
    refine a.ok F H σ E A S W _ ?_
    refine (h.bind).imp fun ra E1 F1 H1 A1 ⟨s1, S1, q1⟩ v rv fr => ?_
    unfold shareE at q1
    split at q1
    · rename_i d E2 e
      obtain ⟨A2, F2, s2, S2, rp, le2⟩ := shareR_ok S s1 S1 rv fr e
      dsimp only [Rs.bind_ok] at q1
      have wl : ∀ {p : Addr} {vs : List V} {ds : List D}, SqL K F2 p vs → Reps K F2 vs ds → Walks K F2 (Itl K p) ds := fun {p vs ds} h r i F' H' l1 l2 => by
        have h' := sqL_mono (l1.trans l2) h
        refine ⟨fun hi => ?_, fun hi => ⟨vs, h', by rw [r.length]; exact hi⟩⟩
        obtain ⟨u, e1, r1⟩ := r.get (List.getElem?_eq_getElem hi)
        refine ⟨⟨vs, u, h', e1⟩, fun x H2 y => ?_⟩
        obtain ⟨rfl, y2⟩ := y
        have y3 := y2 vs h'
        rw [e1] at y3
        cases y3
        exact ⟨F', _, Grow.refl l2, List.getElem?_eq_getElem hi, r1.mono l1⟩
      have wt : ∀ {p : Addr} {vs : List V} {ds : List D}, SqT K F2 p vs → Reps K F2 vs ds → Walks K F2 (Itt K p) ds := fun {p vs ds} h r i F' H' l1 l2 => by
        have h' := sqT_mono (l1.trans l2) h
        refine ⟨fun hi => ?_, fun hi => ⟨vs, h', by rw [r.length]; exact hi⟩⟩
        obtain ⟨u, e1, r1⟩ := r.get (List.getElem?_eq_getElem hi)
        refine ⟨⟨vs, u, h', e1⟩, fun x H2 y => ?_⟩
        obtain ⟨rfl, y2⟩ := y
        have y3 := y2 vs h'
        rw [e1] at y3
        cases y3
        exact ⟨F', _, Grow.refl l2, List.getElem?_eq_getElem hi, r1.mono l1⟩
      split at q1
      · obtain ⟨p, vs, rfl, h3, r⟩ := (See.fz rp).lst (Le.refl F2)
        exact ⟨p, rfl, .inl ⟨⟨vs, sqL_mono S2.le (SqL.of h3)⟩, q1 F2 H1 A2 s2 S2 _ (wl (SqL.of h3) r)⟩⟩
      · obtain ⟨p, vs, rfl, h3, r⟩ := (See.fz rp).rdl (Le.refl F2)
        exact ⟨p, rfl, .inl ⟨⟨vs, sqL_mono S2.le h3⟩, q1 F2 H1 A2 s2 S2 _ (wl h3 r)⟩⟩
      · obtain ⟨p, vs, rfl, h3, r⟩ := (See.fz rp).tup (Le.refl F2)
        exact ⟨p, rfl, .inr ⟨⟨vs, sqT_mono S2.le h3⟩, q1 F2 H1 A2 s2 S2 _ (wt h3 r)⟩⟩
      · obtain ⟨p, o, vs, rfl, h3, _, _, r⟩ := (See.fz rp).tuf (Le.refl F2)
        exact ⟨p, rfl, .inr ⟨⟨vs, sqT_mono S2.le (.inl (.inr ⟨o, h3⟩))⟩, q1 F2 H1 A2 s2 S2 _ (wt (.inl (.inr ⟨o, h3⟩)) r)⟩⟩
      · exact q1.elim
    · exact q1.elim
theorem pi_seqX {X : Cx} {tg l : Expr} {tl : TE} (hl : PE X l tl) : PI X tg l (fun σ H R => tl σ H fun x H1 => ∃ p, x = .ref p ∧ (((∃ xs, SqL X.K H1 p xs) ∧ R (Itl X.K p) H1) ∨ ((∃ xs, SqT X.K H1 p xs) ∧ R (Itt X.K p) H1))) := by
  refine ⟨fun pins s σ H R I h => ?_⟩
  refine thn (hl.run pins s σ H _ I h) fun v s1 ⟨x, H1, I1, r1, q1⟩ => ?_
  obtain ⟨a, e, ⟨⟨xs, hq⟩, q⟩ | ⟨⟨xs, hq⟩, q⟩⟩ := q1
  · subst e
    cases r1
    obtain ⟨its, rv, p, hz⟩ := I1.list hq
    refine wpAny_pyIter_list p.isList ?_
    refine ⟨s1.heap.objs.size, [s1.heap.objs.size], _, _, H1, rfl, I1.kept (t' := s1.toks) fun b o e => Heap.get?_push_of_some _ e, turn_list a _, ⟨_, Heap.get?_push_size _ rfl, rfl, rfl⟩, fun b hb => ?_, q⟩
    have e : b = s1.heap.objs.size := by simpa using hb
    subst e
    exact I1.fpOk (Nat.le_refl _) (I1.hok.fresh (Nat.le_refl _))
  · subst e
    cases r1
    obtain ⟨its, rv, p, hz⟩ := I1.tuple hq
    refine wpAny_pyIter_tuple (show s1.heap.IsTuple a its.toArray from p) ?_
    refine ⟨s1.heap.objs.size, [s1.heap.objs.size], _, _, H1, rfl, I1.kept (t' := s1.toks) fun b o e => Heap.get?_push_of_some _ e, turn_tuple a _, ⟨_, Heap.get?_push_size _ rfl, rfl, rfl⟩, fun b hb => ?_, q⟩
    have e : b = s1.heap.objs.size := by simpa using hb
    subst e
    exact I1.fpOk (Nat.le_refl _) (I1.hok.fresh (Nat.le_refl _))
def rngD (lo : Int) (n : Nat) : List D := (List.range n).map fun i : Nat => .int (lo + (i : Int))
theorem walks_rng {F : Hp} {lo : Int} {n : Nat} : Walks K F (Itr lo n) (rngD lo n) := fun i F' H' l1 l2 => by
  unfold rngD
  rw [List.length_map, List.length_range]
  refine ⟨fun hi => ⟨hi, fun x H2 y => ?_⟩, fun hi => hi⟩
  obtain ⟨rfl, rfl⟩ := y
  refine ⟨F', .int (lo + i), Grow.refl l2, ?_, .int _⟩
  rw [List.getElem?_map, List.getElem?_range hi]; rfl
def in62 (j : Int) : Bool := decide (j.natAbs.log2 < 62)
theorem in62_ok {j : Int} (h : in62 j = true) : -(2 ^ 62) ≤ j ∧ j < 2 ^ 62 := by
  have h' : j.natAbs.log2 < 62 := of_decide_eq_true h
  by_cases z : j.natAbs = 0
  · have e : j = 0 := by omega
    subst e
    exact ⟨by decide, by decide⟩
  · have q := (Nat.log2_lt z).mp h'
    have e : (2 : Nat) ^ 62 = 4611686018427387904 := by decide
    have e2 : (2 : Int) ^ 62 = 4611686018427387904 := by decide
    rw [e] at q
    rw [e2]
    constructor <;> omega
theorem in62_of {j : Int} (h : -4611686018427387904 < j) (h2 : j < 4611686018427387904) : in62 j = true := decide_eq_true (by
  by_cases z : j.natAbs = 0
  · rw [z]; decide
  · refine (Nat.log2_lt z).mpr ?_
    have e : (2 : Nat) ^ 62 = 4611686018427387904 := by decide
    rw [e]
    omega)
def SI.rng1 (a : SX K) : SI K where
  wi := fun W => iRng1 (tCons (a.te W) tNil)
  ev := fun E => (a.ev E).bind fun r E1 => match look E1 r with
    | some (.int j) => if in62 j = true then .ok (rngD 0 j.toNat) E1 else .no
    | _ => .no
  ok := fun F H σ E A S W R h => by
    refine a.ok F H σ E A S W _ ?_
    refine (h.bind).imp fun ra E1 F1 H1 A1 ⟨s1, S1, q1⟩ v rv fr => ?_
    split at q1
    · rename_i j e
      split at q1
      · rename_i hj
        have z := (see_of S1 rv e).int
        subst z
        exact ⟨j, rfl, (in62_ok hj).1, (in62_ok hj).2, q1 F1 H1 A1 s1 S1 _ walks_rng⟩
      · exact q1.elim
    · exact q1.elim
def SI.rng2 (a b : SX K) : SI K where
  wi := fun W => iRng2 (tCons (a.te W) (tCons (b.te W) tNil))
  ev := fun E => (a.ev E).bind fun r E1 => (b.ev E1).bind fun r2 E2 => match look E2 r, look E2 r2 with
    | some (.int i), some (.int j) => if in62 i = true ∧ in62 j = true then .ok (rngD i (j - i).toNat) E2 else .no
    | _, _ => .no
  ok := fun F H σ E A S W R h => by
    refine a.ok F H σ E A S W _ ?_
    refine (h.bind).imp fun ra E1 F1 H1 A1 ⟨s1, S1, q1⟩ v rv fr => ?_
    refine b.ok F1 H1 σ E1 A1 S1 W _ ?_
    refine ((q1.later s1 S1 (fun _ _ _ _ _ p => p)).bind).imp fun rb E2 F2 H2 A2 ⟨s2, S2, q2⟩ u ru fu => ?_
    split at q2
    · rename_i i j e1 e2
      split at q2
      · rename_i hj
        have z := (see_of S2 (rv.later s2 S2) e1).int
        subst z
        have z2 := (see_of S2 ru e2).int
        subst z2
        exact ⟨i, j, rfl, ⟨(in62_ok hj.1).1, (in62_ok hj.1).2, (in62_ok hj.2).1, (in62_ok hj.2).2⟩, q2 F2 H2 A2 s2 S2 _ walks_rng⟩
      · exact q2.elim
    · exact q2.elim
end DX
set_option Elab.async false
set_option linter.all false
set_option maxRecDepth 100000
namespace DX
open PySem PySem.Spec PyProof.Rows L2
variable {K : PySem.W.Frag}
/-! ### x, y = a, b -/
def R.slot : R → Sl
  | .fz d => .fz d
  | .tmp d => .own d
  | .sl _ => .no
@[simp] def plainR (E : En) : R → Option R
  | .fz d => some (.fz d)
  | .tmp d => some (.tmp d)
  | .sl j => match gE E j with
    | .fz d => some (.fz d)
    | _ => none
section
variable {A A1 A2 : AM} {E E1 E2 : En} {F H F1 H1 F2 H2 : Hp} {σ σ1 : Sg} {W : WX} {N : Ends}
theorem plainR_ok {v : V} {r r' : R} (S : Stt K F H σ E A) (rv : RvR K F H A σ v r) (h : plainR E r = some r') : RvR K F H A σ v r' ∧ (∀ j, r' ≠ .sl j) ∧ ∀ d, r' = .tmp d → r = .tmp d := by
  cases r with
  | fz d => cases h; exact ⟨rv, (fun _ z => by cases z), (fun _ z => by cases z)⟩
  | tmp d => cases h; exact ⟨rv, (fun _ z => by cases z), (fun _ z => by cases z; rfl)⟩
  | sl j =>
    unfold plainR at h
    dsimp only at h
    split at h
    · rename_i d e
      cases h
      cases rv with
      | sl hv =>
        have q := S.sl j
        rw [gS_of hv, e] at q
        generalize A j = z at q
        cases q with
        | fz r => exact ⟨.fz r, (fun _ z => by cases z), (fun _ z => by cases z)⟩
    · cases h
theorem fl_seq2 {b : SX K} {f : R → En → Fl} (s1 : Step A E F H A1 E1 F1 H1) (S1 : Stt K F1 H1 σ E1 A1) (h : SPost K F H E A W N ((b.ev E1).fl f))
    {g : V → Hp → Prop} (hg : ∀ y r E2 F2 H2 A2, Step A1 E1 F1 H1 A2 E2 F2 H2 → Stt K F2 H2 σ E2 A2 → RvR K F2 H2 A2 σ y r → Fresh H1 y r → SPost K F H E A W N (f r E2) → g y H2) : b.te W σ H1 g := by
  refine b.ok F1 H1 σ E1 A1 S1 W _ ?_
  cases e : b.ev E1 with
  | ok r E2 => rw [e] at h; exact fun F2 H2 A2 s2 S2 v rv fr => hg v r E2 F2 H2 A2 s2 S2 rv fr h
  | ex x E2 => rw [e] at h; exact fun F2 H2 A2 cls dd s2 S2 q => h F2 H2 σ A2 cls dd (s1.trans S1 s2) S2 q
  | no => rw [e] at h; exact h.elim
theorem set1 {i : Nat} {v : V} {r : R} (s : Step A E F H A1 E1 F1 H1) (S : Stt K F1 H1 σ1 E1 A1) (hi : i < E1.length) (rv : RvR K F1 H1 A1 σ v r) (ns : ∀ j, r ≠ .sl j) (fr : Fresh H v r) :
    ∃ A2, Step A E F H A2 (E1.set i r.slot) F1 H1 ∧ Stt K F1 H1 (σ1.set i (some v)) (E1.set i r.slot) A2 ∧ ∀ l, Own A2 l → Own A1 l ∨ (v = .ref l ∧ ∃ d, r = .tmp d) := by
  cases rv with
  | fz r =>
    obtain ⟨t, T⟩ := set_fz s S hi r
    refine ⟨_, t, T, fun l ⟨j, z⟩ => ?_⟩
    unfold AM.drop at z
    split at z
    · cases z
    · exact .inl ⟨j, z⟩
  | tmp h1 h2 h3 h4 =>
    obtain ⟨t, T⟩ := set_own s S hi h1 h2 h3 h4 (fr _ _ rfl rfl)
    refine ⟨_, t, T, fun l ⟨j, z⟩ => ?_⟩
    unfold AM.put at z
    split at z
    · cases z; exact .inr ⟨rfl, _, rfl⟩
    · exact .inl ⟨j, z⟩
  | sl h => exact absurd rfl (ns _)
end
@[simp] def par2E (i j : Nat) (ra rb : R) (E : En) : Fl := match plainR E ra, plainR E rb with
  | some ra, some rb => if i < E.length ∧ j < E.length then .nx ((E.set i ra.slot).set j rb.slot) else .no
  | _, _ => .no
def SS.par (i j : Nat) (a b : SX K) : SS K where
  ts := fun W => tPar i j (tCons (a.te W) (tCons (b.te W) tNil))
  ev := fun E => (a.ev E).fl fun ra E1 => (b.ev E1).fl fun rb E2 => par2E i j ra rb E2
  ok := fun F H σ E A S W N h => fl_seq S h fun x ra E1 F1 H1 A1 s1 S1 rx fx h1 => by
    refine fl_seq2 s1 S1 h1 fun y rb E2 F2 H2 A2 s2 S2 ry fy h2' => ?_
    have rx2 := rx.later s2 S2
    refine ⟨x, y, rfl, ?_⟩
    have s12 := s1.trans S1 s2
    unfold par2E at h2'
    split at h2'
    · rename_i ra' rb' e1 e2
      split at h2'
      · rename_i hij
        obtain ⟨p1, n1, t1⟩ := plainR_ok S2 rx2 e1
        obtain ⟨p2, n2, t2⟩ := plainR_ok S2 ry e2
        have fa : Fresh H x ra' := fun l d z1 z2 => fx l d (t1 d z1) z2
        have fb : Fresh H1 y rb' := fun l d z1 z2 => fy l d (t2 d z1) z2
        have fb0 : Fresh H y rb' := fb.back s1
        obtain ⟨A3, s3, S3, o3⟩ := set1 s12 S2 hij.1 p1 n1 fa
        have p2' : RvR K F2 H2 A3 σ y rb' := by
          cases p2 with
          | fz r => exact .fz r
          | sl h => exact absurd rfl (n2 _)
          | @tmp l o d h1 h2 h3 h4 =>
            refine .tmp h1 h2 h3 fun z => ?_
            rcases o3 l z with w | ⟨w, d', w2⟩
            · exact h4 w
            · have u := fb l d rfl rfl
              have ra_t := t1 d' w2
              subst ra_t
              subst w
              cases rx with
              | tmp g1 _ _ _ => rw [u] at g1; cases g1
        obtain ⟨A4, s4, S4, _⟩ := set1 s3 S3 (by rw [List.length_set]; exact hij.2) p2' n2 fb0
        exact h2' F2 H2 _ A4 s4 S4
      · exact h2'.elim
    · exact h2'.elim
/-! ### a def, by its body -/
/-- how a def stands in the written part -/
def FnIn (K : PySem.W.Frag) (x qual : Str) (st : Stmt) (f : Addr) (ps : List Str) : Prop := ∃ fd, Fun K x qual st f fd ∧ Binds K fd ps []
/-- a def that keeps its promise -/
def Callee (P : Program) (w : World) (K : PySem.W.Frag) (mg : Str → Option Value) (base : Heap) (k : Nat) (f : Addr) (ps : List Str) (sp : Sp) : Prop := ∃ fd, FnOk P w K mg base (L2.CX P w) k f fd ps sp ∧ Binds K fd ps []
theorem Callee.mono {P : Program} {w : World} {mg : Str → Option Value} {base : Heap} {k j : Nat} {f : Addr} {ps : List Str} {sp : Sp} (h : Callee P w K mg base k f ps sp) (l : k ≤ j) : Callee P w K mg base j f ps sp := by
  obtain ⟨fd, F, b⟩ := h
  exact ⟨fd, F.mono l, b⟩
theorem def_okF {P : Program} {w : World} {mg : Str → Option Value} {base : Heap} {x qual : Str} {st : Stmt} {f : Addr} {fd : FuncData} {N ps : List Str} {k : Nat} (F : Fun K x qual st f fd) (S : FnScope N ps (defScope st)) (b : SS K) (hn : ps.length ≤ N.length)
    (h : ∀ cdv A outer s H E, Room k (cxOf (L2.CX P w) P w K mg base N qual (defScope st) f cdv A outer s H E).A → Takes (cxOf (L2.CX P w) P w K mg base N qual (defScope st) f cdv A outer s H E) (fun cls dd _ H' => E cls dd H') →
      PassesOwn (model P w) (cxOf (L2.CX P w) P w K mg base N qual (defScope st) f cdv A outer s H E).A (cxOf (L2.CX P w) P w K mg base N qual (defScope st) f cdv A outer s H E).env (cxOf (L2.CX P w) P w K mg base N qual (defScope st) f cdv A outer s H E).xe →
      PSs (cxOf (L2.CX P w) P w K mg base N qual (defScope st) f cdv A outer s H E) (defBody st) (b.ts (fun cls dd _ H' => E cls dd H'))) :
    FnOk P w K mg base (L2.CX P w) (k + 1) f fd ps (spF K ps.length (runF ps.length N.length b.ev)) :=
  F.okX S spF_len fun cdv A outer s H vs Q E hr q => ⟨_, h cdv A outer s H E hr (takes_of rfl rfl rfl rfl) (passes_of rfl), body_ok hn q⟩
theorem def_ok {P : Program} {w : World} {mg : Str → Option Value} {base : Heap} {x qual : Str} {st : Stmt} {f : Addr} {N ps : List Str} {k : Nat} (F : FnIn K x qual st f ps) (S : FnScope N ps (defScope st)) (b : SS K) (hn : ps.length ≤ N.length)
    (h : ∀ cdv A outer s H E, Room k (cxOf (L2.CX P w) P w K mg base N qual (defScope st) f cdv A outer s H E).A → Takes (cxOf (L2.CX P w) P w K mg base N qual (defScope st) f cdv A outer s H E) (fun cls dd _ H' => E cls dd H') →
      PassesOwn (model P w) (cxOf (L2.CX P w) P w K mg base N qual (defScope st) f cdv A outer s H E).A (cxOf (L2.CX P w) P w K mg base N qual (defScope st) f cdv A outer s H E).env (cxOf (L2.CX P w) P w K mg base N qual (defScope st) f cdv A outer s H E).xe →
      PSs (cxOf (L2.CX P w) P w K mg base N qual (defScope st) f cdv A outer s H E) (defBody st) (b.ts (fun cls dd _ H' => E cls dd H'))) :
    Callee P w K mg base (k + 1) f ps (spF K ps.length (runF ps.length N.length b.ev)) := by
  obtain ⟨fd, F, bi⟩ := F
  exact ⟨fd, def_okF F S b hn h, bi⟩
section
variable {X : Cx} {W : WX} {x : Str} {k n : Nat} {f : Addr} {ps : List Str} {sp : Sp} {e : Expr} {es : List Expr} {t : TA} {p pos : Pos}
theorem pe_callX (F : Callee X.prog X.w X.K X.mg X.base k f ps sp) (hr : Room k X.A) (hg : Gl X x) (hm : X.mg x = some (.ref f)) (hk : PySem.W.keepIn X.K (.ref f) = true) (tk : Takes X W)
    (ha : PA X (e :: es) t) (hdb : (x == ("__debug__" : Str)) = false := by decide) (he : starEach (e :: es) X.env = (false, eval e X.env) :: starEach es X.env := by rfl) (hpl : (backTo pos (starEach es X.env)).any (·.1) = false := by rfl) :
    PE X (.Call (.Name x p) (e :: es) [] pos) (tCallSD sp [] (WE W) t) := by
  obtain ⟨fd, F, b⟩ := F
  exact pe_callSD F hr hg hm hk b .nil (fun σ => passAt tk σ) ha hdb he hpl
/-- an int of the module -/
theorem pe_globI {i : Int} (hg : Gl X x) (hm : ∃ t, X.mg x = some (.int i t)) (hd : (x == ("__debug__" : Str)) = false := by decide) : PE X (.Name x p) (tC (.int i)) := by
  obtain ⟨t, h⟩ := hm
  exact pe_glob hg h ⟨t, rfl⟩ hd
theorem pt_ofX {te : TE} (h : PE X e te) (he : ∀ whole, isTrue e X.env whole = (do let v ← whole; standAt e.pos; holding [v] (truthy v)) := by intro _; rfl) : PT X e (tTest te) := pt_val h he
end
/-! ### list * int, int * int -/
def rMulX : R2 := rOr (rI CMulX fun i j => .int (i * j)) rRep
theorem op_mulXX {X : Cx} : OpR X (binaryOp .Mult) rMulX := rOr_ok op_mulX op_rep
def repD (ds : List D) : Nat → List D
  | 0 => []
  | n + 1 => ds ++ repD ds n
def mulF : D → D → Option Rt
  | .int i, .int j => if mulOk i j = true then some (.fz (.int (i * j))) else none
  | .lst ds, .int k => if in62 k = true ∧ ds.length * k.toNat ≤ sizeLine then some (.tmp (.lst (List.replicate k.toNat ds).flatten)) else none
  | _, _ => none
end DX
set_option Elab.async false
set_option linter.all false
set_option maxRecDepth 100000
namespace DX
open PySem PySem.Spec PyProof.Rows L2
variable {K : PySem.W.Frag}
theorem reps_flat {F : Hp} {vs : List V} {ds : List D} (r : Reps K F vs ds) : ∀ n, Reps K F (List.replicate n vs).flatten (List.replicate n ds).flatten
  | 0 => .nil
  | n + 1 => by
    rw [List.replicate_succ, List.replicate_succ, List.flatten_cons, List.flatten_cons]
    exact r.append (reps_flat r n)
def oMul : O2 K where
  r := rMulX
  f := mulF
  ok := fun F H x y dx dy rt Q e sx sy ef q => by
    unfold mulF at ef
    split at ef
    · split at ef
      · rename_i hc
        cases ef
        rw [sx.int, sy.int]
        exact .inl ⟨_, _, rfl, rfl, hc, q.int e⟩
      · cases ef
    · split at ef
      · rename_i hc
        cases ef
        obtain ⟨a, vs, rfl, h1, r1⟩ := sx.lst e
        rw [sy.int]
        have hk := in62_ok hc.1
        exact .inr ⟨a, _, vs, rfl, rfl, h1, by omega, by omega, by rw [r1.length]; exact hc.2, q.lst e (reps_flat r1 _)⟩
      · cases ef
    · cases ef
abbrev oLtX : O2 K := oLt
abbrev oGtX : O2 K := oGt
theorem op_ltX {X : Cx} : OpR X (compareOp .Lt) (oLt (K := X.K)).r := op_lt
theorem op_gtX {X : Cx} : OpR X (compareOp .Gt) (oGt (K := X.K)).r := op_gt
/-! ### a method that changes a slot's own thing -/
structure OM (K : PySem.W.Frag) where
  T : String
  r : V → List V → Hp → VK → Prop
  ty : D → Bool
  tyOk : ∀ (F H : Hp) (l : Addr) (o : HO) (d : D), H l = some o → Cont K F o d → ty d = true → tyV K T (.ref l) H
  f : D → List D → Option (D × D)
  ok : ∀ (F H : Hp) (l : Addr) (o : HO) (d : D) (vs : List V) (ds : List D) (d' rd : D) (Q : VK), Le F H → F l = none → H l = some o → Cont K F o d → Reps K F vs ds → f d ds = some (d', rd) →
    (∀ o' v, Cont K F o' d' → Rep K F v rd → Q v (upd H l o')) → r (.ref l) vs H Q
section
variable {A A1 A2 : AM} {E E1 E2 : En} {F H F1 H1 F2 H2 : Hp} {σ σ1 : Sg} {W : WX} {N : Ends}
theorem gE_lt {i : Nat} {s : Sl} (h : gE E i = s) (hs : s ≠ .no) : i < E.length := by
  cases Nat.lt_or_ge i E.length with
  | inl h => exact h
  | inr g => rw [gE_out g] at h; exact absurd h.symm hs
/-- a slot's own thing changes -/
theorem mutate {i : Nat} {l : Addr} {o o' : HO} {d' : D} (S : Stt K F H σ E A) (h : A i = some l) (hc : Cont K F o' d') :
    Step A E F H A (E.set i (upS (gE E i) d')) F (upd H l o') ∧ Stt K F (upd H l o') σ (E.set i (upS (gE E i) d')) A := by
  obtain ⟨d, o, q, h1, h2, h3, h4⟩ := S.ownOr h
  have hi : i < E.length := by
    rcases q with q | q
    · exact gE_lt q (by intro z; cases z)
    · exact gE_lt q (by intro z; cases z)
  refine ⟨⟨Le.refl _, fun b u z hb => ?_, fun b hb => ?_, fun _ _ _ => rfl, fun j a d'' z1 z2 => ?_, fun j a d'' z1 z2 => ?_⟩, ⟨fun b u z => ?_, by rw [List.length_set]; exact S.len, fun j => ?_, S.inj⟩⟩
  · rw [upd_ne (fun w => hb ⟨i, by rw [w]; exact h⟩)]; exact z
  · by_cases w : b = l
    · rw [w, upd_same]; intro z; cases z
    · rw [upd_ne w]; exact hb
  · rw [gE_set hi] at z2
    by_cases w : i = j
    · subst w
      rw [if_pos rfl] at z2
      obtain ⟨d0, e0, _⟩ := upS_own z2
      exact .inl ⟨i, d0, z1, e0⟩
    · rw [if_neg w] at z2; exact .inl ⟨j, d'', z1, z2⟩
  · rw [gE_set hi] at z2
    by_cases w : i = j
    · subst w
      rw [if_pos rfl] at z2
      obtain ⟨d0, e0, _⟩ := upS_par z2
      exact ⟨z1, d0, e0⟩
    · rw [if_neg w] at z2; exact ⟨z1, d'', z2⟩
  · rw [upd_ne (fun w => by rw [w, h2] at z; cases z)]; exact S.le b u z
  · rw [gE_set hi]
    by_cases w : i = j
    · subst w
      rw [if_pos rfl, h4, h]
      rcases q with q | q
      · rw [q]; exact .own upd_same h2 hc
      · rw [q]; exact .par upd_same h2 hc
    · rw [if_neg w]
      have q := S.sl j
      have ne : ∀ a, A j = some a → a ≠ l := fun a z1 z2 => w (S.inj i j l h (by rw [z1, z2]))
      generalize gS σ j = x at q ⊢
      generalize gE E j = y at q ⊢
      generalize e3 : A j = z at q ⊢
      cases q with
      | no => exact .no
      | fz r => exact .fz r
      | own q1 q2 q3 => exact .own (by rw [upd_ne (ne _ e3)]; exact q1) q2 q3
      | par q1 q2 q3 => exact .par (by rw [upd_ne (ne _ e3)]; exact q1) q2 q3
/-- a slot that holds an own thing -/
theorem Stt.mutAt (S : Stt K F H σ E A) {i : Nat} (h : (gE E i).mut = true) : ∃ l o d, A i = some l ∧ gS σ i = some (.ref l) ∧ H l = some o ∧ F l = none ∧ Cont K F o d ∧ (gE E i).d? = some d := by
  have q := S.sl i
  generalize e1 : gS σ i = x at q
  generalize e2 : gE E i = y at q h
  generalize e3 : A i = z at q
  cases q with
  | no => cases h
  | fz _ => cases h
  | own h1 h2 h3 => exact ⟨_, _, _, rfl, rfl, h1, h2, h3, rfl⟩
  | par h1 h2 h3 => exact ⟨_, _, _, rfl, rfl, h1, h2, h3, rfl⟩
end
@[simp] def mutE (m : OM K) (i : Nat) (ds : List D) (E : En) : Rs R := if (gE E i).mut = true then (match (gE E i).d? with
  | some d => match m.f d ds with
    | some (d', rd) => .ok (.fz rd) (E.set i (upS (gE E i) d'))
    | none => .no
  | none => .no) else .no
def SX.mut (m : OM K) (i : Nat) (a : SA K) : SX K where
  te := fun W => tBM K m.T m.r (tVar i) (a.ta W)
  ev := fun E => if (gE E i).mut = true ∧ ((gE E i).d?.any m.ty) = true then (a.ev E).bind fun ds E1 => mutE m i ds E1 else .no
  ok := fun F H σ E A S W Q h => by
    dsimp only at h
    split at h
    · rename_i hm
      obtain ⟨l, o, d, e1, e2, e3, e4, e5, e6⟩ := S.mutAt hm.1
      refine ⟨.ref l, gS_some e2, m.tyOk F H l o d e3 e5 (by have := hm.2; rw [e6] at this; exact this), ?_⟩
      refine a.ok F H σ E A S W _ ?_
      refine (h.bind).imp fun ds E1 F1 H1 A1 ⟨s1, S1, q1⟩ vs rvs => ?_
      unfold mutE at q1
      split at q1
      · rename_i hm1
        obtain ⟨l1, o1, d1, f1, f2, f3, f4, f5, f6⟩ := S1.mutAt hm1
        rw [e2] at f2
        cases f2
        rw [f6] at q1
        dsimp only at q1
        split at q1
        · rename_i d' rd ef
          refine m.ok F1 H1 l o1 d1 vs ds d' rd Q S1.le f4 f3 f5 rvs ef fun o' v hc rv => ?_
          obtain ⟨t, T⟩ := mutate S1 f1 hc (o := o1)
          exact q1 F1 _ A1 (s1.trans S1 t) T v (.fz rv) (fun _ _ z => by cases z)
        · exact q1.elim
      · exact q1.elim
    · exact h.elim
@[simp] def D.isLst : D → Bool
  | .lst _ => true
  | _ => false
theorem tyLst {F H : Hp} {l : Addr} {o : HO} {d : D} (h : H l = some o) (c : Cont K F o d) (t : d.isLst = true) : tyV K "list" (.ref l) H := by
  cases c with
  | lst r => exact .inl ⟨rfl, _, SqL.of h⟩
  | dic _ _ _ => cases t
  | ins _ _ _ => cases t
@[simp] def appF : D → List D → Option (D × D)
  | .lst xs, [d] => if xs.length < sizeLine then some (.lst (xs ++ [d]), .non) else none
  | _, _ => none
def mAppend : OM K where
  T := "list"
  r := rAppend
  ty := D.isLst
  tyOk := fun F H l o d h c t => tyLst h c t
  f := appF
  ok := fun F H l o d vs ds d' rd Q e hf h c r ef q => by
    unfold appF at ef
    split at ef
    · split at ef
      · rename_i hl
        cases ef
        cases c with
        | lst rs =>
          obtain ⟨v, rfl, rv⟩ := r.one'
          exact ⟨l, _, v, rfl, rfl, h, by rw [rs.length]; exact hl, q _ _ (.lst (rs.append (.one rv))) .non⟩
      · cases ef
    · cases ef
end DX
set_option Elab.async false
set_option linter.all false
set_option maxRecDepth 100000
namespace DX
open PySem PySem.Spec PyProof.Rows L2
variable {K : PySem.W.Frag}
section
variable {E E1 : En} {i j n : Nat} {s : Sl} {d : D} {r : R} {rt : Rt}
@[simp] theorem gE_0 : gE (s :: E) 0 = s := rfl
@[simp] theorem gE_s : gE (s :: E) (i + 1) = gE E i := gE_succ
@[simp] theorem look_fz : look E (.fz d) = some d := rfl
@[simp] theorem look_tmp : look E (.tmp d) = some d := rfl
@[simp] theorem look_sl : look E (.sl i) = (gE E i).d? := rfl
@[simp] theorem d_no : Sl.d? .no = none := rfl
@[simp] theorem d_fz : Sl.d? (.fz d) = some d := rfl
@[simp] theorem d_own : Sl.d? (.own d) = some d := rfl
@[simp] theorem d_par : Sl.d? (.par d) = some d := rfl
@[simp] theorem mut_no : Sl.mut .no = false := rfl
@[simp] theorem mut_fz : Sl.mut (.fz d) = false := rfl
@[simp] theorem mut_own : Sl.mut (.own d) = true := rfl
@[simp] theorem mut_par : Sl.mut (.par d) = true := rfl
@[simp] theorem r_fz : Rt.r (.fz d) = .fz d := rfl
@[simp] theorem r_tmp : Rt.r (.tmp d) = .tmp d := rfl
@[simp] theorem slot_fz : R.slot (.fz d) = .fz d := rfl
@[simp] theorem slot_tmp : R.slot (.tmp d) = .own d := rfl
@[simp] theorem up_own {d' : D} : upS (.own d) d' = .own d' := rfl
@[simp] theorem up_par {d' : D} : upS (.par d) d' = .par d' := rfl
@[simp] theorem share_fz : shareR E (.fz d) = some (d, E) := rfl
@[simp] theorem share_tmp : shareR E (.tmp d) = some (d, E) := rfl
@[simp] theorem share_sl : shareR E (.sl i) = match gE E i with
    | .no => none
    | .fz d => some (d, E)
    | .own d => some (d, E.set i (.fz d))
    | .par _ => none := rfl
@[simp] theorem ev_var : (SX.var (K := K) i).ev E = match gE E i with
    | .no => .no
    | _ => .ok (.sl i) E := rfl
@[simp] theorem ev_con {v : V} {h} : (SX.con (K := K) v d h).ev E = .ok (.fz d) E := rfl
@[simp] theorem ev_op {o : O2 K} {a b : SX K} : (SX.op o a b).ev E = (a.ev E).bind fun ra E1 => (b.ev E1).bind fun rb E2 => look2 E2 ra rb o.f := rfl
@[simp] theorem ev_un {o : O1 K} {a : SX K} : (SX.un o a).ev E = (a.ev E).bind fun ra E1 => look1 E1 ra o.f := rfl
@[simp] theorem ev_cb {o : ON K} {a : SA K} : (SX.cb o a).ev E = (a.ev E).bind fun ds E1 => rsOf E1 (o.f ds) := rfl
@[simp] theorem ev_sanil : (SA.nil (K := K)).ev E = .ok [] E := rfl
@[simp] theorem ev_sacons {a : SX K} {q : SA K} : (SA.cons a q).ev E = (a.ev E).bind fun ra E1 => (shareE E1 ra).bind fun d E2 => (q.ev E2).bind fun ds E3 => .ok (d :: ds) E3 := rfl
@[simp] theorem ev_spnil : (SP.nil (K := K)).ev E = .ok [] E := rfl
@[simp] theorem ev_spcons {a : SX K} {q : SP K} : (SP.cons a q).ev E = (a.ev E).bind fun ra E1 => (shareE E1 ra).bind fun d E2 => (q.ev E2).bind fun ds E3 => .ok (.d d :: ds) E3 := rfl
@[simp] theorem ev_tup {a : SA K} : (SX.tup a).ev E = (a.ev E).bind fun ds E1 => if ds.length ≤ sizeLine then .ok (.fz (.tup ds)) E1 else .no := rfl
@[simp] theorem ev_lst {a : SA K} : (SX.lst a).ev E = (a.ev E).bind fun ds E1 => if ds.length ≤ sizeLine then .ok (.tmp (.lst ds)) E1 else .no := rfl
@[simp] theorem ev_tof {a : SX K} : (ST.of a).ev E = (a.ev E).bind fun r E1 => lookB E1 r := rfl
@[simp] theorem ev_tnot {a : ST K} : (ST.not a).ev E = (a.ev E).bind fun b E1 => .ok (!b) E1 := rfl
@[simp] theorem ev_tand {a b : ST K} : (ST.and a b).ev E = (a.ev E).bind fun c E1 => if c = true then b.ev E1 else .ok false E1 := rfl
@[simp] theorem ev_tor {a b : ST K} : (ST.or a b).ev E = (a.ev E).bind fun c E1 => if c = true then .ok true E1 else b.ev E1 := rfl
@[simp] theorem ev_yes : (ST.yes (K := K)).ev E = .ok true E := rfl
@[simp] theorem ev_ite {t : ST K} {a b : SX K} : (SX.ite t a b).ev E = (t.ev E).bind fun c E1 => if c = true then a.ev E1 else b.ev E1 := rfl
@[simp] theorem ev_and {a b : SX K} : (SX.and a b).ev E = (a.ev E).bind fun r E1 => (lookB E1 r).bind fun c E2 => if c = true then b.ev E2 else .ok (.fz (.bl false)) E2 := rfl
@[simp] theorem ev_or {a b : SX K} : (SX.or a b).ev E = (a.ev E).bind fun r E1 => (lookB E1 r).bind fun c E2 => if c = true then .ok (.fz (.bl true)) E2 else b.ev E2 := rfl
@[simp] theorem ev_not {a : SX K} : (SX.not a).ev E = (a.ev E).bind fun r E1 => (lookB E1 r).bind fun c E2 => .ok (.fz (.bl (!c))) E2 := rfl
@[simp] theorem ev_lc {it : SI K} {g : SG K} {t : ST K} {e : SX K} {vs : List Nat} {hg} : (SX.lc it g t e vs hg).ev E = (it.ev E).bind fun ds E1 => (lcL g.ev t.ev e.ev vs ds E1 []).noex.bind fun acc E2 => .ok (.tmp (.lst acc)) E2 := rfl
@[simp] theorem ev_call {f : En → Rs Rt} {p : SP K} : (SX.call n f p).ev E = (p.ev E).bind fun ags E1 => if ags.length = n then callE f E1 ags else .no := rfl
@[simp] theorem ev_mut {m : OM K} {a : SA K} : (SX.mut m i a).ev E = if (gE E i).mut = true ∧ ((gE E i).d?.any m.ty) = true then (a.ev E).bind fun ds E1 => mutE m i ds E1 else .no := rfl
@[simp] theorem ev_xsl {o : OS K} {a : SX K} {lo hi : SO K} : (SX.sl o a lo hi).ev E = (a.ev E).bind fun ra E1 => (lo.ev E1).bind fun l E2 => (hi.ev E2).bind fun h E3 => match look E3 ra with
    | some d => rsOf E3 (o.f d l h)
    | none => .no := rfl
@[simp] theorem ev_sonone : (SO.none (K := K)).ev E = .ok none E := rfl
@[simp] theorem ev_sosome {a : SX K} : (SO.some a).ev E = (a.ev E).bind fun r E1 => lookI E1 r := rfl
@[simp] theorem ev_asg {a : SX K} : (SS.asg i a).ev E = (a.ev E).fl fun r E1 => asgE i r E1 := rfl
@[simp] theorem ev_asgG {g : SG K} {a : SX K} : (SS.asgG g a).ev E = (a.ev E).fl fun r E1 => match shareR E1 r with
    | none => .no
    | some (d, E2) => match g.ev d E2 with
      | none => .no
      | some E3 => .nx E3 := rfl
@[simp] theorem ev_par {a b : SX K} : (SS.par i j a b).ev E = (a.ev E).fl fun ra E1 => (b.ev E1).fl fun rb E2 => par2E i j ra rb E2 := rfl
@[simp] theorem ev_aug {o : O2 K} {b : SX K} : (SS.aug i o b).ev E = match gE E i with
    | .fz _ => (b.ev E).fl fun rb E1 => match look E1 (.sl i), look E1 rb with
      | some da, some db => match o.f da db with
        | some rt => asgE i rt.r E1
        | none => .no
      | _, _ => .no
    | _ => .no := rfl
@[simp] theorem ev_seq {a b : SS K} : (SS.seq a b).ev E = flS (a.ev E) b.ev := rfl
@[simp] theorem ev_sif {t : ST K} {a b : SS K} : (SS.ite t a b).ev E = (t.ev E).fl fun c E1 => if c = true then a.ev E1 else b.ev E1 := rfl
@[simp] theorem ev_ret {a : SX K} : (SS.ret a).ev E = (a.ev E).fl fun r E1 => retE r E1 := rfl
@[simp] theorem ev_retN : (SS.retN (K := K)).ev E = .rt (.fz .non) E := rfl
@[simp] theorem ev_drop {a : SX K} : (SS.drop a).ev E = (a.ev E).fl fun _ E1 => .nx E1 := rfl
@[simp] theorem ev_pass : (SS.pass (K := K)).ev E = .nx E := rfl
@[simp] theorem ev_brk : (SS.brk (K := K)).ev E = .bk E := rfl
@[simp] theorem ev_cont : (SS.cont (K := K)).ev E = .ct E := rfl
@[simp] theorem ev_never : (SS.never (K := K)).ev E = .no := rfl
@[simp] theorem ev_for {it : SI K} {g : SG K} {b : SS K} : (SS.for_ it g b).ev E = (it.ev E).fl fun ds E1 => forL g.ev b.ev ds E1 := rfl
@[simp] theorem ev_wh {f : En → Nat} {c : ST K} {b : SS K} : (SS.wh f c b).ev E = whL c.ev b.ev (f E) E := rfl
@[simp] theorem ev_gname : (SG.name (K := K) i).ev d E = if i < E.length then some (E.set i (.fz d)) else none := rfl
@[simp] theorem ev_gtup {a : SGs K} : (SG.tup n a).ev d E = match d with
    | .tup ds => if ds.length = n then a.ev ds E else none
    | _ => none := rfl
@[simp] theorem ev_gsnil {ds : List D} : (SGs.nil (K := K)).ev ds E = match ds with
    | [] => some E
    | _ => none := rfl
@[simp] theorem ev_gscons {a : SG K} {b : SGs K} {ds : List D} : (SGs.cons a b).ev ds E = match ds with
    | [] => none
    | d :: ds => match a.ev d E with
      | none => none
      | some E1 => b.ev ds E1 := rfl
@[simp] theorem ev_iseq {a : SX K} : (SI.seq a).ev E = (a.ev E).bind fun r E1 => (shareE E1 r).bind fun d E2 => match d with
    | .lst ds => .ok ds E2
    | .rdl ds => .ok ds E2
    | .tup ds => .ok ds E2
    | .tuf ds => .ok ds E2
    | _ => .no := rfl
@[simp] theorem ev_irng1 {a : SX K} : (SI.rng1 a).ev E = (a.ev E).bind fun r E1 => match look E1 r with
    | some (.int j) => if in62 j = true then .ok (rngD 0 j.toNat) E1 else .no
    | _ => .no := rfl
@[simp] theorem ev_irng2 {a b : SX K} : (SI.rng2 a b).ev E = (a.ev E).bind fun r E1 => (b.ev E1).bind fun r2 E2 => match look E2 r, look E2 r2 with
    | some (.int i), some (.int j) => if in62 i = true ∧ in62 j = true then .ok (rngD i (j - i).toNat) E2 else .no
    | _, _ => .no := rfl
@[simp] theorem f_add : (oAdd (K := K)).f = addF := rfl
@[simp] theorem f_sub : (oSub (K := K)).f = intsF (fun _ _ => true) fun i j => .int (i - j) := rfl
@[simp] theorem f_mul : (oMul (K := K)).f = mulF := rfl
@[simp] theorem f_div : (oDiv (K := K)).f = intsF divOk fun i j => .int (i / j) := rfl
@[simp] theorem f_mod : (oMod (K := K)).f = intsF modOk fun i j => .int (i % j) := rfl
@[simp] theorem f_pow : (oPow (K := K)).f = intsF powOk fun i j => .int (i ^ j.toNat) := rfl
@[simp] theorem f_lt : (oLt (K := K)).f = cmpF fun i j => decide (i < j) := rfl
@[simp] theorem f_le : (oLe (K := K)).f = cmpF fun i j => decide (i ≤ j) := rfl
@[simp] theorem f_gt : (oGt (K := K)).f = cmpF fun i j => decide (j < i) := rfl
@[simp] theorem f_ge : (oGe (K := K)).f = cmpF fun i j => decide (j ≤ i) := rfl
@[simp] theorem f_ix : (oIx (K := K)).f = ixF := rfl
@[simp] theorem f_sl : (oSl (K := K)).f = slF := rfl
@[simp] theorem f_len : (oLen (K := K)).f = lenF := rfl
@[simp] theorem f_int : (oInt (K := K)).f = intF := rfl
@[simp] theorem f_tup : (oTup (K := K)).f = tupF := rfl
@[simp] theorem f_list : (oList (K := K)).f = listF := rfl
@[simp] theorem f_abs : (oAbs (K := K)).f = int1F fun i => if i < 0 then -i else i := rfl
@[simp] theorem f_max2 : (oMax2 (K := K)).f = int2F fun i j => if j > i then j else i := rfl
@[simp] theorem f_min2 : (oMin2 (K := K)).f = int2F fun i j => if j < i then j else i := rfl
@[simp] theorem f_all : (oAll (K := K)).f = allF fun bs => bs.all id := rfl
@[simp] theorem f_any : (oAny (K := K)).f = allF fun bs => bs.any id := rfl
@[simp] theorem f_app : (mAppend (K := K)).f = appF := rfl
@[simp] theorem ty_app : (mAppend (K := K)).ty = D.isLst := rfl
theorem intsF_int {C : Int → Int → Bool} {g : Int → Int → D} {i j : Int} (h : C i j = true) : intsF C g (.int i) (.int j) = some (.fz (g i j)) := by unfold intsF; exact if_pos h
@[simp] theorem intsF_sub {g : Int → Int → D} {i j : Int} : intsF (fun _ _ => true) g (.int i) (.int j) = some (.fz (g i j)) := rfl
theorem intsF_div {g : Int → Int → D} {i j : Int} (h : 0 < j) (h2 : j.natAbs < 2 ^ 1000) : intsF divOk g (.int i) (.int j) = some (.fz (g i j)) := intsF_int (decide_eq_true ⟨h, by
  have := PySem.Flt.log2_lt_of (by decide) h2
  omega⟩)
theorem intsF_mod {g : Int → Int → D} {i j : Int} (h : 0 < j) : intsF modOk g (.int i) (.int j) = some (.fz (g i j)) := intsF_int (decide_eq_true h)
theorem mulF_int {i j : Int} (h : mulOk i j = true) : mulF (.int i) (.int j) = some (.fz (.int (i * j))) := by
  show (if mulOk i j = true then _ else _) = _
  exact if_pos h
@[simp] theorem pow18 {g : Int → Int → D} : intsF powOk g (.int 10) (.int 18) = some (.fz (g 10 18)) := intsF_int (by decide)
theorem size_le {n : Nat} (h : n ≤ 16777216) : n ≤ sizeLine := by rw [sizeLine_eq]; exact h
theorem size_lt {n : Nat} (h : n < 16777216) : n < sizeLine := by rw [sizeLine_eq]; exact h
@[simp] theorem size_0 : (0 ≤ sizeLine) = True := by simp
end
theorem runF_rt {n N : Nat} {b : En → Fl} {E0 E E1 : En} {r : Rt} (h : b E1 = .rt r E) (e : E0 ++ List.replicate (N - n) .no = E1 := by rfl) : runF n N b E0 = .ok r (keepP n E) := by
  unfold runF; rw [e, h]
theorem runF_nx {n N : Nat} {b : En → Fl} {E0 E E1 : En} (h : b E1 = .nx E) (e : E0 ++ List.replicate (N - n) .no = E1 := by rfl) : runF n N b E0 = .ok (.fz .non) (keepP n E) := by
  unfold runF; rw [e, h]
@[simp] theorem keepP_0 {E : En} : keepP 0 E = [] := by cases E <;> rfl
@[simp] theorem keepP_fz {n : Nat} {d : D} {E : En} : keepP (n + 1) (.fz d :: E) = .no :: keepP n E := rfl
@[simp] theorem keepP_own {n : Nat} {d : D} {E : En} : keepP (n + 1) (.own d :: E) = .no :: keepP n E := rfl
@[simp] theorem keepP_no {n : Nat} {E : En} : keepP (n + 1) (.no :: E) = .no :: keepP n E := rfl
@[simp] theorem keepP_par {n : Nat} {d : D} {E : En} : keepP (n + 1) (.par d :: E) = .par d :: keepP n E := rfl
/-! ### sizes -/
theorem log2_small {i : Int} {n : Nat} (h : i.natAbs < 2 ^ n) (h0 : 0 < n) : i.natAbs.log2 < n := PySem.Flt.log2_lt_of h0 h
theorem mulOk_small {i j : Int} (hi : i.natAbs < 2 ^ 1000) (hj : j.natAbs < 2 ^ 1000) : mulOk i j = true := by
  unfold mulOk
  have a := log2_small hi (by decide)
  have b := log2_small hj (by decide)
  exact decide_eq_true (by omega)
theorem mulOk_64 {i j : Int} (hi : -18446744073709551616 < i ∧ i < 18446744073709551616) (hj : -18446744073709551616 < j ∧ j < 18446744073709551616) : mulOk i j = true := by
  unfold mulOk
  have a := log2_small (i := i) (n := 64) (by omega) (by decide)
  have b := log2_small (i := j) (n := 64) (by omega) (by decide)
  exact decide_eq_true (by omega)
theorem small_lt {i : Int} {b : Nat} (h : i.natAbs < b) (hb : b ≤ 2 ^ 1000) : i.natAbs < 2 ^ 1000 := Nat.lt_of_lt_of_le h hb
end DX
set_option Elab.async false
set_option linter.all false
set_option maxRecDepth 100000
namespace DX
open PySem PySem.Spec PyProof.Rows L2
variable {K : PySem.W.Frag}
/-! ### a op b op c, is None, -a -/
def bl1 (E : En) (rt : Option Rt) (f : Bool → Rs R) : Rs R := match rt with
  | some (.fz (.bl b)) => f b
  | _ => .no
def SX.chain (o o' : O2 K) (a b c : SX K) : SX K where
  te := fun W => tChain o.r o'.r (a.te W) (b.te W) (c.te W)
  ev := fun E => (a.ev E).bind fun ra E1 => (b.ev E1).bind fun rb E2 => match look E2 ra, look E2 rb with
    | some da, some db => bl1 E2 (o.f da db) fun k => if k = true then (c.ev E2).bind fun rc E3 => look2 E3 rb rc o'.f else .ok (.fz (.bl false)) E2
    | _, _ => .no
  ok := fun F H σ E A S W Q h => by
    refine XOk.seq S h fun x ra E1 F1 H1 A1 s1 S1 rx _ h1 => ?_
    refine XOk.seq S1 h1 fun y rb E2 F2 H2 A2 s2 S2 ry _ h2 => ?_
    have rx2 := rx.later s2 S2
    split at h2
    · rename_i da db e1 e2
      cases e : o.f da db with
      | none => rw [e] at h2; exact h2.elim
      | some rt =>
        rw [e] at h2
        cases rt with
        | tmp d => exact h2.elim
        | fz d =>
          cases d with
          | bl k =>
            refine o.ok F2 H2 x y da db _ _ S2.le (see_of S2 rx2 e1) (see_of S2 ry e2) e fun F3 H3 v g rr => ?_
            cases rr with
            | fz r =>
              refine ⟨k, (See.fz (H := H3) r).bl, ?_⟩
              have s3 := Step.grow S2 g
              have S3 := S2.grow g
              have h3 := Post.xp s3 S3 h2
              unfold bl1 at h3
              dsimp only at h3
              cases k with
              | false =>
                rw [if_neg Bool.false_ne_true] at h3 ⊢
                exact h3 F3 H3 A2 (Step.refl S3) S3 _ (.fz (.bl _)) (fun _ _ z => by cases z)
              | true =>
                rw [if_pos rfl] at h3 ⊢
                refine XOk.seq S3 h3 fun z rc E4 F4 H4 A4 s4 S4 rz _ h4 => ?_
                have ry4 := (ry.later s3 S3).later s4 S4
                unfold look2 at h4
                split at h4
                · rename_i db' dc e3 e4
                  cases e5 : o'.f db' dc with
                  | none => rw [e5] at h4; exact h4.elim
                  | some rt =>
                    rw [e5] at h4
                    exact o'.ok F4 H4 y z db' dc rt Q S4.le (see_of S4 ry4 e3) (see_of S4 rz e4) e5 (h4.fin S4)
                · exact h4.elim
          | _ => exact h2.elim
    · exact h2.elim
@[simp] def D.isNon : D → Bool
  | .non => true
  | _ => false
theorem isNon_see {F H : Hp} {v : V} {d : D} (e : Le F H) (s : See K F H v d) : decide (v = .non) = d.isNon := by
  cases s with
  | fz r => cases r with
    | cell h c => cases c <;> simp [D.isNon]
    | _ => simp [D.isNon]
  | top h c => cases c <;> simp [D.isNon]
def oIsN : O1 K where
  r := fun x H Q => Q (.bl (decide (x = .non))) H
  f := fun d => some (.fz (.bl d.isNon))
  ok := fun F H x dx rt Q e s ef q => by
    cases ef
    rw [isNon_see e s]
    exact q.bl e
def oNotN : O1 K where
  r := fun x H Q => Q (.bl (!decide (x = .non))) H
  f := fun d => some (.fz (.bl (!d.isNon)))
  ok := fun F H x dx rt Q e s ef q => by
    cases ef
    rw [isNon_see e s]
    exact q.bl e
theorem pe_isNX {X : Cx} {a : Expr} {ta : TE} {pos p : Pos} {n : Nat} (h : PE X a ta) : PE X (.Compare a [.Is] [.Constant .none n p] pos) (tUn (oIsN (K := X.K)).r ta) := pe_cmp (pc_isN h) rfl
theorem pe_notNX {X : Cx} {a : Expr} {ta : TE} {pos p : Pos} {n : Nat} (h : PE X a ta) : PE X (.Compare a [.IsNot] [.Constant .none n p] pos) (tUn (oNotN (K := X.K)).r ta) := pe_cmp (pc_notN h) rfl
@[simp] def negF : D → Option Rt
  | .int i => some (.fz (.int (-i)))
  | _ => none
def oNeg : O1 K where
  r := rU fun i => .int (-i)
  f := negF
  ok := fun F H x dx rt Q e s ef q => by
    unfold negF at ef
    split at ef
    · cases ef
      rw [s.int]
      exact ⟨_, rfl, q.int e⟩
    · cases ef
/-! ### == of data -/
mutual
def D.py : D → Option PyData
  | .non => some .none
  | .bl b => some (.bool b)
  | .int i => some (.int i)
  | .str x => some (.str x)
  | .tup xs => (D.pys xs).map .tuple
  | .tuf xs => (D.pys xs).map .tuple
  | .lst xs => (D.pys xs).map .list
  | .rdl xs => (D.pys xs).map .list
  | .dic _ _ => none
  | .ins _ _ _ => none
def D.pys : List D → Option (List PyData)
  | [] => some []
  | d :: ds => match D.py d, D.pys ds with
    | some p, some ps => some (p :: ps)
    | _, _ => none
end
mutual
theorem py_dp {F : Hp} : ∀ (d : D) {v : V} {p : PyData}, Rep K F v d → D.py d = some p → Dp K F v p
  | .non, v, p, r, h => by
    rw [(See.fz (H := F) r).non]; unfold D.py at h; cases h; exact .non
  | .bl b, v, p, r, h => by
    rw [(See.fz (H := F) r).bl]; unfold D.py at h; cases h; exact .bl b
  | .int b, v, p, r, h => by
    rw [(See.fz (H := F) r).int]; unfold D.py at h; cases h; exact .int b
  | .str b, v, p, r, h => by
    rw [(See.fz (H := F) r).str]; unfold D.py at h; cases h; exact .str b
  | .tup ds, v, p, r, h => by
    obtain ⟨a, vs, rfl, h1, r⟩ := (See.fz r).tup (Le.refl F)
    unfold D.py at h
    obtain ⟨ps, e, rfl⟩ := Option.map_eq_some_iff.mp h
    exact .tup h1 (pys_dp ds r e)
  | .tuf ds, v, p, r, h => by
    obtain ⟨a, o, vs, rfl, h1, _, _, r⟩ := (See.fz r).tuf (Le.refl F)
    unfold D.py at h
    obtain ⟨ps, e, rfl⟩ := Option.map_eq_some_iff.mp h
    exact .tup (.inl (.inr ⟨o, h1⟩)) (pys_dp ds r e)
  | .lst ds, v, p, r, h => by
    obtain ⟨a, vs, rfl, h1, r⟩ := (See.fz r).lst (Le.refl F)
    unfold D.py at h
    obtain ⟨ps, e, rfl⟩ := Option.map_eq_some_iff.mp h
    exact .lst (SqL.of h1) (pys_dp ds r e)
  | .rdl ds, v, p, r, h => by
    obtain ⟨a, vs, rfl, h1, r⟩ := (See.fz r).rdl (Le.refl F)
    unfold D.py at h
    obtain ⟨ps, e, rfl⟩ := Option.map_eq_some_iff.mp h
    exact .lst h1 (pys_dp ds r e)
  | .dic _ _, v, p, r, h => by unfold D.py at h; cases h
  | .ins _ _ _, v, p, r, h => by unfold D.py at h; cases h
theorem pys_dp {F : Hp} : ∀ (ds : List D) {vs : List V} {ps : List PyData}, Reps K F vs ds → D.pys ds = some ps → DpAll K F vs ps
  | [], vs, ps, r, h => by cases r; unfold D.pys at h; cases h; exact .nil
  | d :: ds, vs, ps, r, h => by
    unfold D.pys at h
    split at h
    · rename_i p ps e1 e2
      cases h
      cases r with
      | cons r t => exact .cons (py_dp d r e1) (pys_dp ds t e2)
    · cases h
end
mutual
theorem Dp_mono {F H : Hp} (e : Le F H) : ∀ {v : V} {p : PyData}, Dp K F v p → Dp K H v p
  | _, _, .non => .non
  | _, _, .bl b => .bl b
  | _, _, .int b => .int b
  | _, _, .str b => .str b
  | _, _, .lst h r => .lst (sqL_mono e h) (DpAll_mono e r)
  | _, _, .tup h r => .tup (sqT_mono e h) (DpAll_mono e r)
theorem DpAll_mono {F H : Hp} (e : Le F H) : ∀ {vs : List V} {ps : List PyData}, DpAll K F vs ps → DpAll K H vs ps
  | _, _, .nil => .nil
  | _, _, .cons h r => .cons (Dp_mono e h) (DpAll_mono e r)
end
theorem See.dp {F H : Hp} {v : V} {d : D} {p : PyData} (e : Le F H) (s : See K F H v d) (h : D.py d = some p) : Dp K H v p := by
  cases s with
  | fz r => exact Dp_mono e (py_dp _ r h)
  | top h1 c =>
    cases c with
    | lst r =>
      unfold D.py at h
      obtain ⟨ps, e2, rfl⟩ := Option.map_eq_some_iff.mp h
      exact .lst (SqL.of h1) (DpAll_mono e (pys_dp _ r e2))
    | dic _ _ _ => unfold D.py at h; cases h
    | ins _ _ _ => unfold D.py at h; cases h
def D.eqd (a b : D) : Option Bool := match D.scal a b with
  | some c => some c
  | none => match D.py a, D.py b with
    | some p, some q => if SeqAt.shaped p = true ∧ SeqAt.shaped q = true then some (PyData.eqv p q) else none
    | _, _ => none
def oEq : O2 K where
  r := rOr rEq (rEqD K)
  f := blF D.eqd false
  ok := fun F H x y dx dy rt Q e sx sy ef q => by
    unfold blF D.eqd at ef
    split at ef
    · rename_i c hc
      cases ef
      split at hc
      · rename_i c' hs
        cases hc
        obtain ⟨a, b⟩ := scal_ok sx sy hs
        refine .inl ⟨a, ?_⟩
        rw [b]
        exact q.bl e
      · split at hc
        · rename_i p p' h1 h2
          split at hc
          · rename_i hsh
            cases hc
            exact .inr ⟨p, p', sx.dp e h1, sy.dp e h2, hsh.1, hsh.2, q.bl e⟩
          · cases hc
        · cases hc
    · cases ef
def oNe : O2 K where
  r := rOr rNe (rNeD K)
  f := blF D.eqd true
  ok := fun F H x y dx dy rt Q e sx sy ef q => by
    unfold blF D.eqd at ef
    split at ef
    · rename_i c hc
      cases ef
      split at hc
      · rename_i c' hs
        cases hc
        obtain ⟨a, b⟩ := scal_ok sx sy hs
        refine .inl ⟨a, ?_⟩
        rw [b]
        exact q.bl e
      · split at hc
        · rename_i p p' h1 h2
          split at hc
          · rename_i hsh
            cases hc
            exact .inr ⟨p, p', sx.dp e h1, sy.dp e h2, hsh.1, hsh.2, q.bl e⟩
          · cases hc
        · cases hc
    · cases ef
theorem op_eqX {X : Cx} (hu : X.A.units + 64 < cLine) : OpR X (compareOp .Eq) (rOr rEq (rEqD X.K)) := rOr_ok op_eq (op_eqD hu)
theorem op_neX {X : Cx} (hu : X.A.units + 64 < cLine) : OpR X (compareOp .NotEq) (rOr rNe (rNeD X.K)) := rOr_ok op_ne (op_neD hu)
/-! ### in -/
def D.flat : D → Bool
  | .non => true
  | .bl _ => true
  | .int _ => true
  | .str _ => true
  | _ => false
def D.eqf : D → D → Bool
  | .non, .non => true
  | .bl a, .bl b => a == b
  | .bl a, .int b => (if a then 1 else 0) == b
  | .int a, .bl b => a == (if b then 1 else 0)
  | .int a, .int b => a == b
  | .str a, .str b => a == b
  | _, _ => false
theorem flat_see {F H : Hp} {v : V} {d : D} (s : See K F H v d) (h : d.flat = true) : flatV v = true ∧ ∀ (u : V) (c : D), See K F H u c → c.flat = true → eqV v u = D.eqf d c := by
  cases d with
  | non =>
    rw [s.non]
    refine ⟨rfl, fun u c s2 h2 => ?_⟩
    cases c with
    | non => rw [s2.non]; rfl
    | bl b => rw [s2.bl]; rfl
    | int b => rw [s2.int]; rfl
    | str b => rw [s2.str]; rfl
    | _ => cases h2
  | bl b =>
    rw [s.bl]
    refine ⟨rfl, fun u c s2 h2 => ?_⟩
    cases c with
    | non => rw [s2.non]; rfl
    | bl b => rw [s2.bl]; rfl
    | int b => rw [s2.int]; rfl
    | str b => rw [s2.str]; rfl
    | _ => cases h2
  | int b =>
    rw [s.int]
    refine ⟨rfl, fun u c s2 h2 => ?_⟩
    cases c with
    | non => rw [s2.non]; rfl
    | bl b => rw [s2.bl]; rfl
    | int b => rw [s2.int]; rfl
    | str b => rw [s2.str]; rfl
    | _ => cases h2
  | str b =>
    rw [s.str]
    refine ⟨rfl, fun u c s2 h2 => ?_⟩
    cases c with
    | non => rw [s2.non]; rfl
    | bl b => rw [s2.bl]; rfl
    | int b => rw [s2.int]; rfl
    | str b => rw [s2.str]; rfl
    | _ => cases h2
  | _ => cases h
theorem flat_reps {F H : Hp} : ∀ {vs : List V} {ds : List D}, Reps K F vs ds → ds.all D.flat = true → vs.all flatV = true ∧ ∀ (u : V) (c : D), See K F H u c → c.flat = true → inV u vs = ds.any fun y => D.eqf y c
  | _, _, .nil, _ => ⟨rfl, fun u c _ _ => rfl⟩
  | _, _, .cons r t, h => by
    rw [List.all_cons, Bool.and_eq_true] at h
    obtain ⟨a, b⟩ := flat_see (See.fz (H := H) r) h.1
    obtain ⟨a2, b2⟩ := flat_reps (H := H) t h.2
    refine ⟨by rw [List.all_cons, a, a2]; rfl, fun u c s hc => ?_⟩
    unfold inV
    rw [List.any_cons, List.any_cons, b u c s hc]
    have q := b2 u c s hc
    unfold inV at q
    rw [q]
def inD (x : D) (ds : List D) : Option Bool := if x.flat = true ∧ ds.all D.flat = true then some (ds.any fun y => D.eqf y x) else none
def inF (x : D) : D → Option Bool
  | .lst ds => inD x ds
  | .rdl ds => inD x ds
  | .tup ds => inD x ds
  | .tuf ds => inD x ds
  | _ => none
theorem inF_ok {F H : Hp} {x y : V} {dx dy : D} {c : Bool} (e : Le F H) (sx : See K F H x dx) (sy : See K F H y dy) (h : inF dx dy = some c) :
    ∃ p xs, y = .ref p ∧ (SqL K H p xs ∨ SqT K H p xs) ∧ flatV x = true ∧ xs.all flatV = true ∧ inV x xs = c := by
  have fin : ∀ {vs : List V} {ds : List D}, Reps K F vs ds → inD dx ds = some c → flatV x = true ∧ vs.all flatV = true ∧ inV x vs = c := fun {vs ds} r h => by
    unfold inD at h
    split at h
    · rename_i hf
      cases h
      obtain ⟨a, b⟩ := flat_reps (H := H) r hf.2
      exact ⟨(flat_see sx hf.1).1, a, b x dx sx hf.1⟩
    · cases h
  unfold inF at h
  split at h
  · obtain ⟨a, vs, rfl, h3, r⟩ := sy.lst e
    exact ⟨a, vs, rfl, .inl (SqL.of h3), fin r h⟩
  · obtain ⟨a, vs, rfl, h3, r⟩ := sy.rdl e
    exact ⟨a, vs, rfl, .inl h3, fin r h⟩
  · obtain ⟨a, vs, rfl, h3, r⟩ := sy.tup e
    exact ⟨a, vs, rfl, .inr h3, fin r h⟩
  · obtain ⟨a, o, vs, rfl, h3, _, _, r⟩ := sy.tuf e
    exact ⟨a, vs, rfl, .inr (.inl (.inr ⟨o, h3⟩)), fin r h⟩
  · cases h
def oIn : O2 K where
  r := rIn K false
  f := blF inF false
  ok := fun F H x y dx dy rt Q e sx sy ef q => by
    unfold blF at ef
    split at ef
    · rename_i c hc
      cases ef
      obtain ⟨p, xs, e1, e2, e3, e4, e5⟩ := inF_ok e sx sy hc
      refine ⟨p, xs, e1, e2, e3, e4, ?_⟩
      rw [e5]
      exact q.bl e
    · cases ef
def oNotIn : O2 K where
  r := rIn K true
  f := blF inF true
  ok := fun F H x y dx dy rt Q e sx sy ef q => by
    unfold blF at ef
    split at ef
    · rename_i c hc
      cases ef
      obtain ⟨p, xs, e1, e2, e3, e4, e5⟩ := inF_ok e sx sy hc
      refine ⟨p, xs, e1, e2, e3, e4, ?_⟩
      rw [e5]
      exact q.bl e
    · cases ef
theorem op_inX {X : Cx} : OpR X (compareOp .In) (rIn X.K false) := op_in_seq
theorem op_notInX {X : Cx} : OpR X (compareOp .NotIn) (rIn X.K true) := op_notIn_seq
/-! ### isinstance with built-in types -/
def D.ty : D → Option String
  | .non => some "NoneType"
  | .bl _ => some "bool"
  | .int _ => some "int"
  | .str _ => some "str"
  | .tup _ => some "tuple"
  | .tuf _ => some "tuple"
  | .lst _ => some "list"
  | .dic _ _ => some "dict"
  | _ => none
theorem ty_see {F H : Hp} {v : V} {d : D} {T : String} (e : Le F H) (s : See K F H v d) (h : d.ty = some T) : TyX K H v (.type T) := by
  cases d with
  | non => cases h; rw [s.non]; exact .base .non
  | bl b => cases h; rw [s.bl]; exact .base (.bl b)
  | int b => cases h; rw [s.int]; exact .base (.int b)
  | str b => cases h; rw [s.str]; exact .base (.str b)
  | tup ds =>
    cases h
    obtain ⟨a, vs, rfl, h1, r⟩ := s.tup e
    rcases h1 with (h1 | ⟨o, h1⟩) | ⟨o, its, n, h1, h2, _⟩
    · exact .base (.tup h1)
    · exact .fTuple h1
    · exact .kTuple h1 h2
  | tuf ds =>
    cases h
    obtain ⟨a, o, vs, rfl, h1, _⟩ := s.tuf e
    exact .fTuple h1
  | lst ds =>
    cases h
    obtain ⟨a, vs, rfl, h1, r⟩ := s.lst e
    exact .base (.lst h1)
  | dic ks ds =>
    cases h
    obtain ⟨a, kvs, rfl, h1, _⟩ := s.dic e
    exact .base (.dK h1)
  | rdl _ => cases h
  | ins _ _ _ => cases h
/-- isinstance(x, T) -/
def isiE (T : String) (d : D) : Option Rt := match d.ty with
  | some t => (kitB t T).map fun b => .fz (.bl b)
  | none => none
def oIsi (T : String) : O1 K where
  r := fun x H Q => ∃ (t : Value) (b : Bool), TyX K H x t ∧ PySem.W.kitOne K t (.type T) = some b ∧ Q (.bl b) H
  f := isiE T
  ok := fun F H x dx rt Q e s ef q => by
    unfold isiE at ef
    split at ef
    · rename_i t ht
      obtain ⟨b, h1, h2⟩ := Option.map_eq_some_iff.mp ef
      subst h2
      exact ⟨.type t, b, ty_see e s ht, kit_ty h1, q.bl e⟩
    · cases ef
def SX.isi (T : String) (a : SX K) : SX K where
  te := fun W => tCB (rIsi K) (tCons (a.te W) (tCons (tC (.ty T)) tNil))
  ev := fun E => (a.ev E).bind fun ra E1 => look1 E1 ra (isiE T)
  ok := fun F H σ E A S W Q h => by
    refine XOk.seq S h fun x ra E1 F1 H1 A1 s1 S1 rx _ h1 => ?_
    unfold look1 at h1
    split at h1
    · rename_i da e1
      cases e : isiE T da with
      | none => rw [e] at h1; exact h1.elim
      | some rt =>
        rw [e] at h1
        obtain ⟨t, b, k1, k2, k3⟩ := (oIsi (K := K) T).ok F1 H1 x da rt Q S1.le (see_of S1 rx e1) e (h1.fin S1)
        exact ⟨x, .ty T, t, .type T, b, rfl, .ty T, k1, k2, k3⟩
    · exact h1.elim
/-! ### join -/
def strsOf : List D → Option (List Str)
  | [] => some []
  | .str b :: r => (strsOf r).map (b :: ·)
  | _ => none
theorem strs_reps {F : Hp} {vs : List V} {ds : List D} (r : Reps K F vs ds) : ∀ {bs : List Str}, strsOf ds = some bs → vs = bs.map V.str := by
  induction ds generalizing vs with
  | nil => intro bs h; cases r; cases h; rfl
  | cons d ds ih =>
    intro bs h
    cases r with
    | cons r t =>
      cases d with
      | str b =>
        obtain ⟨cs, h1, h2⟩ := Option.map_eq_some_iff.mp h
        subst h2
        rw [ih t h1, (See.fz (H := F) r).str]; rfl
      | _ => cases h
structure OB (K : PySem.W.Frag) where
  T : String
  r : V → List V → Hp → VK → Prop
  tb : D → Bool
  ty : ∀ (F H : Hp) (x : V) (d : D), Le F H → See K F H x d → tb d = true → tyV K T x H
  f : D → List D → Option Rt
  ok : ∀ (F H : Hp) (x : V) (d : D) (vs : List V) (ds : List D) (rt : Rt) (Q : VK), Le F H → See K F H x d → Reps K F vs ds → f d ds = some rt → VRes K F H Q rt → r x vs H Q
/-- a built-in method of a value that stays as it is -/
def SX.bm (o : OB K) (a : SX K) (p : SA K) : SX K where
  te := fun W => tBM K o.T o.r (a.te W) (p.ta W)
  ev := fun E => (a.ev E).bind fun ra E1 => (shareE E1 ra).bind fun d E2 => if o.tb d = true then (p.ev E2).bind fun ds E3 => rsOf E3 (o.f d ds) else .no
  ok := fun F H σ E A S W Q h => by
    refine a.ok F H σ E A S W _ ?_
    refine (h.bind).imp fun ra E1 F1 H1 A1 ⟨s1, S1, q1⟩ v rv fr => ?_
    unfold shareE at q1
    split at q1
    · rename_i d E2 e
      obtain ⟨A2, F2, s2, S2, rp, le2⟩ := shareR_ok S s1 S1 rv fr e
      rw [Rs.bind_ok] at q1
      split at q1
      · rename_i ht
        refine ⟨o.ty F2 H1 v d S2.le (.fz rp) ht, ?_⟩
        refine p.ok F2 H1 σ E2 A2 S2 W _ ?_
        refine ((q1.xp s2 S2).bind).imp fun ds E3 F3 H3 A3 ⟨s3, S3, q3⟩ vs rvs => ?_
        cases e3 : o.f d ds with
        | none => rw [e3] at q3; exact q3.elim
        | some rt =>
          rw [e3] at q3
          exact o.ok F3 H3 v d vs ds rt Q S3.le (.fz (rp.mono s3.fz)) rvs e3 ((q3.xp s3 S3).fin S3)
      · exact q1.elim
    · exact q1.elim
@[simp] def D.isStr : D → Bool
  | .str _ => true
  | _ => false
theorem isStr_ok {F H : Hp} {x : V} {d : D} (s : See K F H x d) (h : d.isStr = true) : tyV K "str" x H := by
  cases d with
  | str b => rw [s.str]; rfl
  | _ => cases h
def joinF : D → List D → Option Rt
  | .str a, [.lst ds] => match strsOf ds with
    | some ys => if (ys.map (·.length)).sum + ys.length * a.length ≤ 16777216 then some (.fz (.str (Txt.join a ys))) else none
    | none => none
  | _, _ => none
def oJoin : OB K where
  T := "str"
  r := fun x xs H Q => ∃ a p, ∃ ys : List Str, x = .str a ∧ xs = [.ref p] ∧ (SqL K H p (ys.map V.str) ∨ SqT K H p (ys.map V.str)) ∧
    (ys.map (·.length)).sum + ys.length * a.length ≤ 16777216 ∧ Q (.str (Txt.join a ys)) H
  tb := D.isStr
  ty := fun F H x d e s h => isStr_ok s h
  f := joinF
  ok := fun F H x d vs ds rt Q e s r ef q => by
    unfold joinF at ef
    split at ef
    · split at ef
      · rename_i a dl ys hy
        split at ef
        · rename_i hz
          cases ef
          obtain ⟨v, rfl, rv⟩ := r.one'
          obtain ⟨p, us, rfl, h3, r2⟩ := (See.fz rv).lst e
          have z := strs_reps r2 hy
          subst z
          rw [s.str]
          exact ⟨_, p, ys, rfl, rfl, .inl (SqL.of h3), hz, q.str e⟩
        · cases ef
      · cases ef
    · cases ef
/-! ### a[i] = e, a[i:j] = e of a slot -/
def setD (ds : List D) (i : Int) (d : D) : Option (List D) := (ixN ds.length i).map fun j => ds.set j d
def setE (i : Nat) (k : Int) (d : D) (E : En) : Fl := match gE E i with
  | .own (.lst ds) => match setD ds k d with
    | some ds' => .nx (E.set i (.own (.lst ds')))
    | none => .no
  | .par (.lst ds) => match setD ds k d with
    | some ds' => .nx (E.set i (.par (.lst ds')))
    | none => .no
  | _ => .no
def SS.setIx (i : Nat) (k a : SX K) : SS K where
  ts := fun W => tAsg (a.te W) (gSub (tVar i) (k.te W) rSetL)
  ev := fun E => (a.ev E).fl fun ra E1 => match shareR E1 ra with
    | none => .no
    | some (d, E2) => if (gE E2 i).mut = true then (k.ev E2).fl fun rk E3 => match look E3 rk with
      | some (.int j) => setE i j d E3
      | _ => .no else .no
  ok := fun F H σ E A S W N h => fl_seq S h fun x ra E1 F1 H1 A1 s1 S1 rx fx h1 => by
    split at h1
    · exact h1.elim
    · rename_i d E2 e
      obtain ⟨A2, F2, s2, S2, rp, _⟩ := shareR_ok S s1 S1 rx fx e
      -- the slot holds something, as it does behind the index
      have key : ∀ y rk E3 F3 H3 A3, Step A2 E2 F2 H1 A3 E3 F3 H3 → Stt K F3 H3 σ E3 A3 → RvR K F3 H3 A3 σ y rk → SPost K F H E A W N (match look E3 rk with | some (.int j) => setE i j d E3 | _ => .no) →
          ∃ l, gS σ i = some (.ref l) ∧ rSetL (.ref l) y x H3 (fun H4 => N.nx σ H4) := fun y rk E3 F3 H3 A3 s3 S3 ry q3 => by
        split at q3
        · rename_i j e3
          have ey := (see_of S3 ry e3).int
          subst ey
          unfold setE at q3
          have fin : ∀ (sl : D → Sl) (ds : List D), (gE E3 i).mut = true → gE E3 i = sl (.lst ds) → (∀ d, upS (gE E3 i) d = sl d) → (gE E3 i).d? = some (.lst ds) → SPost K F H E A W N (match setD ds j d with | some ds' => .nx (E3.set i (sl (.lst ds'))) | none => .no) →
              ∃ l, gS σ i = some (.ref l) ∧ rSetL (.ref l) (.int j) x H3 (fun H4 => N.nx σ H4) := fun sl ds hm _ hu hd q => by
            obtain ⟨l, o, d0, f1, f2, f3, f4, f5, f6⟩ := S3.mutAt hm
            rw [hd] at f6
            cases f6
            cases f5 with
            | @lst vs _ rs =>
              unfold setD at q
              cases ej : ixN ds.length j with
              | none => rw [ej] at q; exact q.elim
              | some n =>
                rw [ej] at q
                refine ⟨l, f2, l, vs, j, n, rfl, rfl, f3, by rw [rs.length]; exact ej, ?_⟩
                obtain ⟨t, T⟩ := mutate S3 f1 (.lst (Reps.set (rp.mono s3.fz) n rs)) (o := .lst vs)
                rw [hu] at t T
                exact q F3 _ σ A3 ((s2.trans S2 s3).trans S3 t) T
          split at q3
          · rename_i ds eg
            exact fin .own ds (by rw [eg]; rfl) eg (fun d => by rw [eg]; rfl) (by rw [eg]; rfl) q3
          · rename_i ds eg
            exact fin .par ds (by rw [eg]; rfl) eg (fun d => by rw [eg]; rfl) (by rw [eg]; rfl) q3
          · exact q3.elim
        · exact q3.elim
      split at h1
      · rename_i hm
        obtain ⟨l, _, _, _, g2, _⟩ := S2.mutAt hm
        refine ⟨.ref l, gS_some g2, ?_⟩
        refine fl_seq2 s2 S2 h1 fun y rk E3 F3 H3 A3 s3 S3 ry _ h3 => ?_
        obtain ⟨l', g2', r⟩ := key y rk E3 F3 H3 A3 s3 S3 ry h3
        rw [g2] at g2'
        cases g2'
        exact r
      · exact h1.elim
end DX
set_option Elab.async false
set_option linter.all false
set_option maxRecDepth 100000
namespace DX
open PySem PySem.Spec PyProof.Rows L2 RZ RT
variable {K : PySem.W.Frag}
/-! ### zip, reversed -/
def zipD : List D → List D → List D
  | a :: as, b :: bs => .tup [a, b] :: zipD as bs
  | _, _ => []
theorem zipD_len : ∀ (as bs : List D), (zipD as bs).length = min as.length bs.length
  | [], bs => by simp [zipD]
  | a :: as, [] => by simp [zipD]
  | a :: as, b :: bs => by simp [zipD, zipD_len as bs]
theorem zipD_get : ∀ {as bs : List D} {i : Nat} {a b : D}, as[i]? = some a → bs[i]? = some b → (zipD as bs)[i]? = some (.tup [a, b])
  | [], bs, i, a, b, h, _ => by simp at h
  | _ :: _, [], i, a, b, _, h => by simp at h
  | x :: as, y :: bs, 0, a, b, h, h' => by
    simp at h h'; subst h; subst h'; rfl
  | x :: as, y :: bs, i + 1, a, b, h, h' => by
    simp only [zipD, List.getElem?_cons_succ] at h h' ⊢
    exact zipD_get h h'
@[simp] def seqOf : D → Option (Bool × List D)
  | .lst ds => some (true, ds)
  | .rdl ds => some (true, ds)
  | .tup ds => some (false, ds)
  | .tuf ds => some (false, ds)
  | _ => none
theorem seqOf_ok {F H : Hp} {v : V} {d : D} {b : Bool} {ds : List D} (e : Le F H) (s : See K F H v d) (h : seqOf d = some (b, ds)) :
    ∃ a vs, v = .ref a ∧ Reps K F vs ds ∧ (if b = true then SqL K H a vs else SqT K H a vs) := by
  unfold seqOf at h
  split at h
  · cases h
    obtain ⟨a, vs, rfl, h3, r⟩ := s.lst e
    exact ⟨a, vs, rfl, r, by rw [if_pos rfl]; exact SqL.of h3⟩
  · cases h
    obtain ⟨a, vs, rfl, h3, r⟩ := s.rdl e
    exact ⟨a, vs, rfl, r, by rw [if_pos rfl]; exact h3⟩
  · cases h
    obtain ⟨a, vs, rfl, h3, r⟩ := s.tup e
    exact ⟨a, vs, rfl, r, by rw [if_neg Bool.false_ne_true]; exact h3⟩
  · cases h
    obtain ⟨a, o, vs, rfl, h3, _, _, r⟩ := s.tuf e
    exact ⟨a, vs, rfl, r, by rw [if_neg Bool.false_ne_true]; exact .inl (.inr ⟨o, h3⟩)⟩
  · cases h
theorem pair_rep {F H F' : Hp} {x y : V} {a b : D} {T : Addr} (e : Le F H) (rx : Rep K F x a) (ry : Rep K F y b) (hT : H T = none) :
    Grow F H (upd F T (.tup [x, y])) (upd H T (.tup [x, y])) ∧ Rep K (upd F T (.tup [x, y])) (.ref T) (.tup [a, b]) := by
  have g : Grow F H (upd F T (.tup [x, y])) (upd H T (.tup [x, y])) := Grow.new e hT
  exact ⟨g, .tup (.inl (.inl upd_same)) (.cons (rx.mono g.fz) (.one (ry.mono g.fz)))⟩
theorem walks_zipL {F : Hp} {p q : Addr} {vs us : List V} {ds es : List D} (h : SqL K F p vs) (h' : SqL K F q us) (r : Reps K F vs ds) (r' : Reps K F us es) : Walks K F (Itz K p q) (zipD ds es) := fun i F' H' l1 l2 => by
  have g1 := sqL_mono (l1.trans l2) h
  have g2 := sqL_mono (l1.trans l2) h'
  rw [zipD_len]
  refine ⟨fun hi => ?_, fun hi => ⟨vs, us, g1, g2, by rw [r.length, r'.length]; omega⟩⟩
  have i1 : i < ds.length := by omega
  have i2 : i < es.length := by omega
  obtain ⟨x, e1, rx⟩ := r.get (List.getElem?_eq_getElem i1)
  obtain ⟨y, e2, ry⟩ := r'.get (List.getElem?_eq_getElem i2)
  refine ⟨⟨vs, us, x, y, g1, g2, e1, e2⟩, fun v H2 z => ?_⟩
  obtain ⟨T, x', y', rfl, hT, rfl, z1, z2⟩ := z
  have w1 := z1 vs g1
  rw [e1] at w1; cases w1
  have w2 := z2 us g2
  rw [e2] at w2; cases w2
  obtain ⟨g, rp⟩ := pair_rep (F' := F') l2 (rx.mono l1) (ry.mono l1) hT
  exact ⟨_, _, g, zipD_get (List.getElem?_eq_getElem i1) (List.getElem?_eq_getElem i2), rp⟩
theorem walks_zipT {F : Hp} {p q : Addr} {vs us : List V} {ds es : List D} (h : SqT K F p vs) (h' : SqT K F q us) (r : Reps K F vs ds) (r' : Reps K F us es) : Walks K F (ItzT K p q) (zipD ds es) := fun i F' H' l1 l2 => by
  have g1 := sqT_mono (l1.trans l2) h
  have g2 := sqT_mono (l1.trans l2) h'
  rw [zipD_len]
  refine ⟨fun hi => ?_, fun hi => ⟨vs, us, g1, g2, by rw [r.length, r'.length]; omega⟩⟩
  have i1 : i < ds.length := by omega
  have i2 : i < es.length := by omega
  obtain ⟨x, e1, rx⟩ := r.get (List.getElem?_eq_getElem i1)
  obtain ⟨y, e2, ry⟩ := r'.get (List.getElem?_eq_getElem i2)
  refine ⟨⟨vs, us, x, y, g1, g2, e1, e2⟩, fun v H2 z => ?_⟩
  obtain ⟨T, x', y', rfl, hT, rfl, z1, z2⟩ := z
  have w1 := z1 vs g1
  rw [e1] at w1; cases w1
  have w2 := z2 us g2
  rw [e2] at w2; cases w2
  obtain ⟨g, rp⟩ := pair_rep (F' := F') l2 (rx.mono l1) (ry.mono l1) hT
  exact ⟨_, _, g, zipD_get (List.getElem?_eq_getElem i1) (List.getElem?_eq_getElem i2), rp⟩
@[simp] def zipE (a b : D) (E : En) : Rs (List D) := match seqOf a, seqOf b with
  | some (true, ds), some (true, es) => .ok (zipD ds es) E
  | some (false, ds), some (false, es) => .ok (zipD ds es) E
  | _, _ => .no
def SI.zip (a b : SX K) : SI K where
  wi := fun W => iZipA K (tCons (a.te W) (tCons (b.te W) tNil))
  ev := fun E => (a.ev E).bind fun ra E1 => (shareE E1 ra).bind fun da E2 => (b.ev E2).bind fun rb E3 => (shareE E3 rb).bind fun db E4 => zipE da db E4
  ok := fun F H σ E A S W R h => by
    refine a.ok F H σ E A S W _ ?_
    refine (h.bind).imp fun ra E1 F1 H1 A1 ⟨s1, S1, q1⟩ v rv fr => ?_
    unfold shareE at q1
    split at q1
    · rename_i da E2 e
      obtain ⟨A2, F2, s2, S2, rp, le2⟩ := shareR_ok S s1 S1 rv fr e
      rw [Rs.bind_ok] at q1
      refine b.ok F2 H1 σ E2 A2 S2 W _ ?_
      refine ((q1.later s2 S2 (fun _ _ _ _ _ p => p)).bind).imp fun rb E3 F3 H3 A3 ⟨s3, S3, q3⟩ u ru fu => ?_
      split at q3
      · rename_i db E4 e4
        obtain ⟨A4, F4, s4, S4, rp4, le4⟩ := shareR_ok S2 s3 S3 ru fu e4
        rw [Rs.bind_ok] at q3
        have rp' := rp.mono s4.fz
        unfold zipE at q3
        split at q3
        · rename_i ds es h1 h2
          obtain ⟨p, vs, rfl, r1, k1⟩ := seqOf_ok (Le.refl F4) (.fz rp') h1
          obtain ⟨q, us, rfl, r2, k2⟩ := seqOf_ok (Le.refl F4) (.fz rp4) h2
          rw [if_pos rfl] at k1 k2
          exact ⟨p, q, vs, us, rfl, .inl ⟨sqL_mono S4.le k1, sqL_mono S4.le k2, q3 F4 H3 A4 s4 S4 _ (walks_zipL k1 k2 r1 r2)⟩⟩
        · rename_i ds es h1 h2
          obtain ⟨p, vs, rfl, r1, k1⟩ := seqOf_ok (Le.refl F4) (.fz rp') h1
          obtain ⟨q, us, rfl, r2, k2⟩ := seqOf_ok (Le.refl F4) (.fz rp4) h2
          rw [if_neg Bool.false_ne_true] at k1 k2
          exact ⟨p, q, vs, us, rfl, .inr ⟨sqT_mono S4.le k1, sqT_mono S4.le k2, q3 F4 H3 A4 s4 S4 _ (walks_zipT k1 k2 r1 r2)⟩⟩
        · exact q3.elim
      · exact q3.elim
    · exact q1.elim
theorem walks_revL {F : Hp} {p : Addr} {vs : List V} {ds : List D} (h : SqL K F p vs) (r : Reps K F vs ds) : Walks K F (Itv K p vs.length) ds.reverse := fun i F' H' l1 l2 => by
  have g1 := sqL_mono (l1.trans l2) h
  rw [List.length_reverse, r.length]
  refine ⟨fun hi => ?_, fun hi => hi⟩
  have j : ds.length - 1 - i < ds.length := by omega
  obtain ⟨x, e1, rx⟩ := r.get (List.getElem?_eq_getElem j)
  refine ⟨⟨hi, vs, x, g1, e1⟩, fun v H2 z => ?_⟩
  obtain ⟨rfl, z2⟩ := z
  have w := z2 vs g1
  rw [e1] at w; cases w
  exact ⟨F', _, Grow.refl l2, by rw [List.getElem?_reverse hi]; exact List.getElem?_eq_getElem j, rx.mono l1⟩
theorem walks_revT {F : Hp} {p : Addr} {vs : List V} {ds : List D} (h : SqT K F p vs) (r : Reps K F vs ds) : Walks K F (ItvT K p vs.length) ds.reverse := fun i F' H' l1 l2 => by
  have g1 := sqT_mono (l1.trans l2) h
  rw [List.length_reverse, r.length]
  refine ⟨fun hi => ?_, fun hi => hi⟩
  have j : ds.length - 1 - i < ds.length := by omega
  obtain ⟨x, e1, rx⟩ := r.get (List.getElem?_eq_getElem j)
  refine ⟨⟨hi, vs, x, g1, e1⟩, fun v H2 z => ?_⟩
  obtain ⟨rfl, z2⟩ := z
  have w := z2 vs g1
  rw [e1] at w; cases w
  exact ⟨F', _, Grow.refl l2, by rw [List.getElem?_reverse hi]; exact List.getElem?_eq_getElem j, rx.mono l1⟩
def SI.rev (a : SX K) : SI K where
  wi := fun W => iRevA K (a.te W)
  ev := fun E => (a.ev E).bind fun ra E1 => (shareE E1 ra).bind fun d E2 => match seqOf d with
    | some (_, ds) => .ok ds.reverse E2
    | none => .no
  ok := fun F H σ E A S W R h => by
    refine a.ok F H σ E A S W _ ?_
    refine (h.bind).imp fun ra E1 F1 H1 A1 ⟨s1, S1, q1⟩ v rv fr => ?_
    unfold shareE at q1
    split at q1
    · rename_i da E2 e
      obtain ⟨A2, F2, s2, S2, rp, le2⟩ := shareR_ok S s1 S1 rv fr e
      rw [Rs.bind_ok] at q1
      split at q1
      · rename_i b ds hd
        obtain ⟨p, vs, rfl, r, k⟩ := seqOf_ok (Le.refl F2) (.fz rp) hd
        cases b with
        | true => rw [if_pos rfl] at k; exact ⟨p, vs, rfl, .inl ⟨sqL_mono S2.le k, q1 F2 H1 A2 s2 S2 _ (walks_revL k r)⟩⟩
        | false => rw [if_neg Bool.false_ne_true] at k; exact ⟨p, vs, rfl, .inr ⟨sqT_mono S2.le k, q1 F2 H1 A2 s2 S2 _ (walks_revT k r)⟩⟩
      · exact q1.elim
    · exact q1.elim
/-- xs[::-1], a list -/
@[simp] def revF : D → Option Rt
  | .lst ds => some (.tmp (.lst ds.reverse))
  | .rdl ds => some (.tmp (.lst ds.reverse))
  | _ => none
def SX.revSl (a : SX K) : SX K where
  te := fun W => tRevL K (a.te W)
  ev := fun E => (a.ev E).bind fun ra E1 => look1 E1 ra revF
  ok := fun F H σ E A S W Q h => by
    refine XOk.seq S h fun x ra E1 F1 H1 A1 s1 S1 rx _ h1 => ?_
    unfold look1 at h1
    split at h1
    · rename_i da e1
      have sx := see_of S1 rx e1
      unfold revF at h1
      split at h1
      · obtain ⟨a, vs, rfl, h3, r⟩ := sx.lst S1.le
        exact ⟨a, vs, rfl, SqL.of h3, (h1.fin (rt := .tmp _) S1).lst S1.le r.reverse⟩
      · obtain ⟨a, vs, rfl, h3, r⟩ := sx.rdl S1.le
        exact ⟨a, vs, rfl, h3, (h1.fin (rt := .tmp _) S1).lst S1.le r.reverse⟩
      · exact h1.elim
    · exact h1.elim
/-! ### tuple(xs): one that is known to its object -/
def rTuf (K : PySem.W.Frag) : List V → Hp → VK → Prop := fun xs H Q => ∃ p ys, xs = [.ref p] ∧ SqL K H p ys ∧ ∀ l o, H l = none → o.cls = .type "tuple" → o.dict = none → Q (.ref l) (upd H l (.frz o (.tup ys)))
theorem call_tuf {X : Cx} : CallR X (.type "tuple") (rTuf X.K) := by
  intro pins s σ H xs us Q I r h
  obtain ⟨p, ys, rfl, hq, q⟩ := h
  obtain ⟨u, rfl, rx⟩ := vals1 r
  cases rx
  obtain ⟨its, rv, pl, hz⟩ := I.list hq
  have hn := rv.length
  refine call_tuple_list pl.isList (fun g kp => ?_) (by rw [List.size_toArray]; omega)
  have Ia : Inv X pins σ H { s with heap := g } := I.kept (t' := s.toks) kp
  have at0 : (g.push { cls := .type "tuple", data := .seq its.toArray }).get? g.objs.size = some { cls := .type "tuple", data := .seq its.toArray } := Heap.get?_push_size _ rfl
  have Ib : Inv X pins σ (upd H g.objs.size (.frz { cls := .type "tuple", data := .seq its.toArray } (.tup ys))) { s with heap := g.push { cls := .type "tuple", data := .seq its.toArray } } :=
    Ia.laid (t' := s.toks) (fun b o z => Heap.get?_push_of_some _ z) (Nat.le_refl _) (show ObjOk X.prog X.w _ _ _ (.frz _ (.tup ys)) from ⟨at0, hz, its, rv, IsTup.new _ _⟩)
  exact ⟨.ref g.objs.size, _, Ib, rfl, q _ _ (Ia.hok.fresh (Nat.le_refl _)) rfl rfl⟩
@[simp] def tufF : List D → Option Rt
  | [.lst ds] => some (.fz (.tuf ds))
  | [.rdl ds] => some (.fz (.tuf ds))
  | _ => none
def oTuf : ON K where
  r := rTuf K
  f := tufF
  ok := fun F H xs ds rt Q e r ef q => by
    have fin : ∀ {vs : List V} {ds : List D}, Reps K F vs ds → VRes K F H Q (.fz (.tuf ds)) → ∀ l o, H l = none → o.cls = .type "tuple" → o.dict = none → Q (.ref l) (upd H l (.frz o (.tup vs))) := fun r q l o hl h1 h2 =>
      q _ _ _ (Grow.new e hl) (.fz (.tuf upd_same h1 h2 (r.mono (Grow.new e hl).fz)))
    unfold tufF at ef
    split at ef
    · cases ef
      obtain ⟨v, rfl, rv⟩ := r.one'
      obtain ⟨a, vs, rfl, h3, r⟩ := (See.fz rv).lst e
      exact ⟨_, _, rfl, SqL.of h3, fin r q⟩
    · cases ef
      obtain ⟨v, rfl, rv⟩ := r.one'
      obtain ⟨a, vs, rfl, h3, r⟩ := (See.fz rv).rdl e
      exact ⟨_, _, rfl, h3, fin r q⟩
    · cases ef
/-! ### a method of such a tuple -/
def tBT (K : PySem.W.Frag) (r : V → List V → Hp → VK → Prop) (to : TE) (t : TA) : TE := fun σ H Q => to σ H fun x H1 => (∃ p o xs, x = .ref p ∧ H1 p = some (.frz o (.tup xs)) ∧ o.cls = .type "tuple" ∧ o.dict = none) ∧ t σ H1 fun ys H2 => r x ys H2 Q
theorem pe_bt {X : Cx} {name : Str} {id : String} {r : V → List V → Hp → VK → Prop} {o e : Expr} {es : List Expr} {to : TE} {t : TA} {apos cpos : Pos} (slot : Slot "tuple" name id) (hty : typeOf (.builtin id) = pure (.type "method_descriptor")) (hm : MtR X id r) (ho : PE X o to) (ha : PA X (e :: es) t)
    (h1 : attributeBase o name X.env (eval o X.env) = eval o X.env := by rfl)
    (h2 : ((backTo cpos (starEach (e :: es) X.env)).all (fun x => !x.1) && (backToKw cpos (keywordEach [] X.env)).all (fun x => x.1.isSome) && decide ((e :: es).length + ([] : List Keyword).length + (if ([] : List Keyword).isEmpty then 0 else 1) < 30)) = true := by rfl)
    (h3 : (apos.endLine == cpos.line) = true := by rfl) (h4 : starEach (e :: es) X.env = (false, eval e X.env) :: starEach es X.env := by rfl) (h5 : (backTo cpos (starEach es X.env)).any (·.1) = false := by rfl) :
    PE X (.Call (.Attribute o name apos) (e :: es) [] cpos) (tBT X.K r to t) := by
  refine ⟨fun pins s σ H Q I w => ?_⟩
  refine wpAny_Call_method_late h1 h2 h3 rfl (thn (ho.run pins s σ H _ I w) fun v s1 ⟨x, H1, I1, rx, ⟨p, ob, xs, ex, hp, hc, hd⟩, q1⟩ => ?_)
  subst ex
  cases rx
  have hob := (I1.hok p _ hp).1
  refine ⟨"tuple", id, PySem.F.plainAttrs_tuple, slot, hty, ⟨ob, hob, hc⟩, fun a z => ?_, ?_⟩
  · cases z; exact ⟨ob, hob, hd⟩
  have hA := ha.run cpos pins s1 σ H1 _ I1 q1
  rw [h4] at hA ⊢
  refine Calls.callWith_builtin (by show (false || (backTo cpos (starEach es X.env)).any (·.1)) = false; rw [h5] <;> rfl) (Calls.evalArgs_plain ?_)
  exact thn hA fun us s2 ⟨ys, H2, I2, r2, q2⟩ => hm pins s2 σ H2 (.ref p) ys (.ref p) us Q I2 rfl r2 q2
def idxS : List Str → Str → Option Nat
  | [], _ => none
  | y :: ys, z => if y = z then some 0 else (idxS ys z).map (· + 1)
theorem idxS_ok : ∀ {ys : List Str} {z : Str} {j : Nat}, idxS ys z = some j → ys[j]? = some z ∧ ∀ m, m < j → ys[m]? ≠ some z
  | [], z, j, h => by cases h
  | y :: ys, z, j, h => by
    unfold idxS at h
    split at h
    · rename_i e; cases h; exact ⟨by rw [e]; rfl, fun m hm => by omega⟩
    · rename_i ne
      obtain ⟨k, hk, rfl⟩ := Option.map_eq_some_iff.mp h
      obtain ⟨a, b⟩ := idxS_ok hk
      refine ⟨by simpa using a, fun m hm => ?_⟩
      cases m with
      | zero => intro w; exact ne (by simpa using w)
      | succ m => simpa using b m (by omega)
def SX.tindex (a b : SX K) : SX K where
  te := fun W => tBT K (fun x xs H Q => ∃ p, ∃ ys : List Str, ∃ z j, x = .ref p ∧ xs = [.str z] ∧ SqT K H p (ys.map V.str) ∧ ys[j]? = some z ∧ (∀ m, m < j → ys[m]? ≠ some z) ∧ Q (.int (j : Nat)) H) (a.te W) (tCons (b.te W) tNil)
  ev := fun E => (a.ev E).bind fun ra E1 => (shareE E1 ra).bind fun d E2 => match d with
    | .tuf ds => match strsOf ds with
      | some ys => (b.ev E2).bind fun rb E3 => match look E3 rb with
        | some (.str z) => match idxS ys z with
          | some j => .ok (.fz (.int (j : Nat))) E3
          | none => .no
        | _ => .no
      | none => .no
    | _ => .no
  ok := fun F H σ E A S W Q h => by
    refine a.ok F H σ E A S W _ ?_
    refine (h.bind).imp fun ra E1 F1 H1 A1 ⟨s1, S1, q1⟩ v rv fr => ?_
    unfold shareE at q1
    split at q1
    · rename_i d E2 e
      obtain ⟨A2, F2, s2, S2, rp, le2⟩ := shareR_ok S s1 S1 rv fr e
      rw [Rs.bind_ok] at q1
      split at q1
      · rename_i ds
        split at q1
        · rename_i ys hy
          obtain ⟨p, o, vs, rfl, h3, hc, hd, r⟩ := (See.fz rp).tuf (Le.refl F2)
          have zv := strs_reps r hy
          subst zv
          refine ⟨⟨p, o, _, rfl, S2.le _ _ h3, hc, hd⟩, ?_⟩
          refine b.ok F2 H1 σ E2 A2 S2 W _ ?_
          refine ((q1.xp s2 S2).bind).imp fun rb E3 F3 H3 A3 ⟨s3, S3, q3⟩ u ru fu => ?_
          split at q3
          · rename_i z ez
            split at q3
            · rename_i j hj
              have eu := (see_of S3 ru ez).str
              subst eu
              obtain ⟨k1, k2⟩ := idxS_ok hj
              exact ⟨p, ys, z, j, rfl, rfl, .inl (.inr ⟨o, S3.le _ _ (s3.fz _ _ h3)⟩), k1, k2, ((q3.xp s3 S3).fin (rt := .fz (.int (j : Nat))) S3).int S3.le⟩
            · exact q3.elim
          · exact q3.elim
        · exact q1.elim
      · exact q1.elim
    · exact q1.elim
theorem pe_tindex {X : Cx} {o e : Expr} {to te : TE} {apos cpos : Pos} (ho : PE X o to) (he : PE X e te)
    (h1 : attributeBase o "index" X.env (eval o X.env) = eval o X.env := by rfl)
    (h2 : ((backTo cpos (starEach [e] X.env)).all (fun x => !x.1) && (backToKw cpos (keywordEach [] X.env)).all (fun x => x.1.isSome) && decide (([e] : List Expr).length + ([] : List Keyword).length + (if ([] : List Keyword).isEmpty then 0 else 1) < 30)) = true := by rfl)
    (h3 : (apos.endLine == cpos.line) = true := by rfl) (h4 : starEach [e] X.env = (false, eval e X.env) :: starEach [] X.env := by rfl) :
    PE X (.Call (.Attribute o "index" apos) [e] [] cpos) (tBT X.K (fun x xs H Q => ∃ p, ∃ ys : List Str, ∃ z j, x = .ref p ∧ xs = [.str z] ∧ SqT X.K H p (ys.map V.str) ∧ ys[j]? = some z ∧ (∀ m, m < j → ys[m]? ≠ some z) ∧ Q (.int (j : Nat)) H) to (tCons te tNil)) :=
  pe_bt PySem.F.slot_tuple_index PySem.F.type_tuple_index mt_tup_index ho (pa_cons he pa_nil h4) h1 h2 h3 h4 rfl
end DX
set_option Elab.async false
set_option linter.all false
set_option maxRecDepth 100000
namespace DX
open PySem PySem.Spec PyProof.Rows L2 RZ RT
variable {K : PySem.W.Frag}
/-! ### dicts -/
abbrev KR (K : PySem.W.Frag) (F : Hp) : List (Key × V) → List (Key × D) → Prop := Paired fun p q => p.1 = q.1 ∧ Rep K F p.2 q.2
def KD.ks (ps : List (Key × D)) : List Key := ps.map (·.1)
def KD.ds (ps : List (Key × D)) : List D := ps.map (·.2)
def D.dct (ps : List (Key × D)) : D := .dic (ps.map (·.1)) (ps.map (·.2))
theorem KR.maps {F : Hp} : ∀ {kvs : List (Key × V)} {ps : List (Key × D)}, KR K F kvs ps → kvs.map (·.1) = ps.map (·.1) ∧ Reps K F (kvs.map (·.2)) (ps.map (·.2))
  | _, _, .nil => ⟨rfl, .nil⟩
  | _, _, .cons h t => by
    obtain ⟨a, b⟩ := KR.maps t
    exact ⟨by rw [List.map_cons, List.map_cons, a, h.1], .cons h.2 b⟩
theorem KR.of : ∀ {F : Hp} {kvs : List (Key × V)} {ps : List (Key × D)}, kvs.map (·.1) = ps.map (·.1) → Reps K F (kvs.map (·.2)) (ps.map (·.2)) → KR K F kvs ps
  | _, [], [], _, _ => .nil
  | _, [], _ :: _, h, _ => by simp at h
  | _, _ :: _, [], h, _ => by simp at h
  | _, a :: kvs, b :: ps, h, r => by
    rw [List.map_cons, List.map_cons, List.cons.injEq] at h
    cases r with
    | cons r1 r2 => exact .cons ⟨h.1, r1⟩ (KR.of h.2 r2)
theorem KR.mono {F F' : Hp} (e : Le F F') : ∀ {kvs : List (Key × V)} {ps : List (Key × D)}, KR K F kvs ps → KR K F' kvs ps
  | _, _, .nil => .nil
  | _, _, .cons h t => .cons ⟨h.1, h.2.mono e⟩ (KR.mono e t)
theorem KR.cont {F : Hp} {kvs : List (Key × V)} {ps : List (Key × D)} (r : KR K F kvs ps) : Cont K F (.dK kvs) (D.dct ps) := .dic r.maps.1 rfl r.maps.2
def putP (ps : List (Key × D)) (k : Key) (d : D) : List (Key × D) := if (ps.any fun p => decide (p.1 = k)) = true then ps.map (fun p => if p.1 = k then (p.1, d) else p) else ps ++ [(k, d)]
def mergeP (ps more : List (Key × D)) : List (Key × D) := more.foldl (fun acc p => putP acc p.1 p.2) ps
theorem KR.any {F : Hp} (k : Key) : ∀ {kvs : List (Key × V)} {ps : List (Key × D)}, KR K F kvs ps → (kvs.any fun p => decide (p.1 = k)) = ps.any fun p => decide (p.1 = k)
  | _, _, .nil => rfl
  | _, _, .cons h t => by rw [List.any_cons, List.any_cons, KR.any k t, h.1]
theorem KR.set {F : Hp} {k : Key} {v : V} {d : D} (r : Rep K F v d) : ∀ {kvs : List (Key × V)} {ps : List (Key × D)}, KR K F kvs ps → KR K F (kvs.map fun p => if p.1 = k then (p.1, v) else p) (ps.map fun p => if p.1 = k then (p.1, d) else p)
  | _, _, .nil => .nil
  | _, _, .cons (a := a) (b := b) h t => by
    rw [List.map_cons, List.map_cons]
    refine .cons ?_ (KR.set r t)
    rw [h.1]
    by_cases e : b.1 = k
    · rw [if_pos e, if_pos e]; exact ⟨rfl, r⟩
    · rw [if_neg e, if_neg e]; exact h
theorem KR.append {F : Hp} : ∀ {kvs kvs' : List (Key × V)} {ps ps' : List (Key × D)}, KR K F kvs ps → KR K F kvs' ps' → KR K F (kvs ++ kvs') (ps ++ ps')
  | _, _, _, _, .nil, s => s
  | _, _, _, _, .cons h t, s => .cons h (KR.append t s)
theorem KR.put {F : Hp} {k : Key} {v : V} {d : D} {kvs : List (Key × V)} {ps : List (Key × D)} (h : KR K F kvs ps) (r : Rep K F v d) : KR K F (putK kvs k v) (putP ps k d) := by
  unfold putK putP
  rw [h.any k]
  split
  · exact h.set r
  · exact h.append (.cons ⟨rfl, r⟩ .nil)
theorem KR.merge {F : Hp} : ∀ {more : List (Key × V)} {mps : List (Key × D)} {kvs : List (Key × V)} {ps : List (Key × D)}, KR K F more mps → KR K F kvs ps → KR K F (mergeK kvs more) (mergeP ps mps)
  | _, _, _, _, .nil, h => h
  | _, _, _, _, .cons (a := a) (b := b) q t, h => by
    unfold mergeK mergeP
    rw [List.foldl_cons, List.foldl_cons, q.1]
    exact KR.merge t (h.put q.2)
def getP (ps : List (Key × D)) (k : Key) : Option D := (ps.find? fun p => decide (p.1 = k)).map (·.2)
theorem KR.get {F : Hp} (k : Key) : ∀ {kvs : List (Key × V)} {ps : List (Key × D)}, KR K F kvs ps → (valV kvs k = none ∧ getP ps k = none) ∨ ∃ v d, valV kvs k = some v ∧ getP ps k = some d ∧ Rep K F v d
  | _, _, .nil => .inl ⟨rfl, rfl⟩
  | _, _, .cons (a := a) (b := b) h t => by
    unfold valV getP
    rw [List.find?_cons, List.find?_cons, h.1]
    by_cases e : b.1 = k
    · simp only [e, decide_true]
      exact .inr ⟨_, _, rfl, rfl, h.2⟩
    · simp only [e, decide_false]
      exact KR.get k t
def zipK : List Key → List D → List (Key × D)
  | k :: ks, d :: ds => (k, d) :: zipK ks ds
  | _, _ => []
theorem zipK_maps {F : Hp} : ∀ {ks : List Key} {vs : List V} {ds : List D}, ks.length = vs.length → Reps K F vs ds → (zipK ks ds).map (·.1) = ks ∧ (zipK ks ds).map (·.2) = ds
  | [], _, _, h, r => by
    cases r with
    | nil => exact ⟨rfl, rfl⟩
    | cons _ _ => simp at h
  | k :: ks, _, _, h, r => by
    cases r with
    | nil => simp at h
    | cons _ t =>
      obtain ⟨a, b⟩ := zipK_maps (ks := ks) (by simpa using h) t
      exact ⟨by simp [zipK, a], by simp [zipK, b]⟩
@[simp] theorem zipK_dct (ps : List (Key × D)) : zipK (ps.map (·.1)) (ps.map (·.2)) = ps := by
  induction ps with
  | nil => rfl
  | cons p ps ih => simp [zipK, ih]
theorem See.dct {F H : Hp} {v : V} {ks : List Key} {ds : List D} (e : Le F H) (s : See K F H v (.dic ks ds)) : ∃ a kvs, v = .ref a ∧ H a = some (.dK kvs) ∧ KR K F kvs (zipK ks ds) := by
  obtain ⟨a, kvs, rfl, h, h1, r⟩ := s.dic e
  obtain ⟨z1, z2⟩ := zipK_maps (ks := ks) (by rw [← h1]; simp) r
  exact ⟨a, kvs, rfl, h, KR.of (by rw [z1, h1]) (by rw [z2]; exact r)⟩
@[simp] def keyD : D → Option Key
  | .int i => some (.inl i)
  | .str x => some (.inr x)
  | _ => none
theorem keyD_see {F H : Hp} {v : V} {d : D} {k : Key} (s : See K F H v d) (h : keyD d = some k) : v = kV k := by
  cases d with
  | int i => cases h; exact s.int
  | str i => cases h; exact s.str
  | _ => cases h
/-- d.get(k, x) -/
def SX.dget2 (a b c : SX K) : SX K where
  te := fun W => tDGet2 (a.te W) (b.te W) (c.te W)
  ev := fun E => (a.ev E).bind fun ra E1 => (shareE E1 ra).bind fun d E2 => match d with
    | .dic ks ds => (b.ev E2).bind fun rb E3 => (shareE E3 rb).bind fun k E4 => (c.ev E4).bind fun rc E5 => (shareE E5 rc).bind fun z E6 => match keyD k with
      | some k => .ok (.fz ((getP (zipK ks ds) k).getD z)) E6
      | none => .no
    | _ => .no
  ok := fun F H σ E A S W Q h => by
    refine a.ok F H σ E A S W _ ?_
    refine (h.bind).imp fun ra E1 F1 H1 A1 ⟨s1, S1, q1⟩ v rv fr => ?_
    unfold shareE at q1
    split at q1
    · rename_i d E2 e
      obtain ⟨A2, F2, s2, S2, rp, le2⟩ := shareR_ok S s1 S1 rv fr e
      rw [Rs.bind_ok] at q1
      split at q1
      · rename_i ks ds
        obtain ⟨p, kvs, rfl, hp, r⟩ := (See.fz rp).dct (Le.refl F2)
        refine ⟨p, rfl, .inl ⟨kvs, .inl (S2.le _ _ hp)⟩, ?_⟩
        refine b.ok F2 H1 σ E2 A2 S2 W _ ?_
        refine ((q1.xp s2 S2).bind).imp fun rb E3 F3 H3 A3 ⟨s3, S3, q3⟩ u ru fu => ?_
        split at q3
        · rename_i k E4 e4
          obtain ⟨A4, F4, s4, S4, rp4, le4⟩ := shareR_ok S2 s3 S3 ru fu e4
          rw [Rs.bind_ok] at q3
          refine c.ok F4 H3 σ E4 A4 S4 W _ ?_
          refine ((q3.xp s4 S4).bind).imp fun rc E5 F5 H5 A5 ⟨s5, S5, q5⟩ z rz fz => ?_
          split at q5
          · rename_i zd E6 e6
            obtain ⟨A6, F6, s6, S6, rp6, le6⟩ := shareR_ok S4 s5 S5 rz fz e6
            rw [Rs.bind_ok] at q5
            split at q5
            · rename_i kk hk
              have ek := keyD_see (See.fz (H := F4) rp4) hk
              subst ek
              have hp6 : H5 p = some (.dK kvs) := S6.le _ _ (s6.fz _ _ (s4.fz _ _ hp))
              have r6 := (r.mono s4.fz).mono s6.fz
              have fin := (q5.xp s6 S6).fin (rt := .fz ((getP (zipK ks ds) kk).getD zd)) S6
              rcases r6.get kk with ⟨g1, g2⟩ | ⟨v, d, g1, g2, g3⟩
              · refine ⟨none, ?_, ?_⟩
                · rw [← g1]; exact DGet.k hp6
                · rw [g2] at fin; exact fin.val S6.le rp6
              · refine ⟨some v, ?_, ?_⟩
                · rw [← g1]; exact DGet.k hp6
                · rw [g2] at fin; exact fin.val S6.le g3
            · exact q5.elim
          · exact q5.elim
        · exact q3.elim
      · exact q1.elim
    · exact q1.elim
/-- dict(t) of a tuple of pairs that is known to its object -/
def rDictT (K : PySem.W.Frag) : List V → Hp → VK → Prop := fun xs H Q => ∃ (a : Addr) (o : Obj) (ps : List Addr) (kvs : List (Key × V)), xs = [.ref a] ∧ H a = some (.frz o (.tup (ps.map V.ref))) ∧ o.cls = .type "tuple" ∧ o.dict = none ∧
  Paired (fun p kv => SqT K H p [kV kv.1, kv.2]) ps kvs ∧ ∀ p, H p = none → Q (.ref p) (upd H p (.dK (mergeK [] kvs)))
theorem pairsT {X : Cx} {pins : List (Addr × Obj)} {σ : Sg} {H : Hp} {s : Shared} (I : Inv X pins σ H s) : ∀ {ps : List Addr} {kvs : List (Key × V)}, Paired (fun p kv => SqT X.K H p [kV kv.1, kv.2]) ps kvs →
    ∃ (us : List (Value × Value)) (prs : List (Key × Value)), KV kvs prs ∧ us.length = ps.length ∧ prs.length = ps.length ∧ ∀ (j : Nat) (k v : Value), us[j]? = some (k, v) → ∃ (b : Addr) (kk : Key), ps[j]? = some b ∧ IsTup s.heap b #[k, v] ∧ prs[j]? = some (kk, v) ∧ keyIs kk k = true
  | _, _, .nil => ⟨[], [], .nil, rfl, rfl, fun j k v e => by simp at e⟩
  | _, _, .cons (a := p) (b := kv) h t => by
    obtain ⟨us, prs, r, l1, l2, hp⟩ := pairsT I t
    obtain ⟨its, rv, ht, _⟩ := I.tuple h
    obtain ⟨u, y, ei, ru, ry⟩ := vals2 rv
    subst ei
    refine ⟨(u, y) :: us, (kv.1, y) :: prs, .cons ⟨rfl, ry⟩ r, by simp [l1], by simp [l2], fun j k v e => ?_⟩
    cases j with
    | zero =>
      simp at e
      obtain ⟨rfl, rfl⟩ := e
      refine ⟨p, kv.1, rfl, ht, rfl, ?_⟩
      cases hk : kv.1 with
      | inl i =>
        rw [hk] at ru
        obtain ⟨t, rfl⟩ := (show ∃ t, u = Value.int i t from ru)
        exact keyIs_int i t
      | inr i =>
        rw [hk] at ru
        obtain ⟨t, rfl⟩ := (show ∃ t, u = Value.str i t from ru)
        exact keyIs_str i t
    | succ j =>
      obtain ⟨b, kk, e1, e2, e3, e4⟩ := hp j k v (by simpa using e)
      exact ⟨b, kk, by simpa using e1, e2, by simpa using e3, e4⟩
theorem call_dictT {X : Cx} (hcalm : X.calm = true) : CallR X (.type "dict") (rDictT X.K) := by
  intro pins s σ H xs ws Q I r q
  obtain ⟨a, o, ps, kvs, rfl, ha, hc, hd, hp, q⟩ := q
  obtain ⟨w, rfl, rx⟩ := vals1 r
  cases rx
  have ho := (I.hok a _ ha).1
  obtain ⟨hz, its, rv, ⟨o', ho', _, n, hdat⟩⟩ := (I.hok a _ ha).2
  rw [ho] at ho'
  cases ho'
  have ei := refs_at rv
  subst ei
  rw [List.length_map] at hz
  obtain ⟨us, prs, rel, l1, l2, hpr⟩ := pairsT I hp
  have P := PySem.PairArg.tuple (prog := X.prog) (w := X.w) a (ps.map Value.ref).toArray (fun j => (ps[j]?).getD 0) us
  have ok : PySem.PlainSeq "tuple" s.heap a (ps.map Value.ref).toArray ∧ PySem.PairItems s.heap (ps.map Value.ref).toArray (fun j => (ps[j]?).getD 0) us := by
    refine ⟨⟨o, n, ho, hc, hd, hdat⟩, by simp [l1], fun j k v e => ?_⟩
    obtain ⟨b, kk, e1, e2, _⟩ := hpr j k v e
    refine ⟨by simp [e1], ?_⟩
    show PySem.PairAt s.heap ((ps[j]?).getD 0) k v
    rw [e1]
    exact .inl e2
  refine PySem.call_dict_pairs (knd := mixKind X.prog X.w) (kvs := prs) P (I.ok.hd hcalm) ok ⟨by rw [l2, l1], fun i key v e => ?_⟩ (by rw [l1]; exact hz) fun h' tk hd' kp => ?_
  · obtain ⟨b, kk, _, _, e3, e4⟩ := hpr i key v e
    exact ⟨kk, e3, e4⟩
  · have nm : (s.heap.objs.size == sysModules) = false := beq_eq_false_iff_ne.mpr (Nat.ne_of_gt I.big)
    have le : (mergeK [] kvs).length ≤ sizeLine := by
      refine Nat.le_trans (length_mergeK kvs []) ?_
      rw [List.length_nil, Nat.zero_add, rel.length, l2]; exact hz
    exact ⟨.ref s.heap.objs.size, upd H s.heap.objs.size (.dK (mergeK [] kvs)), I.laid (t' := tk) (fun b u e => kp b u (by simp) e) (Nat.le_refl _) (show ObjOk X.prog X.w _ _ _ (.dK (mergeK [] kvs)) from ⟨le, nm, merged [] prs, KV.merge rel .nil, hd'⟩), rfl, q _ (I.hok.fresh (Nat.le_refl _))⟩
def pairD : D → Option (Key × D)
  | .tup [k, d] => (keyD k).map fun k => (k, d)
  | _ => none
def pairsD : List D → Option (List (Key × D))
  | [] => some []
  | d :: ds => match pairD d, pairsD ds with
    | some p, some ps => some (p :: ps)
    | _, _ => none
theorem pairsD_ok {F : Hp} : ∀ {ds : List D} {vs : List V} {ps : List (Key × D)}, Reps K F vs ds → pairsD ds = some ps → ∃ (as : List Addr) (kvs : List (Key × V)), vs = as.map V.ref ∧ Paired (fun p kv => SqT K F p [kV kv.1, kv.2]) as kvs ∧ KR K F kvs ps
  | [], _, _, r, h => by cases r; cases h; exact ⟨[], [], rfl, .nil, .nil⟩
  | d :: ds, _, _, r, h => by
    cases r with
    | cons r1 r2 =>
      unfold pairsD at h
      split at h
      · rename_i p ps e1 e2
        cases h
        obtain ⟨as, kvs, rfl, g1, g2⟩ := pairsD_ok r2 e2
        unfold pairD at e1
        split at e1
        · rename_i k d'
          obtain ⟨kk, e3, rfl⟩ := Option.map_eq_some_iff.mp e1
          obtain ⟨a, us, rfl, h3, r3⟩ := (See.fz r1).tup (Le.refl F)
          obtain ⟨x, y, rfl, rx, ry⟩ := r3.two'
          have ek := keyD_see (See.fz (H := F) rx) e3
          subst ek
          exact ⟨a :: as, (kk, y) :: kvs, rfl, .cons h3 g1, .cons ⟨rfl, ry⟩ g2⟩
        · cases e1
      · cases h
def dictF : List D → Option Rt
  | [.tuf ds] => (pairsD ds).map fun ps => .tmp (D.dct (mergeP [] ps))
  | _ => none
theorem Paired.imp {α β : Type} {R R' : α → β → Prop} (h : ∀ a b, R a b → R' a b) : ∀ {xs : List α} {ys : List β}, Paired R xs ys → Paired R' xs ys
  | _, _, .nil => .nil
  | _, _, .cons a t => .cons (h _ _ a) (Paired.imp h t)
def oDict : ON K where
  r := rDictT K
  f := dictF
  ok := fun F H xs ds rt Q e r ef q => by
    unfold dictF at ef
    split at ef
    · obtain ⟨ps, h1, h2⟩ := Option.map_eq_some_iff.mp ef
      subst h2
      obtain ⟨v, rfl, rv⟩ := r.one'
      obtain ⟨a, o, vs, rfl, h3, hc, hd, r⟩ := (See.fz rv).tuf (Le.refl F)
      obtain ⟨as, kvs, rfl, g1, g2⟩ := pairsD_ok r h1
      refine ⟨a, o, as, kvs, rfl, e _ _ h3, hc, hd, Paired.imp (fun _ _ z => sqT_mono e z) g1, fun p hp => ?_⟩
      exact q F _ _ (Grow.tmp e hp) (.tmp upd_same (e.new hp) (KR.cont (g2.merge .nil)) hp)
    · cases ef
end DX
set_option Elab.async false
set_option linter.all false
set_option maxRecDepth 100000
namespace DX
open PySem PySem.Spec PyProof.Rows L2 RZ RT
variable {K : PySem.W.Frag}
/-! ### fields -/
def getN : List Str → List D → Str → Option D
  | n :: ns, d :: ds, f => if f = n then some d else getN ns ds f
  | _, _, _ => none
theorem getN_ok {F : Hp} {f : Str} : ∀ {fs : List (Str × V)} {ns : List Str} {ds : List D}, fs.map (·.1) = ns → Reps K F (fs.map (·.2)) ds → ∀ {d : D}, getN ns ds f = some d → ∃ v, fs.lookup f = some v ∧ Rep K F v d
  | [], ns, ds, h, r, d, g => by subst h; cases r; cases g
  | (n, v) :: fs, ns, ds, h, r, d, g => by
    subst h
    cases r with
    | cons r1 r2 =>
      rw [List.map_cons] at g
      unfold getN at g
      by_cases e : f = n
      · subst e
        simp at g
        subst g
        exact ⟨v, by simp [List.lookup], r1⟩
      · rw [if_neg e] at g
        obtain ⟨v', h1, h2⟩ := getN_ok (fs := fs) rfl r2 g
        have q : (f == n) = false := by simpa using e
        exact ⟨v', by simp [List.lookup, q, h1], h2⟩
def fldF (C : Addr) (f : Str) : D → Option Rt
  | .ins C' ns ds => if C' = C then (getN ns ds f).map .fz else none
  | _ => none
def SX.fld (C : Addr) (f : Str) (a : SX K) (hc : Cls K C) (hn : NoAttr K C f) : SX K where
  te := fun W => tFld K (a.te W) f
  ev := fun E => (a.ev E).bind fun ra E1 => look1 E1 ra (fldF C f)
  ok := fun F H σ E A S W Q h => by
    refine XOk.seq S h fun x ra E1 F1 H1 A1 s1 S1 rx _ h1 => ?_
    unfold look1 at h1
    split at h1
    · rename_i da e1
      cases e : fldF C f da with
      | none => rw [e] at h1; exact h1.elim
      | some rt =>
        rw [e] at h1
        unfold fldF at e
        split at e
        · split at e
          · rename_i hC
            subst hC
            obtain ⟨d, g, rfl⟩ := Option.map_eq_some_iff.mp e
            obtain ⟨p, dx, fs, rfl, hp, h2, r⟩ := (see_of S1 rx e1).ins S1.le
            obtain ⟨v, g1, g2⟩ := getN_ok h2 r g
            exact ⟨p, _, dx, fs, v, rfl, hp, hc, hn, g1, (h1.fin S1).val S1.le g2⟩
          · cases e
        · cases e
    · exact h1.elim
def putN : List Str → List D → Str → D → List Str × List D
  | n :: ns, d :: ds, f, x => if n = f then (n :: ns, x :: ds) else let q := putN ns ds f x; (n :: q.1, d :: q.2)
  | _, _, f, x => ([f], [x])
theorem putN_ok {F : Hp} {f : Str} {v : V} {x : D} (rx : Rep K F v x) : ∀ {fs : List (Str × V)} {ns : List Str} {ds : List D}, fs.map (·.1) = ns → Reps K F (fs.map (·.2)) ds →
    (putF f v fs).map (·.1) = (putN ns ds f x).1 ∧ Reps K F ((putF f v fs).map (·.2)) (putN ns ds f x).2
  | [], ns, ds, h, r => by
    subst h; cases r
    exact ⟨rfl, .one rx⟩
  | (n, u) :: fs, ns, ds, h, r => by
    subst h
    cases r with
    | cons r1 r2 =>
      rw [List.map_cons]
      unfold putF putN
      by_cases e : n = f
      · rw [if_pos e, if_pos e]; exact ⟨rfl, .cons rx r2⟩
      · rw [if_neg e, if_neg e]
        obtain ⟨a, b⟩ := putN_ok rx (fs := fs) rfl r2
        exact ⟨by rw [List.map_cons, a], .cons r1 b⟩
def setFE (C : Addr) (i : Nat) (f : Str) (x : D) (E : En) : Fl := if (gE E i).mut = true then (match (gE E i).d? with
  | some (.ins C' ns ds) => if C' = C ∧ ns.length < 1000 then .nx (E.set i (upS (gE E i) (.ins C (putN ns ds f x).1 (putN ns ds f x).2))) else .no
  | _ => .no) else .no
/-- o.f = e, o a slot -/
def SS.setF (C : Addr) (i : Nat) (f : Str) (a : SX K) (hc : Cls K C) (hn : NoAttr K C f) : SS K where
  ts := fun W => sFld K (tVar i) (a.te W) f
  ev := fun E => (a.ev E).fl fun ra E1 => match shareR E1 ra with
    | none => .no
    | some (d, E2) => setFE C i f d E2
  ok := fun F H σ E A S W N h => fl_seq S h fun y ra E1 F1 H1 A1 s1 S1 ry fy h1 => by
    split at h1
    · exact h1.elim
    · rename_i d E2 e
      obtain ⟨A2, F2, s2, S2, rp, _⟩ := shareR_ok S s1 S1 ry fy e
      unfold setFE at h1
      split at h1
      · rename_i hm
        obtain ⟨l, o, d0, f1, f2, f3, f4, f5, f6⟩ := S2.mutAt hm
        rw [f6] at h1
        split at h1
        · rename_i C' ns ds he
          split at h1
          · rename_i hC
            obtain ⟨rfl, hl⟩ := hC
            cases he
            cases f5 with
            | @ins _ dx fs vs _ _ g1 g2 r =>
              subst g2
              obtain ⟨p1, p2⟩ := putN_ok (f := f) rp g1 r
              refine ⟨.ref l, gS_some f2, l, _, dx, fs, rfl, f3, hc, hn, by rw [← List.length_map (f := (·.1)), g1]; exact hl, ?_⟩
              obtain ⟨t, T⟩ := mutate S2 f1 (.ins p1 rfl p2) (o := .ins C' dx fs) (o' := .ins C' dx (putF f y fs))
              exact h1 F2 _ σ A2 (s2.trans S2 t) T
          · exact h1.elim
        · exact h1.elim
      · exact h1.elim
/-! ### methods of own classes -/
def tMethX (C : Addr) (m : Str) (sp : Sp) (E : Sg → XK) (ta : TE) (t : TA) : TE := fun σ H Q => ta σ H fun x H1 => ∃ a dx fs, x = .ref a ∧ H1 a = some (.ins C dx fs) ∧ fs.lookup m = none ∧ t σ H1 fun vs H2 => sp (x :: vs) H2 Q (E σ)
theorem lookup_none {fs : List (Str × V)} {m : Str} (h : m ∉ fs.map (·.1)) : fs.lookup m = none := by
  induction fs with
  | nil => rfl
  | cons p fs ih =>
    simp at h
    have q : (m == p.1) = false := by simpa using h.1
    simp only [List.lookup, q]
    exact ih (by simpa using h.2)
section
variable {X : Cx} {W : WX} {x m : Str} {k n : Nat} {f C : Addr} {ps : List Str} {sp : Sp} {o e : Expr} {es : List Expr} {ta : TE} {t : TA} {apos pos : Pos}
theorem pe_methX {pl : Sem Bool} (ho : PE X o ta) (cl : Cls X.K C) (hm : Meth X.K C m f) (F : Callee X.prog X.w X.K X.mg X.base k f ps sp) (hr : Room k X.A) (tk : Takes X W) (ha : PA X (e :: es) t)
    (h1 : starEach (e :: es) X.env = (false, eval e X.env) :: starEach es X.env := by rfl) (h2 : (backTo pos (starEach es X.env)).any (·.1) = false := by rfl)
    (h3 : eval (.Call (.Attribute o m apos) (e :: es) [] pos) X.env = (do
      let w ← eval o X.env
      standAt apos.atName
      let (g, z) ← holding [w] (getMethod w m pl)
      callWith pos g z (backTo pos (starEach (e :: es) X.env)) (backToKw pos (keywordEach [] X.env))) := by rfl) :
    PE X (.Call (.Attribute o m apos) (e :: es) [] pos) (tMethX C m sp (WE W) ta t) := by
  obtain ⟨fd, G, b⟩ := F
  refine ⟨fun pins s σ H Q I h => ?_⟩
  refine PySem.W.methodCall_KW (pl := pl) (thn (ho.run pins s σ H _ I h) fun u s1 ⟨x, H1, I1, rx, a, dx, fs, ex, ea, l, q⟩ => ?_) h3
  subst ex
  cases rx
  refine getmeth_ok I1 ea cl hm l ?_
  refine PySem.W.callWith_K (first := [.ref a]) (h₀ := X.base) I.ok.mod.kin hm.kp (thn (ha.run pos pins s1 σ H1 _ I1 q) fun us s2 ⟨vs, H2, I2, r, q2⟩ => ⟨I2.kIn, ?_⟩) h1 h2
  exact run_fnSD (us := .ref a :: us) (vs := .ref a :: vs) (dvs := []) (E := WE W) G hr b .nil (passAt tk σ) I2 (.cons rfl r) (by rw [List.append_nil]; exact q2)
theorem pe_methX0 {pl : Sem Bool} (ho : PE X o ta) (cl : Cls X.K C) (hm : Meth X.K C m f) (F : Callee X.prog X.w X.K X.mg X.base k f ps sp) (hr : Room k X.A) (tk : Takes X W)
    (h3 : eval (.Call (.Attribute o m apos) [] [] pos) X.env = (do
      let w ← eval o X.env
      standAt apos.atName
      let (g, z) ← holding [w] (getMethod w m pl)
      callWith pos g z (backTo pos (starEach [] X.env)) (backToKw pos (keywordEach [] X.env))) := by rfl) :
    PE X (.Call (.Attribute o m apos) [] [] pos) (tMethX C m sp (WE W) ta tNil) := by
  obtain ⟨fd, G, b⟩ := F
  refine ⟨fun pins s σ H Q I h => ?_⟩
  refine PySem.W.methodCall_KW (pl := pl) (thn (ho.run pins s σ H _ I h) fun u s1 ⟨x, H1, I1, rx, a, dx, fs, ex, ea, l, q⟩ => ?_) h3
  subst ex
  cases rx
  refine getmeth_ok I1 ea cl hm l ?_
  exact PySem.W.callWith_K0 (first := [.ref a]) I1.kIn hm.kp (run_fnSD (us := [.ref a]) (vs := [.ref a]) (dvs := []) (E := WE W) G hr b .nil (passAt tk σ) I1 (.cons rfl .nil) (by rw [List.append_nil]; exact q))
/-- C(..): __init__ raises nothing -/
theorem pe_makeX (M : Mk X.K C f) (F : Callee X.prog X.w X.K X.mg X.base k f ps sp) (hr : Room (k + 1) X.A) (hg : Gl X x) (hm : X.mg x = some (.ref C)) (ha : PA X (e :: es) t) (hd : (x == ("__debug__" : Str)) = false := by decide)
    (h1 : starEach (e :: es) X.env = (false, eval e X.env) :: starEach es X.env := by rfl) (h2 : (backTo pos (starEach es X.env)).any (·.1) = false := by rfl) {p : Pos} :
    PE X (.Call (.Name x p) (e :: es) [] pos) (tMake C sp [] E0 t) := by
  obtain ⟨fd, G, b⟩ := F
  exact pe_make M G hr hg hm b .nil passL ha hd h1 h2
end
def methE (m : Str) (f : En → Rs Rt) (d : Ag) (ns : List Str) (E : En) (ags : List Ag) (n : Nat) : Rs R := if m ∉ ns ∧ ags.length + 1 = n then callE f E (d :: ags) else .no
/-- o.m(..), o stays as it is -/
def SX.meth (C : Addr) (m : Str) (n : Nat) (f : En → Rs Rt) (a : SX K) (p : SP K) : SX K where
  te := fun W => tMethX C m (spF K n f) (WE W) (a.te W) (p.ta W)
  ev := fun E => (a.ev E).bind fun ra E1 => (shareE E1 ra).bind fun d E2 => match d with
    | .ins C' ns ds => if C' = C ∧ m ∉ ns then (p.ev E2).bind fun ags E3 => if ags.length + 1 = n then callE f E3 (.d (.ins C' ns ds) :: ags) else .no else .no
    | _ => .no
  ok := fun F H σ E A S W Q h => by
    refine a.ok F H σ E A S W _ ?_
    refine (h.bind).imp fun ra E1 F1 H1 A1 ⟨s1, S1, q1⟩ v rv fr => ?_
    unfold shareE at q1
    split at q1
    · rename_i d E2 e
      obtain ⟨A2, F2, s2, S2, rp, le2⟩ := shareR_ok S s1 S1 rv fr e
      rw [Rs.bind_ok] at q1
      split at q1
      · rename_i C' ns ds
        split at q1
        · rename_i hC
          obtain ⟨rfl, hm⟩ := hC
          obtain ⟨x, dx, fs, rfl, hx, g1, r⟩ := (See.fz rp).ins (Le.refl F2)
          refine ⟨x, dx, fs, rfl, S2.le _ _ hx, lookup_none (by rw [g1]; exact hm), ?_⟩
          refine p.ok F2 H1 σ E2 A2 S2 W _ ?_
          refine ((q1.xp s2 S2).bind).imp fun ags E3 F3 H3 A3 ⟨s3, S3, q3⟩ vs rvs => ?_
          split at q3
          · rename_i hn
            exact call_ok (ags := .d (.ins C' ns ds) :: ags) S3 (.cons (.d (rp.mono s3.fz)) rvs) (by simpa using hn) (q3.xp s3 S3)
          · exact q3.elim
        · exact q1.elim
      · exact q1.elim
    · exact q1.elim
/-- o.m(..), o a slot that the method may change -/
def SX.methM (C : Addr) (m : Str) (n : Nat) (f : En → Rs Rt) (i : Nat) (p : SP K) : SX K where
  te := fun W => tMethX C m (spF K n f) (WE W) (tVar i) (p.ta W)
  ev := fun E => if (gE E i).mut = true then (match (gE E i).d? with
    | some (.ins C' ns ds) => if C' = C ∧ m ∉ ns then (p.ev E).bind fun ags E3 => if ags.length + 1 = n then callE f E3 (.m i :: ags) else .no else .no
    | _ => .no) else .no
  ok := fun F H σ E A S W Q h => by
    dsimp only at h
    split at h
    · rename_i hm
      obtain ⟨l, o, d0, f1, f2, f3, f4, f5, f6⟩ := S.mutAt hm
      rw [f6] at h
      split at h
      · rename_i C' ns ds he
        cases he
        split at h
        · rename_i hC
          obtain ⟨rfl, hm⟩ := hC
          cases f5 with
          | @ins _ dx fs vs _ _ g1 g2 r =>
            refine ⟨.ref l, gS_some f2, l, dx, fs, rfl, f3, lookup_none (by rw [g1]; exact hm), ?_⟩
            refine p.ok F H σ E A S W _ ?_
            refine (h.bind).imp fun ags E3 F3 H3 A3 ⟨s3, S3, q3⟩ vs rvs => ?_
            split at q3
            · rename_i hn
              exact call_ok (ags := .m i :: ags) S3 (.cons (.m (gS_some f2)) rvs) (by simpa using hn) (q3.xp s3 S3)
            · exact q3.elim
        · exact h.elim
      · exact h.elim
    · exact h.elim
def makeE (C : Addr) (f : En → Rs Rt) (E : En) (ds : List D) : Rs R := match f (.par (.ins C [] []) :: ds.map .fz) with
  | .ok (.fz .non) (.par d :: _) => .ok (.tmp d) E
  | _ => .no
/-- C(..) -/
def SX.make (C : Addr) (n : Nat) (f : En → Rs Rt) (p : SA K) : SX K where
  te := fun W => tMake C (spF K n f) [] E0 (p.ta W)
  ev := fun E => (p.ev E).bind fun ds E1 => if ds.length + 1 = n then makeE C f E1 ds else .no
  ok := fun F H σ E A S W Q h => by
    refine p.ok F H σ E A S W _ ?_
    refine (h.bind).imp fun ds E1 F1 H1 A1 ⟨s1, S1, q1⟩ vs rvs => ?_
    intro x dx hx hdx hne
    split at q1
    · rename_i hn
      rw [List.append_nil]
      have up : Le H1 (upd (upd H1 dx (.own x)) x (.ins C dx [])) := ((Le.refl H1).updR hdx).updR hx
      have leF : Le F1 (upd (upd H1 dx (.own x)) x (.ins C dx [])) := S1.le.trans up
      have fx : F1 x = none := S1.le.new hx
      let A0 : AM := fun j => if j = 0 then some x else none
      have S0 : Stt K F1 (upd (upd H1 dx (.own x)) x (.ins C dx [])) ((V.ref x :: vs).map some) (.par (.ins C [] []) :: ds.map .fz) A0 := by
        refine ⟨leF, by simp [rvs.length], fun i => ?_, fun i j a z1 z2 => ?_⟩
        · cases i with
          | zero => exact .par upd_same fx (.ins rfl rfl .nil)
          | succ i =>
            rw [gE_succ, gS_map]
            show SlR K F1 _ ((V.ref x :: vs)[i + 1]?) (gE (ds.map Sl.fz) i) (if i + 1 = 0 then some x else none)
            rw [List.getElem?_cons_succ, if_neg (by omega)]
            unfold gE
            rw [List.getElem?_map]
            cases e : ds[i]? with
            | none => exact .no
            | some d =>
              obtain ⟨v, h1, h2⟩ := rvs.get e
              rw [h1]
              exact .fz h2
        · simp only [A0] at z1 z2
          split at z1
          · split at z2
            · omega
            · cases z2
          · cases z1
      refine ⟨F1, _, A0, by simp [rvs.length, ← hn], S0, fun i d z => ?_, ?_⟩
      · cases i with
        | zero => cases z
        | succ i =>
          rw [gE_succ] at z
          unfold gE at z
          rw [List.getElem?_map] at z
          cases e : ds[i]? with
          | none => rw [e] at z; cases z
          | some _ => rw [e] at z; cases z
      · unfold makeE at q1
        split at q1
        · rename_i d E' ef
          rw [ef]
          intro F2 H2 A2 s2 S2 v rv
          cases rv with
          | fz r =>
            refine ⟨(See.fz (H := H2) r).non, ?_⟩
            have q := S2.sl 0
            rw [gE_0] at q
            have e0 : gS ((V.ref x :: vs).map some) 0 = some (.ref x) := by rw [gS_map]; rfl
            rw [e0] at q
            generalize e3 : A2 0 = y at q
            cases q with
            | @par l o _ h1 h2 h3 =>
              -- back in the caller: all of it grew
              have nO : ∀ b, H1 b ≠ none → ¬ Own A0 b := fun b hb ⟨j, z⟩ => by
                simp only [A0] at z
                split at z
                · cases z; exact hb hx
                · cases z
              have g : Grow F1 H1 F2 H2 := ⟨s2.fz, fun b o hb => s2.keep b o (up b o hb) (nO b (by rw [hb]; intro z; cases z)), S2.le, fun b hb => s2.st b (by
                intro z
                cases e : H1 b with
                | none => exact hb e
                | some o => rw [up b o e] at z; cases z) (nO b hb)⟩
              exact ((q1.xp s1 S1).fin (rt := .tmp d) S1) F2 H2 _ g (.tmp h1 h2 h3 hx)
        · exact q1.elim
    · exact q1.elim
end DX
set_option Elab.async false
set_option linter.all false
set_option maxRecDepth 100000
namespace DX
open PySem PySem.Spec PyProof.Rows L2 RZ RT
variable {K : PySem.W.Frag}
/-! ### a[i:j] = e -/
def gSlc (to ta tb : TE) : TG := fun v σ H Q => to σ H fun o H1 => ta σ H1 fun x H2 => tb σ H2 fun y H3 => ∃ (l b : Addr) (xs ys : List V) (i j : Int), o = .ref l ∧ x = .int i ∧ y = .int j ∧ v = .ref b ∧ H3 l = some (.lst xs) ∧ H3 b = some (.lst ys) ∧ l ≠ b ∧
  0 ≤ i ∧ i ≤ j ∧ j ≤ xs.length ∧ xs.length + ys.length ≤ sizeLine ∧ Q σ (upd H3 l (.lst (xs.take i.toNat ++ ys ++ xs.drop j.toNat)))
theorem pg_slc {X : Cx} {o a b : Expr} {to ta tb : TE} {pos p2 : Pos} (ho : PE X o to) (ha : PE X a ta) (hb : PE X b tb)
    (he : ∀ v, assign (.Subscript o (.Slice (some a) (some b) none p2) pos) X.env v = (do
      let ov ← holding [v] (eval o X.env)
      let iv ← holding [v, ov] (eval (.Slice (some a) (some b) none p2) X.env)
      standAt pos
      holding [v, ov, iv] (setItem ov iv v)
      release [iv, v, ov] []) := by intro _; rfl) : PG X (.Subscript o (.Slice (some a) (some b) none p2) pos) (gSlc to ta tb) := by
  refine ⟨fun pins s σ H v u Q I r h => ?_⟩
  rw [he]
  refine wpAny_bind (wpAny_holding (thn (ho.run pins s σ H _ I h) fun ov s1 ⟨x, H1, I1, r1, q1⟩ => ?_))
  refine wpAny_bind (wpAny_holding (wpAny_Slice ?_))
  rw [evalPart_some]
  refine thn (ha.run pins s1 σ H1 _ I1 q1) fun vl s2 ⟨y, H2, I2, r2, q2⟩ => ?_
  rw [evalPart_some]
  refine thn (hb.run pins s2 σ H2 _ I2 q2) fun vu s3 ⟨z, H3, I3, r3, q3⟩ => ?_
  rw [evalPart_none]
  refine wpAny_pure ?_
  obtain ⟨l, bb, xs, ys, i, j, rfl, rfl, rfl, rfl, hl, hbb, hne, h0, hij, hj, hz, q⟩ := q3
  cases r1
  cases r
  have I4 : Inv X pins σ H3 { s3 with heap := s3.heap.push { cls := .type "slice", data := .fields #[vl, vu, .none] } } := I3.kept (t' := s3.toks) fun b ob q => Heap.get?_push_of_some _ q
  refine wpAny_bind (wpAny_standAt (wpAny_bind (wpAny_holding ?_)))
  exact set_slice I4 hl hbb hne (Heap.IsSliceOf.new ..) r2 r3 h0 hij hj hz fun s' I' => wpAny_release ⟨σ, _, I', q⟩
def slcE (i : Nat) (a b : Int) (d : D) (E : En) : Fl := if (gE E i).mut = true then (match (gE E i).d?, d with
  | some (.lst xs), .lst ys => if 0 ≤ a ∧ a ≤ b ∧ b ≤ xs.length ∧ xs.length + ys.length ≤ sizeLine then .nx (E.set i (upS (gE E i) (.lst (xs.take a.toNat ++ ys ++ xs.drop b.toNat)))) else .no
  | _, _ => .no) else .no
def SS.setSl (i : Nat) (p q a : SX K) : SS K where
  ts := fun W => tAsg (a.te W) (gSlc (tVar i) (p.te W) (q.te W))
  ev := fun E => (a.ev E).fl fun ra E1 => match shareR E1 ra with
    | none => .no
    | some (d, E2) => if (gE E2 i).mut = true then (p.ev E2).fl fun rp E3 => (q.ev E3).fl fun rq E4 => match look E4 rp, look E4 rq with
      | some (.int x), some (.int y) => slcE i x y d E4
      | _, _ => .no else .no
  ok := fun F H σ E A S W N h => fl_seq S h fun x ra E1 F1 H1 A1 s1 S1 rx fx h1 => by
    split at h1
    · exact h1.elim
    · rename_i d E2 e
      obtain ⟨A2, F2, s2, S2, rp, _⟩ := shareR_ok S s1 S1 rx fx e
      split at h1
      · rename_i hm
        obtain ⟨l, _, _, _, g2, _⟩ := S2.mutAt hm
        refine ⟨.ref l, gS_some g2, ?_⟩
        refine fl_seq2 s2 S2 h1 fun y rk E3 F3 H3 A3 s3 S3 ry _ h3 => ?_
        refine fl_seq2 (s2.trans S2 s3) S3 h3 fun z rq E4 F4 H4 A4 s4 S4 rz _ h4 => ?_
        have ry4 := ry.later s4 S4
        split at h4
        · rename_i i1 i2 e1 e2
          have ey := (see_of S4 ry4 e1).int
          have ez := (see_of S4 rz e2).int
          subst ey; subst ez
          unfold slcE at h4
          split at h4
          · rename_i hm4
            obtain ⟨l4, o, d0, f1, f2, f3, f4, f5, f6⟩ := S4.mutAt hm4
            rw [g2] at f2
            cases f2
            rw [f6] at h4
            split at h4
            · rename_i xs ys hx
              cases hx
              split at h4
              · rename_i hc
                cases f5 with
                | @lst vs _ r =>
                  have rp4 := (rp.mono s3.fz).mono s4.fz
                  obtain ⟨b, us, rfl, hb, r2⟩ := (See.fz rp4).lst (Le.refl F4)
                  obtain ⟨t, T⟩ := mutate S4 f1 (.lst (((r.take i1.toNat).append r2).append (r.drop i2.toNat))) (o := .lst vs)
                  refine ⟨l, b, vs, us, i1, i2, rfl, rfl, rfl, rfl, f3, S4.le _ _ hb, (fun z => by rw [z, hb] at f4; cases f4), hc.1, hc.2.1, by rw [r.length]; exact hc.2.2.1, by rw [r.length, r2.length]; exact hc.2.2.2, ?_⟩
                  exact h4 F4 _ σ A4 (((s2.trans S2 s3).trans S3 s4).trans S4 t) T
              · exact h4.elim
            · exact h4.elim
          · exact h4.elim
        · exact h4.elim
      · exact h1.elim
end DX
namespace DX
open PySem PySem.Spec PyProof.Rows L2
theorem callee_no {P : Program} {w : World} {K : PySem.W.Frag} {mg : Str → Option Value} {base : Heap} {x qual : Str} {st : Stmt} {f : Addr} {ps : List Str} {k n : Nat} (F : FnIn K x qual st f ps) (hn : ps.length = n := by rfl) : Callee P w K mg base k f ps (spF K n fun _ => .no) := by
  obtain ⟨fd, F, b⟩ := F
  exact ⟨fd, ⟨fun vs H Q E h => by rw [hn]; exact spF_len vs H Q E h, fun A outer s H args us vs Q E _ _ _ _ h => by
    obtain ⟨_, _, _, _, _, _, p⟩ := h
    exact p.elim⟩, b⟩
/-- fuel by an int in a slot -/
def fuelI (i : Nat) (E : En) : Nat := match gE E i with
  | .fz (.int n) => n.natAbs + 1
  | _ => 0
end DX
set_option Elab.async false
set_option linter.all false
set_option maxRecDepth 100000
namespace DX
open PySem PySem.Spec PyProof.Rows L2 RZ RT
section
variable {X : Cx} (K : PySem.W.Frag)
/-! ### the rules by a written part that is named -/
theorem op_addK (h : X.K = K := by rfl) : OpR X (binaryOp .Add) (rAddX K) := h ▸ op_addX
theorem ixK (h : X.K = K := by rfl) : IxR X (rIx K) := h ▸ ix_seq
theorem slK (h : X.K = K := by rfl) : L2.SlR X (rSlX K) := h ▸ sl_X
theorem op_eqK (hu : X.A.units + 64 < cLine) (h : X.K = K := by rfl) : OpR X (compareOp .Eq) (rOr rEq (rEqD K)) := h ▸ op_eqX hu
theorem op_neK (hu : X.A.units + 64 < cLine) (h : X.K = K := by rfl) : OpR X (compareOp .NotEq) (rOr rNe (rNeD K)) := h ▸ op_neX hu
theorem op_inK (h : X.K = K := by rfl) : OpR X (compareOp .In) (rIn K false) := h ▸ op_inX
theorem op_notInK (h : X.K = K := by rfl) : OpR X (compareOp .NotIn) (rIn K true) := h ▸ op_notInX
theorem call_lenK (h : X.K = K := by rfl) : CallR X (.builtin "len") (fun xs H Q => ∃ x n, xs = [x] ∧ LenV K x H n ∧ Q (.int n) H) := h ▸ call_len
theorem call_tupleK (h : X.K = K := by rfl) : CallR X (.type "tuple") (fun xs H Q => ∃ p ys, xs = [.ref p] ∧ ((SqL K H p ys ∧ ∀ l, H l = none → Q (.ref l) (upd H l (.tup ys))) ∨ (SqT K H p ys ∧ Q (.ref p) H))) := h ▸ call_tuple_of
theorem call_listK (h : X.K = K := by rfl) : CallR X (.type "list") (fun xs H Q => ∃ p ys, xs = [.ref p] ∧ (SqL K H p ys ∨ SqT K H p ys) ∧ ∀ l, H l = none → Q (.ref l) (upd H l (.lst ys))) := h ▸ call_list_of
theorem call_tufK (h : X.K = K := by rfl) : CallR X (.type "tuple") (rTuf K) := h ▸ call_tuf
theorem call_allK (hc : X.calm = true) (h : X.K = K := by rfl) : CallR X (.builtin "all") (rAll K) := h ▸ cr_all hc
theorem call_anyK (hc : X.calm = true) (h : X.K = K := by rfl) : CallR X (.builtin "any") (rAny K) := h ▸ cr_any hc
theorem call_isiKK (h : X.K = K := by rfl) : CallR X (.builtin "isinstance") (rIsi K) := h ▸ call_isi
theorem call_dictK (hc : X.calm = true) (h : X.K = K := by rfl) : CallR X (.type "dict") (rDictT K) := h ▸ call_dictT hc
theorem mt_joinK (h : X.K = K := by rfl) : MtR X "str.join" (oJoin (K := K)).r := h ▸ mt_join
theorem pi_seqK {tg l : Expr} {tl : TE} (hl : PE X l tl) (h : X.K = K := by rfl) : PI X tg l (fun σ H R => tl σ H fun x H1 => ∃ p, x = .ref p ∧ (((∃ xs, SqL K H1 p xs) ∧ R (Itl K p) H1) ∨ ((∃ xs, SqT K H1 p xs) ∧ R (Itt K p) H1))) := h ▸ pi_seqX hl
theorem pi_zipK {e e2 : Expr} {ta : TA} {p pos tpos : Pos} {elts : List Expr} {kk : Nat} (hg : Gl X "zip") (hm : X.mg "zip" = none) (ha : PA X [e, e2] ta) (h : X.K = K := by rfl)
    (h2 : starEach [e, e2] X.env = (false, eval e X.env) :: starEach [e2] X.env := by rfl) (h3 : (backTo pos (starEach [e2] X.env)).any (·.1) = false := by rfl) :
    PI X (.Tuple elts kk tpos) (.Call (.Name "zip" p) [e, e2] [] pos) (iZipA K ta) := h ▸ pi_zipA hg hm ha h2 h3
theorem pi_revK {tg e : Expr} {te : TE} {p pos : Pos} (hg : Gl X "reversed") (hm : X.mg "reversed" = none) (he : PE X e te) (h : X.K = K := by rfl) (h2 : starEach [e] X.env = (false, eval e X.env) :: starEach [] X.env := by rfl) :
    PI X tg (.Call (.Name "reversed" p) [e] [] pos) (iRevA K te) := h ▸ pi_revA hg hm he h2
theorem pe_revK {e : Expr} {te : TE} {k : Nat} {p1 p2 p3 pos : Pos} (he : PE X e te) (h : X.K = K := by rfl) : PE X (.Subscript e (.Slice none none (some (.UnaryOp .USub (.Constant (.int 1) k p1) p2)) p3) pos) (tRevL K te) := h ▸ pe_revL he
theorem pg_tupK {es : List Expr} {k : Nat} {t : TGs} {n : Nat} {pos : Pos} (hc : X.calm = true) (g : PGs X es t) (hn : (assignEach es X.env).length = n := by rfl) (hs : (assignEach es X.env).findIdx? (·.1) = none := by rfl) (h : X.K = K := by rfl) : PG X (.Tuple es k pos) (gTup K n t) := by
  subst h
  exact pg_tup hc g hn hs
theorem pe_fldK {e : Expr} {f : Str} {pos : Pos} {ta : TE} (he : PE X e ta) (hb : attributeBase e f X.env (eval e X.env) = eval e X.env := by rfl) (h : X.K = K := by rfl) : PE X (.Attribute e f pos) (tFld K ta f) := h ▸ pe_fld he hb
theorem pe_bmK {T : String} {name : Str} {id : String} {r : V → List V → Hp → VK → Prop} {o e : Expr} {es : List Expr} {to : TE} {t : TA} {apos cpos : Pos} (pa : PlainAttrs T) (slot : Slot T name id) (hty : typeOf (.builtin id) = pure (.type "method_descriptor")) (hm : MtR X id r) (ho : PE X o to) (ha : PA X (e :: es) t)
    (hK : X.K = K := by rfl) (h1 : attributeBase o name X.env (eval o X.env) = eval o X.env := by rfl)
    (h2 : ((backTo cpos (starEach (e :: es) X.env)).all (fun x => !x.1) && (backToKw cpos (keywordEach [] X.env)).all (fun x => x.1.isSome) && decide ((e :: es).length + ([] : List Keyword).length + (if ([] : List Keyword).isEmpty then 0 else 1) < 30)) = true := by rfl)
    (h3 : (apos.endLine == cpos.line) = true := by rfl) (h4 : starEach (e :: es) X.env = (false, eval e X.env) :: starEach es X.env := by rfl) (h5 : (backTo cpos (starEach es X.env)).any (·.1) = false := by rfl) :
    PE X (.Call (.Attribute o name apos) (e :: es) [] cpos) (tBM K T r to t) := hK ▸ pe_bm pa slot hty hm ho ha h1 h2 h3 h4 h5
theorem pe_tindexK {o e : Expr} {to te : TE} {apos cpos : Pos} (ho : PE X o to) (he : PE X e te) (hK : X.K = K := by rfl)
    (h1 : attributeBase o "index" X.env (eval o X.env) = eval o X.env := by rfl)
    (h2 : ((backTo cpos (starEach [e] X.env)).all (fun x => !x.1) && (backToKw cpos (keywordEach [] X.env)).all (fun x => x.1.isSome) && decide (([e] : List Expr).length + ([] : List Keyword).length + (if ([] : List Keyword).isEmpty then 0 else 1) < 30)) = true := by rfl)
    (h3 : (apos.endLine == cpos.line) = true := by rfl) (h4 : starEach [e] X.env = (false, eval e X.env) :: starEach [] X.env := by rfl) :
    PE X (.Call (.Attribute o "index" apos) [e] [] cpos) (tBT K (fun x xs H Q => ∃ p, ∃ ys : List Str, ∃ z j, x = .ref p ∧ xs = [.str z] ∧ SqT K H p (ys.map V.str) ∧ ys[j]? = some z ∧ (∀ m, m < j → ys[m]? ≠ some z) ∧ Q (.int (j : Nat)) H) to (tCons te tNil)) := hK ▸ pe_tindex ho he h1 h2 h3 h4
theorem pe_callK {W : WX} {x : Str} {k : Nat} {f : Addr} {ps : List Str} {sp : Sp} {e : Expr} {es : List Expr} {t : TA} {p pos : Pos} {P : Program} {w : World} {mg : Str → Option Value} {base : Heap} (F : Callee P w K mg base k f ps sp) (hr : Room k X.A) (hg : Gl X x) (hm : mg x = some (.ref f)) (hk : PySem.W.keepIn K (.ref f) = true) (tk : Takes X W)
    (ha : PA X (e :: es) t) (h1 : X.prog = P := by rfl) (h2 : X.w = w := by rfl) (h3 : X.K = K := by rfl) (h4 : X.mg = mg := by rfl) (h5 : X.base = base := by rfl) (hdb : (x == ("__debug__" : Str)) = false := by decide) (he : starEach (e :: es) X.env = (false, eval e X.env) :: starEach es X.env := by rfl) (hpl : (backTo pos (starEach es X.env)).any (·.1) = false := by rfl) :
    PE X (.Call (.Name x p) (e :: es) [] pos) (tCallSD sp [] (WE W) t) := by
  subst h1 h2 h3 h4 h5
  exact pe_callX F hr hg hm hk tk ha hdb he hpl
theorem ip_fdivW : PIp X .FloorDiv (rI CDivW fun i j => .int (i / j)) := iop_fdivW
theorem ip_addI : PIp X .Add (rI0 fun i j => .int (i + j)) := iop_add
theorem ip_subI : PIp X .Sub (rI0 fun i j => .int (i - j)) := iop_sub
end
variable {K : PySem.W.Frag}
def oAddI : O2 K := oI (rI0 fun i j => .int (i + j)) (fun _ _ => true) (fun i j => i + j) fun i j H Q _ q => ⟨i, j, rfl, rfl, q⟩
/-- x is None, x is not None -/
@[simp] def isNF (neg : Bool) (a : D) : D → Option Rt
  | .non => some (.fz (.bl (if neg then !a.isNon else a.isNon)))
  | _ => none
def oIsNo : O2 K where
  r := fun x y H Q => y = .non ∧ Q (.bl (decide (x = .non))) H
  f := isNF false
  ok := fun F H x y dx dy rt Q e sx sy ef q => by
    unfold isNF at ef
    split at ef
    · cases ef
      rw [isNon_see e sx]
      exact ⟨sy.non, q.bl e⟩
    · cases ef
def oIsNot : O2 K where
  r := fun x y H Q => y = .non ∧ Q (.bl (!decide (x = .non))) H
  f := isNF true
  ok := fun F H x y dx dy rt Q e sx sy ef q => by
    unfold isNF at ef
    split at ef
    · cases ef
      rw [isNon_see e sx]
      exact ⟨sy.non, q.bl e⟩
    · cases ef
end DX
set_option Elab.async false
set_option linter.all false
set_option maxRecDepth 100000
namespace DX
open PySem PySem.Spec PyProof.Rows L2
/-! ### the end of a law -/
def spLaw (K : PySem.W.Frag) : Sp := fun vs H Q _ => ∃ (a : Addr) (ns : List Int), vs = [.ref a] ∧ SqL K H a (ns.map V.int) ∧ ns.length ≤ 63 ∧ ∀ H', Q (.bl true) H'
theorem reps_ints {K : PySem.W.Frag} {F : Hp} : ∀ ns : List Int, Reps K F (ns.map V.int) (ns.map D.int)
  | [] => .nil
  | n :: ns => .cons (.int n) (reps_ints ns)
theorem law_spF {K : PySem.W.Frag} {f : En → Rs Rt} (h : ∀ ns : List Int, ns.length ≤ 63 → ∃ E, f [.fz (.rdl (ns.map D.int))] = .ok (.fz (.bl true)) E) (vs : List V) (H : Hp) (Q : VK) (E : XK) (q : spLaw K vs H Q E) : spF K 1 f vs H Q E := by
  obtain ⟨a, ns, rfl, hs, hl, k⟩ := q
  refine ⟨H, [.fz (.rdl (ns.map D.int))], fun _ => none, rfl, ⟨Le.refl H, rfl, fun i => ?_, fun i j a z => by cases z⟩, fun i d z => ?_, ?_⟩
  · cases i with
    | zero => exact .fz (.rdl hs (reps_ints ns))
    | succ i => rw [gE_succ, gE_nil]; exact .no
  · cases i with
    | zero => cases z
    | succ i => rw [gE_succ, gE_nil] at z; cases z
  · obtain ⟨E', e⟩ := h ns hl
    rw [e]
    intro F' H' A' s S' v rv
    cases rv with
    | fz r => rw [(See.fz (H := H') r).bl]; exact k H'
theorem cx_no {P : Program} {w : World} {H : Hp} {s : Shared} {e : Value} {s' : Shared} (h : L2.CX P w [] H s (fun _ _ _ => False) e s') : False := by
  obtain ⟨_, _, _, _, _, _, _, _, _, _, _, _, z⟩ := h
  exact z
end DX
set_option Elab.async false
set_option linter.all false
set_option maxRecDepth 100000
namespace DX
open PySem PySem.Spec PyProof.Rows L2 RZ RT
variable {K : PySem.W.Frag}
/-! ### evaluation: more rows -/
section
variable {E E1 : En} {i j n : Nat} {s : Sl} {d : D} {r : R} {rt : Rt} {C : Addr}
@[simp] theorem ev_chain {o o' : O2 K} {a b c : SX K} : (SX.chain o o' a b c).ev E = (a.ev E).bind fun ra E1 => (b.ev E1).bind fun rb E2 => match look E2 ra, look E2 rb with
    | some da, some db => bl1 E2 (o.f da db) fun k => if k = true then (c.ev E2).bind fun rc E3 => look2 E3 rb rc o'.f else .ok (.fz (.bl false)) E2
    | _, _ => .no := rfl
@[simp] theorem bl1_b {E : En} {b : Bool} {f : Bool → Rs R} : bl1 E (some (.fz (.bl b))) f = f b := rfl
@[simp] theorem ev_isi {T : String} {a : SX K} : (SX.isi T a).ev E = (a.ev E).bind fun ra E1 => look1 E1 ra (isiE T) := rfl
@[simp] theorem ev_bm {o : OB K} {a : SX K} {p : SA K} : (SX.bm o a p).ev E = (a.ev E).bind fun ra E1 => (shareE E1 ra).bind fun d E2 => if o.tb d = true then (p.ev E2).bind fun ds E3 => rsOf E3 (o.f d ds) else .no := rfl
@[simp] theorem ev_setIx {k a : SX K} : (SS.setIx i k a).ev E = (a.ev E).fl fun ra E1 => match shareR E1 ra with
    | none => .no
    | some (d, E2) => if (gE E2 i).mut = true then (k.ev E2).fl fun rk E3 => match look E3 rk with
      | some (.int j) => setE i j d E3
      | _ => .no else .no := rfl
@[simp] theorem ev_setSl {p q a : SX K} : (SS.setSl i p q a).ev E = (a.ev E).fl fun ra E1 => match shareR E1 ra with
    | none => .no
    | some (d, E2) => if (gE E2 i).mut = true then (p.ev E2).fl fun rp E3 => (q.ev E3).fl fun rq E4 => match look E4 rp, look E4 rq with
      | some (.int x), some (.int y) => slcE i x y d E4
      | _, _ => .no else .no := rfl
@[simp] theorem ev_izip {a b : SX K} : (SI.zip a b).ev E = (a.ev E).bind fun ra E1 => (shareE E1 ra).bind fun da E2 => (b.ev E2).bind fun rb E3 => (shareE E3 rb).bind fun db E4 => zipE da db E4 := rfl
@[simp] theorem ev_irev {a : SX K} : (SI.rev a).ev E = (a.ev E).bind fun ra E1 => (shareE E1 ra).bind fun d E2 => match seqOf d with
    | some (_, ds) => .ok ds.reverse E2
    | none => .no := rfl
@[simp] theorem ev_revSl {a : SX K} : (SX.revSl a).ev E = (a.ev E).bind fun ra E1 => look1 E1 ra revF := rfl
@[simp] theorem ev_tindex {a b : SX K} : (SX.tindex a b).ev E = (a.ev E).bind fun ra E1 => (shareE E1 ra).bind fun d E2 => match d with
    | .tuf ds => match strsOf ds with
      | some ys => (b.ev E2).bind fun rb E3 => match look E3 rb with
        | some (.str z) => match idxS ys z with
          | some j => .ok (.fz (.int (j : Nat))) E3
          | none => .no
        | _ => .no
      | none => .no
    | _ => .no := rfl
@[simp] theorem ev_dget2 {a b c : SX K} : (SX.dget2 a b c).ev E = (a.ev E).bind fun ra E1 => (shareE E1 ra).bind fun d E2 => match d with
    | .dic ks ds => (b.ev E2).bind fun rb E3 => (shareE E3 rb).bind fun k E4 => (c.ev E4).bind fun rc E5 => (shareE E5 rc).bind fun z E6 => match keyD k with
      | some k => .ok (.fz ((getP (zipK ks ds) k).getD z)) E6
      | none => .no
    | _ => .no := rfl
@[simp] theorem ev_fld {f : Str} {a : SX K} {hc hn} : (SX.fld C f a hc hn).ev E = (a.ev E).bind fun ra E1 => look1 E1 ra (fldF C f) := rfl
@[simp] theorem ev_setF {f : Str} {a : SX K} {hc hn} : (SS.setF C i f a hc hn).ev E = (a.ev E).fl fun ra E1 => match shareR E1 ra with
    | none => .no
    | some (d, E2) => setFE C i f d E2 := rfl
@[simp] theorem ev_meth {m : Str} {f : En → Rs Rt} {a : SX K} {p : SP K} : (SX.meth C m n f a p).ev E = (a.ev E).bind fun ra E1 => (shareE E1 ra).bind fun d E2 => match d with
    | .ins C' ns ds => if C' = C ∧ m ∉ ns then (p.ev E2).bind fun ags E3 => if ags.length + 1 = n then callE f E3 (.d (.ins C' ns ds) :: ags) else .no else .no
    | _ => .no := rfl
@[simp] theorem ev_make {f : En → Rs Rt} {p : SA K} : (SX.make C n f p).ev E = (p.ev E).bind fun ds E1 => if ds.length + 1 = n then makeE C f E1 ds else .no := rfl
@[simp] theorem ev_spmut {p : SP K} : (SP.mut i p).ev E = match gE E i with
    | .no => .no
    | _ => (p.ev E).bind fun ds E3 => .ok (.m i :: ds) E3 := rfl
@[simp] theorem f_isNo : (oIsNo (K := K)).f = isNF false := rfl
@[simp] theorem f_isNot : (oIsNot (K := K)).f = isNF true := rfl
@[simp] theorem f_eq : (oEq (K := K)).f = blF D.eqd false := rfl
@[simp] theorem f_ne : (oNe (K := K)).f = blF D.eqd true := rfl
@[simp] theorem f_in : (oIn (K := K)).f = blF inF false := rfl
@[simp] theorem f_notIn : (oNotIn (K := K)).f = blF inF true := rfl
@[simp] theorem f_neg : (oNeg (K := K)).f = negF := rfl
@[simp] theorem f_join : (oJoin (K := K)).f = joinF := rfl
@[simp] theorem tb_join : (oJoin (K := K)).tb = D.isStr := rfl
@[simp] theorem f_tuf : (oTuf (K := K)).f = tufF := rfl
@[simp] theorem f_dict : (oDict (K := K)).f = dictF := rfl
/-- a call whose arguments stay as they are -/
theorem callE_d {f : En → Rs Rt} {ds : List D} {rt : Rt} {E0 : En} (h : f (ds.map .fz) = .ok rt E0) (hl : E0.length = ds.length) : callE f E (ds.map .d) = .ok rt.r E := by
  have m0 : ∀ ds : List D, agM (ds.map Ag.d) = [] := fun ds => by
    induction ds with
    | nil => rfl
    | cons d ds ih => rw [List.map_cons]; exact ih
  unfold callE
  have ok : agOk E (ds.map .d) = true := by
    unfold agOk
    rw [m0]; rfl
  rw [if_pos ok]
  have e : (ds.map Ag.d).map (agE E) = ds.map .fz := by
    rw [List.map_map]; rfl
  rw [e, h]
  have b : ∀ (ds : List D) (E0 : En), E0.length = ds.length → backM E (ds.map Ag.d) E0 = some E := fun ds => by
    induction ds with
    | nil => intro E0 _; cases E0 <;> rfl
    | cons d ds ih =>
      intro E0 h
      cases E0 with
      | nil => cases h
      | cons s E0 => exact ih E0 (by simpa using h)
  show (match backM E (ds.map Ag.d) E0 with | some E' => Rs.ok rt.r E' | none => Rs.no) = _
  rw [b ds E0 hl]
theorem callE_1 {f : En → Rs Rt} {a : D} {rt : Rt} {s : Sl} (h : f [.fz a] = .ok rt [s]) : callE f E [.d a] = .ok rt.r E := callE_d (ds := [a]) h rfl
theorem callE_2 {f : En → Rs Rt} {a b : D} {rt : Rt} {s t : Sl} (h : f [.fz a, .fz b] = .ok rt [s, t]) : callE f E [.d a, .d b] = .ok rt.r E := callE_d (ds := [a, b]) h rfl
theorem callE_3 {f : En → Rs Rt} {a b c : D} {rt : Rt} {s t u : Sl} (h : f [.fz a, .fz b, .fz c] = .ok rt [s, t, u]) : callE f E [.d a, .d b, .d c] = .ok rt.r E := callE_d (ds := [a, b, c]) h rfl
theorem callE_4 {f : En → Rs Rt} {a b c d : D} {rt : Rt} {s t u v : Sl} (h : f [.fz a, .fz b, .fz c, .fz d] = .ok rt [s, t, u, v]) : callE f E [.d a, .d b, .d c, .d d] = .ok rt.r E := callE_d (ds := [a, b, c, d]) h rfl
theorem set_gE {E : En} {i : Nat} (h : i < E.length) : E.set i (gE E i) = E := by
  unfold gE
  rw [List.getElem?_eq_getElem h]
  exact List.set_getElem_self h
/-- a comprehension with one name, whose turns change nothing -/
theorem lc1 {i : Nat} {t : En → Rs Bool} {e : En → Rs R} {E : En} (hi : i < E.length) (hs : gE E i = .no ∨ ∃ d, gE E i = .fz d) (c : D → Bool) (f : D → D) : ∀ (items acc : List D), (∀ d ∈ items, t (E.set i (.fz d)) = .ok (c d) (E.set i (.fz d))) →
    (∀ d ∈ items, c d = true → ∃ r, e (E.set i (.fz d)) = .ok r (E.set i (.fz d)) ∧ (r = .fz (f d) ∨ r = .tmp (f d))) → acc.length + items.length < 16777216 →
    lcL (SG.name (K := K) i).ev t e [i] items E acc = .ok (acc ++ (items.filter c).map f) E
  | [], acc, _, _, _ => by simp [lcL]
  | d :: items, acc, ht, he, hl => by
    have st : stays E [i] = true := by
      unfold stays
      rcases hs with h | ⟨d', h⟩
      · simp [hi, h]
      · simp [hi, h]
    have w : wipeE E [i] = E.set i .no := rfl
    have g : (SG.name (K := K) i).ev d (wipeE E [i]) = some (E.set i (.fz d)) := by
      rw [ev_gname, w, List.length_set, if_pos hi, List.set_set]
    have bk : ∀ d, backE E (E.set i (.fz d)) [i] = E := fun d => by
      unfold backE backE
      rw [List.set_set, set_gE hi]
    have lt : (E.set i (.fz d)).length = E.length := List.length_set
    simp only [List.length_cons] at hl
    unfold lcL
    rw [if_pos st, g]
    dsimp only
    rw [ht d List.mem_cons_self, Rs.noex_ok, Rs.bind_ok]
    cases hc : c d with
    | false =>
      rw [if_neg Bool.false_ne_true, if_pos lt, bk d, lc1 hi hs c f items acc (fun x hx => ht x (List.mem_cons_of_mem _ hx)) (fun x hx => he x (List.mem_cons_of_mem _ hx)) (by omega)]
      simp [hc]
    | true =>
      obtain ⟨r, h1, h2⟩ := he d List.mem_cons_self hc
      have sh : shareE (E.set i (.fz d)) r = .ok (f d) (E.set i (.fz d)) := by
        rcases h2 with h2 | h2
        · rw [h2]; rfl
        · rw [h2]; rfl
      rw [if_pos rfl, h1, Rs.noex_ok, Rs.bind_ok, sh, Rs.bind_ok, if_pos ⟨lt, size_lt (by omega)⟩, bk d, lc1 hi hs c f items (acc ++ [f d]) (fun x hx => ht x (List.mem_cons_of_mem _ hx)) (fun x hx => he x (List.mem_cons_of_mem _ hx)) (by simp; omega)]
      simp [hc]
theorem ev_lc1 {it : SI K} {t : ST K} {e : SX K} {i : Nat} {hg} {E0 E : En} {items : List D} (hit : it.ev E0 = .ok items E) (hi : i < E.length) (hs : gE E i = .no ∨ ∃ d, gE E i = .fz d) (c : D → Bool) (f : D → D) (ht : ∀ d ∈ items, t.ev (E.set i (.fz d)) = .ok (c d) (E.set i (.fz d)))
    (he : ∀ d ∈ items, c d = true → ∃ r, e.ev (E.set i (.fz d)) = .ok r (E.set i (.fz d)) ∧ (r = .fz (f d) ∨ r = .tmp (f d))) (hl : items.length < 16777216) :
    (SX.lc it (SG.name i) t e [i] hg).ev E0 = .ok (.tmp (.lst ((items.filter c).map f))) E := by
  rw [ev_lc, hit, Rs.bind_ok, lc1 hi hs c f items [] ht he (by simpa using hl)]
  rfl
/-- without a test -/
theorem ev_lcm {it : SI K} {e : SX K} {i : Nat} {hg} {E0 E : En} {items : List D} (hit : it.ev E0 = .ok items E) (hi : i < E.length) (hs : gE E i = .no ∨ ∃ d, gE E i = .fz d) (f : D → D)
    (he : ∀ d ∈ items, ∃ r, e.ev (E.set i (.fz d)) = .ok r (E.set i (.fz d)) ∧ (r = .fz (f d) ∨ r = .tmp (f d))) (hl : items.length < 16777216) :
    (SX.lc it (SG.name i) ST.yes e [i] hg).ev E0 = .ok (.tmp (.lst (items.map f))) E := by
  rw [ev_lc1 hit hi hs (fun _ => true) f (fun _ _ => rfl) (fun d hd _ => he d hd) hl, List.filter_eq_self.mpr (fun _ _ => rfl)]
end
/-! ### indexes -/
@[simp] theorem atI_nat' {α : Type} {xs : List α} {n : Nat} : atI xs (n : Int) = xs[n]? := by
  unfold atI ixN
  by_cases h : n < xs.length
  · simp [h]
  · simp [h]
theorem atI_int {α : Type} {xs : List α} {i : Int} (h : 0 ≤ i) : atI xs i = xs[i.toNat]? := by
  obtain ⟨n, rfl⟩ := Int.eq_ofNat_of_zero_le h
  exact atI_nat'
theorem atI_some {α : Type} {xs : List α} {i : Int} (h : 0 ≤ i) (h2 : i < xs.length) : ∃ x, atI xs i = some x ∧ x ∈ xs ∧ xs[i.toNat]? = some x := by
  rw [atI_int h]
  have q : i.toNat < xs.length := by omega
  exact ⟨xs[i.toNat], List.getElem?_eq_getElem q, List.getElem_mem q, List.getElem?_eq_getElem q⟩
theorem atI_map {α β : Type} {xs : List α} {f : α → β} {i : Int} : atI (xs.map f) i = (atI xs i).map f := by
  unfold atI
  rw [List.length_map]
  cases ixN xs.length i with
  | none => rfl
  | some j => simp
/-! ### texts -/
def sg (c : Nat) : Str := ⟨#[c]⟩
def st (cs : List Nat) : Str := ⟨cs.toArray⟩
theorem join0 : ∀ cs : List Nat, Str.join Str.empty (cs.map sg) = st cs
  | [] => rfl
  | [c] => rfl
  | c :: d :: cs => by
    have ih := join0 (d :: cs)
    rw [List.map_cons] at ih
    show sg c ++ Str.empty ++ Str.join Str.empty ((d :: cs).map sg) = _
    rw [List.map_cons, ih]
    apply PySem.Str.ext'
    simp [PySem.Str.cps_append, sg, st, Str.empty]
theorem st_len {cs : List Nat} : (st cs).length = cs.length := by simp [st, Str.length]
theorem st_app {a b : List Nat} : st a ++ st b = st (a ++ b) := by
  apply PySem.Str.ext'
  simp [PySem.Str.cps_append, st]
theorem st_inj {a b : List Nat} (h : st a = st b) : a = b := by
  have := congrArg (fun s : Str => s.cps.toList) h
  simpa [st] using this
theorem sg_st (c : Nat) : sg c = st [c] := rfl
end DX
set_option Elab.async false
set_option linter.all false
set_option maxRecDepth 100000
namespace DX
open PySem PySem.Spec PyProof.Rows L2 RZ RT
variable {K : PySem.W.Frag}
@[simp] theorem ix_lst {ds : List D} {i : Int} : ixF (.lst ds) (.int i) = (atI ds i).map .fz := rfl
@[simp] theorem ix_rdl {ds : List D} {i : Int} : ixF (.rdl ds) (.int i) = (atI ds i).map .fz := rfl
@[simp] theorem ix_tup {ds : List D} {i : Int} : ixF (.tup ds) (.int i) = (atI ds i).map .fz := rfl
@[simp] theorem ix_tuf {ds : List D} {i : Int} : ixF (.tuf ds) (.int i) = (atI ds i).map .fz := rfl
@[simp] theorem eqd_i {i j : Int} : D.eqd (.int i) (.int j) = some (decide (i = j)) := rfl
@[simp] theorem eqd_s {i j : Str} : D.eqd (.str i) (.str j) = some (decide (i = j)) := rfl
@[simp] theorem bl_f {f : D → D → Option Bool} {a b : D} : blF f false a b = (f a b).map fun c => .fz (.bl c) := by
  unfold blF; cases f a b <;> rfl
@[simp] theorem bl_t {f : D → D → Option Bool} {a b : D} : blF f true a b = (f a b).map fun c => .fz (.bl (!c)) := by
  unfold blF; cases f a b <;> rfl
@[simp] theorem size_le1 {n : Nat} (h : n ≤ 16777216) : (n ≤ sizeLine) = True := eq_true (size_le h)
@[simp] theorem size_lt1 {n : Nat} (h : n < 16777216) : (n < sizeLine) = True := eq_true (size_lt h)
@[simp] theorem atI_0 {α : Type} {xs : List α} : atI xs 0 = xs[0]? := atI_nat' (n := 0)
@[simp] theorem atI_1 {α : Type} {xs : List α} : atI xs 1 = xs[1]? := atI_nat' (n := 1)
@[simp] theorem atI_2 {α : Type} {xs : List α} : atI xs 2 = xs[2]? := atI_nat' (n := 2)
@[simp] theorem atI_3 {α : Type} {xs : List α} : atI xs 3 = xs[3]? := atI_nat' (n := 3)
@[simp] theorem atI_4 {α : Type} {xs : List α} : atI xs 4 = xs[4]? := atI_nat' (n := 4)
@[simp] theorem atI_5 {α : Type} {xs : List α} : atI xs 5 = xs[5]? := atI_nat' (n := 5)
@[simp] theorem atI_6 {α : Type} {xs : List α} : atI xs 6 = xs[6]? := atI_nat' (n := 6)
@[simp] theorem atI_7 {α : Type} {xs : List α} : atI xs 7 = xs[7]? := atI_nat' (n := 7)
@[simp] theorem atI_8 {α : Type} {xs : List α} : atI xs 8 = xs[8]? := atI_nat' (n := 8)
@[simp] theorem atI_9 {α : Type} {xs : List α} : atI xs 9 = xs[9]? := atI_nat' (n := 9)
@[simp] theorem sl_lst {ds : List D} {lo hi : Option Int} : slF (.lst ds) lo hi = some (.tmp (.lst (DX.cutD ds lo hi))) := rfl
@[simp] theorem sl_tup {ds : List D} {lo hi : Option Int} : slF (.tup ds) lo hi = some (.fz (.tup (DX.cutD ds lo hi))) := rfl
theorem bls_map {α : Type} {f : α → Bool} : ∀ {xs : List α}, blsOf (xs.map fun x => .bl (f x)) = some (xs.map f)
  | [] => rfl
  | x :: xs => by
    show (blsOf (xs.map fun x => .bl (f x))).map (f x :: ·) = _
    rw [bls_map (xs := xs)]; rfl
theorem all_map {α : Type} {f : α → Bool} {xs : List α} : allF (fun bs => bs.all id) [.lst (xs.map fun x => .bl (f x))] = some (.fz (.bl (xs.all f))) := by
  show (blsOf _).map _ = _
  rw [bls_map]
  show some (Rt.fz (.bl ((xs.map f).all id))) = _
  rw [List.all_map]; rfl
theorem in62_nat {n : Nat} (h : n ≤ 1000000) : in62 (n : Int) = true := in62_of (by omega) (by omega)
/-- a comprehension with any target -/
theorem lcG {g : D → En → Option En} {t : En → Rs Bool} {e : En → Rs R} {vs : List Nat} {E : En} (hst : stays E vs = true) (f : D → D) : ∀ (items acc : List D),
    (∀ d ∈ items, ∃ E', g d (wipeE E vs) = some E' ∧ E'.length = E.length ∧ backE E E' vs = E ∧ t E' = .ok true E' ∧ e E' = .ok (.fz (f d)) E') → acc.length + items.length < 16777216 →
    lcL g t e vs items E acc = .ok (acc ++ items.map f) E
  | [], acc, _, _ => by simp [lcL]
  | d :: items, acc, h, hl => by
    obtain ⟨E', h1, h2, h3, h4, h5⟩ := h d List.mem_cons_self
    simp only [List.length_cons] at hl
    unfold lcL
    rw [if_pos hst, h1]
    dsimp only
    rw [h4, Rs.noex_ok, Rs.bind_ok, if_pos rfl, h5, Rs.noex_ok, Rs.bind_ok]
    show (Rs.ok (f d) E').bind _ = _
    rw [Rs.bind_ok, if_pos ⟨h2, size_lt (by omega)⟩, h3, lcG hst f items (acc ++ [f d]) (fun x hx => h x (List.mem_cons_of_mem _ hx)) (by simp; omega)]
    simp
/-! ### numbers of a list -/
def nth (xs : List Int) (k : Nat) : Int := xs.getD k 0
theorem nth_get {xs : List Int} {k : Nat} (h : k < xs.length) : xs[k] = nth xs k := by
  unfold nth; simp [h]
theorem ix_int {xs : List Int} {i : Int} (h0 : 0 ≤ i) (h1 : i < xs.length) : atI (xs.map D.int) i = some (.int (nth xs i.toNat)) := by
  rw [atI_int h0, List.getElem?_map, List.getElem?_eq_getElem (by omega), nth_get]; rfl
theorem nth_ge {xs : List Int} {k : Nat} (h : xs.length ≤ k) : nth xs k = 0 := by
  unfold nth; simp [h]
structure Nums (n : Nat) (xs : List Int) : Prop where
  len : xs.length = n
  lo : ∀ k, 0 ≤ nth xs k
  hi : ∀ k, nth xs k < 720
theorem Nums.of {n : Nat} {xs : List Int} (h : xs.length = n) (b : ∀ x ∈ xs, 0 ≤ x ∧ x < 720) : Nums n xs := by
  have g : ∀ k, 0 ≤ nth xs k ∧ nth xs k < 720 := fun k => by
    by_cases q : k < xs.length
    · rw [← nth_get q]; exact b _ (List.getElem_mem q)
    · rw [nth_ge (by omega)]; omega
  exact ⟨h, fun k => (g k).1, fun k => (g k).2⟩
theorem Nums.ix {n : Nat} {xs : List Int} (h : Nums n xs) {i : Int} (h0 : 0 ≤ i) (h1 : i < n) : atI (xs.map D.int) i = some (.int (nth xs i.toNat)) := ix_int h0 (by rw [h.len]; exact h1)
/-! ### a dictionary of pairs with growing keys -/
theorem putP_new {ps : List (Key × D)} {k : Key} {d : D} (h : ∀ p ∈ ps, p.1 ≠ k) : putP ps k d = ps ++ [(k, d)] := by
  unfold putP
  rw [if_neg]
  intro h2
  rw [List.any_eq_true] at h2
  obtain ⟨p, hp, e⟩ := h2
  exact h p hp (of_decide_eq_true e)
theorem mergeP_new : ∀ (more ps : List (Key × D)), (∀ p ∈ ps, ∀ q ∈ more, p.1 ≠ q.1) → more.Pairwise (fun p q => p.1 ≠ q.1) → mergeP ps more = ps ++ more
  | [], ps, _, _ => by simp [mergeP]
  | q :: more, ps, h, hm => by
    have hm' := List.pairwise_cons.mp hm
    have e : mergeP ps (q :: more) = mergeP (putP ps q.1 q.2) more := rfl
    rw [e, putP_new fun p hp => h p hp q List.mem_cons_self, mergeP_new more _ _ hm'.2]
    · simp
    · intro p hp r hr
      rcases List.mem_append.mp hp with hp | hp
      · exact h p hp r (List.mem_cons_of_mem _ hr)
      · rw [List.mem_singleton.mp hp]; exact hm'.1 r hr
theorem zipK_id : ∀ ps : List (Key × D), zipK (ps.map (·.1)) (ps.map (·.2)) = ps
  | [] => rfl
  | p :: ps => by
    show (p.1, p.2) :: zipK (ps.map (·.1)) (ps.map (·.2)) = _
    rw [zipK_id ps]
end DX
set_option Elab.async false
set_option linter.all false
set_option maxRecDepth 100000
set_option maxHeartbeats 4000000
namespace G00
open PySem PySem.Spec PyProof.Rows L2 RZ RT DX
def topS (i : Nat) : Stmt := PySem.Challenge.pw_saidbelow_k00_cells_as_figures_and_back.main.body.getD i (.Pass ⟨0, 0, 0, 0⟩)
structure Ads where
  fis_integer : Addr
  fis_from : Addr
  fis_tuple : Addr
  fis_address : Addr
  fmemory_dict : Addr
  fis_cell : Addr
  fis_a_memory : Addr
  fneed_memory : Addr
  ffigures_of : Addr
  fWords___init__ : Addr
  fWords_at : Addr
  fWords_from_to : Addr
  fWords_number : Addr
  fWords_size : Addr
  fWords_cell : Addr
  fcell_at : Addr
  f_law_cell_at : Addr
  f_law_numbers : Addr
  f_law_words : Addr
  f_law_greats : Addr
  f_law_cell : Addr
  f_law_is_same : Addr
  flaw : Addr
  c_Words : Addr
abbrev sis_integer : Stmt := topS 6
abbrev Nis_integer : List Str := ["value", "least", "most"]
abbrev Pis_integer : List Str := ["value", "least", "most"]
theorem scis_integer : FnScope Nis_integer Pis_integer (defScope sis_integer) := ⟨rfl, rfl, rfl, by decide +kernel, rfl, by decide +kernel, by decide +kernel⟩
abbrev sis_from : Stmt := topS 7
abbrev Nis_from : List Str := ["value", "low", "high"]
abbrev Pis_from : List Str := ["value", "low", "high"]
theorem scis_from : FnScope Nis_from Pis_from (defScope sis_from) := ⟨rfl, rfl, rfl, by decide +kernel, rfl, by decide +kernel, by decide +kernel⟩
abbrev sis_tuple : Stmt := topS 8
abbrev Nis_tuple : List Str := ["value", "low", "high"]
abbrev Pis_tuple : List Str := ["value", "low", "high"]
theorem scis_tuple : FnScope Nis_tuple Pis_tuple (defScope sis_tuple) := ⟨rfl, rfl, rfl, by decide +kernel, rfl, by decide +kernel, by decide +kernel⟩
abbrev sis_address : Stmt := topS 12
abbrev Nis_address : List Str := ["value"]
abbrev Pis_address : List Str := ["value"]
theorem scis_address : FnScope Nis_address Pis_address (defScope sis_address) := ⟨rfl, rfl, rfl, by decide +kernel, rfl, by decide +kernel, by decide +kernel⟩
abbrev smemory_dict : Stmt := topS 13
abbrev Nmemory_dict : List Str := ["memory"]
abbrev Pmemory_dict : List Str := ["memory"]
theorem scmemory_dict : FnScope Nmemory_dict Pmemory_dict (defScope smemory_dict) := ⟨rfl, rfl, rfl, by decide +kernel, rfl, by decide +kernel, by decide +kernel⟩
abbrev sis_cell : Stmt := topS 14
abbrev Nis_cell : List Str := ["value"]
abbrev Pis_cell : List Str := ["value"]
theorem scis_cell : FnScope Nis_cell Pis_cell (defScope sis_cell) := ⟨rfl, rfl, rfl, by decide +kernel, rfl, by decide +kernel, by decide +kernel⟩
abbrev sis_a_memory : Stmt := topS 15
abbrev Nis_a_memory : List Str := ["value", "one", "other", "cell"]
abbrev Pis_a_memory : List Str := ["value"]
theorem scis_a_memory : FnScope Nis_a_memory Pis_a_memory (defScope sis_a_memory) := ⟨rfl, rfl, rfl, by decide +kernel, rfl, by decide +kernel, by decide +kernel⟩
abbrev sneed_memory : Stmt := topS 16
abbrev Nneed_memory : List Str := ["memory"]
abbrev Pneed_memory : List Str := ["memory"]
theorem scneed_memory : FnScope Nneed_memory Pneed_memory (defScope sneed_memory) := ⟨rfl, rfl, rfl, by decide +kernel, rfl, by decide +kernel, by decide +kernel⟩
abbrev sfigures_of : Stmt := topS 26
abbrev Nfigures_of : List Str := ["cell", "makers", "rows", "word", "left", "found"]
abbrev Pfigures_of : List Str := ["cell", "makers", "rows"]
theorem scfigures_of : FnScope Nfigures_of Pfigures_of (defScope sfigures_of) := ⟨rfl, rfl, rfl, by decide +kernel, rfl, by decide +kernel, by decide +kernel⟩
abbrev sWords___init__ : Stmt := inClass (topS 27) 0
abbrev NWords___init__ : List Str := ["self", "memory", "makers", "rows"]
abbrev PWords___init__ : List Str := ["self", "memory", "makers", "rows"]
theorem scWords___init__ : FnScope NWords___init__ PWords___init__ (defScope sWords___init__) := ⟨rfl, rfl, rfl, by decide +kernel, rfl, by decide +kernel, by decide +kernel⟩
abbrev sWords_at : Stmt := inClass (topS 27) 1
abbrev NWords_at : List Str := ["self", "address"]
abbrev PWords_at : List Str := ["self", "address"]
theorem scWords_at : FnScope NWords_at PWords_at (defScope sWords_at) := ⟨rfl, rfl, rfl, by decide +kernel, rfl, by decide +kernel, by decide +kernel⟩
abbrev sWords_from_to : Stmt := inClass (topS 27) 2
abbrev NWords_from_to : List Str := ["self", "low", "high", "address"]
abbrev PWords_from_to : List Str := ["self", "low", "high"]
theorem scWords_from_to : FnScope NWords_from_to PWords_from_to (defScope sWords_from_to) := ⟨rfl, rfl, rfl, by decide +kernel, rfl, by decide +kernel, by decide +kernel⟩
abbrev sWords_number : Stmt := inClass (topS 27) 3
abbrev NWords_number : List Str := ["self", "address", "many", "figures", "figure", "found"]
abbrev PWords_number : List Str := ["self", "address"]
theorem scWords_number : FnScope NWords_number PWords_number (defScope sWords_number) := ⟨rfl, rfl, rfl, by decide +kernel, rfl, by decide +kernel, by decide +kernel⟩
abbrev sWords_size : Stmt := inClass (topS 27) 4
abbrev NWords_size : List Str := ["self", "address", "word"]
abbrev PWords_size : List Str := ["self", "address"]
theorem scWords_size : FnScope NWords_size PWords_size (defScope sWords_size) := ⟨rfl, rfl, rfl, by decide +kernel, rfl, by decide +kernel, by decide +kernel⟩
abbrev sWords_cell : Stmt := inClass (topS 27) 5
abbrev NWords_cell : List Str := ["self", "address", "word", "told", "found", "number"]
abbrev PWords_cell : List Str := ["self", "address"]
theorem scWords_cell : FnScope NWords_cell PWords_cell (defScope sWords_cell) := ⟨rfl, rfl, rfl, by decide +kernel, rfl, by decide +kernel, by decide +kernel⟩
abbrev scell_at : Stmt := topS 28
abbrev Ncell_at : List Str := ["memory", "address", "makers", "rows"]
abbrev Pcell_at : List Str := ["memory", "address", "makers", "rows"]
theorem sccell_at : FnScope Ncell_at Pcell_at (defScope scell_at) := ⟨rfl, rfl, rfl, by decide +kernel, rfl, by decide +kernel, by decide +kernel⟩
abbrev s_law_cell_at : Stmt := topS 30
abbrev N_law_cell_at : List Str := ["script", "k"]
abbrev P_law_cell_at : List Str := ["script", "k"]
theorem sc_law_cell_at : FnScope N_law_cell_at P_law_cell_at (defScope s_law_cell_at) := ⟨rfl, rfl, rfl, by decide +kernel, rfl, by decide +kernel, by decide +kernel⟩
abbrev s_law_numbers : Stmt := topS 31
abbrev N_law_numbers : List Str := ["cell", "many", "found", "rest", "k", "stir"]
abbrev P_law_numbers : List Str := ["cell", "many"]
theorem sc_law_numbers : FnScope N_law_numbers P_law_numbers (defScope s_law_numbers) := ⟨rfl, rfl, rfl, by decide +kernel, rfl, by decide +kernel, by decide +kernel⟩
abbrev s_law_words : Stmt := topS 32
abbrev N_law_words : List Str := ["cell", "many", "xs", "letters", "size", "k", "base", "found", "row", "word"]
abbrev P_law_words : List Str := ["cell", "many"]
theorem sc_law_words : FnScope N_law_words P_law_words (defScope s_law_words) := ⟨rfl, rfl, rfl, by decide +kernel, rfl, by decide +kernel, by decide +kernel⟩
abbrev s_law_greats : Stmt := topS 33
abbrev N_law_greats : List Str := ["cell", "many", "xs", "small", "great", "k", "tail", "found", "name"]
abbrev P_law_greats : List Str := ["cell", "many"]
theorem sc_law_greats : FnScope N_law_greats P_law_greats (defScope s_law_greats) := ⟨rfl, rfl, rfl, by decide +kernel, rfl, by decide +kernel, by decide +kernel⟩
abbrev s_law_cell : Stmt := topS 34
abbrev N_law_cell : List Str := ["cell", "makers", "rows", "xs", "kind", "many", "row", "number", "one", "addresses", "at", "two", "k"]
abbrev P_law_cell : List Str := ["cell", "makers", "rows"]
theorem sc_law_cell : FnScope N_law_cell P_law_cell (defScope s_law_cell) := ⟨rfl, rfl, rfl, by decide +kernel, rfl, by decide +kernel, by decide +kernel⟩
abbrev s_law_is_same : Stmt := topS 35
abbrev N_law_is_same : List Str := ["one", "other", "k"]
abbrev P_law_is_same : List Str := ["one", "other"]
theorem sc_law_is_same : FnScope N_law_is_same P_law_is_same (defScope s_law_is_same) := ⟨rfl, rfl, rfl, by decide +kernel, rfl, by decide +kernel, by decide +kernel⟩
abbrev slaw : Stmt := topS 36
abbrev Nlaw : List Str := ["script", "xs", "makers", "rows", "k", "ys", "cell", "due", "at", "words", "memory", "j"]
abbrev Plaw : List Str := ["script"]
theorem sclaw : FnScope Nlaw Plaw (defScope slaw) := ⟨rfl, rfl, rfl, by decide +kernel, rfl, by decide +kernel, by decide +kernel⟩
structure Txt (K : PySem.W.Frag) (mg : Str → Option Value) (A : Ads) : Prop where
  b_isinstance : mg "isinstance" = none
  b_int : mg "int" = none
  b_bool : mg "bool" = none
  b_tuple : mg "tuple" = none
  b_len : mg "len" = none
  b_dict : mg "dict" = none
  b_all : mg "all" = none
  b_zip : mg "zip" = none
  b_abs : mg "abs" = none
  b_range : mg "range" = none
  b_list : mg "list" = none
  b_reversed : mg "reversed" = none
  b_str : mg "str" = none
  b_max : mg "max" = none
  b_min : mg "min" = none
  i_CELLS : ∃ t, mg "CELLS" = some (.int 4096 t)
  i_MOST_FIGURE : ∃ t, mg "MOST_FIGURE" = some (.int 65535 t)
  i_BYTE : ∃ t, mg "BYTE" = some (.int 256 t)
  i_ROW : ∃ t, mg "ROW" = some (.int 5 t)
  i_LEAD : ∃ t, mg "LEAD" = some (.int 6 t)
  i_EMPTY : ∃ t, mg "EMPTY" = some (.int 7 t)
  i_MAKER : ∃ t, mg "MAKER" = some (.int 3 t)
  i_APPLY : ∃ t, mg "APPLY" = some (.int 4 t)
  i_MINUS : ∃ t, mg "MINUS" = some (.int 2 t)
  i_PLUS : ∃ t, mg "PLUS" = some (.int 1 t)
  Fis_integer : FnIn K "is_integer" "is_integer" sis_integer A.fis_integer Pis_integer
  m_is_integer : mg "is_integer" = some (.ref A.fis_integer)
  k_is_integer : PySem.W.keepIn K (.ref A.fis_integer) = true
  Fis_from : FnIn K "is_from" "is_from" sis_from A.fis_from Pis_from
  m_is_from : mg "is_from" = some (.ref A.fis_from)
  k_is_from : PySem.W.keepIn K (.ref A.fis_from) = true
  Fis_tuple : FnIn K "is_tuple" "is_tuple" sis_tuple A.fis_tuple Pis_tuple
  m_is_tuple : mg "is_tuple" = some (.ref A.fis_tuple)
  k_is_tuple : PySem.W.keepIn K (.ref A.fis_tuple) = true
  Fis_address : FnIn K "is_address" "is_address" sis_address A.fis_address Pis_address
  m_is_address : mg "is_address" = some (.ref A.fis_address)
  k_is_address : PySem.W.keepIn K (.ref A.fis_address) = true
  Fmemory_dict : FnIn K "memory_dict" "memory_dict" smemory_dict A.fmemory_dict Pmemory_dict
  m_memory_dict : mg "memory_dict" = some (.ref A.fmemory_dict)
  k_memory_dict : PySem.W.keepIn K (.ref A.fmemory_dict) = true
  Fis_cell : FnIn K "is_cell" "is_cell" sis_cell A.fis_cell Pis_cell
  m_is_cell : mg "is_cell" = some (.ref A.fis_cell)
  k_is_cell : PySem.W.keepIn K (.ref A.fis_cell) = true
  Fis_a_memory : FnIn K "is_a_memory" "is_a_memory" sis_a_memory A.fis_a_memory Pis_a_memory
  m_is_a_memory : mg "is_a_memory" = some (.ref A.fis_a_memory)
  k_is_a_memory : PySem.W.keepIn K (.ref A.fis_a_memory) = true
  Fneed_memory : FnIn K "need_memory" "need_memory" sneed_memory A.fneed_memory Pneed_memory
  m_need_memory : mg "need_memory" = some (.ref A.fneed_memory)
  k_need_memory : PySem.W.keepIn K (.ref A.fneed_memory) = true
  Ffigures_of : FnIn K "figures_of" "figures_of" sfigures_of A.ffigures_of Pfigures_of
  m_figures_of : mg "figures_of" = some (.ref A.ffigures_of)
  k_figures_of : PySem.W.keepIn K (.ref A.ffigures_of) = true
  FWords___init__ : FnIn K "__init__" "Words.__init__" sWords___init__ A.fWords___init__ PWords___init__
  FWords_at : FnIn K "at" "Words.at" sWords_at A.fWords_at PWords_at
  FWords_from_to : FnIn K "from_to" "Words.from_to" sWords_from_to A.fWords_from_to PWords_from_to
  FWords_number : FnIn K "number" "Words.number" sWords_number A.fWords_number PWords_number
  FWords_size : FnIn K "size" "Words.size" sWords_size A.fWords_size PWords_size
  FWords_cell : FnIn K "cell" "Words.cell" sWords_cell A.fWords_cell PWords_cell
  Fcell_at : FnIn K "cell_at" "cell_at" scell_at A.fcell_at Pcell_at
  m_cell_at : mg "cell_at" = some (.ref A.fcell_at)
  k_cell_at : PySem.W.keepIn K (.ref A.fcell_at) = true
  F_law_cell_at : FnIn K "_law_cell_at" "_law_cell_at" s_law_cell_at A.f_law_cell_at P_law_cell_at
  m__law_cell_at : mg "_law_cell_at" = some (.ref A.f_law_cell_at)
  k__law_cell_at : PySem.W.keepIn K (.ref A.f_law_cell_at) = true
  F_law_numbers : FnIn K "_law_numbers" "_law_numbers" s_law_numbers A.f_law_numbers P_law_numbers
  m__law_numbers : mg "_law_numbers" = some (.ref A.f_law_numbers)
  k__law_numbers : PySem.W.keepIn K (.ref A.f_law_numbers) = true
  F_law_words : FnIn K "_law_words" "_law_words" s_law_words A.f_law_words P_law_words
  m__law_words : mg "_law_words" = some (.ref A.f_law_words)
  k__law_words : PySem.W.keepIn K (.ref A.f_law_words) = true
  F_law_greats : FnIn K "_law_greats" "_law_greats" s_law_greats A.f_law_greats P_law_greats
  m__law_greats : mg "_law_greats" = some (.ref A.f_law_greats)
  k__law_greats : PySem.W.keepIn K (.ref A.f_law_greats) = true
  F_law_cell : FnIn K "_law_cell" "_law_cell" s_law_cell A.f_law_cell P_law_cell
  m__law_cell : mg "_law_cell" = some (.ref A.f_law_cell)
  k__law_cell : PySem.W.keepIn K (.ref A.f_law_cell) = true
  F_law_is_same : FnIn K "_law_is_same" "_law_is_same" s_law_is_same A.f_law_is_same P_law_is_same
  m__law_is_same : mg "_law_is_same" = some (.ref A.f_law_is_same)
  k__law_is_same : PySem.W.keepIn K (.ref A.f_law_is_same) = true
  Flaw : FnIn K "law" "law" slaw A.flaw Plaw
  m_law : mg "law" = some (.ref A.flaw)
  k_law : PySem.W.keepIn K (.ref A.flaw) = true
  cl_Words : Cls K A.c_Words
  mk_Words : Mk K A.c_Words A.fWords___init__
  mc_Words : mg "Words" = some (.ref A.c_Words)
  na_Words_words : NoAttr K A.c_Words "words"
  na_Words_makers : NoAttr K A.c_Words "makers"
  na_Words_rows : NoAttr K A.c_Words "rows"
  mt_Words_at : Meth K A.c_Words "at" A.fWords_at
  mt_Words_from_to : Meth K A.c_Words "from_to" A.fWords_from_to
  mt_Words_number : Meth K A.c_Words "number" A.fWords_number
  mt_Words_size : Meth K A.c_Words "size" A.fWords_size
  mt_Words_cell : Meth K A.c_Words "cell" A.fWords_cell
section
variable {P : Program} {w : World} {K : PySem.W.Frag} {mg : Str → Option Value} {base : Heap} {A : Ads}
def bis_integer (T : Txt K mg A) : SS K := (SS.seq (SS.ite (ST.or (ST.not (ST.of (SX.isi "int" (SX.var 0)))) (ST.of (SX.isi "bool" (SX.var 0))))
    (SS.ret (SX.bl false)) SS.pass)
    (SS.ret (SX.and (SX.or (SX.op oIsNo (SX.var 1) SX.non) (SX.op oLe (SX.var 1) (SX.var 0))) (SX.or (SX.op oIsNo (SX.var 2) SX.non) (SX.op oLe (SX.var 0) (SX.var 2))))))
def fis_integer (T : Txt K mg A) : En → Rs Rt := runF 3 3 (bis_integer T).ev
theorem okis_integer (T : Txt K mg A) : Callee P w K mg base 1 A.fis_integer Pis_integer (spF K 3 (fis_integer T)) := by
  refine def_ok T.Fis_integer scis_integer (bis_integer T) (by decide) fun cdv As outer s H E hr tk hp => ?_
  have key : PSs (cxOf (L2.CX P w) P w K mg base Nis_integer "is_integer" (defScope sis_integer) A.fis_integer cdv As outer s H E) (defBody sis_integer) _ := (pss_cons (ps_if (PW.pt (pw_or (pt_not (pt_ofX (pe_callB (call_isiKK K) (by rfl) T.b_isinstance (by decide +kernel) (pa_cons (pv 0) (pa_cons (pe_bltn (v := .ty "int") (by rfl) T.b_int (by decide +kernel) rfl) pa_nil))))) (pw_or1 (pt_ofX (pe_callB (call_isiKK K) (by rfl) T.b_isinstance (by decide +kernel) (pa_cons (pv 0) (pa_cons (pe_bltn (v := .ty "bool") (by rfl) T.b_bool (by decide +kernel) rfl) pa_nil)))))))
    (pss_one (ps_ret pe_bl)) pss_nil)
    (pss_one (ps_ret (pe_and (pe_or (pe_cmpR op_isN (pv 1) pe_non (nomark _)) (pe_one (pe_cmpR op_le (pv 1) (pv 0) (nomark _)))) (pe_one (pe_or (pe_cmpR op_isN (pv 2) pe_non (nomark _)) (pe_one (pe_cmpR op_le (pv 0) (pv 2) (nomark _)))))))))
  exact key
def bis_from (T : Txt K mg A) : SS K := (SS.ret (SX.call 3 (fis_integer T) (SP.cons (SX.var 0) (SP.cons (SX.var 1) (SP.cons (SX.var 2) SP.nil)))))
def fis_from (T : Txt K mg A) : En → Rs Rt := runF 3 3 (bis_from T).ev
theorem okis_from (T : Txt K mg A) : Callee P w K mg base 2 A.fis_from Pis_from (spF K 3 (fis_from T)) := by
  have cis_integer := okis_integer (P := P) (w := w) (base := base) T
  refine def_ok T.Fis_from scis_from (bis_from T) (by decide) fun cdv As outer s H E hr tk hp => ?_
  have key : PSs (cxOf (L2.CX P w) P w K mg base Nis_from "is_from" (defScope sis_from) A.fis_from cdv As outer s H E) (defBody sis_from) _ := (pss_one (ps_ret (pe_callK K cis_integer (hr.mono (by decide)) (by rfl) T.m_is_integer T.k_is_integer tk (pa_cons (pv 0) (pa_cons (pv 1) (pa_cons (pv 2) pa_nil))))))
  exact key
def bis_tuple (T : Txt K mg A) : SS K := (SS.ret (SX.and (SX.isi "tuple" (SX.var 0)) (SX.chain oLe oLe (SX.var 1) (SX.cb oLen (SA.cons (SX.var 0) SA.nil)) (SX.var 2))))
def fis_tuple (T : Txt K mg A) : En → Rs Rt := runF 3 3 (bis_tuple T).ev
theorem okis_tuple (T : Txt K mg A) : Callee P w K mg base 1 A.fis_tuple Pis_tuple (spF K 3 (fis_tuple T)) := by
  refine def_ok T.Fis_tuple scis_tuple (bis_tuple T) (by decide) fun cdv As outer s H E hr tk hp => ?_
  have key : PSs (cxOf (L2.CX P w) P w K mg base Nis_tuple "is_tuple" (defScope sis_tuple) A.fis_tuple cdv As outer s H E) (defBody sis_tuple) _ := (pss_one (ps_ret (pe_and (pe_callB (call_isiKK K) (by rfl) T.b_isinstance (by decide +kernel) (pa_cons (pv 0) (pa_cons (pe_bltn (v := .ty "tuple") (by rfl) T.b_tuple (by decide +kernel) rfl) pa_nil))) (pe_one (pe_chain op_le op_le (pv 1) (pe_callB (call_lenK K) (by rfl) T.b_len (by decide +kernel) (pa_cons (pv 0) pa_nil)) (pv 2))))))
  exact key
def bis_address (T : Txt K mg A) : SS K := (SS.ret (SX.call 3 (fis_from T) (SP.cons (SX.var 0) (SP.cons (SX.int 0) (SP.cons (SX.op oSub (SX.int 4096) (SX.int 1)) SP.nil)))))
def fis_address (T : Txt K mg A) : En → Rs Rt := runF 1 1 (bis_address T).ev
theorem okis_address (T : Txt K mg A) : Callee P w K mg base 3 A.fis_address Pis_address (spF K 1 (fis_address T)) := by
  have cis_from := okis_from (P := P) (w := w) (base := base) T
  refine def_ok T.Fis_address scis_address (bis_address T) (by decide) fun cdv As outer s H E hr tk hp => ?_
  have key : PSs (cxOf (L2.CX P w) P w K mg base Nis_address "is_address" (defScope sis_address) A.fis_address cdv As outer s H E) (defBody sis_address) _ := (pss_one (ps_ret (pe_callK K cis_from (hr.mono (by decide)) (by rfl) T.m_is_from T.k_is_from tk (pa_cons (pv 0) (pa_cons pe_int (pa_cons (pe_op op_sub (pe_globI (by rfl) T.i_CELLS) pe_int) pa_nil))))))
  exact key
def bmemory_dict (T : Txt K mg A) : SS K := (SS.ret (SX.cb oDict (SA.cons (SX.var 0) SA.nil)))
def fmemory_dict (T : Txt K mg A) : En → Rs Rt := runF 1 1 (bmemory_dict T).ev
theorem okmemory_dict (T : Txt K mg A) : Callee P w K mg base 1 A.fmemory_dict Pmemory_dict (spF K 1 (fmemory_dict T)) := by
  refine def_ok T.Fmemory_dict scmemory_dict (bmemory_dict T) (by decide) fun cdv As outer s H E hr tk hp => ?_
  have key : PSs (cxOf (L2.CX P w) P w K mg base Nmemory_dict "memory_dict" (defScope smemory_dict) A.fmemory_dict cdv As outer s H E) (defBody smemory_dict) _ := (pss_one (ps_ret (pe_callTy (call_dictK K rfl) (by rfl) T.b_dict (by decide +kernel) (pa_cons (pv 0) pa_nil))))
  exact key
def bis_cell (T : Txt K mg A) : SS K := (SS.ret (SX.and (SX.call 3 (fis_tuple T) (SP.cons (SX.var 0) (SP.cons (SX.int 2) (SP.cons (SX.int 2) SP.nil)))) (SX.and (SX.call 1 (fis_address T) (SP.cons (SX.op oIx (SX.var 0) (SX.int 0)) SP.nil)) (SX.call 3 (fis_from T) (SP.cons (SX.op oIx (SX.var 0) (SX.int 1)) (SP.cons (SX.int 1) (SP.cons (SX.int 65535) SP.nil)))))))
def fis_cell (T : Txt K mg A) : En → Rs Rt := runF 1 1 (bis_cell T).ev
theorem okis_cell (T : Txt K mg A) : Callee P w K mg base 4 A.fis_cell Pis_cell (spF K 1 (fis_cell T)) := by
  have cis_tuple := okis_tuple (P := P) (w := w) (base := base) T
  have cis_address := okis_address (P := P) (w := w) (base := base) T
  have cis_from := okis_from (P := P) (w := w) (base := base) T
  refine def_ok T.Fis_cell scis_cell (bis_cell T) (by decide) fun cdv As outer s H E hr tk hp => ?_
  have key : PSs (cxOf (L2.CX P w) P w K mg base Nis_cell "is_cell" (defScope sis_cell) A.fis_cell cdv As outer s H E) (defBody sis_cell) _ := (pss_one (ps_ret (pe_and (pe_callK K cis_tuple (hr.mono (by decide)) (by rfl) T.m_is_tuple T.k_is_tuple tk (pa_cons (pv 0) (pa_cons pe_int (pa_cons pe_int pa_nil)))) (pe_and (pe_callK K cis_address (hr.mono (by decide)) (by rfl) T.m_is_address T.k_is_address tk (pa_cons (pe_ix (ixK K) (pv 0) pe_int (fun _ _ => rfl)) pa_nil)) (pe_one (pe_callK K cis_from (hr.mono (by decide)) (by rfl) T.m_is_from T.k_is_from tk (pa_cons (pe_ix (ixK K) (pv 0) pe_int (fun _ _ => rfl)) (pa_cons pe_int (pa_cons (pe_globI (by rfl) T.i_MOST_FIGURE) pa_nil)))))))))
  exact key
def bis_a_memory (T : Txt K mg A) : SS K := (SS.seq (SS.ite (ST.or (ST.not (ST.of (SX.isi "tuple" (SX.var 0)))) (ST.not (ST.of (SX.cb oAll (SA.cons (SX.lc (SI.seq (SX.var 0)) (SG.name 3) ST.yes (SX.call 1 (fis_cell T) (SP.cons (SX.var 3) SP.nil)) [3] (fun _ h => h)) SA.nil)))))
    (SS.ret (SX.bl false)) SS.pass)
    (SS.ret (SX.cb oAll (SA.cons (SX.lc (SI.zip (SX.var 0) (SX.sl oSl (SX.var 0) (SO.some (SX.int 1)) SO.none)) (SG.tup 2 (SGs.cons (SG.name 1) (SGs.cons (SG.name 2) SGs.nil))) ST.yes (SX.op oLtX (SX.op oIx (SX.var 1) (SX.int 0)) (SX.op oIx (SX.var 2) (SX.int 0))) [1, 2] (fun _ h => h)) SA.nil))))
def fis_a_memory (T : Txt K mg A) : En → Rs Rt := runF 1 4 (bis_a_memory T).ev
abbrev Xis_a_memory (P : Program) (w : World) (K : PySem.W.Frag) (mg : Str → Option Value) (base : Heap) (A : Ads) (cdv : Value) (As : Around) (outer : List Env) (s : Shared) (H : Hp) (E : XK) : Cx := cxOf (L2.CX P w) P w K mg base Nis_a_memory "is_a_memory" (defScope sis_a_memory) A.fis_a_memory cdv As outer s H E
theorem okis_a_memory (T : Txt K mg A) : Callee P w K mg base 5 A.fis_a_memory Pis_a_memory (spF K 1 (fis_a_memory T)) := by
  have cis_cell := okis_cell (P := P) (w := w) (base := base) T
  refine def_ok T.Fis_a_memory scis_a_memory (bis_a_memory T) (by decide) fun cdv As outer s H E hr tk hp => ?_
  have key : PSs (cxOf (L2.CX P w) P w K mg base Nis_a_memory "is_a_memory" (defScope sis_a_memory) A.fis_a_memory cdv As outer s H E) (defBody sis_a_memory) _ := (pss_cons (ps_if (PW.pt (pw_or (pt_not (pt_ofX (pe_callB (call_isiKK K) (by rfl) T.b_isinstance (by decide +kernel) (pa_cons (pv 0) (pa_cons (pe_bltn (v := .ty "tuple") (by rfl) T.b_tuple (by decide +kernel) rfl) pa_nil))))) (pw_or1 (pt_not (pt_ofX (pe_callB (call_allK K rfl) (by rfl) T.b_all (by decide +kernel) (pa_cons (pe_lc (X := Xis_a_memory P w K mg base A cdv As outer s H E) (own := [("cell", 3)]) rfl scis_a_memory.nd (pi_seqK K (pv 0)) (blkOk_by (own := [("cell", 3)]) (N := Nis_a_memory) (sc := defScope sis_a_memory) (by decide +kernel)) (fun _ _ _ _ _ => (pg_name (i := 3) scis_a_memory.nd rfl (Or.inl rfl) (Or.inr rfl))) (fun _ _ _ _ _ => pts_nil) (fun _ _ _ _ _ => (pe_callK K cis_cell (hr.mono (by decide)) (by rfl) T.m_is_cell T.k_is_cell takes0 (pa_cons (pv 3) pa_nil)))) pa_nil)))))))
    (pss_one (ps_ret pe_bl)) pss_nil)
    (pss_one (ps_ret (pe_callB (call_allK K rfl) (by rfl) T.b_all (by decide +kernel) (pa_cons (pe_lc (X := Xis_a_memory P w K mg base A cdv As outer s H E) (own := [("one", 1), ("other", 2)]) rfl scis_a_memory.nd (pi_zipK K (by rfl) T.b_zip (pa_cons (pv 0) (pa_cons (pe_slice (slK K) (pv 0) (po_some pe_int) po_none) pa_nil))) (blkOk_by (own := [("one", 1), ("other", 2)]) (N := Nis_a_memory) (sc := defScope sis_a_memory) (by decide +kernel)) (fun _ _ _ _ _ => (pg_tupK K (n := 2) rfl (pgs_cons (pg_name (i := 1) scis_a_memory.nd rfl (Or.inl rfl) (Or.inr rfl)) (pgs_cons (pg_name (i := 2) scis_a_memory.nd rfl (Or.inl rfl) (Or.inr rfl)) pgs_nil)))) (fun _ _ _ _ _ => pts_nil) (fun _ _ _ _ _ => (pe_cmpR op_ltX (pe_ix (ixK K) (pv 1) pe_int (fun _ _ => rfl)) (pe_ix (ixK K) (pv 2) pe_int (fun _ _ => rfl)) (nomark _)))) pa_nil)))))
  exact key
def bneed_memory (T : Txt K mg A) : SS K := (SS.ite (ST.not (ST.of (SX.call 1 (fis_a_memory T) (SP.cons (SX.var 0) SP.nil))))
    SS.never SS.pass)
def fneed_memory (T : Txt K mg A) : En → Rs Rt := runF 1 1 (bneed_memory T).ev
theorem okneed_memory (T : Txt K mg A) : Callee P w K mg base 6 A.fneed_memory Pneed_memory (spF K 1 (fneed_memory T)) := by
  have cis_a_memory := okis_a_memory (P := P) (w := w) (base := base) T
  refine def_ok T.Fneed_memory scneed_memory (bneed_memory T) (by decide) fun cdv As outer s H E hr tk hp => ?_
  have key : PSs (cxOf (L2.CX P w) P w K mg base Nneed_memory "need_memory" (defScope sneed_memory) A.fneed_memory cdv As outer s H E) (defBody sneed_memory) _ := (pss_one (ps_if (pt_not (pt_ofX (pe_callK K cis_a_memory (hr.mono (by decide)) (by rfl) T.m_is_a_memory T.k_is_a_memory tk (pa_cons (pv 0) pa_nil))))
    (pss_one ps_never) pss_nil))
  exact key
def bfigures_of (T : Txt K mg A) : SS K := (SS.seq (SS.asg 3 (SX.op oIx (SX.var 0) (SX.int 0)))
    (SS.seq (SS.ite (ST.of (SX.op oEq (SX.var 3) (SX.str "number")))
    (SS.seq (SS.par 4 5 (SX.cb oAbs (SA.cons (SX.op oIx (SX.var 0) (SX.int 1)) SA.nil)) (SX.lst SA.nil))
    (SS.seq (SS.wh (fuelI 4) (ST.of (SX.op oGtX (SX.var 4) (SX.int 0)))
    (SS.seq (SS.drop (SX.mut mAppend 5 (SA.cons (SX.op oMod (SX.var 4) (SX.int 256)) SA.nil)))
    (SS.aug 4 oDiv (SX.int 256))))
    (SS.ret (SX.op oAdd (SX.tup (SA.cons (SX.ite (ST.of (SX.op oLtX (SX.op oIx (SX.var 0) (SX.int 1)) (SX.int 0))) (SX.int 2) (SX.int 1)) (SA.cons (SX.cb oLen (SA.cons (SX.var 5) SA.nil)) SA.nil))) (SX.cb oTup (SA.cons (SX.var 5) SA.nil)))))) SS.pass)
    (SS.seq (SS.ite (ST.of (SX.op oEq (SX.var 3) (SX.str "maker")))
    (SS.ret (SX.op oAdd (SX.tup (SA.cons (SX.int 3) (SA.cons (SX.tindex (SX.var 1) (SX.op oIx (SX.var 0) (SX.int 1))) (SA.cons (SX.cb oLen (SA.cons (SX.op oIx (SX.var 0) (SX.int 2)) SA.nil)) SA.nil)))) (SX.op oIx (SX.var 0) (SX.int 2)))) SS.pass)
    (SS.seq (SS.ite (ST.of (SX.op oEq (SX.var 3) (SX.str "apply")))
    (SS.ret (SX.op oAdd (SX.tup (SA.cons (SX.int 4) SA.nil)) (SX.sl oSl (SX.var 0) (SO.some (SX.int 1)) SO.none))) SS.pass)
    (SS.seq (SS.ite (ST.of (SX.op oEq (SX.var 3) (SX.str "row")))
    (SS.ret (SX.tup (SA.cons (SX.int 5) (SA.cons (SX.tindex (SX.var 2) (SX.op oIx (SX.var 0) (SX.int 1))) SA.nil)))) SS.pass)
    (SS.ret (SX.ite (ST.of (SX.op oEq (SX.var 3) (SX.str "lead"))) (SX.tup (SA.cons (SX.int 6) (SA.cons (SX.op oIx (SX.var 0) (SX.int 1)) SA.nil))) (SX.tup (SA.cons (SX.int 7) (SA.cons (SX.int 0) SA.nil))))))))))
def ffigures_of (T : Txt K mg A) : En → Rs Rt := runF 3 6 (bfigures_of T).ev
theorem okfigures_of (T : Txt K mg A) : Callee P w K mg base 1 A.ffigures_of Pfigures_of (spF K 3 (ffigures_of T)) := by
  refine def_ok T.Ffigures_of scfigures_of (bfigures_of T) (by decide) fun cdv As outer s H E hr tk hp => ?_
  have key : PSs (cxOf (L2.CX P w) P w K mg base Nfigures_of "figures_of" (defScope sfigures_of) A.ffigures_of cdv As outer s H E) (defBody sfigures_of) _ := (pss_cons (ps_set (i := 3) scfigures_of.nd rfl (Or.inl rfl) (pe_ix (ixK K) (pv 0) pe_int (fun _ _ => rfl)))
    (pss_cons (ps_if (pt_cmpR (op_eqK K hr.units) (pv 3) pe_str (nomark _))
    (pss_cons (ps_par (i := 4) (j := 5) (by rfl) scfigures_of.nd rfl rfl (by decide) rfl rfl (pa_cons (pe_callB call_abs (by rfl) T.b_abs (by decide +kernel) (pa_cons (pe_ix (ixK K) (pv 0) pe_int (fun _ _ => rfl)) pa_nil)) (pa_cons (pe_lst pa_nil) pa_nil)) (by rfl))
    (pss_cons (ps_while hp (pt_cmpR op_gtX (pv 4) pe_int (nomark _))
    (pss_cons (ps_expr (pe_bmK K PySem.F.plainAttrs_list PySem.F.slot_list_append PySem.F.type_list_append mt_append (pv 5) (pa_cons (pe_op op_modX (pv 4) (pe_globI (by rfl) T.i_BYTE)) pa_nil)))
    (pss_one (ps_aug (i := 4) scfigures_of.nd rfl (Or.inl rfl) (pe_globI (by rfl) T.i_BYTE) ip_fdivW))))
    (pss_one (ps_ret (pe_op (op_addK K) (pe_tup (pa_cons (pe_ifExp (pt_cmpR op_ltX (pe_ix (ixK K) (pv 0) pe_int (fun _ _ => rfl)) pe_int (nomark _)) (pe_globI (by rfl) T.i_MINUS) (pe_globI (by rfl) T.i_PLUS)) (pa_cons (pe_callB (call_lenK K) (by rfl) T.b_len (by decide +kernel) (pa_cons (pv 5) pa_nil)) pa_nil))) (pe_callTy (call_tupleK K) (by rfl) T.b_tuple (by decide +kernel) (pa_cons (pv 5) pa_nil))))))) pss_nil)
    (pss_cons (ps_if (pt_cmpR (op_eqK K hr.units) (pv 3) pe_str (nomark _))
    (pss_one (ps_ret (pe_op (op_addK K) (pe_tup (pa_cons (pe_globI (by rfl) T.i_MAKER) (pa_cons (pe_tindexK K (pv 1) (pe_ix (ixK K) (pv 0) pe_int (fun _ _ => rfl))) (pa_cons (pe_callB (call_lenK K) (by rfl) T.b_len (by decide +kernel) (pa_cons (pe_ix (ixK K) (pv 0) pe_int (fun _ _ => rfl)) pa_nil)) pa_nil)))) (pe_ix (ixK K) (pv 0) pe_int (fun _ _ => rfl))))) pss_nil)
    (pss_cons (ps_if (pt_cmpR (op_eqK K hr.units) (pv 3) pe_str (nomark _))
    (pss_one (ps_ret (pe_op (op_addK K) (pe_tup (pa_cons (pe_globI (by rfl) T.i_APPLY) pa_nil)) (pe_slice (slK K) (pv 0) (po_some pe_int) po_none)))) pss_nil)
    (pss_cons (ps_if (pt_cmpR (op_eqK K hr.units) (pv 3) pe_str (nomark _))
    (pss_one (ps_ret (pe_tup (pa_cons (pe_globI (by rfl) T.i_ROW) (pa_cons (pe_tindexK K (pv 2) (pe_ix (ixK K) (pv 0) pe_int (fun _ _ => rfl))) pa_nil))))) pss_nil)
    (pss_one (ps_ret (pe_ifExp (pt_cmpR (op_eqK K hr.units) (pv 3) pe_str (nomark _)) (pe_tup (pa_cons (pe_globI (by rfl) T.i_LEAD) (pa_cons (pe_ix (ixK K) (pv 0) pe_int (fun _ _ => rfl)) pa_nil))) (pe_tup (pa_cons (pe_globI (by rfl) T.i_EMPTY) (pa_cons pe_int pa_nil)))))))))))
  exact key
def bWords___init__ (T : Txt K mg A) : SS K := (SS.seq (SS.setF A.c_Words 0 "words" (SX.call 1 (fmemory_dict T) (SP.cons (SX.var 1) SP.nil)) T.cl_Words T.na_Words_words)
    (SS.seq (SS.setF A.c_Words 0 "makers" (SX.var 2) T.cl_Words T.na_Words_makers)
    (SS.setF A.c_Words 0 "rows" (SX.var 3) T.cl_Words T.na_Words_rows)))
def fWords___init__ (T : Txt K mg A) : En → Rs Rt := runF 4 4 (bWords___init__ T).ev
theorem okWords___init__ (T : Txt K mg A) : Callee P w K mg base 2 A.fWords___init__ PWords___init__ (spF K 4 (fWords___init__ T)) := by
  have cmemory_dict := okmemory_dict (P := P) (w := w) (base := base) T
  refine def_ok T.FWords___init__ scWords___init__ (bWords___init__ T) (by decide) fun cdv As outer s H E hr tk hp => ?_
  have key : PSs (cxOf (L2.CX P w) P w K mg base NWords___init__ "Words.__init__" (defScope sWords___init__) A.fWords___init__ cdv As outer s H E) (defBody sWords___init__) _ := (pss_cons (ps_fld (pv 0) (pe_callK K cmemory_dict (hr.mono (by decide)) (by rfl) T.m_memory_dict T.k_memory_dict tk (pa_cons (pv 1) pa_nil)) rfl)
    (pss_cons (ps_fld (pv 0) (pv 2) rfl)
    (pss_one (ps_fld (pv 0) (pv 3) rfl))))
  exact key
def bWords_at (T : Txt K mg A) : SS K := (SS.ret (SX.dget2 (SX.fld A.c_Words "words" (SX.var 0) T.cl_Words T.na_Words_words) (SX.var 1) (SX.int 0)))
def fWords_at (T : Txt K mg A) : En → Rs Rt := runF 2 2 (bWords_at T).ev
theorem okWords_at (T : Txt K mg A) : Callee P w K mg base 1 A.fWords_at PWords_at (spF K 2 (fWords_at T)) := by
  refine def_ok T.FWords_at scWords_at (bWords_at T) (by decide) fun cdv As outer s H E hr tk hp => ?_
  have key : PSs (cxOf (L2.CX P w) P w K mg base NWords_at "Words.at" (defScope sWords_at) A.fWords_at cdv As outer s H E) (defBody sWords_at) _ := (pss_one (ps_ret (pe_dget2 (hu_of hr) (pe_fldK K (pv 0)) (pv 1) pe_int ⟨by rfl, by rfl, by rfl, by rfl⟩)))
  exact key
def bWords_from_to (T : Txt K mg A) : SS K := (SS.ret (SX.lc (SI.rng2 (SX.var 1) (SX.var 2)) (SG.name 3) ST.yes (SX.meth A.c_Words "at" 2 (fWords_at T) (SX.var 0) (SP.cons (SX.var 3) SP.nil)) [3] (fun _ h => h)))
def fWords_from_to (T : Txt K mg A) : En → Rs Rt := runF 3 4 (bWords_from_to T).ev
abbrev XWords_from_to (P : Program) (w : World) (K : PySem.W.Frag) (mg : Str → Option Value) (base : Heap) (A : Ads) (cdv : Value) (As : Around) (outer : List Env) (s : Shared) (H : Hp) (E : XK) : Cx := cxOf (L2.CX P w) P w K mg base NWords_from_to "Words.from_to" (defScope sWords_from_to) A.fWords_from_to cdv As outer s H E
theorem okWords_from_to (T : Txt K mg A) : Callee P w K mg base 2 A.fWords_from_to PWords_from_to (spF K 3 (fWords_from_to T)) := by
  have cWords_at := okWords_at (P := P) (w := w) (base := base) T
  refine def_ok T.FWords_from_to scWords_from_to (bWords_from_to T) (by decide) fun cdv As outer s H E hr tk hp => ?_
  have key : PSs (cxOf (L2.CX P w) P w K mg base NWords_from_to "Words.from_to" (defScope sWords_from_to) A.fWords_from_to cdv As outer s H E) (defBody sWords_from_to) _ := (pss_one (ps_ret (pe_lc (X := XWords_from_to P w K mg base A cdv As outer s H E) (own := [("address", 3)]) rfl scWords_from_to.nd (pi_range2 (by rfl) T.b_range (pa_cons (pv 1) (pa_cons (pv 2) pa_nil))) (blkOk_by (own := [("address", 3)]) (N := NWords_from_to) (sc := defScope sWords_from_to) (by decide +kernel)) (fun _ _ _ _ _ => (pg_name (i := 3) scWords_from_to.nd rfl (Or.inl rfl) (Or.inr rfl))) (fun _ _ _ _ _ => pts_nil) (fun _ _ _ _ _ => (pe_methX (pv 0) T.cl_Words T.mt_Words_at cWords_at (hr.mono (by decide)) takes0 (pa_cons (pv 3) pa_nil))))))
  exact key
def bWords_number (T : Txt K mg A) : SS K := (SS.seq (SS.asg 2 (SX.meth A.c_Words "at" 2 (fWords_at T) (SX.var 0) (SP.cons (SX.op oAdd (SX.var 1) (SX.int 1)) SP.nil)))
    (SS.seq (SS.asg 3 (SX.meth A.c_Words "from_to" 3 (fWords_from_to T) (SX.var 0) (SP.cons (SX.op oAdd (SX.var 1) (SX.int 2)) (SP.cons (SX.op oAdd (SX.op oAdd (SX.var 1) (SX.int 2)) (SX.var 2)) SP.nil))))
    (SS.seq (SS.ite (ST.or (ST.not (ST.of (SX.cb oAll (SA.cons (SX.lc (SI.seq (SX.var 3)) (SG.name 4) ST.yes (SX.op oLtX (SX.var 4) (SX.int 256)) [4] (fun _ h => h)) SA.nil)))) (ST.of (SX.op oEq (SX.sl oSl (SX.var 3) (SO.some (SX.un oNeg (SX.int 1))) SO.none) (SX.lst (SA.cons (SX.int 0) SA.nil)))))
    (SS.ret SX.non) SS.pass)
    (SS.seq (SS.asg 5 (SX.int 0))
    (SS.seq (SS.for_ (SI.seq (SX.revSl (SX.var 3))) (SG.name 4)
    (SS.asg 5 (SX.op oAdd (SX.op oMul (SX.var 5) (SX.int 256)) (SX.var 4))))
    (SS.seq (SS.ite (ST.of (SX.op oEq (SX.meth A.c_Words "at" 2 (fWords_at T) (SX.var 0) (SP.cons (SX.var 1) SP.nil)) (SX.int 2)))
    (SS.ret (SX.ite (ST.of (SX.op oGtX (SX.var 5) (SX.int 0))) (SX.un oNeg (SX.var 5)) SX.non)) SS.pass)
    (SS.ret (SX.var 5))))))))
def fWords_number (T : Txt K mg A) : En → Rs Rt := runF 2 6 (bWords_number T).ev
abbrev XWords_number (P : Program) (w : World) (K : PySem.W.Frag) (mg : Str → Option Value) (base : Heap) (A : Ads) (cdv : Value) (As : Around) (outer : List Env) (s : Shared) (H : Hp) (E : XK) : Cx := cxOf (L2.CX P w) P w K mg base NWords_number "Words.number" (defScope sWords_number) A.fWords_number cdv As outer s H E
theorem okWords_number (T : Txt K mg A) : Callee P w K mg base 3 A.fWords_number PWords_number (spF K 2 (fWords_number T)) := by
  have cWords_at := okWords_at (P := P) (w := w) (base := base) T
  have cWords_from_to := okWords_from_to (P := P) (w := w) (base := base) T
  refine def_ok T.FWords_number scWords_number (bWords_number T) (by decide) fun cdv As outer s H E hr tk hp => ?_
  have key : PSs (cxOf (L2.CX P w) P w K mg base NWords_number "Words.number" (defScope sWords_number) A.fWords_number cdv As outer s H E) (defBody sWords_number) _ := (pss_cons (ps_set (i := 2) scWords_number.nd rfl (Or.inl rfl) (pe_methX (pv 0) T.cl_Words T.mt_Words_at cWords_at (hr.mono (by decide)) tk (pa_cons (pe_op (op_addK K) (pv 1) pe_int) pa_nil)))
    (pss_cons (ps_set (i := 3) scWords_number.nd rfl (Or.inl rfl) (pe_methX (pv 0) T.cl_Words T.mt_Words_from_to cWords_from_to (hr.mono (by decide)) tk (pa_cons (pe_op (op_addK K) (pv 1) pe_int) (pa_cons (pe_op (op_addK K) (pe_op (op_addK K) (pv 1) pe_int) (pv 2)) pa_nil))))
    (pss_cons (ps_if (PW.pt (pw_or (pt_not (pt_ofX (pe_callB (call_allK K rfl) (by rfl) T.b_all (by decide +kernel) (pa_cons (pe_lc (X := XWords_number P w K mg base A cdv As outer s H E) (own := [("figure", 4)]) rfl scWords_number.nd (pi_seqK K (pv 3)) (blkOk_by (own := [("figure", 4)]) (N := NWords_number) (sc := defScope sWords_number) (by decide +kernel)) (fun _ _ _ _ _ => (pg_name (i := 4) scWords_number.nd rfl (Or.inl rfl) (Or.inr rfl))) (fun _ _ _ _ _ => pts_nil) (fun _ _ _ _ _ => (pe_cmpR op_ltX (pv 4) (pe_globI (by rfl) T.i_BYTE) (nomark _)))) pa_nil)))) (pw_or1 (pt_cmpR (op_eqK K hr.units) (pe_slice (slK K) (pv 3) (po_some (pe_un un_neg pe_int)) po_none) (pe_lst (pa_cons pe_int pa_nil)) (nomark _)))))
    (pss_one (ps_ret pe_non)) pss_nil)
    (pss_cons (ps_set (i := 5) scWords_number.nd rfl (Or.inl rfl) pe_int)
    (pss_cons (ps_for hp (by rfl) (pi_seqK K (pe_revK K (pv 3))) (pg_name (i := 4) scWords_number.nd rfl (Or.inl rfl))
    (pss_one (ps_set (i := 5) scWords_number.nd rfl (Or.inl rfl) (pe_op (op_addK K) (pe_op op_mulXX (pv 5) (pe_globI (by rfl) T.i_BYTE)) (pv 4)))))
    (pss_cons (ps_if (pt_cmpR (op_eqK K hr.units) (pe_methX (pv 0) T.cl_Words T.mt_Words_at cWords_at (hr.mono (by decide)) tk (pa_cons (pv 1) pa_nil)) (pe_globI (by rfl) T.i_MINUS) (nomark _))
    (pss_one (ps_ret (pe_ifExp (pt_cmpR op_gtX (pv 5) pe_int (nomark _)) (pe_un un_neg (pv 5)) pe_non))) pss_nil)
    (pss_one (ps_ret (pv 5)))))))))
  exact key
def bWords_size (T : Txt K mg A) : SS K := (SS.seq (SS.asg 2 (SX.meth A.c_Words "at" 2 (fWords_at T) (SX.var 0) (SP.cons (SX.var 1) SP.nil)))
    (SS.seq (SS.ite (ST.of (SX.op oIn (SX.var 2) (SX.tup (SA.cons (SX.int 1) (SA.cons (SX.int 2) SA.nil)))))
    (SS.ret (SX.op oAdd (SX.int 2) (SX.meth A.c_Words "at" 2 (fWords_at T) (SX.var 0) (SP.cons (SX.op oAdd (SX.var 1) (SX.int 1)) SP.nil)))) SS.pass)
    (SS.seq (SS.ite (ST.of (SX.op oEq (SX.var 2) (SX.int 3)))
    (SS.ret (SX.op oAdd (SX.int 3) (SX.meth A.c_Words "at" 2 (fWords_at T) (SX.var 0) (SP.cons (SX.op oAdd (SX.var 1) (SX.int 2)) SP.nil)))) SS.pass)
    (SS.ret (SX.ite (ST.of (SX.op oEq (SX.var 2) (SX.int 4))) (SX.int 3) (SX.int 2))))))
def fWords_size (T : Txt K mg A) : En → Rs Rt := runF 2 3 (bWords_size T).ev
theorem okWords_size (T : Txt K mg A) : Callee P w K mg base 2 A.fWords_size PWords_size (spF K 2 (fWords_size T)) := by
  have cWords_at := okWords_at (P := P) (w := w) (base := base) T
  refine def_ok T.FWords_size scWords_size (bWords_size T) (by decide) fun cdv As outer s H E hr tk hp => ?_
  have key : PSs (cxOf (L2.CX P w) P w K mg base NWords_size "Words.size" (defScope sWords_size) A.fWords_size cdv As outer s H E) (defBody sWords_size) _ := (pss_cons (ps_set (i := 2) scWords_size.nd rfl (Or.inl rfl) (pe_methX (pv 0) T.cl_Words T.mt_Words_at cWords_at (hr.mono (by decide)) tk (pa_cons (pv 1) pa_nil)))
    (pss_cons (ps_if (pt_cmpR (op_inK K) (pv 2) (pe_tup (pa_cons (pe_globI (by rfl) T.i_PLUS) (pa_cons (pe_globI (by rfl) T.i_MINUS) pa_nil))) (by rfl))
    (pss_one (ps_ret (pe_op (op_addK K) pe_int (pe_methX (pv 0) T.cl_Words T.mt_Words_at cWords_at (hr.mono (by decide)) tk (pa_cons (pe_op (op_addK K) (pv 1) pe_int) pa_nil))))) pss_nil)
    (pss_cons (ps_if (pt_cmpR (op_eqK K hr.units) (pv 2) (pe_globI (by rfl) T.i_MAKER) (nomark _))
    (pss_one (ps_ret (pe_op (op_addK K) pe_int (pe_methX (pv 0) T.cl_Words T.mt_Words_at cWords_at (hr.mono (by decide)) tk (pa_cons (pe_op (op_addK K) (pv 1) pe_int) pa_nil))))) pss_nil)
    (pss_one (ps_ret (pe_ifExp (pt_cmpR (op_eqK K hr.units) (pv 2) (pe_globI (by rfl) T.i_APPLY) (nomark _)) pe_int pe_int))))))
  exact key
def bWords_cell (T : Txt K mg A) : SS K := (SS.seq (SS.ite (ST.or (ST.not (ST.of (SX.call 3 (fis_integer T) (SP.cons (SX.var 1) (SP.cons (SX.int 0) (SP.cons (SX.op oSub (SX.int 4096) (SX.int 1)) SP.nil)))))) (ST.of (SX.op oGtX (SX.op oAdd (SX.var 1) (SX.meth A.c_Words "size" 2 (fWords_size T) (SX.var 0) (SP.cons (SX.var 1) SP.nil))) (SX.int 4096))))
    SS.never SS.pass)
    (SS.seq (SS.par 2 3 (SX.meth A.c_Words "at" 2 (fWords_at T) (SX.var 0) (SP.cons (SX.var 1) SP.nil)) (SX.meth A.c_Words "at" 2 (fWords_at T) (SX.var 0) (SP.cons (SX.op oAdd (SX.var 1) (SX.int 1)) SP.nil)))
    (SS.seq (SS.asg 4 SX.non)
    (SS.seq (SS.ite (ST.of (SX.op oIn (SX.var 2) (SX.tup (SA.cons (SX.int 1) (SA.cons (SX.int 2) SA.nil)))))
    (SS.seq (SS.asg 5 (SX.meth A.c_Words "number" 2 (fWords_number T) (SX.var 0) (SP.cons (SX.var 1) SP.nil)))
    (SS.asg 4 (SX.ite (ST.of (SX.op oIsNo (SX.var 5) SX.non)) SX.non (SX.tup (SA.cons (SX.str "number") (SA.cons (SX.var 5) SA.nil)))))) (SS.ite (ST.and (ST.of (SX.op oEq (SX.var 2) (SX.int 3))) (ST.of (SX.op oLtX (SX.var 3) (SX.cb oLen (SA.cons (SX.fld A.c_Words "makers" (SX.var 0) T.cl_Words T.na_Words_makers) SA.nil)))))
    (SS.asg 4 (SX.tup (SA.cons (SX.str "maker") (SA.cons (SX.op oIx (SX.fld A.c_Words "makers" (SX.var 0) T.cl_Words T.na_Words_makers) (SX.var 3)) (SA.cons (SX.cb oTup (SA.cons (SX.meth A.c_Words "from_to" 3 (fWords_from_to T) (SX.var 0) (SP.cons (SX.op oAdd (SX.var 1) (SX.int 3)) (SP.cons (SX.op oAdd (SX.var 1) (SX.meth A.c_Words "size" 2 (fWords_size T) (SX.var 0) (SP.cons (SX.var 1) SP.nil))) SP.nil))) SA.nil)) SA.nil))))) (SS.ite (ST.of (SX.op oEq (SX.var 2) (SX.int 4)))
    (SS.asg 4 (SX.tup (SA.cons (SX.str "apply") (SA.cons (SX.var 3) (SA.cons (SX.meth A.c_Words "at" 2 (fWords_at T) (SX.var 0) (SP.cons (SX.op oAdd (SX.var 1) (SX.int 2)) SP.nil)) SA.nil))))) (SS.ite (ST.and (ST.of (SX.op oEq (SX.var 2) (SX.int 5))) (ST.of (SX.op oLtX (SX.var 3) (SX.cb oLen (SA.cons (SX.fld A.c_Words "rows" (SX.var 0) T.cl_Words T.na_Words_rows) SA.nil)))))
    (SS.asg 4 (SX.tup (SA.cons (SX.str "row") (SA.cons (SX.op oIx (SX.fld A.c_Words "rows" (SX.var 0) T.cl_Words T.na_Words_rows) (SX.var 3)) SA.nil)))) (SS.ite (ST.of (SX.op oEq (SX.var 2) (SX.int 6)))
    (SS.asg 4 (SX.tup (SA.cons (SX.str "lead") (SA.cons (SX.var 3) SA.nil)))) (SS.ite (ST.and (ST.of (SX.op oEq (SX.var 2) (SX.int 7))) (ST.of (SX.op oEq (SX.var 3) (SX.int 0))))
    (SS.asg 4 (SX.tup (SA.cons (SX.str "empty") SA.nil))) SS.pass))))))
    (SS.seq (SS.ite (ST.of (SX.op oIsNo (SX.var 4) SX.non))
    SS.never SS.pass)
    (SS.ret (SX.var 4)))))))
def fWords_cell (T : Txt K mg A) : En → Rs Rt := runF 2 6 (bWords_cell T).ev
theorem okWords_cell (T : Txt K mg A) : Callee P w K mg base 4 A.fWords_cell PWords_cell (spF K 2 (fWords_cell T)) := by
  have cis_integer := okis_integer (P := P) (w := w) (base := base) T
  have cWords_size := okWords_size (P := P) (w := w) (base := base) T
  have cWords_at := okWords_at (P := P) (w := w) (base := base) T
  have cWords_number := okWords_number (P := P) (w := w) (base := base) T
  have cWords_from_to := okWords_from_to (P := P) (w := w) (base := base) T
  refine def_ok T.FWords_cell scWords_cell (bWords_cell T) (by decide) fun cdv As outer s H E hr tk hp => ?_
  have key : PSs (cxOf (L2.CX P w) P w K mg base NWords_cell "Words.cell" (defScope sWords_cell) A.fWords_cell cdv As outer s H E) (defBody sWords_cell) _ := (pss_cons (ps_if (PW.pt (pw_or (pt_not (pt_ofX (pe_callK K cis_integer (hr.mono (by decide)) (by rfl) T.m_is_integer T.k_is_integer tk (pa_cons (pv 1) (pa_cons pe_int (pa_cons (pe_op op_sub (pe_globI (by rfl) T.i_CELLS) pe_int) pa_nil)))))) (pw_or1 (pt_cmpR op_gtX (pe_op (op_addK K) (pv 1) (pe_methX (pv 0) T.cl_Words T.mt_Words_size cWords_size (hr.mono (by decide)) tk (pa_cons (pv 1) pa_nil))) (pe_globI (by rfl) T.i_CELLS) (nomark _)))))
    (pss_one ps_never) pss_nil)
    (pss_cons (ps_par (i := 2) (j := 3) (by rfl) scWords_cell.nd rfl rfl (by decide) rfl rfl (pa_cons (pe_methX (pv 0) T.cl_Words T.mt_Words_at cWords_at (hr.mono (by decide)) tk (pa_cons (pv 1) pa_nil)) (pa_cons (pe_methX (pv 0) T.cl_Words T.mt_Words_at cWords_at (hr.mono (by decide)) tk (pa_cons (pe_op (op_addK K) (pv 1) pe_int) pa_nil)) pa_nil)) (by rfl))
    (pss_cons (ps_set (i := 4) scWords_cell.nd rfl (Or.inl rfl) pe_non)
    (pss_cons (ps_if (pt_cmpR (op_inK K) (pv 2) (pe_tup (pa_cons (pe_globI (by rfl) T.i_PLUS) (pa_cons (pe_globI (by rfl) T.i_MINUS) pa_nil))) (by rfl))
    (pss_cons (ps_set (i := 5) scWords_cell.nd rfl (Or.inl rfl) (pe_methX (pv 0) T.cl_Words T.mt_Words_number cWords_number (hr.mono (by decide)) tk (pa_cons (pv 1) pa_nil)))
    (pss_one (ps_set (i := 4) scWords_cell.nd rfl (Or.inl rfl) (pe_ifExp (pt_cmpR op_isN (pv 5) pe_non (nomark _)) pe_non (pe_tup (pa_cons pe_str (pa_cons (pv 5) pa_nil))))))) (pss_one (ps_if (PW.pt (pw_and (pt_cmpR (op_eqK K hr.units) (pv 2) (pe_globI (by rfl) T.i_MAKER) (nomark _)) (pw_and1 (pt_cmpR op_ltX (pv 3) (pe_callB (call_lenK K) (by rfl) T.b_len (by decide +kernel) (pa_cons (pe_fldK K (pv 0)) pa_nil)) (nomark _)))))
    (pss_one (ps_set (i := 4) scWords_cell.nd rfl (Or.inl rfl) (pe_tup (pa_cons pe_str (pa_cons (pe_ix (ixK K) (pe_fldK K (pv 0)) (pv 3) (fun _ _ => rfl)) (pa_cons (pe_callTy (call_tupleK K) (by rfl) T.b_tuple (by decide +kernel) (pa_cons (pe_methX (pv 0) T.cl_Words T.mt_Words_from_to cWords_from_to (hr.mono (by decide)) tk (pa_cons (pe_op (op_addK K) (pv 1) pe_int) (pa_cons (pe_op (op_addK K) (pv 1) (pe_methX (pv 0) T.cl_Words T.mt_Words_size cWords_size (hr.mono (by decide)) tk (pa_cons (pv 1) pa_nil))) pa_nil))) pa_nil)) pa_nil)))))) (pss_one (ps_if (pt_cmpR (op_eqK K hr.units) (pv 2) (pe_globI (by rfl) T.i_APPLY) (nomark _))
    (pss_one (ps_set (i := 4) scWords_cell.nd rfl (Or.inl rfl) (pe_tup (pa_cons pe_str (pa_cons (pv 3) (pa_cons (pe_methX (pv 0) T.cl_Words T.mt_Words_at cWords_at (hr.mono (by decide)) tk (pa_cons (pe_op (op_addK K) (pv 1) pe_int) pa_nil)) pa_nil)))))) (pss_one (ps_if (PW.pt (pw_and (pt_cmpR (op_eqK K hr.units) (pv 2) (pe_globI (by rfl) T.i_ROW) (nomark _)) (pw_and1 (pt_cmpR op_ltX (pv 3) (pe_callB (call_lenK K) (by rfl) T.b_len (by decide +kernel) (pa_cons (pe_fldK K (pv 0)) pa_nil)) (nomark _)))))
    (pss_one (ps_set (i := 4) scWords_cell.nd rfl (Or.inl rfl) (pe_tup (pa_cons pe_str (pa_cons (pe_ix (ixK K) (pe_fldK K (pv 0)) (pv 3) (fun _ _ => rfl)) pa_nil))))) (pss_one (ps_if (pt_cmpR (op_eqK K hr.units) (pv 2) (pe_globI (by rfl) T.i_LEAD) (nomark _))
    (pss_one (ps_set (i := 4) scWords_cell.nd rfl (Or.inl rfl) (pe_tup (pa_cons pe_str (pa_cons (pv 3) pa_nil))))) (pss_one (ps_if (PW.pt (pw_and (pt_cmpR (op_eqK K hr.units) (pv 2) (pe_globI (by rfl) T.i_EMPTY) (nomark _)) (pw_and1 (pt_cmpR (op_eqK K hr.units) (pv 3) pe_int (nomark _)))))
    (pss_one (ps_set (i := 4) scWords_cell.nd rfl (Or.inl rfl) (pe_tup (pa_cons pe_str pa_nil)))) pss_nil)))))))))))
    (pss_cons (ps_if (pt_cmpR op_isN (pv 4) pe_non (nomark _))
    (pss_one ps_never) pss_nil)
    (pss_one (ps_ret (pv 4))))))))
  exact key
def bcell_at (T : Txt K mg A) : SS K := (SS.seq (SS.drop (SX.call 1 (fneed_memory T) (SP.cons (SX.var 0) SP.nil)))
    (SS.ret (SX.meth A.c_Words "cell" 2 (fWords_cell T) (SX.make A.c_Words 4 (fWords___init__ T) (SA.cons (SX.var 0) (SA.cons (SX.var 2) (SA.cons (SX.var 3) SA.nil)))) (SP.cons (SX.var 1) SP.nil))))
def fcell_at (T : Txt K mg A) : En → Rs Rt := runF 4 4 (bcell_at T).ev
theorem okcell_at (T : Txt K mg A) : Callee P w K mg base 7 A.fcell_at Pcell_at (spF K 4 (fcell_at T)) := by
  have cneed_memory := okneed_memory (P := P) (w := w) (base := base) T
  have cWords_cell := okWords_cell (P := P) (w := w) (base := base) T
  have cWords___init__ := okWords___init__ (P := P) (w := w) (base := base) T
  refine def_ok T.Fcell_at sccell_at (bcell_at T) (by decide) fun cdv As outer s H E hr tk hp => ?_
  have key : PSs (cxOf (L2.CX P w) P w K mg base Ncell_at "cell_at" (defScope scell_at) A.fcell_at cdv As outer s H E) (defBody scell_at) _ := (pss_cons (ps_expr (pe_callK K cneed_memory (hr.mono (by decide)) (by rfl) T.m_need_memory T.k_need_memory tk (pa_cons (pv 0) pa_nil)))
    (pss_one (ps_ret (pe_methX (pe_makeX T.mk_Words cWords___init__ (hr.mono (by decide)) (by rfl) T.mc_Words (pa_cons (pv 0) (pa_cons (pv 2) (pa_cons (pv 3) pa_nil)))) T.cl_Words T.mt_Words_cell cWords_cell (hr.mono (by decide)) tk (pa_cons (pv 1) pa_nil)))))
  exact key
def b_law_cell_at (T : Txt K mg A) : SS K := (SS.seq (SS.ite (ST.of (SX.op oLtX (SX.var 1) (SX.cb oLen (SA.cons (SX.var 0) SA.nil))))
    (SS.ret (SX.op oIx (SX.var 0) (SX.var 1))) SS.pass)
    (SS.ret (SX.int 0)))
def f_law_cell_at (T : Txt K mg A) : En → Rs Rt := runF 2 2 (b_law_cell_at T).ev
theorem ok_law_cell_at (T : Txt K mg A) : Callee P w K mg base 1 A.f_law_cell_at P_law_cell_at (spF K 2 (f_law_cell_at T)) := by
  refine def_ok T.F_law_cell_at sc_law_cell_at (b_law_cell_at T) (by decide) fun cdv As outer s H E hr tk hp => ?_
  have key : PSs (cxOf (L2.CX P w) P w K mg base N_law_cell_at "_law_cell_at" (defScope s_law_cell_at) A.f_law_cell_at cdv As outer s H E) (defBody s_law_cell_at) _ := (pss_cons (ps_if (pt_cmpR op_ltX (pv 1) (pe_callB (call_lenK K) (by rfl) T.b_len (by decide +kernel) (pa_cons (pv 0) pa_nil)) (nomark _))
    (pss_one (ps_ret (pe_ix (ixK K) (pv 0) (pv 1) (fun _ _ => rfl)))) pss_nil)
    (pss_one (ps_ret pe_int)))
  exact key
def b_law_numbers (T : Txt K mg A) : SS K := (SS.seq (SS.par 2 3 (SX.lst SA.nil) (SX.op oSub (SX.var 0) (SX.op oPow (SX.int 10) (SX.int 18))))
    (SS.seq (SS.for_ (SI.rng1 (SX.var 1)) (SG.name 4)
    (SS.seq (SS.asg 5 (SX.op oMod (SX.op oMul (SX.op oAdd (SX.op oAdd (SX.op oAdd (SX.op oMod (SX.cb oInt (SA.cons (SX.var 0) SA.nil)) (SX.int 2147483629)) (SX.op oMul (SX.op oMul (SX.int 7919) (SX.var 4)) (SX.var 4))) (SX.op oMul (SX.int 131) (SX.var 4))) (SX.int 1)) (SX.int 48271)) (SX.int 2147483647)))
    (SS.seq (SS.asg 5 (SX.op oMod (SX.op oMul (SX.var 5) (SX.var 5)) (SX.int 2147483587)))
    (SS.seq (SS.asg 5 (SX.op oDiv (SX.op oMod (SX.op oMul (SX.op oAdd (SX.var 5) (SX.op oMul (SX.int 40692) (SX.op oAdd (SX.var 4) (SX.int 5)))) (SX.int 69621)) (SX.int 2147483563)) (SX.int 8)))
    (SS.seq (SS.ite (ST.and (ST.of (SX.op oGe (SX.var 0) (SX.op oPow (SX.int 10) (SX.int 18)))) (ST.of (SX.op oGtX (SX.var 3) (SX.int 0))))
    (SS.seq (SS.asg 5 (SX.var 3))
    (SS.asg 3 (SX.op oDiv (SX.var 3) (SX.int 720)))) SS.pass)
    (SS.drop (SX.mut mAppend 2 (SA.cons (SX.op oMod (SX.cb oInt (SA.cons (SX.var 5) SA.nil)) (SX.int 720)) SA.nil))))))))
    (SS.ret (SX.var 2))))
def f_law_numbers (T : Txt K mg A) : En → Rs Rt := runF 2 6 (b_law_numbers T).ev
theorem ok_law_numbers (T : Txt K mg A) : Callee P w K mg base 1 A.f_law_numbers P_law_numbers (spF K 2 (f_law_numbers T)) := by
  refine def_ok T.F_law_numbers sc_law_numbers (b_law_numbers T) (by decide) fun cdv As outer s H E hr tk hp => ?_
  have key : PSs (cxOf (L2.CX P w) P w K mg base N_law_numbers "_law_numbers" (defScope s_law_numbers) A.f_law_numbers cdv As outer s H E) (defBody s_law_numbers) _ := (pss_cons (ps_par (i := 2) (j := 3) (by rfl) sc_law_numbers.nd rfl rfl (by decide) rfl rfl (pa_cons (pe_lst pa_nil) (pa_cons (pe_op op_sub (pv 0) (pe_op op_pow pe_int pe_int)) pa_nil)) (by rfl))
    (pss_cons (ps_for hp (by rfl) (pi_range1 (by rfl) T.b_range (pa_cons (pv 1) pa_nil)) (pg_name (i := 4) sc_law_numbers.nd rfl (Or.inl rfl))
    (pss_cons (ps_set (i := 5) sc_law_numbers.nd rfl (Or.inl rfl) (pe_op op_modX (pe_op op_mulXX (pe_op (op_addK K) (pe_op (op_addK K) (pe_op (op_addK K) (pe_op op_modX (pe_callTy call_int1 (by rfl) T.b_int (by decide +kernel) (pa_cons (pv 0) pa_nil)) pe_int) (pe_op op_mulXX (pe_op op_mulXX pe_int (pv 4)) (pv 4))) (pe_op op_mulXX pe_int (pv 4))) pe_int) pe_int) pe_int))
    (pss_cons (ps_set (i := 5) sc_law_numbers.nd rfl (Or.inl rfl) (pe_op op_modX (pe_op op_mulXX (pv 5) (pv 5)) pe_int))
    (pss_cons (ps_set (i := 5) sc_law_numbers.nd rfl (Or.inl rfl) (pe_op op_fdivW (pe_op op_modX (pe_op op_mulXX (pe_op (op_addK K) (pv 5) (pe_op op_mulXX pe_int (pe_op (op_addK K) (pv 4) pe_int))) pe_int) pe_int) pe_int))
    (pss_cons (ps_if (PW.pt (pw_and (pt_cmpR op_ge (pv 0) (pe_op op_pow pe_int pe_int) (nomark _)) (pw_and1 (pt_cmpR op_gtX (pv 3) pe_int (nomark _)))))
    (pss_cons (ps_set (i := 5) sc_law_numbers.nd rfl (Or.inl rfl) (pv 3))
    (pss_one (ps_set (i := 3) sc_law_numbers.nd rfl (Or.inl rfl) (pe_op op_fdivW (pv 3) pe_int)))) pss_nil)
    (pss_one (ps_expr (pe_bmK K PySem.F.plainAttrs_list PySem.F.slot_list_append PySem.F.type_list_append mt_append (pv 2) (pa_cons (pe_op op_modX (pe_callTy call_int1 (by rfl) T.b_int (by decide +kernel) (pa_cons (pv 5) pa_nil)) pe_int) pa_nil)))))))))
    (pss_one (ps_ret (pv 2)))))
  exact key
def b_law_words (T : Txt K mg A) : SS K := (SS.seq (SS.asgG (SG.tup 2 (SGs.cons (SG.name 2) (SGs.cons (SG.name 3) SGs.nil))) (SX.tup (SA.cons (SX.call 2 (f_law_numbers T) (SP.cons (SX.var 0) (SP.cons (SX.int 10) SP.nil))) (SA.cons (SX.str "abcdefghijklmnopqrstuvwxyz") SA.nil))))
    (SS.seq (SS.asg 4 (SX.op oAdd (SX.int 1) (SX.op oMod (SX.op oIx (SX.var 2) (SX.int 0)) (SX.int 5))))
    (SS.seq (SS.asg 6 (SX.lc (SI.rng1 (SX.var 4)) (SG.name 5) ST.yes (SX.op oIx (SX.var 3) (SX.op oMod (SX.op oIx (SX.var 2) (SX.op oAdd (SX.int 2) (SX.var 5))) (SX.int 26))) [5] (fun _ h => h)))
    (SS.seq (SS.asg 7 (SX.lst SA.nil))
    (SS.seq (SS.for_ (SI.rng1 (SX.var 1)) (SG.name 5)
    (SS.seq (SS.asg 8 (SX.cb oList (SA.cons (SX.var 6) SA.nil)))
    (SS.seq (SS.setIx 8 (SX.op oMod (SX.op oIx (SX.var 2) (SX.int 1)) (SX.var 4)) (SX.op oIx (SX.var 3) (SX.op oMod (SX.op oAdd (SX.op oIx (SX.var 2) (SX.int 7)) (SX.var 5)) (SX.int 26))))
    (SS.seq (SS.asg 9 (SX.op oAdd (SX.bm oJoin (SX.str "") (SA.cons (SX.var 8) SA.nil)) (SX.op oIx (SX.lst (SA.cons (SX.str "") (SA.cons (SX.str "") (SA.cons (SX.str "ab") (SA.cons (SX.str "z") SA.nil))))) (SX.op oMod (SX.op oAdd (SX.op oIx (SX.var 2) (SX.int 8)) (SX.op oMul (SX.var 5) (SX.op oIx (SX.var 2) (SX.int 9)))) (SX.int 4)))))
    (SS.seq (SS.ite (ST.of (SX.op oIn (SX.var 9) (SX.tup (SA.cons (SX.str "data") (SA.cons (SX.str "let") (SA.cons (SX.str "in") (SA.cons (SX.str "case") (SA.cons (SX.str "of") (SA.cons (SX.str "num") (SA.cons (SX.str "main") SA.nil))))))))))
    (SS.asg 9 (SX.op oAdd (SX.var 9) (SX.str "q"))) SS.pass)
    (SS.drop (SX.mut mAppend 7 (SA.cons (SX.var 9) SA.nil))))))))
    (SS.ret (SX.var 7)))))))
def f_law_words (T : Txt K mg A) : En → Rs Rt := runF 2 10 (b_law_words T).ev
abbrev X_law_words (P : Program) (w : World) (K : PySem.W.Frag) (mg : Str → Option Value) (base : Heap) (A : Ads) (cdv : Value) (As : Around) (outer : List Env) (s : Shared) (H : Hp) (E : XK) : Cx := cxOf (L2.CX P w) P w K mg base N_law_words "_law_words" (defScope s_law_words) A.f_law_words cdv As outer s H E
theorem ok_law_words (T : Txt K mg A) : Callee P w K mg base 2 A.f_law_words P_law_words (spF K 2 (f_law_words T)) := by
  have c_law_numbers := ok_law_numbers (P := P) (w := w) (base := base) T
  refine def_ok T.F_law_words sc_law_words (b_law_words T) (by decide) fun cdv As outer s H E hr tk hp => ?_
  have key : PSs (cxOf (L2.CX P w) P w K mg base N_law_words "_law_words" (defScope s_law_words) A.f_law_words cdv As outer s H E) (defBody s_law_words) _ := (pss_cons (ps_asg (pe_tup (pa_cons (pe_callK K c_law_numbers (hr.mono (by decide)) (by rfl) T.m__law_numbers T.k__law_numbers tk (pa_cons (pv 0) (pa_cons pe_int pa_nil))) (pa_cons pe_str pa_nil))) (pg_tupK K (n := 2) rfl (pgs_cons (pg_name (i := 2) sc_law_words.nd rfl (Or.inr rfl)) (pgs_cons (pg_name (i := 3) sc_law_words.nd rfl (Or.inr rfl)) pgs_nil))))
    (pss_cons (ps_set (i := 4) sc_law_words.nd rfl (Or.inl rfl) (pe_op (op_addK K) pe_int (pe_op op_modX (pe_ix (ixK K) (pv 2) pe_int (fun _ _ => rfl)) pe_int)))
    (pss_cons (ps_setLc (i := 6) (X := X_law_words P w K mg base A cdv As outer s H E) (own := [("k", 5)]) rfl sc_law_words.nd rfl rfl (sw_true rfl rfl rfl (by decide +kernel)) (pi_range1 (by rfl) T.b_range (pa_cons (pv 4) pa_nil)) (blkOk_by (own := [("k", 5)]) (N := N_law_words) (sc := defScope s_law_words) (by decide +kernel)) (fun _ _ _ _ _ => (pg_name (i := 5) sc_law_words.nd rfl (Or.inl rfl) (Or.inr rfl))) (fun _ _ _ _ _ => pts_nil) (fun _ _ _ _ _ => (pe_ix (ixK K) (pv 3) (pe_op op_modX (pe_ix (ixK K) (pv 2) (pe_op (op_addK K) pe_int (pv 5)) (fun _ _ => rfl)) pe_int) (fun _ _ => rfl))))
    (pss_cons (ps_set (i := 7) sc_law_words.nd rfl (Or.inl rfl) (pe_lst pa_nil))
    (pss_cons (ps_for hp (by rfl) (pi_range1 (by rfl) T.b_range (pa_cons (pv 1) pa_nil)) (pg_name (i := 5) sc_law_words.nd rfl (Or.inl rfl))
    (pss_cons (ps_set (i := 8) sc_law_words.nd rfl (Or.inl rfl) (pe_callTy (call_listK K) (by rfl) T.b_list (by decide +kernel) (pa_cons (pv 6) pa_nil)))
    (pss_cons (ps_asg (pe_ix (ixK K) (pv 3) (pe_op op_modX (pe_op (op_addK K) (pe_ix (ixK K) (pv 2) pe_int (fun _ _ => rfl)) (pv 5)) pe_int) (fun _ _ => rfl)) (pg_sub (pv 8) (pe_op op_modX (pe_ix (ixK K) (pv 2) pe_int (fun _ _ => rfl)) (pv 4)) set_list))
    (pss_cons (ps_set (i := 9) sc_law_words.nd rfl (Or.inl rfl) (pe_op (op_addK K) (pe_bmK K PySem.F.plainAttrs_str PySem.F.slot_str_join PySem.F.type_str_join (mt_joinK K) pe_str (pa_cons (pv 8) pa_nil)) (pe_ix (ixK K) (pe_lst (pa_cons pe_str (pa_cons pe_str (pa_cons pe_str (pa_cons pe_str pa_nil))))) (pe_op op_modX (pe_op (op_addK K) (pe_ix (ixK K) (pv 2) pe_int (fun _ _ => rfl)) (pe_op op_mulXX (pv 5) (pe_ix (ixK K) (pv 2) pe_int (fun _ _ => rfl)))) pe_int) (fun _ _ => rfl))))
    (pss_cons (ps_if (pt_cmpR (op_inK K) (pv 9) (pe_tup (pa_cons pe_str (pa_cons pe_str (pa_cons pe_str (pa_cons pe_str (pa_cons pe_str (pa_cons pe_str (pa_cons pe_str pa_nil)))))))) (by rfl))
    (pss_one (ps_set (i := 9) sc_law_words.nd rfl (Or.inl rfl) (pe_op (op_addK K) (pv 9) pe_str))) pss_nil)
    (pss_one (ps_expr (pe_bmK K PySem.F.plainAttrs_list PySem.F.slot_list_append PySem.F.type_list_append mt_append (pv 7) (pa_cons (pv 9) pa_nil)))))))))
    (pss_one (ps_ret (pv 7))))))))
  exact key
def b_law_greats (T : Txt K mg A) : SS K := (SS.seq (SS.asgG (SG.tup 2 (SGs.cons (SG.name 2) (SGs.cons (SG.name 3) SGs.nil))) (SX.tup (SA.cons (SX.call 2 (f_law_numbers T) (SP.cons (SX.var 0) (SP.cons (SX.int 8) SP.nil))) (SA.cons (SX.str "abcdefghijklmnopqrstuvwxyz") SA.nil))))
    (SS.seq (SS.asg 4 (SX.str "ABCDEFGHIJKLMNOPQRSTUVWXYZ"))
    (SS.seq (SS.asg 6 (SX.bm oJoin (SX.str "") (SA.cons (SX.lc (SI.rng1 (SX.op oMod (SX.op oIx (SX.var 2) (SX.int 0)) (SX.int 4))) (SG.name 5) ST.yes (SX.op oIx (SX.var 3) (SX.op oMod (SX.op oIx (SX.var 2) (SX.op oAdd (SX.int 2) (SX.var 5))) (SX.int 26))) [5] (fun _ h => h)) SA.nil)))
    (SS.seq (SS.asg 7 (SX.lst SA.nil))
    (SS.seq (SS.for_ (SI.rng1 (SX.var 1)) (SG.name 5)
    (SS.seq (SS.asg 8 (SX.op oAdd (SX.op oIx (SX.var 4) (SX.op oMod (SX.op oAdd (SX.op oIx (SX.var 2) (SX.int 6)) (SX.var 5)) (SX.int 26))) (SX.var 6)))
    (SS.seq (SS.ite (ST.of (SX.op oEq (SX.op oMod (SX.op oIx (SX.var 2) (SX.int 1)) (SX.int 2)) (SX.int 1)))
    (SS.asg 8 (SX.op oAdd (SX.op oAdd (SX.op oIx (SX.var 4) (SX.op oMod (SX.op oIx (SX.var 2) (SX.int 6)) (SX.int 26))) (SX.op oIx (SX.var 3) (SX.op oMod (SX.op oAdd (SX.op oIx (SX.var 2) (SX.int 7)) (SX.var 5)) (SX.int 26)))) (SX.var 6))) SS.pass)
    (SS.seq (SS.ite (ST.of (SX.op oIn (SX.var 8) (SX.tup (SA.cons (SX.str "Bool") (SA.cons (SX.str "False") (SA.cons (SX.str "True") SA.nil))))))
    (SS.asg 8 (SX.op oAdd (SX.var 8) (SX.str "x"))) SS.pass)
    (SS.drop (SX.mut mAppend 7 (SA.cons (SX.var 8) SA.nil)))))))
    (SS.ret (SX.var 7)))))))
def f_law_greats (T : Txt K mg A) : En → Rs Rt := runF 2 9 (b_law_greats T).ev
abbrev X_law_greats (P : Program) (w : World) (K : PySem.W.Frag) (mg : Str → Option Value) (base : Heap) (A : Ads) (cdv : Value) (As : Around) (outer : List Env) (s : Shared) (H : Hp) (E : XK) : Cx := cxOf (L2.CX P w) P w K mg base N_law_greats "_law_greats" (defScope s_law_greats) A.f_law_greats cdv As outer s H E
theorem ok_law_greats (T : Txt K mg A) : Callee P w K mg base 2 A.f_law_greats P_law_greats (spF K 2 (f_law_greats T)) := by
  have c_law_numbers := ok_law_numbers (P := P) (w := w) (base := base) T
  refine def_ok T.F_law_greats sc_law_greats (b_law_greats T) (by decide) fun cdv As outer s H E hr tk hp => ?_
  have key : PSs (cxOf (L2.CX P w) P w K mg base N_law_greats "_law_greats" (defScope s_law_greats) A.f_law_greats cdv As outer s H E) (defBody s_law_greats) _ := (pss_cons (ps_asg (pe_tup (pa_cons (pe_callK K c_law_numbers (hr.mono (by decide)) (by rfl) T.m__law_numbers T.k__law_numbers tk (pa_cons (pv 0) (pa_cons pe_int pa_nil))) (pa_cons pe_str pa_nil))) (pg_tupK K (n := 2) rfl (pgs_cons (pg_name (i := 2) sc_law_greats.nd rfl (Or.inr rfl)) (pgs_cons (pg_name (i := 3) sc_law_greats.nd rfl (Or.inr rfl)) pgs_nil))))
    (pss_cons (ps_set (i := 4) sc_law_greats.nd rfl (Or.inl rfl) pe_str)
    (pss_cons (ps_set (i := 6) sc_law_greats.nd rfl (Or.inl rfl) (pe_bmK K PySem.F.plainAttrs_str PySem.F.slot_str_join PySem.F.type_str_join (mt_joinK K) pe_str (pa_cons (pe_lc (X := X_law_greats P w K mg base A cdv As outer s H E) (own := [("k", 5)]) rfl sc_law_greats.nd (pi_range1 (by rfl) T.b_range (pa_cons (pe_op op_modX (pe_ix (ixK K) (pv 2) pe_int (fun _ _ => rfl)) pe_int) pa_nil)) (blkOk_by (own := [("k", 5)]) (N := N_law_greats) (sc := defScope s_law_greats) (by decide +kernel)) (fun _ _ _ _ _ => (pg_name (i := 5) sc_law_greats.nd rfl (Or.inl rfl) (Or.inr rfl))) (fun _ _ _ _ _ => pts_nil) (fun _ _ _ _ _ => (pe_ix (ixK K) (pv 3) (pe_op op_modX (pe_ix (ixK K) (pv 2) (pe_op (op_addK K) pe_int (pv 5)) (fun _ _ => rfl)) pe_int) (fun _ _ => rfl)))) pa_nil)))
    (pss_cons (ps_set (i := 7) sc_law_greats.nd rfl (Or.inl rfl) (pe_lst pa_nil))
    (pss_cons (ps_for hp (by rfl) (pi_range1 (by rfl) T.b_range (pa_cons (pv 1) pa_nil)) (pg_name (i := 5) sc_law_greats.nd rfl (Or.inl rfl))
    (pss_cons (ps_set (i := 8) sc_law_greats.nd rfl (Or.inl rfl) (pe_op (op_addK K) (pe_ix (ixK K) (pv 4) (pe_op op_modX (pe_op (op_addK K) (pe_ix (ixK K) (pv 2) pe_int (fun _ _ => rfl)) (pv 5)) pe_int) (fun _ _ => rfl)) (pv 6)))
    (pss_cons (ps_if (pt_cmpR (op_eqK K hr.units) (pe_op op_modX (pe_ix (ixK K) (pv 2) pe_int (fun _ _ => rfl)) pe_int) pe_int (nomark _))
    (pss_one (ps_set (i := 8) sc_law_greats.nd rfl (Or.inl rfl) (pe_op (op_addK K) (pe_op (op_addK K) (pe_ix (ixK K) (pv 4) (pe_op op_modX (pe_ix (ixK K) (pv 2) pe_int (fun _ _ => rfl)) pe_int) (fun _ _ => rfl)) (pe_ix (ixK K) (pv 3) (pe_op op_modX (pe_op (op_addK K) (pe_ix (ixK K) (pv 2) pe_int (fun _ _ => rfl)) (pv 5)) pe_int) (fun _ _ => rfl))) (pv 6)))) pss_nil)
    (pss_cons (ps_if (pt_cmpR (op_inK K) (pv 8) (pe_tup (pa_cons pe_str (pa_cons pe_str (pa_cons pe_str pa_nil)))) (by rfl))
    (pss_one (ps_set (i := 8) sc_law_greats.nd rfl (Or.inl rfl) (pe_op (op_addK K) (pv 8) pe_str))) pss_nil)
    (pss_one (ps_expr (pe_bmK K PySem.F.plainAttrs_list PySem.F.slot_list_append PySem.F.type_list_append mt_append (pv 7) (pa_cons (pv 8) pa_nil))))))))
    (pss_one (ps_ret (pv 7))))))))
  exact key
def b_law_cell (T : Txt K mg A) : SS K := (SS.seq (SS.asg 3 (SX.call 2 (f_law_numbers T) (SP.cons (SX.var 0) (SP.cons (SX.int 50) SP.nil))))
    (SS.seq (SS.asg 4 (SX.op oMod (SX.op oIx (SX.var 3) (SX.int 0)) (SX.int 8)))
    (SS.seq (SS.ite (ST.of (SX.op oLtX (SX.var 4) (SX.int 3)))
    (SS.seq (SS.asg 5 (SX.op oIx (SX.lst (SA.cons (SX.int 0) (SA.cons (SX.int 1) (SA.cons (SX.int 2) (SA.cons (SX.op oAdd (SX.int 1) (SX.op oMod (SX.op oIx (SX.var 3) (SX.int 1)) (SX.int 40))) SA.nil))))) (SX.op oMod (SX.op oIx (SX.var 3) (SX.int 2)) (SX.int 4))))
    (SS.seq (SS.asg 6 (SX.lc (SI.rng1 (SX.var 5)) (SG.name 12) ST.yes (SX.op oMod (SX.cb oInt (SA.cons (SX.op oIx (SX.var 3) (SX.op oAdd (SX.int 3) (SX.var 12))) SA.nil)) (SX.int 256)) [12] (fun _ h => h)))
    (SS.seq (SS.ite (ST.and (ST.of (SX.op oGtX (SX.var 5) (SX.int 0))) (ST.of (SX.op oEq (SX.op oIx (SX.var 6) (SX.un oNeg (SX.int 1))) (SX.int 0))))
    (SS.setIx 6 (SX.un oNeg (SX.int 1)) (SX.op oAdd (SX.int 1) (SX.op oMod (SX.op oIx (SX.var 3) (SX.int 2)) (SX.int 255)))) SS.pass)
    (SS.seq (SS.asg 7 (SX.int 0))
    (SS.seq (SS.for_ (SI.rev (SX.var 6)) (SG.name 8)
    (SS.asg 7 (SX.op oAdd (SX.op oMul (SX.int 256) (SX.var 7)) (SX.var 8))))
    (SS.ret (SX.tup (SA.cons (SX.tup (SA.cons (SX.str "number") (SA.cons (SX.op oIx (SX.lst (SA.cons (SX.var 7) (SA.cons (SX.var 7) (SA.cons (SX.un oNeg (SX.var 7)) SA.nil)))) (SX.var 4)) SA.nil))) (SA.cons (SX.op oAdd (SX.lst (SA.cons (SX.op oAdd (SX.int 1) (SX.cb oInt (SA.cons (SX.and (SX.op oEq (SX.var 4) (SX.int 2)) (SX.op oGtX (SX.var 5) (SX.int 0))) SA.nil))) (SA.cons (SX.var 5) SA.nil))) (SX.var 6)) SA.nil))))))))) SS.pass)
    (SS.seq (SS.asg 9 (SX.lc (SI.rng1 (SX.op oMod (SX.op oIx (SX.var 3) (SX.int 3)) (SX.int 13))) (SG.name 12) ST.yes (SX.op oMod (SX.op oAdd (SX.op oMul (SX.op oIx (SX.var 3) (SX.op oAdd (SX.int 5) (SX.var 12))) (SX.int 720)) (SX.op oIx (SX.var 3) (SX.op oAdd (SX.int 6) (SX.var 12)))) (SX.int 4096)) [12] (fun _ h => h)))
    (SS.seq (SS.ite (ST.of (SX.op oLtX (SX.var 4) (SX.int 5)))
    (SS.seq (SS.asg 10 (SX.op oMod (SX.op oIx (SX.var 3) (SX.int 4)) (SX.cb oLen (SA.cons (SX.var 1) SA.nil))))
    (SS.ret (SX.tup (SA.cons (SX.tup (SA.cons (SX.str "maker") (SA.cons (SX.op oIx (SX.var 1) (SX.var 10)) (SA.cons (SX.cb oTup (SA.cons (SX.var 9) SA.nil)) SA.nil)))) (SA.cons (SX.op oAdd (SX.lst (SA.cons (SX.int 3) (SA.cons (SX.var 10) (SA.cons (SX.cb oLen (SA.cons (SX.var 9) SA.nil)) SA.nil)))) (SX.var 9)) SA.nil))))) SS.pass)
    (SS.seq (SS.par 8 11 (SX.op oMod (SX.op oAdd (SX.op oMul (SX.op oIx (SX.var 3) (SX.int 5)) (SX.int 720)) (SX.op oIx (SX.var 3) (SX.int 6))) (SX.int 4096)) (SX.op oMod (SX.op oAdd (SX.op oMul (SX.op oIx (SX.var 3) (SX.int 7)) (SX.int 720)) (SX.op oIx (SX.var 3) (SX.int 8))) (SX.int 4096)))
    (SS.seq (SS.ite (ST.of (SX.op oEq (SX.var 4) (SX.int 5)))
    (SS.ret (SX.tup (SA.cons (SX.tup (SA.cons (SX.str "apply") (SA.cons (SX.var 8) (SA.cons (SX.var 11) SA.nil)))) (SA.cons (SX.lst (SA.cons (SX.int 4) (SA.cons (SX.var 8) (SA.cons (SX.var 11) SA.nil)))) SA.nil)))) SS.pass)
    (SS.seq (SS.ite (ST.of (SX.op oEq (SX.var 4) (SX.int 6)))
    (SS.ret (SX.tup (SA.cons (SX.tup (SA.cons (SX.str "row") (SA.cons (SX.op oIx (SX.var 2) (SX.op oMod (SX.op oIx (SX.var 3) (SX.int 9)) (SX.cb oLen (SA.cons (SX.var 2) SA.nil)))) SA.nil))) (SA.cons (SX.lst (SA.cons (SX.int 5) (SA.cons (SX.op oMod (SX.op oIx (SX.var 3) (SX.int 9)) (SX.cb oLen (SA.cons (SX.var 2) SA.nil))) SA.nil))) SA.nil)))) SS.pass)
    (SS.ret (SX.op oIx (SX.lst (SA.cons (SX.tup (SA.cons (SX.tup (SA.cons (SX.str "lead") (SA.cons (SX.var 8) SA.nil))) (SA.cons (SX.lst (SA.cons (SX.int 6) (SA.cons (SX.var 8) SA.nil))) SA.nil))) (SA.cons (SX.tup (SA.cons (SX.tup (SA.cons (SX.str "empty") SA.nil)) (SA.cons (SX.lst (SA.cons (SX.int 7) (SA.cons (SX.int 0) SA.nil))) SA.nil))) SA.nil))) (SX.op oMod (SX.op oIx (SX.var 3) (SX.int 9)) (SX.int 2))))))))))))
def f_law_cell (T : Txt K mg A) : En → Rs Rt := runF 3 13 (b_law_cell T).ev
abbrev X_law_cell (P : Program) (w : World) (K : PySem.W.Frag) (mg : Str → Option Value) (base : Heap) (A : Ads) (cdv : Value) (As : Around) (outer : List Env) (s : Shared) (H : Hp) (E : XK) : Cx := cxOf (L2.CX P w) P w K mg base N_law_cell "_law_cell" (defScope s_law_cell) A.f_law_cell cdv As outer s H E
theorem ok_law_cell (T : Txt K mg A) : Callee P w K mg base 2 A.f_law_cell P_law_cell (spF K 3 (f_law_cell T)) := by
  have c_law_numbers := ok_law_numbers (P := P) (w := w) (base := base) T
  refine def_ok T.F_law_cell sc_law_cell (b_law_cell T) (by decide) fun cdv As outer s H E hr tk hp => ?_
  have key : PSs (cxOf (L2.CX P w) P w K mg base N_law_cell "_law_cell" (defScope s_law_cell) A.f_law_cell cdv As outer s H E) (defBody s_law_cell) _ := (pss_cons (ps_set (i := 3) sc_law_cell.nd rfl (Or.inr rfl) (pe_callK K c_law_numbers (hr.mono (by decide)) (by rfl) T.m__law_numbers T.k__law_numbers tk (pa_cons (pv 0) (pa_cons pe_int pa_nil))))
    (pss_cons (ps_set (i := 4) sc_law_cell.nd rfl (Or.inl rfl) (pe_op op_modX (pe_ix (ixK K) (pv 3) pe_int (fun _ _ => rfl)) pe_int))
    (pss_cons (ps_if (pt_cmpR op_ltX (pv 4) pe_int (nomark _))
    (pss_cons (ps_set (i := 5) sc_law_cell.nd rfl (Or.inl rfl) (pe_ix (ixK K) (pe_lst (pa_cons pe_int (pa_cons pe_int (pa_cons pe_int (pa_cons (pe_op (op_addK K) pe_int (pe_op op_modX (pe_ix (ixK K) (pv 3) pe_int (fun _ _ => rfl)) pe_int)) pa_nil))))) (pe_op op_modX (pe_ix (ixK K) (pv 3) pe_int (fun _ _ => rfl)) pe_int) (fun _ _ => rfl)))
    (pss_cons (ps_setLc (i := 6) (X := X_law_cell P w K mg base A cdv As outer s H E) (own := [("k", 12)]) rfl sc_law_cell.nd rfl rfl (sw_true rfl rfl rfl (by decide +kernel)) (pi_range1 (by rfl) T.b_range (pa_cons (pv 5) pa_nil)) (blkOk_by (own := [("k", 12)]) (N := N_law_cell) (sc := defScope s_law_cell) (by decide +kernel)) (fun _ _ _ _ _ => (pg_name (i := 12) sc_law_cell.nd rfl (Or.inl rfl) (Or.inr rfl))) (fun _ _ _ _ _ => pts_nil) (fun _ _ _ _ _ => (pe_op op_modX (pe_callTy call_int1 (by rfl) T.b_int (by decide +kernel) (pa_cons (pe_ix (ixK K) (pv 3) (pe_op (op_addK K) pe_int (pv 12)) (fun _ _ => rfl)) pa_nil)) pe_int)))
    (pss_cons (ps_if (PW.pt (pw_and (pt_cmpR op_gtX (pv 5) pe_int (nomark _)) (pw_and1 (pt_cmpR (op_eqK K hr.units) (pe_ix (ixK K) (pv 6) (pe_un un_neg pe_int) (fun _ _ => rfl)) pe_int (nomark _)))))
    (pss_one (ps_asg (pe_op (op_addK K) pe_int (pe_op op_modX (pe_ix (ixK K) (pv 3) pe_int (fun _ _ => rfl)) pe_int)) (pg_sub (pv 6) (pe_un un_neg pe_int) set_list))) pss_nil)
    (pss_cons (ps_set (i := 7) sc_law_cell.nd rfl (Or.inl rfl) pe_int)
    (pss_cons (ps_for hp (by rfl) (pi_revK K (by rfl) T.b_reversed (pv 6)) (pg_name (i := 8) sc_law_cell.nd rfl (Or.inl rfl))
    (pss_one (ps_set (i := 7) sc_law_cell.nd rfl (Or.inl rfl) (pe_op (op_addK K) (pe_op op_mulXX pe_int (pv 7)) (pv 8)))))
    (pss_one (ps_ret (pe_tup (pa_cons (pe_tup (pa_cons pe_str (pa_cons (pe_ix (ixK K) (pe_lst (pa_cons (pv 7) (pa_cons (pv 7) (pa_cons (pe_un un_neg (pv 7)) pa_nil)))) (pv 4) (fun _ _ => rfl)) pa_nil))) (pa_cons (pe_op (op_addK K) (pe_lst (pa_cons (pe_op (op_addK K) pe_int (pe_callTy call_int1 (by rfl) T.b_int (by decide +kernel) (pa_cons (pe_and (pe_cmpR (op_eqK K hr.units) (pv 4) pe_int (nomark _)) (pe_one (pe_cmpR op_gtX (pv 5) pe_int (nomark _)))) pa_nil))) (pa_cons (pv 5) pa_nil))) (pv 6)) pa_nil)))))))))) pss_nil)
    (pss_cons (ps_setLc (i := 9) (X := X_law_cell P w K mg base A cdv As outer s H E) (own := [("k", 12)]) rfl sc_law_cell.nd rfl rfl (sw_true rfl rfl rfl (by decide +kernel)) (pi_range1 (by rfl) T.b_range (pa_cons (pe_op op_modX (pe_ix (ixK K) (pv 3) pe_int (fun _ _ => rfl)) pe_int) pa_nil)) (blkOk_by (own := [("k", 12)]) (N := N_law_cell) (sc := defScope s_law_cell) (by decide +kernel)) (fun _ _ _ _ _ => (pg_name (i := 12) sc_law_cell.nd rfl (Or.inl rfl) (Or.inr rfl))) (fun _ _ _ _ _ => pts_nil) (fun _ _ _ _ _ => (pe_op op_modX (pe_op (op_addK K) (pe_op op_mulXX (pe_ix (ixK K) (pv 3) (pe_op (op_addK K) pe_int (pv 12)) (fun _ _ => rfl)) pe_int) (pe_ix (ixK K) (pv 3) (pe_op (op_addK K) pe_int (pv 12)) (fun _ _ => rfl))) pe_int)))
    (pss_cons (ps_if (pt_cmpR op_ltX (pv 4) pe_int (nomark _))
    (pss_cons (ps_set (i := 10) sc_law_cell.nd rfl (Or.inl rfl) (pe_op op_modX (pe_ix (ixK K) (pv 3) pe_int (fun _ _ => rfl)) (pe_callB (call_lenK K) (by rfl) T.b_len (by decide +kernel) (pa_cons (pv 1) pa_nil))))
    (pss_one (ps_ret (pe_tup (pa_cons (pe_tup (pa_cons pe_str (pa_cons (pe_ix (ixK K) (pv 1) (pv 10) (fun _ _ => rfl)) (pa_cons (pe_callTy (call_tupleK K) (by rfl) T.b_tuple (by decide +kernel) (pa_cons (pv 9) pa_nil)) pa_nil)))) (pa_cons (pe_op (op_addK K) (pe_lst (pa_cons pe_int (pa_cons (pv 10) (pa_cons (pe_callB (call_lenK K) (by rfl) T.b_len (by decide +kernel) (pa_cons (pv 9) pa_nil)) pa_nil)))) (pv 9)) pa_nil)))))) pss_nil)
    (pss_cons (ps_par (i := 8) (j := 11) (by rfl) sc_law_cell.nd rfl rfl (by decide) rfl rfl (pa_cons (pe_op op_modX (pe_op (op_addK K) (pe_op op_mulXX (pe_ix (ixK K) (pv 3) pe_int (fun _ _ => rfl)) pe_int) (pe_ix (ixK K) (pv 3) pe_int (fun _ _ => rfl))) pe_int) (pa_cons (pe_op op_modX (pe_op (op_addK K) (pe_op op_mulXX (pe_ix (ixK K) (pv 3) pe_int (fun _ _ => rfl)) pe_int) (pe_ix (ixK K) (pv 3) pe_int (fun _ _ => rfl))) pe_int) pa_nil)) (by rfl))
    (pss_cons (ps_if (pt_cmpR (op_eqK K hr.units) (pv 4) pe_int (nomark _))
    (pss_one (ps_ret (pe_tup (pa_cons (pe_tup (pa_cons pe_str (pa_cons (pv 8) (pa_cons (pv 11) pa_nil)))) (pa_cons (pe_lst (pa_cons pe_int (pa_cons (pv 8) (pa_cons (pv 11) pa_nil)))) pa_nil))))) pss_nil)
    (pss_cons (ps_if (pt_cmpR (op_eqK K hr.units) (pv 4) pe_int (nomark _))
    (pss_one (ps_ret (pe_tup (pa_cons (pe_tup (pa_cons pe_str (pa_cons (pe_ix (ixK K) (pv 2) (pe_op op_modX (pe_ix (ixK K) (pv 3) pe_int (fun _ _ => rfl)) (pe_callB (call_lenK K) (by rfl) T.b_len (by decide +kernel) (pa_cons (pv 2) pa_nil))) (fun _ _ => rfl)) pa_nil))) (pa_cons (pe_lst (pa_cons pe_int (pa_cons (pe_op op_modX (pe_ix (ixK K) (pv 3) pe_int (fun _ _ => rfl)) (pe_callB (call_lenK K) (by rfl) T.b_len (by decide +kernel) (pa_cons (pv 2) pa_nil))) pa_nil))) pa_nil))))) pss_nil)
    (pss_one (ps_ret (pe_ix (ixK K) (pe_lst (pa_cons (pe_tup (pa_cons (pe_tup (pa_cons pe_str (pa_cons (pv 8) pa_nil))) (pa_cons (pe_lst (pa_cons pe_int (pa_cons (pv 8) pa_nil))) pa_nil))) (pa_cons (pe_tup (pa_cons (pe_tup (pa_cons pe_str pa_nil)) (pa_cons (pe_lst (pa_cons pe_int (pa_cons pe_int pa_nil))) pa_nil))) pa_nil))) (pe_op op_modX (pe_ix (ixK K) (pv 3) pe_int (fun _ _ => rfl)) pe_int) (fun _ _ => rfl))))))))))))
  exact key
def b_law_is_same (T : Txt K mg A) (rec : En → Rs Rt) : SS K := (SS.seq (SS.ite (ST.of (SX.isi "tuple" (SX.var 1)))
    (SS.seq (SS.ite (ST.or (ST.not (ST.of (SX.isi "tuple" (SX.var 0)))) (ST.of (SX.op oNe (SX.cb oLen (SA.cons (SX.var 0) SA.nil)) (SX.cb oLen (SA.cons (SX.var 1) SA.nil)))))
    (SS.ret (SX.bl false)) SS.pass)
    (SS.ret (SX.cb oAll (SA.cons (SX.lc (SI.rng1 (SX.cb oLen (SA.cons (SX.var 1) SA.nil))) (SG.name 2) ST.yes (SX.call 2 rec (SP.cons (SX.op oIx (SX.var 0) (SX.var 2)) (SP.cons (SX.op oIx (SX.var 1) (SX.var 2)) SP.nil))) [2] (fun _ h => h)) SA.nil)))) SS.pass)
    (SS.seq (SS.ite (ST.of (SX.isi "int" (SX.var 1)))
    (SS.ret (SX.and (SX.isi "int" (SX.var 0)) (SX.and (SX.not (SX.isi "bool" (SX.var 0))) (SX.op oEq (SX.var 0) (SX.var 1))))) SS.pass)
    (SS.ret (SX.and (SX.isi "str" (SX.var 0)) (SX.op oEq (SX.var 0) (SX.var 1))))))
def f_law_is_same (T : Txt K mg A) : Nat → En → Rs Rt
  | 0 => fun _ => .no
  | n + 1 => runF 2 3 (b_law_is_same T (f_law_is_same T n)).ev
abbrev X_law_is_same (P : Program) (w : World) (K : PySem.W.Frag) (mg : Str → Option Value) (base : Heap) (A : Ads) (cdv : Value) (As : Around) (outer : List Env) (s : Shared) (H : Hp) (E : XK) : Cx := cxOf (L2.CX P w) P w K mg base N_law_is_same "_law_is_same" (defScope s_law_is_same) A.f_law_is_same cdv As outer s H E
theorem ok_law_is_same (T : Txt K mg A) : ∀ n, Callee P w K mg base (n + 1) A.f_law_is_same P_law_is_same (spF K 2 (f_law_is_same T n))
  | 0 => callee_no T.F_law_is_same
  | n + 1 => by
    have c_law_is_same := ok_law_is_same T n
    refine def_ok (k := n + 1) T.F_law_is_same sc_law_is_same (b_law_is_same T (f_law_is_same T n)) (by decide) fun cdv As outer s H E hr tk hp => ?_
    have key : PSs (cxOf (L2.CX P w) P w K mg base N_law_is_same "_law_is_same" (defScope s_law_is_same) A.f_law_is_same cdv As outer s H E) (defBody s_law_is_same) _ := (pss_cons (ps_if (pt_ofX (pe_callB (call_isiKK K) (by rfl) T.b_isinstance (by decide +kernel) (pa_cons (pv 1) (pa_cons (pe_bltn (v := .ty "tuple") (by rfl) T.b_tuple (by decide +kernel) rfl) pa_nil))))
    (pss_cons (ps_if (PW.pt (pw_or (pt_not (pt_ofX (pe_callB (call_isiKK K) (by rfl) T.b_isinstance (by decide +kernel) (pa_cons (pv 0) (pa_cons (pe_bltn (v := .ty "tuple") (by rfl) T.b_tuple (by decide +kernel) rfl) pa_nil))))) (pw_or1 (pt_cmpR (op_neK K hr.units) (pe_callB (call_lenK K) (by rfl) T.b_len (by decide +kernel) (pa_cons (pv 0) pa_nil)) (pe_callB (call_lenK K) (by rfl) T.b_len (by decide +kernel) (pa_cons (pv 1) pa_nil)) (nomark _)))))
    (pss_one (ps_ret pe_bl)) pss_nil)
    (pss_one (ps_ret (pe_callB (call_allK K rfl) (by rfl) T.b_all (by decide +kernel) (pa_cons (pe_lc (X := X_law_is_same P w K mg base A cdv As outer s H E) (own := [("k", 2)]) rfl sc_law_is_same.nd (pi_range1 (by rfl) T.b_range (pa_cons (pe_callB (call_lenK K) (by rfl) T.b_len (by decide +kernel) (pa_cons (pv 1) pa_nil)) pa_nil)) (blkOk_by (own := [("k", 2)]) (N := N_law_is_same) (sc := defScope s_law_is_same) (by decide +kernel)) (fun _ _ _ _ _ => (pg_name (i := 2) sc_law_is_same.nd rfl (Or.inl rfl) (Or.inr rfl))) (fun _ _ _ _ _ => pts_nil) (fun _ _ _ _ _ => (pe_callK K c_law_is_same (hr.mono (by omega)) (by rfl) T.m__law_is_same T.k__law_is_same takes0 (pa_cons (pe_ix (ixK K) (pv 0) (pv 2) (fun _ _ => rfl)) (pa_cons (pe_ix (ixK K) (pv 1) (pv 2) (fun _ _ => rfl)) pa_nil))))) pa_nil))))) pss_nil)
    (pss_cons (ps_if (pt_ofX (pe_callB (call_isiKK K) (by rfl) T.b_isinstance (by decide +kernel) (pa_cons (pv 1) (pa_cons (pe_bltn (v := .ty "int") (by rfl) T.b_int (by decide +kernel) rfl) pa_nil))))
    (pss_one (ps_ret (pe_and (pe_callB (call_isiKK K) (by rfl) T.b_isinstance (by decide +kernel) (pa_cons (pv 0) (pa_cons (pe_bltn (v := .ty "int") (by rfl) T.b_int (by decide +kernel) rfl) pa_nil))) (pe_and (pe_not (pe_callB (call_isiKK K) (by rfl) T.b_isinstance (by decide +kernel) (pa_cons (pv 0) (pa_cons (pe_bltn (v := .ty "bool") (by rfl) T.b_bool (by decide +kernel) rfl) pa_nil)))) (pe_one (pe_cmpR (op_eqK K hr.units) (pv 0) (pv 1) (nomark _))))))) pss_nil)
    (pss_one (ps_ret (pe_and (pe_callB (call_isiKK K) (by rfl) T.b_isinstance (by decide +kernel) (pa_cons (pv 0) (pa_cons (pe_bltn (v := .ty "str") (by rfl) T.b_str (by decide +kernel) rfl) pa_nil))) (pe_one (pe_cmpR (op_eqK K hr.units) (pv 0) (pv 1) (nomark _))))))))
    exact key
def blaw (T : Txt K mg A) : SS K := (SS.seq (SS.asg 1 (SX.call 2 (f_law_numbers T) (SP.cons (SX.call 2 (f_law_cell_at T) (SP.cons (SX.var 0) (SP.cons (SX.int 0) SP.nil))) (SP.cons (SX.int 6) SP.nil))))
    (SS.seq (SS.asg 2 (SX.cb oTuf (SA.cons (SX.op oAdd (SX.lst (SA.cons (SX.str "False") (SA.cons (SX.str "True") SA.nil))) (SX.call 2 (f_law_greats T) (SP.cons (SX.call 2 (f_law_cell_at T) (SP.cons (SX.var 0) (SP.cons (SX.int 1) SP.nil))) (SP.cons (SX.op oMod (SX.op oIx (SX.var 1) (SX.int 0)) (SX.int 27)) SP.nil)))) SA.nil)))
    (SS.seq (SS.asg 3 (SX.cb oTuf (SA.cons (SX.call 2 (f_law_words T) (SP.cons (SX.call 2 (f_law_cell_at T) (SP.cons (SX.var 0) (SP.cons (SX.int 2) SP.nil))) (SP.cons (SX.op oAdd (SX.int 1) (SX.op oMod (SX.op oIx (SX.var 1) (SX.int 1)) (SX.int 20))) SP.nil))) SA.nil)))
    (SS.seq (SS.for_ (SI.rng1 (SX.cb oMax2 (SA.cons (SX.int 1) (SA.cons (SX.cb oMin2 (SA.cons (SX.int 6) (SA.cons (SX.op oSub (SX.cb oLen (SA.cons (SX.var 0) SA.nil)) (SX.int 3)) SA.nil))) SA.nil)))) (SG.name 4)
    (SS.seq (SS.asg 5 (SX.call 2 (f_law_numbers T) (SP.cons (SX.op oDiv (SX.call 2 (f_law_cell_at T) (SP.cons (SX.var 0) (SP.cons (SX.op oAdd (SX.int 3) (SX.var 4)) SP.nil))) (SX.int 3)) (SP.cons (SX.int 60) SP.nil))))
    (SS.seq (SS.asgG (SG.tup 2 (SGs.cons (SG.name 6) (SGs.cons (SG.name 7) SGs.nil))) (SX.call 3 (f_law_cell T) (SP.cons (SX.call 2 (f_law_cell_at T) (SP.cons (SX.var 0) (SP.cons (SX.op oAdd (SX.int 3) (SX.var 4)) SP.nil))) (SP.cons (SX.var 2) (SP.cons (SX.var 3) SP.nil)))))
    (SS.seq (SS.ite (ST.not (ST.of (SX.call 2 (f_law_is_same T 5) (SP.cons (SX.call 3 (ffigures_of T) (SP.cons (SX.var 6) (SP.cons (SX.var 2) (SP.cons (SX.var 3) SP.nil)))) (SP.cons (SX.cb oTuf (SA.cons (SX.var 7) SA.nil)) SP.nil)))))
    (SS.ret (SX.bl false)) SS.pass)
    (SS.seq (SS.asg 8 (SX.op oIx (SX.lst (SA.cons (SX.op oSub (SX.int 4096) (SX.cb oLen (SA.cons (SX.var 7) SA.nil))) (SA.cons (SX.op oMod (SX.op oAdd (SX.op oMul (SX.op oIx (SX.var 5) (SX.int 0)) (SX.int 720)) (SX.op oIx (SX.var 5) (SX.int 1))) (SX.op oSub (SX.int 4097) (SX.cb oLen (SA.cons (SX.var 7) SA.nil)))) SA.nil))) (SX.op oMod (SX.op oIx (SX.var 5) (SX.int 2)) (SX.int 2))))
    (SS.seq (SS.asg 9 (SX.op oAdd (SX.lc (SI.rng1 (SX.int 40)) (SG.name 11) ST.yes (SX.cb oInt (SA.cons (SX.op oIx (SX.var 5) (SX.op oAdd (SX.int 3) (SX.var 11))) SA.nil)) [11] (fun _ h => h)) (SX.op oMul (SX.lst (SA.cons (SX.int 0) SA.nil)) (SX.int 4056))))
    (SS.seq (SS.setSl 9 (SX.var 8) (SX.op oAdd (SX.var 8) (SX.cb oLen (SA.cons (SX.var 7) SA.nil))) (SX.var 7))
    (SS.seq (SS.asg 10 (SX.cb oTuf (SA.cons (SX.lc (SI.rng1 (SX.int 4096)) (SG.name 11) (ST.of (SX.op oNe (SX.op oIx (SX.var 9) (SX.var 11)) (SX.int 0))) (SX.tup (SA.cons (SX.var 11) (SA.cons (SX.op oIx (SX.var 9) (SX.var 11)) SA.nil))) [11] (fun _ h => h)) SA.nil)))
    (SS.ite (ST.not (ST.of (SX.call 2 (f_law_is_same T 5) (SP.cons (SX.call 4 (fcell_at T) (SP.cons (SX.var 10) (SP.cons (SX.var 8) (SP.cons (SX.var 2) (SP.cons (SX.var 3) SP.nil))))) (SP.cons (SX.var 6) SP.nil)))))
    (SS.ret (SX.bl false)) SS.pass)))))))))
    (SS.ret (SX.bl true))))))
def flaw (T : Txt K mg A) : En → Rs Rt := runF 1 12 (blaw T).ev
abbrev Xlaw (P : Program) (w : World) (K : PySem.W.Frag) (mg : Str → Option Value) (base : Heap) (A : Ads) (cdv : Value) (As : Around) (outer : List Env) (s : Shared) (H : Hp) (E : XK) : Cx := cxOf (L2.CX P w) P w K mg base Nlaw "law" (defScope slaw) A.flaw cdv As outer s H E
theorem oklaw (T : Txt K mg A) {fd : FuncData} (F : Fun K "law" "law" slaw A.flaw fd) : FnOk P w K mg base (L2.CX P w) 8 A.flaw fd Plaw (spF K 1 (flaw T)) := by
  have c_law_numbers := ok_law_numbers (P := P) (w := w) (base := base) T
  have c_law_cell_at := ok_law_cell_at (P := P) (w := w) (base := base) T
  have c_law_greats := ok_law_greats (P := P) (w := w) (base := base) T
  have c_law_words := ok_law_words (P := P) (w := w) (base := base) T
  have c_law_cell := ok_law_cell (P := P) (w := w) (base := base) T
  have c_law_is_same := ok_law_is_same (P := P) (w := w) (base := base) T 5
  have cfigures_of := okfigures_of (P := P) (w := w) (base := base) T
  have ccell_at := okcell_at (P := P) (w := w) (base := base) T
  refine def_okF F sclaw (blaw T) (by decide) fun cdv As outer s H E hr tk hp => ?_
  have key : PSs (cxOf (L2.CX P w) P w K mg base Nlaw "law" (defScope slaw) A.flaw cdv As outer s H E) (defBody slaw) _ := (pss_cons (ps_set (i := 1) sclaw.nd rfl (Or.inl rfl) (pe_callK K c_law_numbers (hr.mono (by decide)) (by rfl) T.m__law_numbers T.k__law_numbers tk (pa_cons (pe_callK K c_law_cell_at (hr.mono (by decide)) (by rfl) T.m__law_cell_at T.k__law_cell_at tk (pa_cons (pv 0) (pa_cons pe_int pa_nil))) (pa_cons pe_int pa_nil))))
    (pss_cons (ps_set (i := 2) sclaw.nd rfl (Or.inl rfl) (pe_callTy (call_tufK K) (by rfl) T.b_tuple (by decide +kernel) (pa_cons (pe_op (op_addK K) (pe_lst (pa_cons pe_str (pa_cons pe_str pa_nil))) (pe_callK K c_law_greats (hr.mono (by decide)) (by rfl) T.m__law_greats T.k__law_greats tk (pa_cons (pe_callK K c_law_cell_at (hr.mono (by decide)) (by rfl) T.m__law_cell_at T.k__law_cell_at tk (pa_cons (pv 0) (pa_cons pe_int pa_nil))) (pa_cons (pe_op op_modX (pe_ix (ixK K) (pv 1) pe_int (fun _ _ => rfl)) pe_int) pa_nil)))) pa_nil)))
    (pss_cons (ps_set (i := 3) sclaw.nd rfl (Or.inl rfl) (pe_callTy (call_tufK K) (by rfl) T.b_tuple (by decide +kernel) (pa_cons (pe_callK K c_law_words (hr.mono (by decide)) (by rfl) T.m__law_words T.k__law_words tk (pa_cons (pe_callK K c_law_cell_at (hr.mono (by decide)) (by rfl) T.m__law_cell_at T.k__law_cell_at tk (pa_cons (pv 0) (pa_cons pe_int pa_nil))) (pa_cons (pe_op (op_addK K) pe_int (pe_op op_modX (pe_ix (ixK K) (pv 1) pe_int (fun _ _ => rfl)) pe_int)) pa_nil))) pa_nil)))
    (pss_cons (ps_for hp (by rfl) (pi_range1 (by rfl) T.b_range (pa_cons (pe_callB (call_max2 rfl) (by rfl) T.b_max (by decide +kernel) (pa_cons pe_int (pa_cons (pe_callB (call_min2 rfl) (by rfl) T.b_min (by decide +kernel) (pa_cons pe_int (pa_cons (pe_op op_sub (pe_callB (call_lenK K) (by rfl) T.b_len (by decide +kernel) (pa_cons (pv 0) pa_nil)) pe_int) pa_nil))) pa_nil))) pa_nil)) (pg_name (i := 4) sclaw.nd rfl (Or.inl rfl))
    (pss_cons (ps_set (i := 5) sclaw.nd rfl (Or.inr rfl) (pe_callK K c_law_numbers (hr.mono (by decide)) (by rfl) T.m__law_numbers T.k__law_numbers tk (pa_cons (pe_op op_fdivW (pe_callK K c_law_cell_at (hr.mono (by decide)) (by rfl) T.m__law_cell_at T.k__law_cell_at tk (pa_cons (pv 0) (pa_cons (pe_op (op_addK K) pe_int (pv 4)) pa_nil))) pe_int) (pa_cons pe_int pa_nil))))
    (pss_cons (ps_asg (pe_callK K c_law_cell (hr.mono (by decide)) (by rfl) T.m__law_cell T.k__law_cell tk (pa_cons (pe_callK K c_law_cell_at (hr.mono (by decide)) (by rfl) T.m__law_cell_at T.k__law_cell_at tk (pa_cons (pv 0) (pa_cons (pe_op (op_addK K) pe_int (pv 4)) pa_nil))) (pa_cons (pv 2) (pa_cons (pv 3) pa_nil)))) (pg_tupK K (n := 2) rfl (pgs_cons (pg_name (i := 6) sclaw.nd rfl (Or.inl rfl)) (pgs_cons (pg_name (i := 7) sclaw.nd rfl (Or.inl rfl)) pgs_nil))))
    (pss_cons (ps_if (pt_not (pt_ofX (pe_callK K c_law_is_same (hr.mono (by decide)) (by rfl) T.m__law_is_same T.k__law_is_same tk (pa_cons (pe_callK K cfigures_of (hr.mono (by decide)) (by rfl) T.m_figures_of T.k_figures_of tk (pa_cons (pv 6) (pa_cons (pv 2) (pa_cons (pv 3) pa_nil)))) (pa_cons (pe_callTy (call_tufK K) (by rfl) T.b_tuple (by decide +kernel) (pa_cons (pv 7) pa_nil)) pa_nil)))))
    (pss_one (ps_ret pe_bl)) pss_nil)
    (pss_cons (ps_set (i := 8) sclaw.nd rfl (Or.inl rfl) (pe_ix (ixK K) (pe_lst (pa_cons (pe_op op_sub pe_int (pe_callB (call_lenK K) (by rfl) T.b_len (by decide +kernel) (pa_cons (pv 7) pa_nil))) (pa_cons (pe_op op_modX (pe_op (op_addK K) (pe_op op_mulXX (pe_ix (ixK K) (pv 5) pe_int (fun _ _ => rfl)) pe_int) (pe_ix (ixK K) (pv 5) pe_int (fun _ _ => rfl))) (pe_op op_sub pe_int (pe_callB (call_lenK K) (by rfl) T.b_len (by decide +kernel) (pa_cons (pv 7) pa_nil)))) pa_nil))) (pe_op op_modX (pe_ix (ixK K) (pv 5) pe_int (fun _ _ => rfl)) pe_int) (fun _ _ => rfl)))
    (pss_cons (ps_set (i := 9) sclaw.nd rfl (Or.inr rfl) (pe_op (op_addK K) (pe_lc (X := Xlaw P w K mg base A cdv As outer s H E) (own := [("j", 11)]) rfl sclaw.nd (pi_range1 (by rfl) T.b_range (pa_cons pe_int pa_nil)) (blkOk_by (own := [("j", 11)]) (N := Nlaw) (sc := defScope slaw) (by decide +kernel)) (fun _ _ _ _ _ => (pg_name (i := 11) sclaw.nd rfl (Or.inl rfl) (Or.inr rfl))) (fun _ _ _ _ _ => pts_nil) (fun _ _ _ _ _ => (pe_callTy call_int1 (by rfl) T.b_int (by decide +kernel) (pa_cons (pe_ix (ixK K) (pv 5) (pe_op (op_addK K) pe_int (pv 11)) (fun _ _ => rfl)) pa_nil)))) (pe_op op_mulXX (pe_lst (pa_cons pe_int pa_nil)) pe_int)))
    (pss_cons (ps_asg (pv 7) (pg_slc (pv 9) (pv 8) (pe_op (op_addK K) (pv 8) (pe_callB (call_lenK K) (by rfl) T.b_len (by decide +kernel) (pa_cons (pv 7) pa_nil)))))
    (pss_cons (ps_set (i := 10) sclaw.nd rfl (Or.inl rfl) (pe_callTy (call_tufK K) (by rfl) T.b_tuple (by decide +kernel) (pa_cons (pe_lc (X := Xlaw P w K mg base A cdv As outer s H E) (own := [("j", 11)]) rfl sclaw.nd (pi_range1 (by rfl) T.b_range (pa_cons pe_int pa_nil)) (blkOk_by (own := [("j", 11)]) (N := Nlaw) (sc := defScope slaw) (by decide +kernel)) (fun _ _ _ _ _ => (pg_name (i := 11) sclaw.nd rfl (Or.inl rfl) (Or.inr rfl))) (fun _ _ _ _ _ => (pts_one (pt_cmpR (op_neK K hr.units) (pe_ix (ixK K) (pv 9) (pv 11) (fun _ _ => rfl)) pe_int (nomark _)))) (fun _ _ _ _ _ => (pe_tup (pa_cons (pv 11) (pa_cons (pe_ix (ixK K) (pv 9) (pv 11) (fun _ _ => rfl)) pa_nil))))) pa_nil)))
    (pss_one (ps_if (pt_not (pt_ofX (pe_callK K c_law_is_same (hr.mono (by decide)) (by rfl) T.m__law_is_same T.k__law_is_same tk (pa_cons (pe_callK K ccell_at (hr.mono (by decide)) (by rfl) T.m_cell_at T.k_cell_at tk (pa_cons (pv 10) (pa_cons (pv 8) (pa_cons (pv 2) (pa_cons (pv 3) pa_nil))))) (pa_cons (pv 6) pa_nil)))))
    (pss_one (ps_ret pe_bl)) pss_nil))))))))))
    (pss_one (ps_ret pe_bl))))))
  exact key
end
end G00
set_option Elab.async false
set_option linter.all false
set_option maxRecDepth 100000
namespace G00
open PySem PySem.Spec PyProof.Rows L2 RZ RT DX
variable {K : PySem.W.Frag} {mg : Str → Option Value} {A : Ads}
theorem cell_at_eq (T : Txt K mg A) (ds : List D) (k : Nat) : f_law_cell_at T [.fz (.rdl ds), .fz (.int k)] = .ok (.fz (ds.getD k (.int 0))) [.no, .no] := by
  unfold f_law_cell_at runF b_law_cell_at
  by_cases h : k < ds.length
  · have e : atI ds (k : Int) = some ds[k] := by
      unfold atI ixN; simp [h]
    simp [h, ixF, e, keepP]
  · simp [h, keepP]
def numB (T : Txt K mg A) : SS K := SS.seq (SS.asg 5 (SX.op oMod (SX.op oMul (SX.op oAdd (SX.op oAdd (SX.op oAdd (SX.op oMod (SX.cb oInt (SA.cons (SX.var 0) SA.nil)) (SX.int 2147483629)) (SX.op oMul (SX.op oMul (SX.int 7919) (SX.var 4)) (SX.var 4))) (SX.op oMul (SX.int 131) (SX.var 4))) (SX.int 1)) (SX.int 48271)) (SX.int 2147483647)))
    (SS.seq (SS.asg 5 (SX.op oMod (SX.op oMul (SX.var 5) (SX.var 5)) (SX.int 2147483587)))
    (SS.seq (SS.asg 5 (SX.op oDiv (SX.op oMod (SX.op oMul (SX.op oAdd (SX.var 5) (SX.op oMul (SX.int 40692) (SX.op oAdd (SX.var 4) (SX.int 5)))) (SX.int 69621)) (SX.int 2147483563)) (SX.int 8)))
    (SS.seq (SS.ite (ST.and (ST.of (SX.op oGe (SX.var 0) (SX.op oPow (SX.int 10) (SX.int 18)))) (ST.of (SX.op oGtX (SX.var 3) (SX.int 0))))
    (SS.seq (SS.asg 5 (SX.var 3))
    (SS.asg 3 (SX.op oDiv (SX.var 3) (SX.int 720)))) SS.pass)
    (SS.drop (SX.mut mAppend 2 (SA.cons (SX.op oMod (SX.cb oInt (SA.cons (SX.var 5) SA.nil)) (SX.int 720)) SA.nil))))))
theorem numB_eq (T : Txt K mg A) (c m rest k : Int) (acc : List D) (s5 : Sl) (h0 : 0 ≤ k) (h1 : k ≤ 100000) (ha : acc.length < 16777216) :
    ∃ x r s, (numB T).ev [.fz (.int c), .fz (.int m), .own (.lst acc), .fz (.int rest), .fz (.int k), s5] = .nx [.fz (.int c), .fz (.int m), .own (.lst (acc ++ [.int x])), .fz (.int r), .fz (.int k), s] ∧ 0 ≤ x ∧ x < 720 := by
  have k2 : 0 ≤ 7919 * k * k ∧ 7919 * k * k ≤ 79190000000000 := by
    constructor
    · exact Int.mul_nonneg (by omega) h0
    · have : 7919 * k * k ≤ 791900000 * 100000 := Int.mul_le_mul (by omega) h1 h0 (by omega)
      omega
  have g1 : ∃ y, (SS.asg (K := K) 5 (SX.op oMod (SX.op oMul (SX.op oAdd (SX.op oAdd (SX.op oAdd (SX.op oMod (SX.cb oInt (SA.cons (SX.var 0) SA.nil)) (SX.int 2147483629)) (SX.op oMul (SX.op oMul (SX.int 7919) (SX.var 4)) (SX.var 4))) (SX.op oMul (SX.int 131) (SX.var 4))) (SX.int 1)) (SX.int 48271)) (SX.int 2147483647))).ev [.fz (.int c), .fz (.int m), .own (.lst acc), .fz (.int rest), .fz (.int k), s5] = .nx [.fz (.int c), .fz (.int m), .own (.lst acc), .fz (.int rest), .fz (.int k), .fz (.int y)] ∧ 0 ≤ y ∧ y < 2147483647 := by
    refine ⟨(c % 2147483629 + 7919 * k * k + 131 * k + 1) * 48271 % 2147483647, ?_, ?_⟩
    · simp (disch := first | assumption | omega | (refine mulOk_64 ?_ ?_ <;> omega)) [intsF_div, intsF_mod, mulF_int]
    · omega
  obtain ⟨y, e1, hy⟩ := g1
  have y2 : 0 ≤ y * y ∧ y * y ≤ 4611686014132420609 := by
    constructor
    · exact Int.mul_nonneg hy.1 hy.1
    · have : y * y ≤ 2147483647 * 2147483647 := Int.mul_le_mul (by omega) (by omega) hy.1 (by omega)
      omega
  have g2 : ∃ z, (SS.asg (K := K) 5 (SX.op oMod (SX.op oMul (SX.var 5) (SX.var 5)) (SX.int 2147483587))).ev [.fz (.int c), .fz (.int m), .own (.lst acc), .fz (.int rest), .fz (.int k), .fz (.int y)] = .nx [.fz (.int c), .fz (.int m), .own (.lst acc), .fz (.int rest), .fz (.int k), .fz (.int z)] ∧ 0 ≤ z ∧ z < 2147483587 := by
    refine ⟨y * y % 2147483587, ?_, by omega⟩
    simp (disch := first | assumption | omega | (refine mulOk_64 ?_ ?_ <;> omega)) [intsF_div, intsF_mod, mulF_int]
  obtain ⟨z, e2, hz⟩ := g2
  have g3 : ∃ u, (SS.asg (K := K) 5 (SX.op oDiv (SX.op oMod (SX.op oMul (SX.op oAdd (SX.var 5) (SX.op oMul (SX.int 40692) (SX.op oAdd (SX.var 4) (SX.int 5)))) (SX.int 69621)) (SX.int 2147483563)) (SX.int 8))).ev [.fz (.int c), .fz (.int m), .own (.lst acc), .fz (.int rest), .fz (.int k), .fz (.int z)] = .nx [.fz (.int c), .fz (.int m), .own (.lst acc), .fz (.int rest), .fz (.int k), .fz (.int u)] := by
    refine ⟨(z + 40692 * (k + 5)) * 69621 % 2147483563 / 8, ?_⟩
    simp (disch := first | assumption | omega | decide | (refine mulOk_64 ?_ ?_ <;> omega)) [intsF_div, intsF_mod, mulF_int]
  obtain ⟨u, e3⟩ := g3
  have sz : acc.length < sizeLine := size_lt ha
  unfold numB
  rw [ev_seq, e1, flS_nx, ev_seq, e2, flS_nx, ev_seq, e3, flS_nx]
  by_cases hc : c ≥ 1000000000000000000 ∧ rest > 0
  · have a1 : (1000000000000000000 ≤ c) = True := by simp [hc.1]
    have a2 : (0 < rest) = True := by simp [hc.2]
    refine ⟨rest % 720, rest / 720, .fz (.int rest), ?_, by omega, by omega⟩
    simp (disch := first | assumption | omega | decide | (refine mulOk_64 ?_ ?_ <;> omega)) [intsF_div, intsF_mod, mulF_int, a1, a2, sz]
  · refine ⟨u % 720, rest, .fz (.int u), ?_, by omega, by omega⟩
    by_cases a1 : 1000000000000000000 ≤ c
    · have a2 : ¬ (0 < rest) := fun z => hc ⟨a1, z⟩
      simp (disch := first | assumption | omega | decide | (refine mulOk_64 ?_ ?_ <;> omega)) [intsF_div, intsF_mod, mulF_int, a1, a2, sz]
    · simp (disch := first | assumption | omega | decide | (refine mulOk_64 ?_ ?_ <;> omega)) [intsF_div, intsF_mod, mulF_int, a1, sz]
theorem rngD_map (n : Nat) : rngD 0 n = ((List.range n).map fun i : Nat => (i : Int)).map D.int := by
  unfold rngD; simp
theorem numL (T : Txt K mg A) (c m : Int) : ∀ (ks : List Int) (acc : List D) (rest : Int) (s4 s5 : Sl), (∀ k ∈ ks, 0 ≤ k ∧ k ≤ 100000) → acc.length + ks.length < 16777216 →
    ∃ (xs : List Int) (r : Int) (s4' s5' : Sl), forL (SG.name (K := K) 4).ev (numB T).ev (ks.map D.int) [.fz (.int c), .fz (.int m), .own (.lst acc), .fz (.int rest), s4, s5] = .nx [.fz (.int c), .fz (.int m), .own (.lst (acc ++ xs.map D.int)), .fz (.int r), s4', s5'] ∧ xs.length = ks.length ∧ ∀ x ∈ xs, 0 ≤ x ∧ x < 720
  | [], acc, rest, s4, s5, _, _ => ⟨[], rest, s4, s5, by simp [forL], rfl, by simp⟩
  | k :: ks, acc, rest, s4, s5, hk, hl => by
    obtain ⟨x, r, s, e, hx⟩ := numB_eq T c m rest k acc s5 (hk k (by simp)).1 (hk k (by simp)).2 (by simp at hl; omega)
    obtain ⟨xs, r', s4', s5', e', hl', hx'⟩ := numL T c m ks (acc ++ [.int x]) r (.fz (.int k)) s (fun j hj => hk j (by simp [hj])) (by simp at hl ⊢; omega)
    refine ⟨x :: xs, r', s4', s5', ?_, by simp [hl'], fun y hy => ?_⟩
    · simp [forL, e, e']
    · rcases List.mem_cons.mp hy with rfl | hy
      · exact hx
      · exact hx' y hy
theorem numbers_eq (T : Txt K mg A) (c : Int) (n : Nat) (hn : n ≤ 100000) : ∃ xs : List Int, f_law_numbers T [.fz (.int c), .fz (.int n)] = .ok (.tmp (.lst (xs.map D.int))) [.no, .no] ∧ xs.length = n ∧ ∀ x ∈ xs, 0 ≤ x ∧ x < 720 := by
  obtain ⟨xs, r, s4, s5, e, hl, hx⟩ := numL T c n ((List.range n).map fun i : Nat => (i : Int)) [] (c - 1000000000000000000) .no .no (fun k hk => by
    simp at hk; obtain ⟨i, h1, rfl⟩ := hk; omega) (by simp; omega)
  rw [← rngD_map] at e
  refine ⟨xs, ?_, by simpa using hl, hx⟩
  have p : (SS.par (K := K) 2 3 (SX.lst SA.nil) (SX.op oSub (SX.var 0) (SX.op oPow (SX.int 10) (SX.int 18)))).ev [.fz (.int c), .fz (.int n), .no, .no, .no, .no] = .nx [.fz (.int c), .fz (.int n), .own (.lst []), .fz (.int (c - 1000000000000000000)), .no, .no] := by simp
  have q : (SI.rng1 (K := K) (SX.var 1)).ev [.fz (.int c), .fz (.int n), .own (.lst []), .fz (.int (c - 1000000000000000000)), .no, .no] = .ok (rngD 0 n) [.fz (.int c), .fz (.int n), .own (.lst []), .fz (.int (c - 1000000000000000000)), .no, .no] := by
    rw [ev_irng1, ev_var]
    simp [in62_of (j := (n : Int)) (by omega) (by omega)]
  have z : (b_law_numbers T).ev [.fz (.int c), .fz (.int n), .no, .no, .no, .no] = .rt (.tmp (.lst (xs.map D.int))) [.fz (.int c), .fz (.int n), .no, .fz (.int r), s4, s5] := by
    unfold b_law_numbers
    rw [ev_seq, p, flS_nx, ev_seq, ev_for, q, Rs.fl_ok]
    have e' := e
    unfold numB at e'
    rw [e', flS_nx]
    simp
  exact runF_rt z
end G00
set_option Elab.async false
set_option linter.all false
set_option maxRecDepth 100000
namespace G00
open PySem PySem.Spec PyProof.Rows L2 RZ RT DX
variable {K : PySem.W.Frag} {mg : Str → Option Value} {A : Ads}
theorem kit_ib : kitB "int" "int" = some true ∧ kitB "int" "bool" = some false ∧ kitB "tuple" "tuple" = some true ∧ kitB "int" "tuple" = some false ∧ kitB "str" "tuple" = some false ∧ kitB "str" "int" = some false ∧ kitB "str" "str" = some true := by decide +kernel
@[simp] theorem isi_1 {i : Int} : isiE "int" (.int i) = some (.fz (.bl true)) := by simp [isiE, D.ty, kit_ib]
@[simp] theorem isi_2 {i : Int} : isiE "bool" (.int i) = some (.fz (.bl false)) := by simp [isiE, D.ty, kit_ib]
@[simp] theorem isi_3 {ds : List D} : isiE "tuple" (.tup ds) = some (.fz (.bl true)) := by simp [isiE, D.ty, kit_ib]
@[simp] theorem isi_4 {ds : List D} : isiE "tuple" (.tuf ds) = some (.fz (.bl true)) := by simp [isiE, D.ty, kit_ib]
@[simp] theorem isi_5 {i : Int} : isiE "tuple" (.int i) = some (.fz (.bl false)) := by simp [isiE, D.ty, kit_ib]
@[simp] theorem isi_6 {i : Str} : isiE "tuple" (.str i) = some (.fz (.bl false)) := by simp [isiE, D.ty, kit_ib]
@[simp] theorem isi_7 {i : Str} : isiE "int" (.str i) = some (.fz (.bl false)) := by simp [isiE, D.ty, kit_ib]
@[simp] theorem isi_8 {i : Str} : isiE "str" (.str i) = some (.fz (.bl true)) := by simp [isiE, D.ty, kit_ib]
theorem is_integer_eq (T : Txt K mg A) (i a b : Int) : fis_integer T [.fz (.int i), .fz (.int a), .fz (.int b)] = .ok (.fz (.bl (decide (a ≤ i) && decide (i ≤ b)))) [.no, .no, .no] := by
  unfold fis_integer runF bis_integer
  by_cases h : a ≤ i
  · by_cases h2 : i ≤ b
    · simp [h, h2]
    · simp [h, h2]
  · simp [h]
theorem is_from_eq (T : Txt K mg A) (i a b : Int) : fis_from T [.fz (.int i), .fz (.int a), .fz (.int b)] = .ok (.fz (.bl (decide (a ≤ i) && decide (i ≤ b)))) [.no, .no, .no] := by
  unfold fis_from runF bis_from
  simp [callE_3 (is_integer_eq T i a b)]
theorem is_tuple_eq (T : Txt K mg A) (ds : List D) (a b : Int) : fis_tuple T [.fz (.tup ds), .fz (.int a), .fz (.int b)] = .ok (.fz (.bl (decide (a ≤ ds.length) && decide (ds.length ≤ b)))) [.no, .no, .no] := by
  unfold fis_tuple runF bis_tuple
  by_cases h : a ≤ ds.length
  · simp [h]
  · simp [h]
theorem is_address_eq (T : Txt K mg A) (i : Int) : fis_address T [.fz (.int i)] = .ok (.fz (.bl (decide (0 ≤ i) && decide (i ≤ 4095)))) [.no] := by
  unfold fis_address runF bis_address
  simp [callE_3 (is_from_eq T i 0 4095)]
theorem is_cell_eq (T : Txt K mg A) (i j : Int) (h0 : 0 ≤ i) (h1 : i ≤ 4095) (h2 : 1 ≤ j) (h3 : j ≤ 65535) : fis_cell T [.fz (.tup [.int i, .int j])] = .ok (.fz (.bl true)) [.no] := by
  unfold fis_cell runF bis_cell
  simp [callE_3 (is_tuple_eq T [.int i, .int j] 2 2), callE_1 (is_address_eq T i), callE_3 (is_from_eq T j 1 65535), h0, h1, h2, h3]

/-! ### the memory -/
def js (ws : List Int) (n : Nat) : List Nat := (List.range n).filter fun j => decide (nth ws j ≠ 0)
def pr (ws : List Int) (j : Nat) : D := .tup [.int (j : Nat), .int (nth ws j)]
def memD (ws : List Int) (n : Nat) : List D := (js ws n).map (pr ws)
theorem js_sorted (ws : List Int) (n : Nat) : (js ws n).Pairwise (· < ·) := List.Pairwise.filter _ List.pairwise_lt_range
theorem js_mem {ws : List Int} {n j : Nat} : j ∈ js ws n ↔ j < n ∧ nth ws j ≠ 0 := by
  unfold js; simp
theorem js_len (ws : List Int) (n : Nat) : (js ws n).length ≤ n := by
  unfold js
  have := List.length_filter_le (fun j => decide (nth ws j ≠ 0)) (List.range n)
  simpa using this
theorem zip_adj (F : Nat → D) : ∀ (l : List Nat) (a : Nat), (a :: l).Pairwise (· < ·) → ∀ d ∈ zipD ((a :: l).map F) (l.map F), ∃ i j, i ∈ a :: l ∧ j ∈ l ∧ i < j ∧ d = .tup [F i, F j]
  | [], a, _, d, h => by cases h
  | b :: l, a, hp, d, h => by
    have hp' := List.pairwise_cons.mp hp
    have e : zipD ((a :: b :: l).map F) ((b :: l).map F) = .tup [F a, F b] :: zipD ((b :: l).map F) (l.map F) := rfl
    rw [e] at h
    rcases List.mem_cons.mp h with h | h
    · exact ⟨a, b, by simp, by simp, hp'.1 b (by simp), h⟩
    · obtain ⟨i, j, h1, h2, h3, h4⟩ := zip_adj F l b hp'.2 d h
      exact ⟨i, j, List.mem_cons_of_mem _ h1, List.mem_cons_of_mem _ h2, h3, h4⟩
theorem cut1 (ds : List D) : DX.cutD ds (some 1) none = ds.drop 1 := by
  unfold DX.cutD HT.sIx
  cases ds with
  | nil => rfl
  | cons d ds => simp
theorem zip_mem (ws : List Int) (n : Nat) (d : D) (h : d ∈ zipD (memD ws n) ((memD ws n).drop 1)) : ∃ i j : Nat, i < j ∧ d = .tup [pr ws i, pr ws j] := by
  unfold memD at h
  have hs := js_sorted ws n
  revert h hs
  cases js ws n with
  | nil => intro h; cases h
  | cons a l =>
    intro h hs
    obtain ⟨i, j, _, _, h3, h4⟩ := zip_adj (pr ws) l a hs d h
    exact ⟨i, j, h3, h4⟩
structure Mem (ws : List Int) : Prop where
  len : ws.length = 4096
  lo : ∀ k, 0 ≤ nth ws k
  hi : ∀ k, nth ws k ≤ 65535
theorem mem_get {ws : List Int} (h : Mem ws) {d : D} (hd : d ∈ memD ws 4096) : ∃ j : Nat, j < 4096 ∧ nth ws j ≠ 0 ∧ d = pr ws j := by
  unfold memD at hd
  obtain ⟨j, h1, rfl⟩ := List.mem_map.mp hd
  have := js_mem.mp h1
  exact ⟨j, this.1, this.2, rfl⟩
theorem mem_len (ws : List Int) : (memD ws 4096).length ≤ 4096 := by
  unfold memD; rw [List.length_map]; exact js_len ws 4096
theorem all_tt (ds : List D) : allF (fun bs => bs.all id) [.lst (ds.map fun _ => .bl true)] = some (.fz (.bl true)) := by
  rw [all_map (f := fun _ => true)]; simp
theorem ev_lcG {it : SI K} {g : SG K} {e : SX K} {vs : List Nat} {hg} {E0 E : En} {items : List D} (hit : it.ev E0 = .ok items E) (hst : stays E vs = true) (f : D → D)
    (h : ∀ d ∈ items, ∃ E', g.ev d (wipeE E vs) = some E' ∧ E'.length = E.length ∧ backE E E' vs = E ∧ e.ev E' = .ok (.fz (f d)) E') (hl : items.length < 16777216) :
    (SX.lc it g ST.yes e vs hg).ev E0 = .ok (.tmp (.lst (items.map f))) E := by
  rw [ev_lc, hit, Rs.bind_ok, lcG hst f items [] (fun d hd => by
    obtain ⟨E', h1, h2, h3, h4⟩ := h d hd
    exact ⟨E', h1, h2, h3, rfl, h4⟩) (by simpa using hl)]
  rfl
theorem is_a_memory_eq (T : Txt K mg A) {ws : List Int} (h : Mem ws) : fis_a_memory T [.fz (.tuf (memD ws 4096))] = .ok (.fz (.bl true)) [.no] := by
  have hl := mem_len ws
  have c1 : (SX.lc (K := K) (SI.seq (SX.var 0)) (SG.name 3) ST.yes (SX.call 1 (fis_cell T) (SP.cons (SX.var 3) SP.nil)) [3] (fun _ h => h)).ev [.fz (.tuf (memD ws 4096)), .no, .no, .no] = .ok (.tmp (.lst ((memD ws 4096).map fun _ => .bl true))) [.fz (.tuf (memD ws 4096)), .no, .no, .no] := by
    refine ev_lcm (items := memD ws 4096) (E := [.fz (.tuf (memD ws 4096)), .no, .no, .no]) (by simp) (by simp) (.inl rfl) (fun _ => .bl true) (fun d hd => ?_) (by omega)
    obtain ⟨j, h1, h2, rfl⟩ := mem_get h hd
    refine ⟨_, ?_, .inl rfl⟩
    have := h.lo j
    unfold pr
    simp [callE_1 (is_cell_eq T j (nth ws j) (by omega) (by omega) (by omega) (h.hi j))]
  have c2 : (SX.lc (K := K) (SI.zip (SX.var 0) (SX.sl oSl (SX.var 0) (SO.some (SX.int 1)) SO.none)) (SG.tup 2 (SGs.cons (SG.name 1) (SGs.cons (SG.name 2) SGs.nil))) ST.yes (SX.op oLtX (SX.op oIx (SX.var 1) (SX.int 0)) (SX.op oIx (SX.var 2) (SX.int 0))) [1, 2] (fun _ h => h)).ev [.fz (.tuf (memD ws 4096)), .no, .no, .no] = .ok (.tmp (.lst ((zipD (memD ws 4096) ((memD ws 4096).drop 1)).map fun _ => .bl true))) [.fz (.tuf (memD ws 4096)), .no, .no, .no] := by
    refine ev_lcG (items := zipD (memD ws 4096) ((memD ws 4096).drop 1)) (E := [.fz (.tuf (memD ws 4096)), .no, .no, .no]) ?_ rfl (fun _ => .bl true) (fun d hd => ?_) (by rw [zipD_len]; omega)
    · have q : slF (.tuf (memD ws 4096)) (some 1) none = some (.fz (.tup ((memD ws 4096).drop 1))) ∨ slF (.tuf (memD ws 4096)) (some 1) none = some (.fz (.tuf ((memD ws 4096).drop 1))) := by
        show (if _ then _ else _) = _ ∨ (if _ then _ else _) = _
        cases e : memD ws 4096 with
        | nil => right; rfl
        | cons a l =>
          left
          rw [if_neg (by simp [HT.sIx]), cut1]
      rcases q with q | q
      · simp [q]
      · simp [q]
    · obtain ⟨i, j, h1, rfl⟩ := zip_mem ws 4096 d hd
      refine ⟨[.fz (.tuf (memD ws 4096)), .fz (pr ws i), .fz (pr ws j), .no], ?_, rfl, rfl, ?_⟩
      · simp [wipeE]
      · unfold pr; simp [h1]
  unfold fis_a_memory runF bis_a_memory
  simp only [ev_seq, ev_sif, ev_tor, ev_tnot, ev_tof, ev_isi, ev_cb, ev_sacons, ev_ret]
  simp [c1, c2, all_tt]
theorem need_memory_eq (T : Txt K mg A) {ws : List Int} (h : Mem ws) : fneed_memory T [.fz (.tuf (memD ws 4096))] = .ok (.fz .non) [.no] := by
  unfold fneed_memory runF bneed_memory
  simp [callE_1 (is_a_memory_eq T h)]
def kp (ws : List Int) (j : Nat) : Key × D := (.inl (j : Nat), .int (nth ws j))
theorem pairs_eq (ws : List Int) : ∀ l : List Nat, pairsD (l.map (pr ws)) = some (l.map (kp ws))
  | [] => rfl
  | j :: l => by
    show (match pairD (pr ws j), pairsD (l.map (pr ws)) with | some p, some ps => some (p :: ps) | _, _ => none) = _
    rw [pairs_eq ws l]; rfl
def dic (ws : List Int) : D := D.dct ((js ws 4096).map (kp ws))
theorem memory_dict_eq (T : Txt K mg A) (ws : List Int) : fmemory_dict T [.fz (.tuf (memD ws 4096))] = .ok (.tmp (dic ws)) [.no] := by
  have e : dictF [.tuf (memD ws 4096)] = some (.tmp (dic ws)) := by
    show (pairsD (memD ws 4096)).map _ = _
    unfold memD
    rw [pairs_eq]
    show some (Rt.tmp (D.dct (mergeP [] ((js ws 4096).map (kp ws))))) = _
    rw [mergeP_new _ _ (fun p hp => by cases hp)]
    · rfl
    · rw [List.pairwise_map]
      refine (js_sorted ws 4096).imp fun {a b} h e => ?_
      have : ((a : Nat) : Int) = b := by
        unfold kp at e; simpa using e
      omega
  unfold fmemory_dict runF bmemory_dict
  simp [e]
theorem dic_get {ws : List Int} (h : Mem ws) (a : Nat) : (getP (zipK ((js ws 4096).map (kp ws) |>.map (·.1)) ((js ws 4096).map (kp ws) |>.map (·.2))) (.inl (a : Nat))).getD (.int 0) = .int (nth ws a) := by
  rw [zipK_id]
  unfold getP
  rw [List.find?_map]
  have e : ((fun p : Key × D => decide (p.1 = .inl ((a : Nat) : Int))) ∘ kp ws) = fun j => decide (j = a) := by
    funext j
    unfold kp
    simp
    omega
  rw [e]
  cases q : (js ws 4096).find? (fun j => decide (j = a)) with
  | some j =>
    have := List.find?_some q
    have e2 : j = a := of_decide_eq_true this
    subst e2; rfl
  | none =>
    have q2 := List.find?_eq_none.mp q
    have : nth ws a = 0 := by
      by_cases h1 : a < 4096
      · by_cases h2 : nth ws a = 0
        · exact h2
        · exact absurd (decide_eq_true rfl) (q2 a (js_mem.mpr ⟨h1, h2⟩))
      · exact nth_ge (by rw [h.len]; omega)
    rw [this]; rfl
end G00
set_option Elab.async false
set_option linter.all false
set_option maxRecDepth 100000
namespace G00
open PySem PySem.Spec PyProof.Rows L2 RZ RT DX
variable {K : PySem.W.Frag} {mg : Str → Option Value} {A : Ads}
def kd (ws : List Int) : List (Key × D) := (js ws 4096).map (kp ws)
def wo (A : Ads) (ws : List Int) (m r : D) : D := .ins A.c_Words ["words", "makers", "rows"] [.dic ((kd ws).map (·.1)) ((kd ws).map (·.2)), m, r]
theorem init_eq (T : Txt K mg A) (ws : List Int) (m r : D) : fWords___init__ T [.par (.ins A.c_Words [] []), .fz (.tuf (memD ws 4096)), .fz m, .fz r] = .ok (.fz .non) [.par (wo A ws m r), .no, .no, .no] := by
  unfold fWords___init__ runF bWords___init__
  simp [callE_1 (memory_dict_eq T ws), setFE, putN]
  rfl
theorem at_eq (T : Txt K mg A) {ws : List Int} (h : Mem ws) (m r : D) (a : Nat) : fWords_at T [.fz (wo A ws m r), .fz (.int a)] = .ok (.fz (.int (nth ws a))) [.no, .no] := by
  have g : fldF A.c_Words "words" (wo A ws m r) = some (.fz (.dic ((kd ws).map (·.1)) ((kd ws).map (·.2)))) := by
    show (if A.c_Words = A.c_Words then _ else _) = _
    rw [if_pos rfl]; rfl
  have q := dic_get h a
  rw [zipK_id] at q
  unfold fWords_at runF bWords_at
  simp [g]
  exact q

theorem at_call (T : Txt K mg A) {ws : List Int} (h : Mem ws) (m r : D) {i : Int} {E : En} (hi : 0 ≤ i) : callE (fWords_at T) E [.d (wo A ws m r), .d (.int i)] = .ok (.fz (.int (nth ws i.toNat))) E := by
  obtain ⟨a, rfl⟩ := Int.eq_ofNat_of_zero_le hi
  exact callE_2 (at_eq T h m r a)
theorem meth_wo {E : En} {ws : List Int} {m r : D} {n : Nat} {f : En → Rs Rt} {p : SP K} (mn : Str) (hm : mn ∉ (["words", "makers", "rows"] : List Str)) :
    (SX.meth A.c_Words mn n f (SX.var 0) p).ev (.fz (wo A ws m r) :: E) = (p.ev (.fz (wo A ws m r) :: E)).bind fun ags E1 => if ags.length + 1 = n then callE f E1 (.d (wo A ws m r) :: ags) else .no := by
  rw [ev_meth, ev_var]
  show (if A.c_Words = A.c_Words ∧ mn ∉ (["words", "makers", "rows"] : List Str) then _ else _) = _
  rw [if_pos ⟨rfl, hm⟩]; rfl
@[simp] theorem fld_m {ws : List Int} {m r : D} : fldF A.c_Words "makers" (wo A ws m r) = some (.fz m) := by
  show (if A.c_Words = A.c_Words then _ else _) = _
  rw [if_pos rfl]; rfl
@[simp] theorem fld_r {ws : List Int} {m r : D} : fldF A.c_Words "rows" (wo A ws m r) = some (.fz r) := by
  show (if A.c_Words = A.c_Words then _ else _) = _
  rw [if_pos rfl]; rfl
def seg (ws : List Int) (lo n : Nat) : List Int := (List.range n).map fun k => nth ws (lo + k)
theorem seg_len (ws : List Int) (lo n : Nat) : (seg ws lo n).length = n := by unfold seg; simp
theorem rngD_seg (ws : List Int) (lo n : Nat) (f : D → D) (h : ∀ k : Nat, f (.int ((lo + k : Nat) : Int)) = .int (nth ws (lo + k))) : (rngD (lo : Nat) n).map f = (seg ws lo n).map D.int := by
  unfold rngD seg
  rw [List.map_map, List.map_map]
  refine List.map_congr_left fun k _ => ?_
  exact h k
theorem rngD_mem {lo : Nat} {n : Nat} {d : D} (h : d ∈ rngD (lo : Nat) n) : ∃ k : Nat, k < n ∧ d = .int ((lo + k : Nat) : Int) := by
  unfold rngD at h
  obtain ⟨k, h1, rfl⟩ := List.mem_map.mp h
  exact ⟨k, List.mem_range.mp h1, rfl⟩
theorem rngD_len {lo : Int} {n : Nat} : (rngD lo n).length = n := by unfold rngD; simp
theorem from_to_eq (T : Txt K mg A) {ws : List Int} (h : Mem ws) (m r : D) (lo n : Nat) (hi : Int) (eh : hi = ((lo + n : Nat) : Int)) (hl : lo + n ≤ 100000) : fWords_from_to T [.fz (wo A ws m r), .fz (.int lo), .fz (.int hi)] = .ok (.tmp (.lst ((seg ws lo n).map D.int))) [.no, .no, .no] := by
  have c : (SX.lc (K := K) (SI.rng2 (SX.var 1) (SX.var 2)) (SG.name 3) ST.yes (SX.meth A.c_Words "at" 2 (fWords_at T) (SX.var 0) (SP.cons (SX.var 3) SP.nil)) [3] (fun _ h => h)).ev [.fz (wo A ws m r), .fz (.int lo), .fz (.int hi), .no] = .ok (.tmp (.lst ((seg ws lo n).map D.int))) [.fz (wo A ws m r), .fz (.int lo), .fz (.int hi), .no] := by
    rw [← rngD_seg ws lo n (fun d => match d with | .int i => .int (nth ws i.toNat) | d => d) (fun k => rfl)]
    refine ev_lcm (items := rngD (lo : Nat) n) (E := [.fz (wo A ws m r), .fz (.int lo), .fz (.int hi), .no]) ?_ (by simp) (.inl rfl) _ (fun d hd => ?_) (by rw [rngD_len]; omega)
    · have e : hi - (lo : Int) = (n : Nat) := by omega
      rw [ev_irng2]
      simp only [ev_var, gE_0, gE_s, Rs.bind_ok, look_sl, d_fz]
      rw [if_pos ⟨in62_nat (by omega), by rw [eh]; exact in62_nat (by omega)⟩, e]; rfl
    · obtain ⟨k, hk, rfl⟩ := rngD_mem hd
      refine ⟨_, ?_, .inl rfl⟩
      simp only [List.set_cons_succ, List.set_cons_zero]
      rw [meth_wo "at" (by decide)]
      simp only [ev_spcons, ev_var, gE_0, gE_s, Rs.bind_ok, shareE, share_sl, ev_spnil]
      rw [if_pos (by rfl), at_call T h m r (by omega)]
  unfold fWords_from_to runF bWords_from_to
  simp [-ev_meth, -ev_lc, c]
end G00
set_option Elab.async false
set_option linter.all false
set_option maxRecDepth 100000
namespace G00
open PySem PySem.Spec PyProof.Rows L2 RZ RT DX
variable {K : PySem.W.Frag} {mg : Str → Option Value} {A : Ads}
def val : List Int → Int
  | [] => 0
  | f :: fs => f + 256 * val fs
inductive Fg : List Int → Prop
  | nil : Fg []
  | one {f : Int} : 0 < f → f < 256 → Fg [f]
  | cons {f g : Int} {fs : List Int} : 0 ≤ f → f < 256 → Fg (g :: fs) → Fg (f :: g :: fs)
theorem Fg.pos {fs : List Int} (h : Fg fs) : fs.length ≤ val fs ∧ 0 ≤ val fs := by
  induction h with
  | nil => simp [val]
  | one h1 h2 => simp [val]; omega
  | cons h1 h2 _ ih =>
    simp only [val, List.length_cons] at ih ⊢
    omega
theorem Fg.lt {fs : List Int} (h : Fg fs) : val fs < 256 ^ fs.length := by
  induction h with
  | nil => simp [val]
  | one h1 h2 => simp [val]; omega
  | cons h1 h2 h3 ih =>
    rename_i f g fs
    rw [List.length_cons, Int.pow_succ]
    have : val (f :: g :: fs) = f + 256 * val (g :: fs) := rfl
    omega
theorem Fg.mem {fs : List Int} (h : Fg fs) : ∀ f ∈ fs, 0 ≤ f ∧ f < 256 := by
  induction h with
  | nil => intro f h; cases h
  | one h1 h2 => intro f h; rw [List.mem_singleton.mp h]; omega
  | cons h1 h2 h3 ih =>
    intro x h
    rcases List.mem_cons.mp h with h | h
    · rw [h]; omega
    · exact ih x h
theorem Fg.last {fs : List Int} (h : Fg fs) : fs = [] ∨ ∃ l f, fs = l ++ [f] ∧ f ≠ 0 := by
  induction h with
  | nil => exact .inl rfl
  | one h1 h2 => rename_i f; exact .inr ⟨[], f, rfl, by omega⟩
  | cons h1 h2 h3 ih =>
    rename_i f g fs
    rcases ih with h | ⟨l, x, h, h'⟩
    · cases h
    · exact .inr ⟨f :: l, x, by rw [h]; rfl, h'⟩
theorem pow_40 {k : Nat} (h : k ≤ 40) : (256 : Int) ^ k ≤ 256 ^ 40 := by
  have a : (256 : Nat) ^ k ≤ 256 ^ 40 := Nat.pow_le_pow_right (by decide) h
  have b : ((256 ^ k : Nat) : Int) ≤ ((256 ^ 40 : Nat) : Int) := Int.ofNat_le.mpr a
  rw [Int.natCast_pow, Int.natCast_pow] at b
  exact b
theorem val_small {x : Int} (h0 : 0 ≤ x) (h : x ≤ 256 ^ 40) : x.natAbs < 2 ^ 1000 := by
  have : (x.natAbs : Int) ≤ 256 ^ 40 := by omega
  have b : (x.natAbs : Int) ≤ ((256 ^ 40 : Nat) : Int) := by rw [Int.natCast_pow]; exact this
  have c : x.natAbs ≤ 256 ^ 40 := Int.ofNat_le.mp b
  exact Nat.lt_of_le_of_lt c (by decide)
/-- what the reverse walk adds up to -/
theorem fold_val (fs : List Int) : fs.reverse.foldl (fun n f => 256 * n + f) 0 = val fs := by
  rw [List.foldl_reverse]
  induction fs with
  | nil => rfl
  | cons f fs ih => rw [List.foldr_cons, ih]; show 256 * val fs + f = f + 256 * val fs; omega
theorem fold_lt : ∀ (l : List Int) (n : Int) (k : Nat), (∀ f ∈ l, 0 ≤ f ∧ f < 256) → 0 ≤ n → n < 256 ^ k → 0 ≤ l.foldl (fun n f => 256 * n + f) n ∧ l.foldl (fun n f => 256 * n + f) n < 256 ^ (k + l.length)
  | [], n, k, _, h0, h1 => ⟨h0, h1⟩
  | f :: l, n, k, h, h0, h1 => by
    have hf := h f List.mem_cons_self
    have e : (256 : Int) ^ (k + 1) = 256 ^ k * 256 := Int.pow_succ ..
    have := fold_lt l (256 * n + f) (k + 1) (fun x hx => h x (List.mem_cons_of_mem _ hx)) (by omega) (by omega)
    rw [List.foldl_cons, List.length_cons, show k + (l.length + 1) = k + 1 + l.length by omega]
    exact this
inductive CellOf (ms rs : List Str) : D → List Int → Prop
  | num (fs : List Int) (neg : Bool) : Fg fs → fs.length ≤ 40 → (neg = true → fs ≠ []) → CellOf ms rs (.tup [.str "number", .int (if neg then -val fs else val fs)]) ((if neg then 2 else 1) :: fs.length :: fs)
  | mk (k : Nat) (z : Str) (as : List Int) : ms[k]? = some z → (∀ a ∈ as, 0 ≤ a ∧ a < 4096) → as.length ≤ 12 → CellOf ms rs (.tup [.str "maker", .str z, .tup (as.map D.int)]) (3 :: (k : Int) :: as.length :: as)
  | ap (a b : Int) : 0 ≤ a → a < 4096 → 0 ≤ b → b < 4096 → CellOf ms rs (.tup [.str "apply", .int a, .int b]) [4, a, b]
  | row (k : Nat) (z : Str) : rs[k]? = some z → CellOf ms rs (.tup [.str "row", .str z]) [5, (k : Int)]
  | lead (a : Int) : 0 ≤ a → a < 4096 → CellOf ms rs (.tup [.str "lead", .int a]) [6, a]
  | emp : CellOf ms rs (.tup [.str "empty"]) [7, 0]
/-- the figures lie in the memory from `at` on -/
def Lies (ws : List Int) (a : Nat) (due : List Int) : Prop := (∀ k, k < due.length → nth ws (a + k) = nth due k) ∧ a + due.length ≤ 4096
theorem Lies.seg {ws : List Int} {a : Nat} {pre fs : List Int} (h : Lies ws a (pre ++ fs)) : seg ws (a + pre.length) fs.length = fs := by
  refine List.ext_getElem (seg_len _ _ _) fun i h1 h2 => ?_
  have e : (G00.seg ws (a + pre.length) fs.length)[i] = nth ws (a + pre.length + i) := by
    exact (List.getElem_map ..).trans (by rw [List.getElem_range])
  have g := h.1 (pre.length + i) (by rw [List.length_append]; omega)
  rw [e, show a + pre.length + i = a + (pre.length + i) by omega, g]
  unfold nth
  rw [List.getD_eq_getElem?_getD, List.getElem?_append_right (by omega), Nat.add_sub_cancel_left, List.getElem?_eq_getElem h2]
  rfl
@[simp] theorem nth_0 {x : Int} {xs : List Int} : nth (x :: xs) 0 = x := rfl
@[simp] theorem nth_1 {x y : Int} {xs : List Int} : nth (x :: y :: xs) 1 = y := rfl
@[simp] theorem nth_2 {x y z : Int} {xs : List Int} : nth (x :: y :: z :: xs) 2 = z := rfl
theorem Lies.at0 (T : Txt K mg A) {ws : List Int} (h : Mem ws) {m r : D} {a : Nat} {x : Int} {d : List Int} (l : Lies ws a (x :: d)) {E : En} : callE (fWords_at T) E [.d (wo A ws m r), .d (.int (a : Int))] = .ok (.fz (.int x)) E := by
  rw [at_call T h m r (by omega), show ((a : Nat) : Int).toNat = a by omega, show nth ws a = x from l.1 0 (by simp)]
theorem Lies.at1 (T : Txt K mg A) {ws : List Int} (h : Mem ws) {m r : D} {a : Nat} {x y : Int} {d : List Int} (l : Lies ws a (x :: y :: d)) {E : En} : callE (fWords_at T) E [.d (wo A ws m r), .d (.int ((a : Int) + 1))] = .ok (.fz (.int y)) E := by
  rw [at_call T h m r (by omega), show ((a : Nat) + 1 : Int).toNat = a + 1 by omega, show nth ws (a + 1) = y from l.1 1 (by simp)]
theorem Lies.at2 (T : Txt K mg A) {ws : List Int} (h : Mem ws) {m r : D} {a : Nat} {x y z : Int} {d : List Int} (l : Lies ws a (x :: y :: z :: d)) {E : En} : callE (fWords_at T) E [.d (wo A ws m r), .d (.int ((a : Int) + 2))] = .ok (.fz (.int z)) E := by
  rw [at_call T h m r (by omega), show ((a : Nat) + 2 : Int).toNat = a + 2 by omega, show nth ws (a + 2) = z from l.1 2 (by simp)]
@[simp] theorem in_i {i : Int} {ds : List D} : inF (.int i) (.tup ds) = if ds.all D.flat = true then some (ds.any fun y => D.eqf y (.int i)) else none := by
  show inD _ _ = _
  unfold inD
  simp [D.flat]
theorem size_eq (T : Txt K mg A) {ws : List Int} (h : Mem ws) {m r : D} {a : Nat} {ms rs : List Str} {c : D} {due : List Int} (hc : CellOf ms rs c due) (l : Lies ws a due) :
    fWords_size T [.fz (wo A ws m r), .fz (.int a)] = .ok (.fz (.int due.length)) [.no, .no] := by
  unfold fWords_size runF bWords_size
  cases hc with
  | num fs neg _ _ _ =>
    cases neg
    · simp [-ev_meth, meth_wo "at" (by decide), Lies.at0 T h l, Lies.at1 T h l, D.flat, D.eqf]; omega
    · simp [-ev_meth, meth_wo "at" (by decide), Lies.at0 T h l, Lies.at1 T h l, D.flat, D.eqf]; omega
  | mk k z as _ _ _ => simp [-ev_meth, meth_wo "at" (by decide), Lies.at0 T h l, Lies.at2 T h l, D.flat, D.eqf]; omega
  | ap x y _ _ _ _ => simp [-ev_meth, meth_wo "at" (by decide), Lies.at0 T h l, D.flat, D.eqf]
  | row x y _ => simp [-ev_meth, meth_wo "at" (by decide), Lies.at0 T h l, D.flat, D.eqf]
  | lead x _ _ => simp [-ev_meth, meth_wo "at" (by decide), Lies.at0 T h l, D.flat, D.eqf]
  | emp => simp [-ev_meth, meth_wo "at" (by decide), Lies.at0 T h l, D.flat, D.eqf]
end G00
set_option Elab.async false
set_option linter.all false
set_option maxRecDepth 100000
namespace G00
open PySem PySem.Spec PyProof.Rows L2 RZ RT DX
variable {K : PySem.W.Frag} {mg : Str → Option Value} {A : Ads}
theorem eqd_l0 : D.eqd (.lst []) (.lst [.int 0]) = some false := by decide +kernel
theorem eqd_l1 {x : Int} (h : x ≠ 0) : D.eqd (.lst [.int x]) (.lst [.int 0]) = some false := by
  have : decide (x = 0) = false := decide_eq_false h
  show some (decide (x = 0) && true) = some false
  rw [this]; rfl
theorem neg1 {fs : List Int} (h : Fg fs) : D.eqd (.lst (DX.cutD (fs.map D.int) (some (-1)) none)) (.lst [.int 0]) = some false := by
  rcases h.last with rfl | ⟨l, f, rfl, h2⟩
  · exact eqd_l0
  · have e : DX.cutD ((l ++ [f]).map D.int) (some (-1)) none = [.int f] := by
      unfold DX.cutD HT.sIx
      simp
      rw [show ((-1 : Int) + ((l.length : Int) + 1)).toNat = l.length by omega]
      simp
    rw [e]; exact eqd_l1 h2
theorem rev_loop (A' : En → Fl) (S : Int → Sl → En) (hS : ∀ n f s, (SG.name (K := K) 4).ev (.int f) (S n s) = some (S n (.fz (.int f)))) (hb : ∀ n f, 0 ≤ n → n < 256 ^ 40 → 0 ≤ f → f < 256 → A' (S n (.fz (.int f))) = .nx (S (256 * n + f) (.fz (.int f)))) :
    ∀ (l : List Int) (n : Int) (s : Sl) (k : Nat), (∀ f ∈ l, 0 ≤ f ∧ f < 256) → 0 ≤ n → n < 256 ^ k → k + l.length ≤ 40 → ∃ s', forL (SG.name (K := K) 4).ev A' (l.map D.int) (S n s) = .nx (S (l.foldl (fun n f => 256 * n + f) n) s')
  | [], n, s, k, _, _, _, _ => ⟨s, by simp [forL]⟩
  | f :: l, n, s, k, h, h0, h1, hl => by
    have hf := h f List.mem_cons_self
    have e : (256 : Int) ^ (k + 1) = 256 ^ k * 256 := Int.pow_succ ..
    simp only [List.length_cons] at hl
    have p := pow_40 (k := k) (by omega)
    obtain ⟨s', e'⟩ := rev_loop A' S hS hb l (256 * n + f) (.fz (.int f)) (k + 1) (fun x hx => h x (List.mem_cons_of_mem _ hx)) (by omega) (by omega) (by omega)
    refine ⟨s', ?_⟩
    simp only [List.map_cons, forL, hS, hb n f h0 (by omega) hf.1 hf.2, List.foldl_cons]
    exact e'
theorem rev_set (s : Sl) {a b c d e : Sl} {x : D} : (SG.name (K := K) 4).ev x [a, b, c, d, s, e] = some [a, b, c, d, .fz x, e] := by simp
theorem number_eq (T : Txt K mg A) {ws : List Int} (h : Mem ws) {m r : D} {a : Nat} {fs : List Int} {neg : Bool} (hf : Fg fs) (hl : fs.length ≤ 40) (hn : neg = true → fs ≠ []) (l : Lies ws a ((if neg then 2 else 1) :: (fs.length : Int) :: fs)) :
    fWords_number T [.fz (wo A ws m r), .fz (.int a)] = .ok (.fz (.int (if neg then -val fs else val fs))) [.no, .no] := by
  have l0 := l
  have sg : seg ws (a + 2) fs.length = fs := Lies.seg (pre := [if neg then 2 else 1, (fs.length : Int)]) l
  have ft := fun E => callE_3 (E := E) (from_to_eq T h m r (a + 2) fs.length ((a : Int) + 2 + fs.length) (by omega) (by have := l.2; simp at this; omega))
  rw [sg] at ft
  have e2 : ((a + 2 : Nat) : Int) = (a : Int) + 2 := by omega
  rw [e2] at ft
  -- the test of the bytes
  have c1 : ∀ s5, (SX.cb (K := K) oAll (SA.cons (SX.lc (SI.seq (SX.var 3)) (SG.name 4) ST.yes (SX.op oLtX (SX.var 4) (SX.int 256)) [4] (fun _ h => h)) SA.nil)).ev [.fz (wo A ws m r), .fz (.int a), .fz (.int fs.length), .own (.lst (fs.map D.int)), .no, s5] = .ok (.fz (.bl true)) [.fz (wo A ws m r), .fz (.int a), .fz (.int fs.length), .fz (.lst (fs.map D.int)), .no, s5] := fun s5 => by
    have q : (SX.lc (K := K) (SI.seq (SX.var 3)) (SG.name 4) ST.yes (SX.op oLtX (SX.var 4) (SX.int 256)) [4] (fun _ h => h)).ev [.fz (wo A ws m r), .fz (.int a), .fz (.int fs.length), .own (.lst (fs.map D.int)), .no, s5] = .ok (.tmp (.lst ((fs.map D.int).map fun _ => .bl true))) [.fz (wo A ws m r), .fz (.int a), .fz (.int fs.length), .fz (.lst (fs.map D.int)), .no, s5] := by
      refine ev_lcm (items := fs.map D.int) (E := [.fz (wo A ws m r), .fz (.int a), .fz (.int fs.length), .fz (.lst (fs.map D.int)), .no, s5]) (by simp) (by simp) (.inl rfl) (fun _ => .bl true) (fun d hd => ?_) (by rw [List.length_map]; omega)
      obtain ⟨f, h1, rfl⟩ := List.mem_map.mp hd
      have := (hf.mem f h1).2
      refine ⟨_, ?_, .inl rfl⟩
      simp [this]
    rw [ev_cb, ev_sacons, q]
    simp [-List.map_map, all_tt]
  have lp := rev_loop (K := K) (SS.asg (K := K) 5 (SX.op oAdd (SX.op oMul (SX.var 5) (SX.int 256)) (SX.var 4))).ev (fun n s => [.fz (wo A ws m r), .fz (.int a), .fz (.int fs.length), .fz (.lst (fs.map D.int)), s, .fz (.int n)]) (fun n f s => by simp) (fun n f h0 h1 _ _ => by
    simp [mulF_int (mulOk_small (val_small h0 (by omega)) (j := 256) (by decide))]
    omega) fs.reverse 0 .no 0 (fun f hx => hf.mem f (List.mem_reverse.mp hx)) (by omega) (by decide) (by simpa using hl)
  obtain ⟨s', lp⟩ := lp
  rw [fold_val, List.map_reverse] at lp
  have pos := hf.pos
  unfold fWords_number runF bWords_number
  cases neg
  · simp [-ev_meth, -ev_lc, -ev_cb, meth_wo "at" (by decide), meth_wo "from_to" (by decide), Lies.at0 T h l, Lies.at1 T h l, ft, c1, neg1 hf, lp]
  · have : 0 < val fs := by
      have := hn rfl
      have : 0 < fs.length := List.length_pos_iff.mpr this
      omega
    simp [-ev_meth, -ev_lc, -ev_cb, meth_wo "at" (by decide), meth_wo "from_to" (by decide), Lies.at0 T h l, Lies.at1 T h l, ft, c1, neg1 hf, lp, this]
end G00
set_option Elab.async false
set_option linter.all false
set_option maxRecDepth 100000
namespace G00
open PySem PySem.Spec PyProof.Rows L2 RZ RT DX
variable {K : PySem.W.Frag} {mg : Str → Option Value} {A : Ads}
def sD (ms : List Str) : D := .tuf (ms.map D.str)
theorem get_sD {ms : List Str} {k : Nat} {z : Str} (h : ms[k]? = some z) : (ms.map D.str)[k]? = some (.str z) := by
  rw [List.getElem?_map, h]; rfl
theorem lt_of_get {α : Type} {ms : List α} {k : Nat} {z : α} (h : ms[k]? = some z) : k < ms.length := by
  by_cases q : k < ms.length
  · exact q
  · rw [List.getElem?_eq_none (by omega)] at h; cases h
@[simp] theorem isNon_i {i : Int} : D.isNon (.int i) = false := rfl
@[simp] theorem isNon_t {i : List D} : D.isNon (.tup i) = false := rfl
@[simp] theorem isNon_n : D.isNon .non = true := rfl
theorem cell_eq (T : Txt K mg A) {ws : List Int} (h : Mem ws) {a : Nat} {ms rs : List Str} {c : D} {due : List Int} (hc : CellOf ms rs c due) (l : Lies ws a due) (h2 : 2 ≤ due.length) :
    fWords_cell T [.fz (wo A ws (sD ms) (sD rs)), .fz (.int a)] = .ok (.fz c) [.no, .no] := by
  have sz := fun E => callE_2 (E := E) (size_eq T h (m := sD ms) (r := sD rs) hc l)
  have ii := fun E => callE_3 (E := E) (is_integer_eq T (a : Int) 0 4095)
  have l2 := l.2
  obtain ⟨z, hz⟩ : ∃ z : Int, z = due.length := ⟨_, rfl⟩
  rw [← hz] at sz
  have b1 : (a : Int) ≤ 4095 := by omega
  have b3 : ¬ ((4096 : Int) < (a : Int) + z) := by omega
  unfold fWords_cell runF bWords_cell
  cases hc with
  | num fs neg hf hl hn =>
    have nu := fun E => callE_2 (E := E) (number_eq T h (m := sD ms) (r := sD rs) hf hl hn l)
    cases neg
    · simp [-ev_meth, -lenF, meth_wo "at" (by decide), meth_wo "size" (by decide), meth_wo "number" (by decide), meth_wo "from_to" (by decide), Lies.at0 T h l, Lies.at1 T h l, D.flat, D.eqf, sz, ii, b1, b3, nu]
    · simp [-ev_meth, -lenF, meth_wo "at" (by decide), meth_wo "size" (by decide), meth_wo "number" (by decide), meth_wo "from_to" (by decide), Lies.at0 T h l, Lies.at1 T h l, D.flat, D.eqf, sz, ii, b1, b3, nu]
  | mk k y as hy ha hl =>
    have g := get_sD hy
    have lt := lt_of_get hy
    have lt2 : (k : Int) < ms.length := by omega
    simp only [List.length_cons] at hz
    have sg : seg ws (a + 3) as.length = as := Lies.seg (pre := [3, (k : Int), as.length]) l
    have ft := fun E => callE_3 (E := E) (from_to_eq T h (sD ms) (sD rs) (a + 3) as.length ((a : Int) + z) (by omega) (by omega))
    rw [sg] at ft
    have e2 : ((a + 3 : Nat) : Int) = (a : Int) + 3 := by omega
    rw [e2] at ft
    have dl : lenF [sD ms] = some (.fz (.int ms.length)) := by
      show some (Rt.fz (.int ((ms.map D.str).length : Nat))) = _
      rw [List.length_map]
    have dx : ixF (sD ms) (.int k) = some (.fz (.str y)) := by
      show (atI (ms.map D.str) (k : Int)).map Rt.fz = _
      rw [atI_nat', g]; rfl
    simp [-ev_meth, -lenF, meth_wo "at" (by decide), meth_wo "size" (by decide), meth_wo "number" (by decide), meth_wo "from_to" (by decide), Lies.at0 T h l, Lies.at1 T h l, D.flat, D.eqf, sz, ii, b1, b3, ft, dl, dx, lt, lt2]
  | ap x y _ _ _ _ => simp [-ev_meth, -lenF, meth_wo "at" (by decide), meth_wo "size" (by decide), meth_wo "number" (by decide), meth_wo "from_to" (by decide), Lies.at0 T h l, Lies.at1 T h l, D.flat, D.eqf, sz, ii, b1, b3, Lies.at2 T h l]
  | row k y hy =>
    have g := get_sD hy
    have lt := lt_of_get hy
    have lt2 : (k : Int) < rs.length := by omega
    have dl : lenF [sD rs] = some (.fz (.int rs.length)) := by
      show some (Rt.fz (.int ((rs.map D.str).length : Nat))) = _
      rw [List.length_map]
    have dx : ixF (sD rs) (.int k) = some (.fz (.str y)) := by
      show (atI (rs.map D.str) (k : Int)).map Rt.fz = _
      rw [atI_nat', g]; rfl
    simp [-ev_meth, -lenF, meth_wo "at" (by decide), meth_wo "size" (by decide), meth_wo "number" (by decide), meth_wo "from_to" (by decide), Lies.at0 T h l, Lies.at1 T h l, D.flat, D.eqf, sz, ii, b1, b3, dl, dx, lt, lt2]
  | lead x _ _ => simp [-ev_meth, -lenF, meth_wo "at" (by decide), meth_wo "size" (by decide), meth_wo "number" (by decide), meth_wo "from_to" (by decide), Lies.at0 T h l, Lies.at1 T h l, D.flat, D.eqf, sz, ii, b1, b3, b1]
  | emp => simp [-ev_meth, -lenF, meth_wo "at" (by decide), meth_wo "size" (by decide), meth_wo "number" (by decide), meth_wo "from_to" (by decide), Lies.at0 T h l, Lies.at1 T h l, D.flat, D.eqf, sz, ii, b1, b3, b1]
theorem make_wo (T : Txt K mg A) (ws : List Int) (m r : D) {E : En} : makeE A.c_Words (fWords___init__ T) E [.tuf (memD ws 4096), m, r] = .ok (.tmp (wo A ws m r)) E := by
  unfold makeE
  simp only [List.map_cons, List.map_nil]
  rw [init_eq T ws m r]
theorem meth_tmp {E E1 : En} {ws : List Int} {m r : D} {n : Nat} {f : En → Rs Rt} {p : SP K} {a0 : SX K} (mn : Str) (hm : mn ∉ (["words", "makers", "rows"] : List Str)) (h : a0.ev E = .ok (.tmp (wo A ws m r)) E1) :
    (SX.meth A.c_Words mn n f a0 p).ev E = (p.ev E1).bind fun ags E1 => if ags.length + 1 = n then callE f E1 (.d (wo A ws m r) :: ags) else .no := by
  rw [ev_meth, h]
  show (if A.c_Words = A.c_Words ∧ mn ∉ (["words", "makers", "rows"] : List Str) then _ else _) = _
  rw [if_pos ⟨rfl, hm⟩]; rfl
theorem cell_at_mem (T : Txt K mg A) {ws : List Int} (h : Mem ws) {a : Nat} {ms rs : List Str} {c : D} {due : List Int} (hc : CellOf ms rs c due) (l : Lies ws a due) (h2 : 2 ≤ due.length) :
    fcell_at T [.fz (.tuf (memD ws 4096)), .fz (.int a), .fz (sD ms), .fz (sD rs)] = .ok (.fz c) [.no, .no, .no, .no] := by
  have ce := fun E => callE_2 (E := E) (cell_eq T h hc l h2)
  have ne := fun E => callE_1 (E := E) (need_memory_eq T h)
  have mk : (SX.make (K := K) A.c_Words 4 (fWords___init__ T) (SA.cons (SX.var 0) (SA.cons (SX.var 2) (SA.cons (SX.var 3) SA.nil)))).ev [.fz (.tuf (memD ws 4096)), .fz (.int a), .fz (sD ms), .fz (sD rs)] = .ok (.tmp (wo A ws (sD ms) (sD rs))) [.fz (.tuf (memD ws 4096)), .fz (.int a), .fz (sD ms), .fz (sD rs)] := by
    simp [make_wo]
  unfold fcell_at runF bcell_at
  simp [-ev_meth, -ev_make, ne, meth_tmp "cell" (by decide) mk, ce]
end G00
set_option Elab.async false
set_option linter.all false
set_option profiler true
set_option profiler.threshold 3000
set_option maxRecDepth 100000
namespace G00
open PySem PySem.Spec PyProof.Rows L2 RZ RT DX
variable {K : PySem.W.Frag} {mg : Str → Option Value} {A : Ads}
theorem Fg.tail {f : Int} {fs : List Int} (h : Fg (f :: fs)) : Fg fs := by
  cases h with
  | one _ _ => exact .nil
  | cons _ _ h => exact h
theorem strs_map : ∀ ms : List Str, strsOf (ms.map D.str) = some ms
  | [] => rfl
  | m :: ms => by
    show (strsOf (ms.map D.str)).map (m :: ·) = _
    rw [strs_map ms]; rfl
theorem idxS_of : ∀ {ms : List Str} {k : Nat} {z : Str}, ms.Nodup → ms[k]? = some z → idxS ms z = some k
  | [], k, z, _, h => by cases h
  | m :: ms, 0, z, _, h => by
    cases h
    unfold idxS; rw [if_pos rfl]
  | m :: ms, k + 1, z, hn, h => by
    have h' : ms[k]? = some z := h
    have hn' := List.nodup_cons.mp hn
    unfold idxS
    rw [if_neg, idxS_of hn'.2 h']
    · rfl
    · intro e
      exact hn'.1 (e ▸ List.mem_of_getElem? h')
def figB : SS K := SS.seq (SS.drop (SX.mut mAppend 5 (SA.cons (SX.op oMod (SX.var 4) (SX.int 256)) SA.nil))) (SS.aug 4 oDiv (SX.int 256))
theorem fig_loop (a b c d : Sl) : ∀ (fs : List Int) (acc : List D) (n : Nat), Fg fs → fs.length < n → acc.length + fs.length ≤ 1000 →
    whL (ST.of (K := K) (SX.op oGtX (SX.var 4) (SX.int 0))).ev (figB (K := K)).ev n [a, b, c, d, .fz (.int (val fs)), .own (.lst acc)] = .nx [a, b, c, d, .fz (.int 0), .own (.lst (acc ++ fs.map D.int))]
  | [], acc, n + 1, _, _, _ => by
    unfold whL
    simp [val]
  | f :: fs, acc, n + 1, h, hn, hl => by
    have p := h.pos
    have m := h.mem f List.mem_cons_self
    simp only [List.length_cons] at p hn hl
    have p1 : 0 < val (f :: fs) := by omega
    have e1 : val (f :: fs) % 256 = f := by show (f + 256 * val fs) % 256 = f; omega
    have e2 : val (f :: fs) / 256 = val fs := by show (f + 256 * val fs) / 256 = val fs; omega
    have ih := fig_loop a b c d fs (acc ++ [.int f]) n h.tail (by omega) (by simp; omega)
    have sz : acc.length < sizeLine := size_lt (by omega)
    have bd : (figB (K := K)).ev [a, b, c, d, .fz (.int (val (f :: fs))), .own (.lst acc)] = .nx [a, b, c, d, .fz (.int (val fs)), .own (.lst (acc ++ [.int f]))] := by
      unfold figB
      simp (disch := first | assumption | omega | decide) [intsF_div, intsF_mod, e1, e2, sz]
    unfold whL
    have t : (ST.of (K := K) (SX.op oGtX (SX.var 4) (SX.int 0))).ev [a, b, c, d, .fz (.int (val (f :: fs))), .own (.lst acc)] = .ok true [a, b, c, d, .fz (.int (val (f :: fs))), .own (.lst acc)] := by
      simp [p1]
    rw [t, Rs.fl_ok, if_pos rfl, bd]
    show whL _ _ n _ = _
    rw [ih]; simp
theorem kinds : (("maker" : Str) = "number") = False ∧ (("apply" : Str) = "number") = False ∧ (("apply" : Str) = "maker") = False ∧ (("row" : Str) = "number") = False ∧ (("row" : Str) = "maker") = False ∧ (("row" : Str) = "apply") = False ∧ (("lead" : Str) = "number") = False ∧ (("lead" : Str) = "maker") = False ∧ (("lead" : Str) = "apply") = False ∧ (("lead" : Str) = "row") = False ∧ (("empty" : Str) = "number") = False ∧ (("empty" : Str) = "maker") = False ∧ (("empty" : Str) = "apply") = False ∧ (("empty" : Str) = "row") = False ∧ (("empty" : Str) = "lead") = False := by decide +kernel
theorem fig_num (T : Txt K mg A) {ms rs : List Str} {fs : List Int} {neg : Bool} (hf : Fg fs) (hl : fs.length ≤ 40) (hn : neg = true → fs ≠ []) :
    ffigures_of T [.fz (.tup [.str "number", .int (if neg then -val fs else val fs)]), .fz (sD ms), .fz (sD rs)] = .ok (.fz (.tup (((if neg then 2 else 1) :: (fs.length : Int) :: fs).map D.int))) [.no, .no, .no] := by
  have pos := hf.pos
  have lp := fun a b c d => fig_loop (K := K) a b c d fs [] ((val fs).natAbs + 1) hf (by omega) (by simp; omega)
  have s1 : fs.length ≤ sizeLine := size_le (by omega)
  have s2 : 2 + fs.length ≤ sizeLine := size_le (by omega)
  have fu : ∀ a b c d e, fuelI 4 [a, b, c, d, .fz (.int (val fs)), e] = (val fs).natAbs + 1 := fun _ _ _ _ _ => rfl
  have p2' : neg = true → 0 < val fs := fun h => by
    have := hn h
    have : 0 < fs.length := List.length_pos_iff.mpr this
    omega
  unfold figB at lp
  generalize (val fs).natAbs + 1 = N at lp fu
  have p0 := pos.2
  clear pos hf hn
  generalize val fs = v at lp fu p2' p0
  have p1 : ∀ x, (SS.asg (K := K) 3 (SX.op oIx (SX.var 0) (SX.int 0))).ev [.fz (.tup [.str "number", .int x]), .fz (sD ms), .fz (sD rs), .no, .no, .no] = .nx [.fz (.tup [.str "number", .int x]), .fz (sD ms), .fz (sD rs), .fz (.str "number"), .no, .no] := fun x => by simp
  have t1 : ∀ x, (ST.of (K := K) (SX.op oEq (SX.var 3) (SX.str "number"))).ev [.fz (.tup [.str "number", .int x]), .fz (sD ms), .fz (sD rs), .fz (.str "number"), .no, .no] = .ok true [.fz (.tup [.str "number", .int x]), .fz (sD ms), .fz (sD rs), .fz (.str "number"), .no, .no] := fun x => by simp
  have p2 : ∀ x, (SS.par (K := K) 4 5 (SX.cb oAbs (SA.cons (SX.op oIx (SX.var 0) (SX.int 1)) SA.nil)) (SX.lst SA.nil)).ev [.fz (.tup [.str "number", .int x]), .fz (sD ms), .fz (sD rs), .fz (.str "number"), .no, .no] = .nx [.fz (.tup [.str "number", .int x]), .fz (sD ms), .fz (sD rs), .fz (.str "number"), .fz (.int (if x < 0 then -x else x)), .own (.lst [])] := fun x => by simp
  have p3 : ∀ x, (SS.ret (K := K) (SX.op oAdd (SX.tup (SA.cons (SX.ite (ST.of (SX.op oLtX (SX.op oIx (SX.var 0) (SX.int 1)) (SX.int 0))) (SX.int 2) (SX.int 1)) (SA.cons (SX.cb oLen (SA.cons (SX.var 5) SA.nil)) SA.nil))) (SX.cb oTup (SA.cons (SX.var 5) SA.nil)))).ev [.fz (.tup [.str "number", .int x]), .fz (sD ms), .fz (sD rs), .fz (.str "number"), .fz (.int 0), .own (.lst (fs.map D.int))] = .rt (.fz (.tup (.int (if x < 0 then 2 else 1) :: .int fs.length :: fs.map D.int))) [.fz (.tup [.str "number", .int x]), .fz (sD ms), .fz (sD rs), .fz (.str "number"), .fz (.int 0), .fz (.lst (fs.map D.int))] := fun x => by
    by_cases h : x < 0
    · simp [h, s1, s2]
    · simp [h, s1, s2]
  have fin : ∀ x, (if x < 0 then -x else x) = v → runF 3 6 (bfigures_of T).ev [.fz (.tup [.str "number", .int x]), .fz (sD ms), .fz (sD rs)] = .ok (.fz (.tup (.int (if x < 0 then 2 else 1) :: .int fs.length :: fs.map D.int))) [.no, .no, .no] := fun x e => by
    refine runF_rt (E := [.fz (.tup [.str "number", .int x]), .fz (sD ms), .fz (sD rs), .fz (.str "number"), .fz (.int 0), .fz (.lst (fs.map D.int))]) (E1 := [.fz (.tup [.str "number", .int x]), .fz (sD ms), .fz (sD rs), .no, .no, .no]) ?_
    unfold bfigures_of
    rw [ev_seq, p1, flS_nx, ev_seq, ev_sif, t1, Rs.fl_ok, if_pos rfl, ev_seq, p2, e, flS_nx, ev_seq, ev_wh, fu, lp, flS_nx]
    rw [List.nil_append, p3]; rfl
  unfold ffigures_of
  cases neg
  · have ab : ¬ v < 0 := by omega
    have q := fin v (by rw [if_neg ab])
    rw [if_neg ab] at q
    exact q
  · have ab := p2' rfl
    have q := fin (-v) (by rw [if_pos (by omega)]; omega)
    rw [if_pos (by omega)] at q
    exact q
theorem fig_mk (T : Txt K mg A) {ms rs : List Str} {k : Nat} {y : Str} {as : List Int} (hm : ms.Nodup) (hy : ms[k]? = some y) (hl : as.length ≤ 12) : ffigures_of T [.fz (.tup [.str "maker", .str y, .tup (as.map D.int)]), .fz (sD ms), .fz (sD rs)] = .ok (.fz (.tup ((3 :: (k : Int) :: (as.length : Int) :: as).map D.int))) [.no, .no, .no] := by
  unfold ffigures_of runF bfigures_of
  have dx : idxS ms y = some k := idxS_of hm hy
  have s2 : 3 + as.length ≤ sizeLine := size_le (by omega)
  simp [sD, strs_map, dx, s2, kinds]
theorem fig_ap (T : Txt K mg A) {ms rs : List Str} {x y : Int} : ffigures_of T [.fz (.tup [.str "apply", .int x, .int y]), .fz (sD ms), .fz (sD rs)] = .ok (.fz (.tup [.int 4, .int x, .int y])) [.no, .no, .no] := by
  unfold ffigures_of runF bfigures_of
  have e : DX.cutD [.str "apply", .int x, .int y] (some 1) none = [.int x, .int y] := by rw [cut1]; rfl
  simp [e, kinds]
theorem fig_row (T : Txt K mg A) {ms rs : List Str} {k : Nat} {y : Str} (hr : rs.Nodup) (hy : rs[k]? = some y) : ffigures_of T [.fz (.tup [.str "row", .str y]), .fz (sD ms), .fz (sD rs)] = .ok (.fz (.tup [.int 5, .int k])) [.no, .no, .no] := by
  unfold ffigures_of runF bfigures_of
  have dx : idxS rs y = some k := idxS_of hr hy
  simp [sD, strs_map, dx, kinds]
theorem fig_lead (T : Txt K mg A) {ms rs : List Str} {x : Int} : ffigures_of T [.fz (.tup [.str "lead", .int x]), .fz (sD ms), .fz (sD rs)] = .ok (.fz (.tup [.int 6, .int x])) [.no, .no, .no] := by
  unfold ffigures_of runF bfigures_of
  simp [kinds]
theorem fig_emp (T : Txt K mg A) {ms rs : List Str} : ffigures_of T [.fz (.tup [.str "empty"]), .fz (sD ms), .fz (sD rs)] = .ok (.fz (.tup [.int 7, .int 0])) [.no, .no, .no] := by
  unfold ffigures_of runF bfigures_of
  simp [kinds]
theorem figures_eq (T : Txt K mg A) {ms rs : List Str} {c : D} {due : List Int} (hc : CellOf ms rs c due) (hm : ms.Nodup) (hr : rs.Nodup) :
    ffigures_of T [.fz c, .fz (sD ms), .fz (sD rs)] = .ok (.fz (.tup (due.map D.int))) [.no, .no, .no] := by
  cases hc with
  | num fs neg hf hl hn => exact fig_num T hf hl hn
  | mk k y as hy ha hl => exact fig_mk T hm hy hl
  | ap x y _ _ _ _ => exact fig_ap T
  | row k y hy => exact fig_row T hr hy
  | lead x _ _ => exact fig_lead T
  | emp => exact fig_emp T
inductive Sm : Nat → D → D → Prop
  | int (n : Nat) (i : Int) : Sm (n + 1) (.int i) (.int i)
  | str (n : Nat) (i : Str) : Sm (n + 1) (.str i) (.str i)
  | tup (n : Nat) (ds : List D) : (∀ d ∈ ds, Sm n d d) → ds.length ≤ 100000 → Sm (n + 1) (.tup ds) (.tup ds)
  | tuf (n : Nat) (ds : List D) : (∀ d ∈ ds, Sm n d d) → ds.length ≤ 100000 → Sm (n + 1) (.tup ds) (.tuf ds)
theorem same_seq (T : Txt K mg A) (n : Nat) (ds : List D) (a b : D) (sa : ∀ k : Nat, ixF a (.int k) = ds[k]?.map Rt.fz) (sb : ∀ k : Nat, ixF b (.int k) = ds[k]?.map Rt.fz) (lb : lenF [b] = some (.fz (.int ds.length))) (hl : ds.length ≤ 100000)
    (ih : ∀ d ∈ ds, f_law_is_same T n [.fz d, .fz d] = .ok (.fz (.bl true)) [.no, .no]) :
    (SX.lc (K := K) (SI.rng1 (SX.cb oLen (SA.cons (SX.var 1) SA.nil))) (SG.name 2) ST.yes (SX.call 2 (f_law_is_same T n) (SP.cons (SX.op oIx (SX.var 0) (SX.var 2)) (SP.cons (SX.op oIx (SX.var 1) (SX.var 2)) SP.nil))) [2] (fun _ h => h)).ev [.fz a, .fz b, .no] = .ok (.tmp (.lst ((rngD 0 ds.length).map fun _ => .bl true))) [.fz a, .fz b, .no] := by
  refine ev_lcm (items := rngD 0 ds.length) (E := [.fz a, .fz b, .no]) ?_ (by simp) (.inl rfl) (fun _ => .bl true) (fun d hd => ?_) (by rw [rngD_len]; omega)
  · simp [-lenF, lb, in62_nat (show ds.length ≤ 1000000 by omega)]
  · obtain ⟨k, hk, rfl⟩ := rngD_mem (lo := 0) hd
    rw [Nat.zero_add]
    refine ⟨_, ?_, .inl rfl⟩
    have g : ds[k]? = some ds[k] := List.getElem?_eq_getElem hk
    have ih' := fun E => callE_2 (E := E) (ih ds[k] (List.getElem_mem hk))
    have sa' := sa k
    have sb' := sb k
    rw [g] at sa' sb'
    simp [sa', sb', ih']
theorem same_eq (T : Txt K mg A) : ∀ (n : Nat) {a b : D}, Sm n a b → f_law_is_same T n [.fz a, .fz b] = .ok (.fz (.bl true)) [.no, .no]
  | n + 1, _, _, h => by
    unfold f_law_is_same runF b_law_is_same
    cases h with
    | int _ i => simp
    | str _ i => simp
    | tup _ ds h hl =>
      have q := same_seq T n ds (.tup ds) (.tup ds) (fun k => by simp) (fun k => by simp) rfl hl (fun d hd => same_eq T n (h d hd))
      simp [-ev_lc, q, all_tt]
    | tuf _ ds h hl =>
      have q := same_seq T n ds (.tup ds) (.tuf ds) (fun k => by simp) (fun k => by simp) rfl hl (fun d hd => same_eq T n (h d hd))
      simp [-ev_lc, q, all_tt]
end G00
set_option Elab.async false
set_option linter.all false
set_option maxRecDepth 100000
namespace G00
open PySem PySem.Spec PyProof.Rows L2 RZ RT DX
variable {K : PySem.W.Frag} {mg : Str → Option Value} {A : Ads}
theorem numbers_N (T : Txt K mg A) (c : Int) (n : Nat) (hn : n ≤ 100000) : ∃ xs, Nums n xs ∧ f_law_numbers T [.fz (.int c), .fz (.int n)] = .ok (.tmp (.lst (xs.map D.int))) [.no, .no] := by
  obtain ⟨xs, h1, h2, h3⟩ := numbers_eq T c n hn
  exact ⟨xs, Nums.of h2 h3, h1⟩
/-- a loop that appends one text a turn -/
theorem app_loop {b : En → Fl} {g : D → En → Option En} (N : Nat) (I : List D → En → Prop) (W : Nat → Str → Prop)
    (step : ∀ (k : Nat) acc E, k < N → acc.length = k → I acc E → ∃ w E1 E2, g (.int (k : Nat)) E = some E1 ∧ b E1 = .nx E2 ∧ I (acc ++ [.str w]) E2 ∧ W k w) :
    ∀ (n k : Nat) acc E, k + n ≤ N → acc.length = k → I acc E → ∃ (ws : List Str) (E' : En), forL g b (rngD (k : Nat) n) E = .nx E' ∧ I (acc ++ ws.map D.str) E' ∧ ws.length = n ∧ ∀ i, i < n → ∃ w, ws[i]? = some w ∧ W (k + i) w
  | 0, k, acc, E, _, _, hI => ⟨[], E, rfl, by simpa using hI, rfl, fun i h => by omega⟩
  | n + 1, k, acc, E, hk, ha, hI => by
    obtain ⟨w, E1, E2, h1, h2, h3, h4⟩ := step k acc E (by omega) ha hI
    obtain ⟨ws, E', e1, e2, e3, e4⟩ := app_loop N I W step n (k + 1) (acc ++ [.str w]) E2 (by omega) (by simp [ha]) h3
    have r : rngD ((k : Nat) : Int) (n + 1) = .int k :: rngD ((k + 1 : Nat) : Int) n := by
      unfold rngD
      rw [List.range_succ_eq_map, List.map_cons, List.map_map]
      refine congr (congrArg List.cons (by simp)) (List.map_congr_left fun i _ => ?_)
      simp; omega
    refine ⟨w :: ws, E', ?_, ?_, by simp [e3], fun i hi => ?_⟩
    · rw [r]
      unfold forL
      rw [h1]
      dsimp only
      rw [h2]
      exact e1
    · rw [List.map_cons]
      rw [List.append_assoc] at e2
      exact e2
    · cases i with
      | zero => exact ⟨w, rfl, by rw [Nat.add_zero]; exact h4⟩
      | succ i =>
        obtain ⟨w', a, b⟩ := e4 i (by omega)
        exact ⟨w', a, by rw [show k + (i + 1) = k + 1 + i by omega]; exact b⟩
theorem lows : ∀ j, j < 26 → (("abcdefghijklmnopqrstuvwxyz" : Str).cps.toList)[j]? = some (97 + j) := by decide +kernel
theorem greats : ∀ j, j < 26 → (("ABCDEFGHIJKLMNOPQRSTUVWXYZ" : Str).cps.toList)[j]? = some (65 + j) := by decide +kernel
theorem ix_str {z : Str} {i : Int} (h : z.length ≤ sizeLine) : ixF (.str z) (.int i) = (atI z.cps.toList i).map fun c => .fz (.str ⟨#[c]⟩) := if_pos h
theorem low_ix (x : Int) : ixF (.str "abcdefghijklmnopqrstuvwxyz") (.int (x % 26)) = some (.fz (.str (sg (97 + (x % 26).toNat)))) := by
  rw [ix_str (size_le (by decide +kernel)), atI_int (by omega), lows _ (by omega)]; rfl
theorem great_ix (x : Int) : ixF (.str "ABCDEFGHIJKLMNOPQRSTUVWXYZ") (.int (x % 26)) = some (.fz (.str (sg (65 + (x % 26).toNat)))) := by
  rw [ix_str (size_le (by decide +kernel)), atI_int (by omega), greats _ (by omega)]; rfl
theorem sum_ones : ∀ cs : List Nat, ((cs.map sg).map (·.length)).sum = cs.length
  | [] => rfl
  | c :: cs => by
    rw [List.map_cons, List.map_cons, List.sum_cons, sum_ones cs, List.length_cons]
    have : (sg c).length = 1 := rfl
    omega
theorem join_sg (cs : List Nat) (h : cs.length ≤ 1000) : joinF (.str "") [.lst (cs.map fun c => .str (sg c))] = some (.fz (.str (st cs))) := by
  have e : (cs.map fun c => D.str (sg c)) = (cs.map sg).map D.str := by rw [List.map_map]; rfl
  have l0 : ("" : Str).length = 0 := rfl
  rw [e]
  show (match strsOf ((cs.map sg).map D.str) with | some ys => _ | none => none) = _
  rw [strs_map]
  show (if _ then _ else _) = _
  rw [if_pos (by rw [sum_ones, l0]; omega), TL.join_eq]
  exact congrArg (fun z => some (Rt.fz (.str z))) (join0 cs)
theorem add_st {a b : List Nat} (h : a.length + b.length ≤ 1000) : addF (.str (st a)) (.str (st b)) = some (.fz (.str (st (a ++ b)))) := by
  show (if _ then _ else _) = _
  rw [if_pos (size_le (by rw [st_len, st_len]; omega)), st_app]

theorem fx {n : Nat} {xs : List Int} (h : Nums n xs) (i : Nat) (h1 : i < n) : ixF (.lst (xs.map D.int)) (.int (i : Int)) = some (.fz (.int (nth xs i))) := by
  rw [ix_lst, h.ix (by omega) (by omega)]; rfl
theorem add_i {i j : Int} : addF (.int i) (.int j) = some (.fz (.int (i + j))) := rfl
/-! ### _law_words -/
def lc (x : Int) : Nat := 97 + (x % 26).toNat
def bs (xs : List Int) (n : Nat) : List Nat := (List.range n).map fun k => lc (nth xs (2 + k))
theorem bs_len {xs : List Int} {n : Nat} : (bs xs n).length = n := by unfold bs; simp
theorem rngD0 (n : Nat) (f : D → D) : (rngD 0 n).map f = (List.range n).map fun k => f (.int (k : Nat)) := by
  unfold rngD
  rw [List.map_map]
  exact List.map_congr_left fun k _ => by simp
theorem base_eq (xs : List Int) (h : Nums 10 xs) (n : Nat) (hn : n ≤ 5) (a b c d : Sl) :
    (SX.lc (K := K) (SI.rng1 (SX.var 4)) (SG.name 5) ST.yes (SX.op oIx (SX.var 3) (SX.op oMod (SX.op oIx (SX.var 2) (SX.op oAdd (SX.int 2) (SX.var 5))) (SX.int 26))) [5] (fun _ h => h)).ev [a, b, .fz (.lst (xs.map D.int)), .fz (.str "abcdefghijklmnopqrstuvwxyz"), .fz (.int (n : Nat)), .no, .no, .no, c, d] = .ok (.tmp (.lst ((bs xs n).map fun c => .str (sg c)))) [a, b, .fz (.lst (xs.map D.int)), .fz (.str "abcdefghijklmnopqrstuvwxyz"), .fz (.int (n : Nat)), .no, .no, .no, c, d] := by
  have e : ((bs xs n).map fun c => D.str (sg c)) = (rngD 0 n).map fun d => match d with | .int i => .str (sg (lc (nth xs (2 + i.toNat)))) | d => d := by
    rw [rngD0]
    unfold bs
    rw [List.map_map]
    exact List.map_congr_left fun k _ => rfl
  rw [e]
  refine ev_lcm (items := rngD 0 n) (E := [a, b, .fz (.lst (xs.map D.int)), .fz (.str "abcdefghijklmnopqrstuvwxyz"), .fz (.int (n : Nat)), .no, .no, .no, c, d]) ?_ (by simp) (.inl rfl) _ (fun d hd => ?_) (by rw [rngD_len]; omega)
  · simp [in62_nat (show n ≤ 1000000 by omega)]
  · obtain ⟨k, hk, rfl⟩ := rngD_mem (lo := 0) hd
    rw [Nat.zero_add]
    refine ⟨_, ?_, .inl rfl⟩
    have i1 := h.ix (i := 2 + (k : Int)) (by omega) (by omega)
    have e3 : (2 + (k : Int)).toNat = 2 + k := by omega
    rw [e3] at i1
    simp [i1, intsF_mod, low_ix, lc]
def wordB : SS K := SS.seq (SS.asg 8 (SX.cb oList (SA.cons (SX.var 6) SA.nil)))
    (SS.seq (SS.setIx 8 (SX.op oMod (SX.op oIx (SX.var 2) (SX.int 1)) (SX.var 4)) (SX.op oIx (SX.var 3) (SX.op oMod (SX.op oAdd (SX.op oIx (SX.var 2) (SX.int 7)) (SX.var 5)) (SX.int 26))))
    (SS.seq (SS.asg 9 (SX.op oAdd (SX.bm oJoin (SX.str "") (SA.cons (SX.var 8) SA.nil)) (SX.op oIx (SX.lst (SA.cons (SX.str "") (SA.cons (SX.str "") (SA.cons (SX.str "ab") (SA.cons (SX.str "z") SA.nil))))) (SX.op oMod (SX.op oAdd (SX.op oIx (SX.var 2) (SX.int 8)) (SX.op oMul (SX.var 5) (SX.op oIx (SX.var 2) (SX.int 9)))) (SX.int 4)))))
    (SS.seq (SS.ite (ST.of (SX.op oIn (SX.var 9) (SX.tup (SA.cons (SX.str "data") (SA.cons (SX.str "let") (SA.cons (SX.str "in") (SA.cons (SX.str "case") (SA.cons (SX.str "of") (SA.cons (SX.str "num") (SA.cons (SX.str "main") SA.nil))))))))))
    (SS.asg 9 (SX.op oAdd (SX.var 9) (SX.str "q"))) SS.pass)
    (SS.drop (SX.mut mAppend 7 (SA.cons (SX.var 9) SA.nil))))))
theorem suf_ix (j : Nat) (h : j < 4) : ∃ suf : List Nat, suf.length ≤ 2 ∧ ([D.str "", .str "", .str "ab", .str "z"] : List D)[j]? = some (.str (st suf)) := by
  match j, h with
  | 0, _ => exact ⟨[], by simp, rfl⟩
  | 1, _ => exact ⟨[], by simp, rfl⟩
  | 2, _ => exact ⟨[97, 98], by simp, rfl⟩
  | 3, _ => exact ⟨[122], by simp, rfl⟩
theorem q_st : ("q" : Str) = st [113] := by decide +kernel
theorem word_eq (xs : List Int) (h : Nums 10 xs) (n : Nat) (hn : 0 < n) (hn5 : n ≤ 5) (k : Nat) (hk : k < 26) (a b s6 s8 s9 : Sl) (acc : List D) (ha : acc.length = k)
    (h6 : s6 = .own (.lst ((bs xs n).map fun c => .str (sg c))) ∨ s6 = .fz (.lst ((bs xs n).map fun c => .str (sg c)))) :
    ∃ (suf : List Nat) (s8' s9' : Sl), (wordB (K := K)).ev [a, b, .fz (.lst (xs.map D.int)), .fz (.str "abcdefghijklmnopqrstuvwxyz"), .fz (.int (n : Nat)), .fz (.int (k : Nat)), s6, .own (.lst acc), s8, s9] =
      .nx [a, b, .fz (.lst (xs.map D.int)), .fz (.str "abcdefghijklmnopqrstuvwxyz"), .fz (.int (n : Nat)), .fz (.int (k : Nat)), .fz (.lst ((bs xs n).map fun c => .str (sg c))), .own (.lst (acc ++ [.str (st ((bs xs n).set (nth xs 1 % n).toNat (lc (nth xs 7 + k)) ++ suf))])), s8', s9'] := by
  have B := h.lo 1
  have z1 : (SS.asg (K := K) 8 (SX.cb oList (SA.cons (SX.var 6) SA.nil))).ev [a, b, .fz (.lst (xs.map D.int)), .fz (.str "abcdefghijklmnopqrstuvwxyz"), .fz (.int (n : Nat)), .fz (.int (k : Nat)), s6, .own (.lst acc), s8, s9] = .nx [a, b, .fz (.lst (xs.map D.int)), .fz (.str "abcdefghijklmnopqrstuvwxyz"), .fz (.int (n : Nat)), .fz (.int (k : Nat)), .fz (.lst ((bs xs n).map fun c => .str (sg c))), .own (.lst acc), .own (.lst ((bs xs n).map fun c => .str (sg c))), s9] := by
    rcases h6 with h6 | h6
    · rw [h6]; simp
    · rw [h6]; simp
  have i1 := h.ix (i := 1) (by omega) (by omega)
  have i7 := h.ix (i := 7) (by omega) (by omega)
  have i8 := h.ix (i := 8) (by omega) (by omega)
  have i9 := h.ix (i := 9) (by omega) (by omega)
  have sd : setD ((bs xs n).map fun c => D.str (sg c)) (nth xs 1 % n) (.str (sg (lc (nth xs 7 + k)))) = some (((bs xs n).set (nth xs 1 % n).toNat (lc (nth xs 7 + k))).map fun c => .str (sg c)) := by
    have lt : nth xs 1 % (n : Int) < n := Int.emod_lt_of_pos _ (by omega)
    have ge : 0 ≤ nth xs 1 % (n : Int) := Int.emod_nonneg _ (by omega)
    obtain ⟨p, hp⟩ := Int.eq_ofNat_of_zero_le ge
    rw [hp] at lt ⊢
    have : p < n := by omega
    unfold setD ixN
    simp [bs_len, this, List.map_set]
  have z2 : (SS.setIx (K := K) 8 (SX.op oMod (SX.op oIx (SX.var 2) (SX.int 1)) (SX.var 4)) (SX.op oIx (SX.var 3) (SX.op oMod (SX.op oAdd (SX.op oIx (SX.var 2) (SX.int 7)) (SX.var 5)) (SX.int 26)))).ev [a, b, .fz (.lst (xs.map D.int)), .fz (.str "abcdefghijklmnopqrstuvwxyz"), .fz (.int (n : Nat)), .fz (.int (k : Nat)), .fz (.lst ((bs xs n).map fun c => .str (sg c))), .own (.lst acc), .own (.lst ((bs xs n).map fun c => .str (sg c))), s9] = .nx [a, b, .fz (.lst (xs.map D.int)), .fz (.str "abcdefghijklmnopqrstuvwxyz"), .fz (.int (n : Nat)), .fz (.int (k : Nat)), .fz (.lst ((bs xs n).map fun c => .str (sg c))), .own (.lst acc), .own (.lst (((bs xs n).set (nth xs 1 % n).toNat (lc (nth xs 7 + k))).map fun c => .str (sg c))), s9] := by
    have i1' := i1; have i7' := i7
    simp at i1' i7'
    have sd' := sd
    unfold lc at sd'
    simp (disch := first | assumption | omega) [i1', i7', intsF_mod, low_ix, setE, sd', lc]
  obtain ⟨cs, hcs⟩ : ∃ cs, cs = (bs xs n).set (nth xs 1 % n).toNat (lc (nth xs 7 + k)) := ⟨_, rfl⟩
  have lcs : cs.length = n := by rw [hcs, List.length_set, bs_len]
  rw [← hcs] at z2 ⊢
  obtain ⟨suf, hs1, hs2⟩ := suf_ix ((nth xs 8 + k * nth xs 9) % 4).toNat (by omega)
  have z3 : (SS.asg (K := K) 9 (SX.op oAdd (SX.bm oJoin (SX.str "") (SA.cons (SX.var 8) SA.nil)) (SX.op oIx (SX.lst (SA.cons (SX.str "") (SA.cons (SX.str "") (SA.cons (SX.str "ab") (SA.cons (SX.str "z") SA.nil))))) (SX.op oMod (SX.op oAdd (SX.op oIx (SX.var 2) (SX.int 8)) (SX.op oMul (SX.var 5) (SX.op oIx (SX.var 2) (SX.int 9)))) (SX.int 4))))).ev [a, b, .fz (.lst (xs.map D.int)), .fz (.str "abcdefghijklmnopqrstuvwxyz"), .fz (.int (n : Nat)), .fz (.int (k : Nat)), .fz (.lst ((bs xs n).map fun c => .str (sg c))), .own (.lst acc), .own (.lst (cs.map fun c => .str (sg c))), s9] = .nx [a, b, .fz (.lst (xs.map D.int)), .fz (.str "abcdefghijklmnopqrstuvwxyz"), .fz (.int (n : Nat)), .fz (.int (k : Nat)), .fz (.lst ((bs xs n).map fun c => .str (sg c))), .own (.lst acc), .fz (.lst (cs.map fun c => .str (sg c))), .fz (.str (st (cs ++ suf)))] := by
    have i8' := fx h 8 (by omega)
    have i9' := fx h 9 (by omega)
    simp only [Int.cast_ofNat_Int] at i8' i9'
    have b9 := h.lo 9
    have b9' := h.hi 9
    have ixs : ixF (.lst [D.str "", .str "", .str "ab", .str "z"]) (.int ((nth xs 8 + k * nth xs 9) % 4)) = some (.fz (.str (st suf))) := by
      rw [ix_lst, atI_int (by omega), hs2]; rfl
    simp (disch := first | assumption | omega | (refine mulOk_64 ?_ ?_ <;> omega)) [-addF, -ix_lst, i8', i9', add_i, intsF_mod, mulF_int, join_sg cs (by omega), ixs, add_st (a := cs) (b := suf) (by omega)]
  have z4 : ∃ suf', (SS.ite (K := K) (ST.of (SX.op oIn (SX.var 9) (SX.tup (SA.cons (SX.str "data") (SA.cons (SX.str "let") (SA.cons (SX.str "in") (SA.cons (SX.str "case") (SA.cons (SX.str "of") (SA.cons (SX.str "num") (SA.cons (SX.str "main") SA.nil))))))))))
    (SS.asg 9 (SX.op oAdd (SX.var 9) (SX.str "q"))) SS.pass).ev [a, b, .fz (.lst (xs.map D.int)), .fz (.str "abcdefghijklmnopqrstuvwxyz"), .fz (.int (n : Nat)), .fz (.int (k : Nat)), .fz (.lst ((bs xs n).map fun c => .str (sg c))), .own (.lst acc), .fz (.lst (cs.map fun c => .str (sg c))), .fz (.str (st (cs ++ suf)))] = .nx [a, b, .fz (.lst (xs.map D.int)), .fz (.str "abcdefghijklmnopqrstuvwxyz"), .fz (.int (n : Nat)), .fz (.int (k : Nat)), .fz (.lst ((bs xs n).map fun c => .str (sg c))), .own (.lst acc), .fz (.lst (cs.map fun c => .str (sg c))), .fz (.str (st (cs ++ suf')))] := by
    obtain ⟨t, ht⟩ : ∃ t, inF (.str (st (cs ++ suf))) (.tup [.str "data", .str "let", .str "in", .str "case", .str "of", .str "num", .str "main"]) = some t := ⟨_, rfl⟩
    cases t
    · exact ⟨suf, by simp [ht]⟩
    · refine ⟨suf ++ [113], ?_⟩
      have q := add_st (a := cs ++ suf) (b := [113]) (by simp; omega)
      rw [List.append_assoc] at q
      simp [-addF, ht, q_st, q]
  obtain ⟨suf', z4⟩ := z4
  have sz : acc.length < sizeLine := size_lt (by omega)
  refine ⟨suf', .fz (.lst (cs.map fun c => .str (sg c))), .fz (.str (st (cs ++ suf'))), ?_⟩
  unfold wordB
  rw [ev_seq, z1, flS_nx, ev_seq, z2, flS_nx, ev_seq, z3, flS_nx, ev_seq, z4, flS_nx]
  simp [sz]
theorem words_eq (T : Txt K mg A) (c : Int) (n : Nat) (hn : n ≤ 26) : ∃ ws : List Str, f_law_words T [.fz (.int c), .fz (.int n)] = .ok (.tmp (.lst (ws.map D.str))) [.no, .no] ∧ ws.length = n ∧ ws.Nodup := by
  obtain ⟨xs, h, nu⟩ := numbers_N T c 10 (by omega)
  have nu' := fun E => callE_2 (E := E) nu
  simp only [Int.cast_ofNat_Int] at nu'
  obtain ⟨s, hs⟩ : ∃ s : Nat, (s : Int) = 1 + nth xs 0 % 5 := ⟨(1 + nth xs 0 % 5).toNat, by omega⟩
  have i0 := fx h 0 (by omega)
  simp only [Int.cast_ofNat_Int] at i0
  have z1 : (SS.asgG (K := K) (SG.tup 2 (SGs.cons (SG.name 2) (SGs.cons (SG.name 3) SGs.nil))) (SX.tup (SA.cons (SX.call 2 (f_law_numbers T) (SP.cons (SX.var 0) (SP.cons (SX.int 10) SP.nil))) (SA.cons (SX.str "abcdefghijklmnopqrstuvwxyz") SA.nil)))).ev [.fz (.int c), .fz (.int n), .no, .no, .no, .no, .no, .no, .no, .no] = .nx [.fz (.int c), .fz (.int n), .fz (.lst (xs.map D.int)), .fz (.str "abcdefghijklmnopqrstuvwxyz"), .no, .no, .no, .no, .no, .no] := by
    simp [nu']
  have z2 : (SS.asg (K := K) 4 (SX.op oAdd (SX.int 1) (SX.op oMod (SX.op oIx (SX.var 2) (SX.int 0)) (SX.int 5)))).ev [.fz (.int c), .fz (.int n), .fz (.lst (xs.map D.int)), .fz (.str "abcdefghijklmnopqrstuvwxyz"), .no, .no, .no, .no, .no, .no] = .nx [.fz (.int c), .fz (.int n), .fz (.lst (xs.map D.int)), .fz (.str "abcdefghijklmnopqrstuvwxyz"), .fz (.int s), .no, .no, .no, .no, .no] := by
    simp [-ix_lst, i0, intsF_mod, hs]
  have z3 := base_eq (K := K) xs h s (by omega) (.fz (.int c)) (.fz (.int n)) .no .no
  obtain ⟨ws, E', e1, e2, e3, e4⟩ := app_loop (b := (wordB (K := K)).ev) (g := (SG.name (K := K) 5).ev) 26 (fun acc E => ∃ s5 s6 s8 s9 : Sl, (s6 = .own (.lst ((bs xs s).map fun c => .str (sg c))) ∨ s6 = .fz (.lst ((bs xs s).map fun c => .str (sg c)))) ∧ E = [.fz (.int c), .fz (.int n), .fz (.lst (xs.map D.int)), .fz (.str "abcdefghijklmnopqrstuvwxyz"), .fz (.int s), s5, s6, .own (.lst acc), s8, s9])
    (fun k w => ∃ suf, w = st ((bs xs s).set (nth xs 1 % s).toNat (lc (nth xs 7 + k)) ++ suf)) (fun k acc E hk ha hI => by
      obtain ⟨s5, s6, s8, s9, h6, rfl⟩ := hI
      obtain ⟨suf, s8', s9', e⟩ := word_eq (K := K) xs h s (by omega) (by omega) k hk (.fz (.int c)) (.fz (.int n)) s6 s8 s9 acc ha h6
      exact ⟨_, _, _, by simp, e, ⟨_, _, _, _, .inr rfl, rfl⟩, suf, rfl⟩) n 0 [] [.fz (.int c), .fz (.int n), .fz (.lst (xs.map D.int)), .fz (.str "abcdefghijklmnopqrstuvwxyz"), .fz (.int s), .no, .own (.lst ((bs xs s).map fun c => .str (sg c))), .own (.lst []), .no, .no] (by omega) rfl ⟨_, _, _, _, .inl rfl, rfl⟩
  obtain ⟨s5, s6, s8, s9, _, rfl⟩ := e2
  refine ⟨ws, ?_, e3, ?_⟩
  · refine runF_rt (E := [.fz (.int c), .fz (.int n), .fz (.lst (xs.map D.int)), .fz (.str "abcdefghijklmnopqrstuvwxyz"), .fz (.int s), s5, s6, .no, s8, s9]) ?_
    have z4 : (SS.asg (K := K) 6 (SX.lc (SI.rng1 (SX.var 4)) (SG.name 5) ST.yes (SX.op oIx (SX.var 3) (SX.op oMod (SX.op oIx (SX.var 2) (SX.op oAdd (SX.int 2) (SX.var 5))) (SX.int 26))) [5] (fun _ h => h))).ev [.fz (.int c), .fz (.int n), .fz (.lst (xs.map D.int)), .fz (.str "abcdefghijklmnopqrstuvwxyz"), .fz (.int s), .no, .no, .no, .no, .no] = .nx [.fz (.int c), .fz (.int n), .fz (.lst (xs.map D.int)), .fz (.str "abcdefghijklmnopqrstuvwxyz"), .fz (.int s), .no, .own (.lst ((bs xs s).map fun c => .str (sg c))), .no, .no, .no] := by
      rw [ev_asg, z3]; rfl
    have z5 : (SS.asg (K := K) 7 (SX.lst SA.nil)).ev [.fz (.int c), .fz (.int n), .fz (.lst (xs.map D.int)), .fz (.str "abcdefghijklmnopqrstuvwxyz"), .fz (.int s), .no, .own (.lst ((bs xs s).map fun c => .str (sg c))), .no, .no, .no] = .nx [.fz (.int c), .fz (.int n), .fz (.lst (xs.map D.int)), .fz (.str "abcdefghijklmnopqrstuvwxyz"), .fz (.int s), .no, .own (.lst ((bs xs s).map fun c => .str (sg c))), .own (.lst []), .no, .no] := by simp
    have z6 : (SI.rng1 (K := K) (SX.var 1)).ev [.fz (.int c), .fz (.int n), .fz (.lst (xs.map D.int)), .fz (.str "abcdefghijklmnopqrstuvwxyz"), .fz (.int s), .no, .own (.lst ((bs xs s).map fun c => .str (sg c))), .own (.lst []), .no, .no] = .ok (rngD ((0 : Nat) : Int) n) [.fz (.int c), .fz (.int n), .fz (.lst (xs.map D.int)), .fz (.str "abcdefghijklmnopqrstuvwxyz"), .fz (.int s), .no, .own (.lst ((bs xs s).map fun c => .str (sg c))), .own (.lst []), .no, .no] := by
      simp [in62_nat (show n ≤ 1000000 by omega)]
    show (b_law_words T).ev [.fz (.int c), .fz (.int n), .no, .no, .no, .no, .no, .no, .no, .no] = _
    unfold b_law_words
    rw [ev_seq, z1, flS_nx, ev_seq, z2, flS_nx, ev_seq, z4, flS_nx, ev_seq, z5, flS_nx, ev_seq, ev_for, z6, Rs.fl_ok]
    unfold wordB at e1
    rw [e1, flS_nx]
    simp
  · refine List.pairwise_iff_getElem.mpr fun i j hi hj hij => ?_
    rw [e3] at hj
    obtain ⟨w1, a1, s1, b1⟩ := e4 i (by omega)
    obtain ⟨w2, a2, s2, b2⟩ := e4 j hj
    have q1 : ws[i] = w1 := Option.some.inj ((List.getElem?_eq_getElem (by omega)).symm.trans a1)
    have q2 : ws[j] = w2 := Option.some.inj ((List.getElem?_eq_getElem (by omega)).symm.trans a2)
    rw [q1, q2, b1, b2]
    intro e
    have e := st_inj e
    have lt : nth xs 1 % (s : Int) < s := Int.emod_lt_of_pos _ (by omega)
    have ge : 0 ≤ nth xs 1 % (s : Int) := Int.emod_nonneg _ (by omega)
    have g : ((bs xs s).set (nth xs 1 % s).toNat (lc (nth xs 7 + (0 + i : Nat))) ++ s1)[(nth xs 1 % (s : Int)).toNat]? = ((bs xs s).set (nth xs 1 % s).toNat (lc (nth xs 7 + (0 + j : Nat))) ++ s2)[(nth xs 1 % (s : Int)).toNat]? := by rw [e]
    rw [List.getElem?_append_left (by rw [List.length_set, bs_len]; omega), List.getElem?_append_left (by rw [List.length_set, bs_len]; omega), List.getElem?_set_self (by rw [bs_len]; omega), List.getElem?_set_self (by rw [bs_len]; omega)] at g
    have g := Option.some.inj g
    unfold lc at g
    omega
end G00
set_option Elab.async false
set_option linter.all false
set_option maxRecDepth 100000
namespace G00
open PySem PySem.Spec PyProof.Rows L2 RZ RT DX
variable {K : PySem.W.Frag} {mg : Str → Option Value} {A : Ads}
abbrev LO : Sl := .fz (.str "abcdefghijklmnopqrstuvwxyz")
abbrev GR : Sl := .fz (.str "ABCDEFGHIJKLMNOPQRSTUVWXYZ")
def gt (x : Int) : Nat := 65 + (x % 26).toNat
def greatB : SS K := SS.seq (SS.asg 8 (SX.op oAdd (SX.op oIx (SX.var 4) (SX.op oMod (SX.op oAdd (SX.op oIx (SX.var 2) (SX.int 6)) (SX.var 5)) (SX.int 26))) (SX.var 6)))
    (SS.seq (SS.ite (ST.of (SX.op oEq (SX.op oMod (SX.op oIx (SX.var 2) (SX.int 1)) (SX.int 2)) (SX.int 1)))
    (SS.asg 8 (SX.op oAdd (SX.op oAdd (SX.op oIx (SX.var 4) (SX.op oMod (SX.op oIx (SX.var 2) (SX.int 6)) (SX.int 26))) (SX.op oIx (SX.var 3) (SX.op oMod (SX.op oAdd (SX.op oIx (SX.var 2) (SX.int 7)) (SX.var 5)) (SX.int 26)))) (SX.var 6))) SS.pass)
    (SS.seq (SS.ite (ST.of (SX.op oIn (SX.var 8) (SX.tup (SA.cons (SX.str "Bool") (SA.cons (SX.str "False") (SA.cons (SX.str "True") SA.nil))))))
    (SS.asg 8 (SX.op oAdd (SX.var 8) (SX.str "x"))) SS.pass)
    (SS.drop (SX.mut mAppend 7 (SA.cons (SX.var 8) SA.nil)))))
theorem tail_eq (xs : List Int) (h : Nums 8 xs) (n : Nat) (hn : n ≤ 3) (hx : (n : Int) = nth xs 0 % 4) (a b : Sl) :
    (SX.lc (K := K) (SI.rng1 (SX.op oMod (SX.op oIx (SX.var 2) (SX.int 0)) (SX.int 4))) (SG.name 5) ST.yes (SX.op oIx (SX.var 3) (SX.op oMod (SX.op oIx (SX.var 2) (SX.op oAdd (SX.int 2) (SX.var 5))) (SX.int 26))) [5] (fun _ h => h)).ev [a, b, .fz (.lst (xs.map D.int)), LO, GR, .no, .no, .no, .no] = .ok (.tmp (.lst ((bs xs n).map fun c => .str (sg c)))) [a, b, .fz (.lst (xs.map D.int)), LO, GR, .no, .no, .no, .no] := by
  have e : ((bs xs n).map fun c => D.str (sg c)) = (rngD 0 n).map fun d => match d with | .int i => .str (sg (lc (nth xs (2 + i.toNat)))) | d => d := by
    rw [rngD0]
    unfold bs
    rw [List.map_map]
    exact List.map_congr_left fun k _ => rfl
  rw [e]
  have i0 := fx h 0 (by omega)
  simp only [Int.cast_ofNat_Int] at i0
  refine ev_lcm (items := rngD 0 n) (E := [a, b, .fz (.lst (xs.map D.int)), LO, GR, .no, .no, .no, .no]) ?_ (by simp) (.inl rfl) _ (fun d hd => ?_) (by rw [rngD_len]; omega)
  · have := in62_nat (show n ≤ 1000000 by omega)
    simp (disch := omega) [-ix_lst, i0, intsF_mod, ← hx, this]
  · obtain ⟨k, hk, rfl⟩ := rngD_mem (lo := 0) hd
    rw [Nat.zero_add]
    refine ⟨_, ?_, .inl rfl⟩
    have i1 := h.ix (i := 2 + (k : Int)) (by omega) (by omega)
    have e3 : (2 + (k : Int)).toNat = 2 + k := by omega
    rw [e3] at i1
    simp [i1, intsF_mod, low_ix, lc]
theorem x_st : ("x" : Str) = st [120] := by decide +kernel
def inG (w : Str) : Option Bool := inF (.str w) (.tup [.str "Bool", .str "False", .str "True"])
/-- a name -/
def nm (xs : List Int) (tl : List Nat) (k : Nat) : List Nat := if nth xs 1 % 2 = 1 then gt (nth xs 6) :: lc (nth xs 7 + k) :: tl else gt (nth xs 6 + k) :: tl
def nmx (xs : List Int) (tl : List Nat) (k : Nat) : List Nat := if inG (st (nm xs tl k)) = some true then nm xs tl k ++ [120] else nm xs tl k
theorem great_eq (xs : List Int) (h : Nums 8 xs) (tl : List Nat) (ht : tl.length ≤ 3) (k : Nat) (hk : k < 26) (a b s8 : Sl) (acc : List D) (ha : acc.length = k) :
    ∃ (s8' : Sl), (greatB (K := K)).ev [a, b, .fz (.lst (xs.map D.int)), LO, GR, .fz (.int (k : Nat)), .fz (.str (st tl)), .own (.lst acc), s8] =
      .nx [a, b, .fz (.lst (xs.map D.int)), LO, GR, .fz (.int (k : Nat)), .fz (.str (st tl)), .own (.lst (acc ++ [.str (st (nmx xs tl k))])), s8'] := by
  have i1 := fx h 1 (by omega)
  have i6 := fx h 6 (by omega)
  have i7 := fx h 7 (by omega)
  simp only [Int.cast_ofNat_Int] at i1 i6 i7
  have z1 : (SS.asg (K := K) 8 (SX.op oAdd (SX.op oIx (SX.var 4) (SX.op oMod (SX.op oAdd (SX.op oIx (SX.var 2) (SX.int 6)) (SX.var 5)) (SX.int 26))) (SX.var 6))).ev [a, b, .fz (.lst (xs.map D.int)), LO, GR, .fz (.int (k : Nat)), .fz (.str (st tl)), .own (.lst acc), s8] = .nx [a, b, .fz (.lst (xs.map D.int)), LO, GR, .fz (.int (k : Nat)), .fz (.str (st tl)), .own (.lst acc), .fz (.str (st (gt (nth xs 6 + k) :: tl)))] := by
    have q := add_st (a := [gt (nth xs 6 + k)]) (b := tl) (by simp; omega)
    have g := great_ix (nth xs 6 + k)
    simp [-ix_lst, -addF, add_i, i6, intsF_mod, g, sg_st]
    rw [show 65 + ((nth xs 6 + (k : Int)) % 26).toNat = gt (nth xs 6 + k) from rfl, q]
    rfl
  have z2 : (SS.ite (K := K) (ST.of (SX.op oEq (SX.op oMod (SX.op oIx (SX.var 2) (SX.int 1)) (SX.int 2)) (SX.int 1)))
    (SS.asg 8 (SX.op oAdd (SX.op oAdd (SX.op oIx (SX.var 4) (SX.op oMod (SX.op oIx (SX.var 2) (SX.int 6)) (SX.int 26))) (SX.op oIx (SX.var 3) (SX.op oMod (SX.op oAdd (SX.op oIx (SX.var 2) (SX.int 7)) (SX.var 5)) (SX.int 26)))) (SX.var 6))) SS.pass).ev [a, b, .fz (.lst (xs.map D.int)), LO, GR, .fz (.int (k : Nat)), .fz (.str (st tl)), .own (.lst acc), .fz (.str (st (gt (nth xs 6 + k) :: tl)))] = .nx [a, b, .fz (.lst (xs.map D.int)), LO, GR, .fz (.int (k : Nat)), .fz (.str (st tl)), .own (.lst acc), .fz (.str (st (nm xs tl k)))] := by
    unfold nm
    by_cases hb : nth xs 1 % 2 = 1
    · have q := add_st (a := [gt (nth xs 6)]) (b := [lc (nth xs 7 + k)]) (by simp)
      have q2 := add_st (a := [gt (nth xs 6), lc (nth xs 7 + k)]) (b := tl) (by simp; omega)
      have g := great_ix (nth xs 6)
      have g2 := low_ix (nth xs 7 + k)
      rw [sg_st] at g g2
      rw [show 65 + (nth xs 6 % 26).toNat = gt (nth xs 6) from rfl] at g
      rw [show 97 + ((nth xs 7 + (k : Int)) % 26).toNat = lc (nth xs 7 + k) from rfl] at g2
      simp only [List.cons_append, List.nil_append] at q q2
      simp [-ix_lst, -addF, add_i, i1, i6, i7, intsF_mod, g, g2, hb, q, q2]
    · simp [-ix_lst, i1, intsF_mod, hb]
  have ln : (nm xs tl k).length ≤ 5 := by
    unfold nm
    split <;> simp <;> omega
  have z3 : (SS.ite (K := K) (ST.of (SX.op oIn (SX.var 8) (SX.tup (SA.cons (SX.str "Bool") (SA.cons (SX.str "False") (SA.cons (SX.str "True") SA.nil))))))
    (SS.asg 8 (SX.op oAdd (SX.var 8) (SX.str "x"))) SS.pass).ev [a, b, .fz (.lst (xs.map D.int)), LO, GR, .fz (.int (k : Nat)), .fz (.str (st tl)), .own (.lst acc), .fz (.str (st (nm xs tl k)))] = .nx [a, b, .fz (.lst (xs.map D.int)), LO, GR, .fz (.int (k : Nat)), .fz (.str (st tl)), .own (.lst acc), .fz (.str (st (nmx xs tl k)))] := by
    obtain ⟨t, ht⟩ : ∃ t, inF (.str (st (nm xs tl k))) (.tup [.str "Bool", .str "False", .str "True"]) = some t := ⟨_, rfl⟩
    have ht' : inG (st (nm xs tl k)) = some t := ht
    unfold nmx
    rw [ht']
    cases t
    · simp [ht]
    · have q := add_st (a := nm xs tl k) (b := [120]) (by simp; omega)
      simp [-addF, ht, x_st, q]
  have sz : acc.length < sizeLine := size_lt (by omega)
  refine ⟨.fz (.str (st (nmx xs tl k))), ?_⟩
  unfold greatB
  rw [ev_seq, z1, flS_nx, ev_seq, z2, flS_nx, ev_seq, z3, flS_nx]
  simp [sz]
theorem nm_at (xs : List Int) (tl : List Nat) (k j : Nat) (hk : k < 26) (hj : j < 26) (e : nm xs tl k = nm xs tl j) : k = j := by
  unfold nm at e
  split at e
  · have : lc (nth xs 7 + k) = lc (nth xs 7 + j) := by simpa using e
    unfold lc at this; omega
  · have : gt (nth xs 6 + k) = gt (nth xs 6 + j) := by simpa using e
    unfold gt at this; omega
theorem nm_len (xs : List Int) (tl : List Nat) (k j : Nat) : (nm xs tl k).length = (nm xs tl j).length := by
  unfold nm; split <;> rfl
theorem nmx_inj (xs : List Int) (tl : List Nat) (k j : Nat) (hk : k < 26) (hj : j < 26) (e : nmx xs tl k = nmx xs tl j) : k = j := by
  have l := nm_len xs tl k j
  have l2 := congrArg List.length e
  unfold nmx at e l2
  split at e <;> split at e
  · exact nm_at xs tl k j hk hj (List.append_cancel_right e)
  · rename_i h1 h2; rw [if_pos h1, if_neg h2] at l2; simp at l2; omega
  · rename_i h1 h2; rw [if_neg h1, if_pos h2] at l2; simp at l2; omega
  · exact nm_at xs tl k j hk hj e
theorem f_st : ("False" : Str) = st [70, 97, 108, 115, 101] := by decide +kernel
theorem t_st : ("True" : Str) = st [84, 114, 117, 101] := by decide +kernel
theorem nmx_not (xs : List Int) (tl : List Nat) (k : Nat) : st (nmx xs tl k) ≠ "False" ∧ st (nmx xs tl k) ≠ "True" := by
  unfold nmx
  split
  · constructor
    · intro e
      rw [f_st] at e
      have g := congrArg List.getLast? (st_inj e)
      simp at g
    · intro e
      rw [t_st] at e
      have g := congrArg List.getLast? (st_inj e)
      simp at g
  · rename_i h
    constructor
    · intro e; rw [e] at h; exact h (by decide +kernel)
    · intro e; rw [e] at h; exact h (by decide +kernel)
theorem greats_eq (T : Txt K mg A) (c : Int) (n : Nat) (hn : n ≤ 26) : ∃ ws : List Str, f_law_greats T [.fz (.int c), .fz (.int n)] = .ok (.tmp (.lst (ws.map D.str))) [.no, .no] ∧ ws.length = n ∧ ("False" :: "True" :: ws : List Str).Nodup := by
  obtain ⟨xs, h, nu⟩ := numbers_N T c 8 (by omega)
  have nu' := fun E => callE_2 (E := E) nu
  simp only [Int.cast_ofNat_Int] at nu'
  obtain ⟨s, hs⟩ : ∃ s : Nat, (s : Int) = nth xs 0 % 4 := ⟨(nth xs 0 % 4).toNat, by omega⟩
  have z1 : (SS.asgG (K := K) (SG.tup 2 (SGs.cons (SG.name 2) (SGs.cons (SG.name 3) SGs.nil))) (SX.tup (SA.cons (SX.call 2 (f_law_numbers T) (SP.cons (SX.var 0) (SP.cons (SX.int 8) SP.nil))) (SA.cons (SX.str "abcdefghijklmnopqrstuvwxyz") SA.nil)))).ev [.fz (.int c), .fz (.int n), .no, .no, .no, .no, .no, .no, .no] = .nx [.fz (.int c), .fz (.int n), .fz (.lst (xs.map D.int)), LO, .no, .no, .no, .no, .no] := by
    simp [nu']
  have z2 : (SS.asg (K := K) 4 (SX.str "ABCDEFGHIJKLMNOPQRSTUVWXYZ")).ev [.fz (.int c), .fz (.int n), .fz (.lst (xs.map D.int)), LO, .no, .no, .no, .no, .no] = .nx [.fz (.int c), .fz (.int n), .fz (.lst (xs.map D.int)), LO, GR, .no, .no, .no, .no] := by
    simp
  have z3 := tail_eq (K := K) xs h s (by omega) hs (.fz (.int c)) (.fz (.int n))
  have z4 : (SS.asg (K := K) 6 (SX.bm oJoin (SX.str "") (SA.cons (SX.lc (SI.rng1 (SX.op oMod (SX.op oIx (SX.var 2) (SX.int 0)) (SX.int 4))) (SG.name 5) ST.yes (SX.op oIx (SX.var 3) (SX.op oMod (SX.op oIx (SX.var 2) (SX.op oAdd (SX.int 2) (SX.var 5))) (SX.int 26))) [5] (fun _ h => h)) SA.nil))).ev [.fz (.int c), .fz (.int n), .fz (.lst (xs.map D.int)), LO, GR, .no, .no, .no, .no] = .nx [.fz (.int c), .fz (.int n), .fz (.lst (xs.map D.int)), LO, GR, .no, .fz (.str (st (bs xs s))), .no, .no] := by
    rw [ev_asg, ev_bm]
    simp only [SX.str, ev_con, Rs.bind_ok]
    simp [-ev_lc, z3, join_sg (bs xs s) (by rw [bs_len]; omega)]
  obtain ⟨ws, E', e1, e2, e3, e4⟩ := app_loop (b := (greatB (K := K)).ev) (g := (SG.name (K := K) 5).ev) 26 (fun acc E => ∃ s5 s8 : Sl, E = [.fz (.int c), .fz (.int n), .fz (.lst (xs.map D.int)), LO, GR, s5, .fz (.str (st (bs xs s))), .own (.lst acc), s8])
    (fun k w => w = st (nmx xs (bs xs s) k)) (fun k acc E hk ha hI => by
      obtain ⟨s5, s8, rfl⟩ := hI
      obtain ⟨s8', e⟩ := great_eq (K := K) xs h (bs xs s) (by rw [bs_len]; omega) k hk (.fz (.int c)) (.fz (.int n)) s8 acc ha
      exact ⟨_, _, _, by simp, e, ⟨_, _, rfl⟩, rfl⟩) n 0 [] [.fz (.int c), .fz (.int n), .fz (.lst (xs.map D.int)), LO, GR, .no, .fz (.str (st (bs xs s))), .own (.lst []), .no] (by omega) rfl ⟨_, _, rfl⟩
  obtain ⟨s5, s8, rfl⟩ := e2
  have gw : ∀ i, (hi : i < n) → (h : i < ws.length) → ws[i] = st (nmx xs (bs xs s) i) := fun i hi hl => by
    obtain ⟨w1, a1, b1⟩ := e4 i hi
    rw [Nat.zero_add] at b1
    rw [← b1]
    exact Option.some.inj ((List.getElem?_eq_getElem hl).symm.trans a1)
  have out : ∀ w ∈ ws, w ≠ "False" ∧ w ≠ "True" := fun w hw => by
    obtain ⟨i, hi, rfl⟩ := List.getElem_of_mem hw
    rw [gw i (by omega) hi]
    exact nmx_not xs (bs xs s) i
  refine ⟨ws, ?_, e3, ?_⟩
  · refine runF_rt (E := [.fz (.int c), .fz (.int n), .fz (.lst (xs.map D.int)), LO, GR, s5, .fz (.str (st (bs xs s))), .no, s8]) ?_
    have z5 : (SS.asg (K := K) 7 (SX.lst SA.nil)).ev [.fz (.int c), .fz (.int n), .fz (.lst (xs.map D.int)), LO, GR, .no, .fz (.str (st (bs xs s))), .no, .no] = .nx [.fz (.int c), .fz (.int n), .fz (.lst (xs.map D.int)), LO, GR, .no, .fz (.str (st (bs xs s))), .own (.lst []), .no] := by simp
    have z6 : (SI.rng1 (K := K) (SX.var 1)).ev [.fz (.int c), .fz (.int n), .fz (.lst (xs.map D.int)), LO, GR, .no, .fz (.str (st (bs xs s))), .own (.lst []), .no] = .ok (rngD ((0 : Nat) : Int) n) [.fz (.int c), .fz (.int n), .fz (.lst (xs.map D.int)), LO, GR, .no, .fz (.str (st (bs xs s))), .own (.lst []), .no] := by
      simp [in62_nat (show n ≤ 1000000 by omega)]
    show (b_law_greats T).ev [.fz (.int c), .fz (.int n), .no, .no, .no, .no, .no, .no, .no] = _
    unfold b_law_greats
    rw [ev_seq, z1, flS_nx, ev_seq, z2, flS_nx, ev_seq, z4, flS_nx, ev_seq, z5, flS_nx, ev_seq, ev_for, z6, Rs.fl_ok]
    unfold greatB at e1
    rw [e1, flS_nx]
    simp
  · have nd : ws.Nodup := by
      refine List.pairwise_iff_getElem.mpr fun i j hi hj hij => ?_
      rw [gw i (by omega) hi, gw j (by omega) hj]
      intro e
      have := nmx_inj xs (bs xs s) i j (by omega) (by omega) (st_inj e)
      omega
    refine List.nodup_cons.mpr ⟨fun hm => ?_, List.nodup_cons.mpr ⟨fun hm => (out _ hm).2 rfl, nd⟩⟩
    rcases List.mem_cons.mp hm with hm | hm
    · exact absurd hm (by decide +kernel)
    · exact (out _ hm).1 rfl
end G00
set_option Elab.async false
set_option linter.all false
set_option maxRecDepth 100000
namespace G00
open PySem PySem.Spec PyProof.Rows L2 RZ RT DX
variable {K : PySem.W.Frag} {mg : Str → Option Value} {A : Ads}
theorem rev_loop8 (A' : En → Fl) (g : D → En → Option En) (S : Int → Sl → En) (hS : ∀ n f s, g (.int f) (S n s) = some (S n (.fz (.int f)))) (hb : ∀ n f, 0 ≤ n → n < 256 ^ 40 → 0 ≤ f → f < 256 → A' (S n (.fz (.int f))) = .nx (S (256 * n + f) (.fz (.int f)))) :
    ∀ (l : List Int) (n : Int) (s : Sl) (k : Nat), (∀ f ∈ l, 0 ≤ f ∧ f < 256) → 0 ≤ n → n < 256 ^ k → k + l.length ≤ 40 → ∃ s', forL g A' (l.map D.int) (S n s) = .nx (S (l.foldl (fun n f => 256 * n + f) n) s')
  | [], n, s, k, _, _, _, _ => ⟨s, by simp [forL]⟩
  | f :: l, n, s, k, h, h0, h1, hl => by
    have hf := h f List.mem_cons_self
    have e : (256 : Int) ^ (k + 1) = 256 ^ k * 256 := Int.pow_succ ..
    simp only [List.length_cons] at hl
    have p := pow_40 (k := k) (by omega)
    obtain ⟨s', e'⟩ := rev_loop8 A' g S hS hb l (256 * n + f) (.fz (.int f)) (k + 1) (fun x hx => h x (List.mem_cons_of_mem _ hx)) (by omega) (by omega) (by omega)
    refine ⟨s', ?_⟩
    simp only [List.map_cons, forL, hS, hb n f h0 (by omega) hf.1 hf.2, List.foldl_cons]
    exact e'
theorem Fg.of : ∀ (l : List Int) (x : Int), (∀ f ∈ l, 0 ≤ f ∧ f < 256) → 0 < x → x < 256 → Fg (l ++ [x])
  | [], x, _, h0, h1 => .one h0 h1
  | [f], x, h, h0, h1 => .cons (h f (by simp)).1 (h f (by simp)).2 (Fg.of [] x (by simp) h0 h1)
  | f :: g :: l, x, h, h0, h1 => .cons (h f (by simp)).1 (h f (by simp)).2 (Fg.of (g :: l) x (fun y hy => h y (List.mem_cons_of_mem _ hy)) h0 h1)
theorem atI_last {α : Type} {l : List α} {x : α} : atI (l ++ [x]) (-1) = some x := by
  have e : ixN (l ++ [x]).length (-1) = some l.length := by
    unfold ixN
    simp
    omega
  unfold atI
  rw [e]
  simp
theorem setD_last {l : List D} {x y : D} : setD (l ++ [x]) (-1) y = some (l ++ [y]) := by
  have e : ixN (l ++ [x]).length (-1) = some l.length := by
    unfold ixN
    simp
    omega
  unfold setD
  rw [e]
  simp
def row0 (xs : List Int) (m : Nat) : List Int := (List.range m).map fun k => nth xs (3 + k) % 256
def adr (xs : List Int) (n : Nat) : List Int := (List.range n).map fun k => (nth xs (5 + k) * 720 + nth xs (6 + k)) % 4096
theorem many_ix (xs : List Int) (h : Nums 50 xs) : ∃ m : Nat, m ≤ 40 ∧ ixF (.lst [.int 0, .int 1, .int 2, .int (1 + nth xs 1 % 40)]) (.int (nth xs 2 % 4)) = some (.fz (.int m)) := by
  have b := h.lo 2
  rw [ix_lst, atI_int (by omega)]
  have : (nth xs 2 % 4).toNat < 4 := by omega
  generalize (nth xs 2 % 4).toNat = j at this
  match j, this with
  | 0, _ => exact ⟨0, by omega, rfl⟩
  | 1, _ => exact ⟨1, by omega, rfl⟩
  | 2, _ => exact ⟨2, by omega, rfl⟩
  | 3, _ =>
    refine ⟨(1 + nth xs 1 % 40).toNat, by omega, ?_⟩
    have : ((1 + nth xs 1 % 40).toNat : Int) = 1 + nth xs 1 % 40 := by omega
    rw [this]; rfl
theorem row_eq (xs : List Int) (h : Nums 50 xs) (m : Nat) (hm : m ≤ 40) (a b c d e f : Sl) (g1 g2 g3 g4 : Sl) :
    (SX.lc (K := K) (SI.rng1 (SX.var 5)) (SG.name 12) ST.yes (SX.op oMod (SX.cb oInt (SA.cons (SX.op oIx (SX.var 3) (SX.op oAdd (SX.int 3) (SX.var 12))) SA.nil)) (SX.int 256)) [12] (fun _ h => h)).ev [a, b, c, .own (.lst (xs.map D.int)), d, .fz (.int (m : Nat)), e, f, g1, g2, g3, g4, .no] = .ok (.tmp (.lst ((row0 xs m).map D.int))) [a, b, c, .own (.lst (xs.map D.int)), d, .fz (.int (m : Nat)), e, f, g1, g2, g3, g4, .no] := by
  have e' : ((row0 xs m).map D.int) = (rngD 0 m).map fun d => match d with | .int i => .int (nth xs (3 + i.toNat) % 256) | d => d := by
    rw [rngD0]
    unfold row0
    rw [List.map_map]
    exact List.map_congr_left fun k _ => rfl
  rw [e']
  refine ev_lcm (items := rngD 0 m) (E := [a, b, c, .own (.lst (xs.map D.int)), d, .fz (.int (m : Nat)), e, f, g1, g2, g3, g4, .no]) ?_ (by simp) (.inl rfl) _ (fun d hd => ?_) (by rw [rngD_len]; omega)
  · simp [in62_nat (show m ≤ 1000000 by omega)]
  · obtain ⟨k, hk, rfl⟩ := rngD_mem (lo := 0) hd
    rw [Nat.zero_add]
    refine ⟨_, ?_, .inl rfl⟩
    have i1 := h.ix (i := 3 + (k : Int)) (by omega) (by omega)
    have e3 : (3 + (k : Int)).toNat = 3 + k := by omega
    rw [e3] at i1
    simp [i1, intsF_mod]
theorem adr_eq (xs : List Int) (h : Nums 50 xs) (n : Nat) (hn : (n : Int) = nth xs 3 % 13) (a b c d e f : Sl) (g0 g1 g2 g3 g4 : Sl) :
    (SX.lc (K := K) (SI.rng1 (SX.op oMod (SX.op oIx (SX.var 3) (SX.int 3)) (SX.int 13))) (SG.name 12) ST.yes (SX.op oMod (SX.op oAdd (SX.op oMul (SX.op oIx (SX.var 3) (SX.op oAdd (SX.int 5) (SX.var 12))) (SX.int 720)) (SX.op oIx (SX.var 3) (SX.op oAdd (SX.int 6) (SX.var 12)))) (SX.int 4096)) [12] (fun _ h => h)).ev [a, b, c, .own (.lst (xs.map D.int)), d, e, f, g0, g1, g2, g3, g4, .no] = .ok (.tmp (.lst ((adr xs n).map D.int))) [a, b, c, .own (.lst (xs.map D.int)), d, e, f, g0, g1, g2, g3, g4, .no] := by
  have e' : ((adr xs n).map D.int) = (rngD 0 n).map fun d => match d with | .int i => .int ((nth xs (5 + i.toNat) * 720 + nth xs (6 + i.toNat)) % 4096) | d => d := by
    rw [rngD0]
    unfold adr
    rw [List.map_map]
    exact List.map_congr_left fun k _ => rfl
  rw [e']
  have i0 := fx h 3 (by omega)
  simp only [Int.cast_ofNat_Int] at i0
  refine ev_lcm (items := rngD 0 n) (E := [a, b, c, .own (.lst (xs.map D.int)), d, e, f, g0, g1, g2, g3, g4, .no]) ?_ (by simp) (.inl rfl) _ (fun d hd => ?_) (by rw [rngD_len]; omega)
  · have := in62_nat (show n ≤ 1000000 by omega)
    simp (disch := omega) [-ix_lst, i0, intsF_mod, ← hn, this]
  · obtain ⟨k, hk, rfl⟩ := rngD_mem (lo := 0) hd
    rw [Nat.zero_add]
    refine ⟨_, ?_, .inl rfl⟩
    have i1 := fx h (5 + k) (by omega)
    have i2 := fx h (6 + k) (by omega)
    have c1 : ((5 + k : Nat) : Int) = 5 + (k : Int) := by omega
    have c2 : ((6 + k : Nat) : Int) = 6 + (k : Int) := by omega
    rw [c1] at i1
    rw [c2] at i2
    have b1 := h.lo (5 + k)
    have b2 := h.hi (5 + k)
    simp (disch := first | assumption | omega | (refine mulOk_64 ?_ ?_ <;> omega)) [-ix_lst, i1, i2, intsF_mod, mulF_int]
theorem row0_mem {xs : List Int} {m : Nat} : ∀ f ∈ row0 xs m, 0 ≤ f ∧ f < 256 := fun f hf => by
  unfold row0 at hf
  obtain ⟨k, _, rfl⟩ := List.mem_map.mp hf
  omega
theorem row0_len {xs : List Int} {m : Nat} : (row0 xs m).length = m := by unfold row0; simp
theorem adr_len {xs : List Int} {m : Nat} : (adr xs m).length = m := by unfold adr; simp
theorem adr_mem {xs : List Int} {m : Nat} : ∀ f ∈ adr xs m, 0 ≤ f ∧ f < 4096 := fun f hf => by
  unfold adr at hf
  obtain ⟨k, _, rfl⟩ := List.mem_map.mp hf
  omega
end G00
set_option Elab.async false
set_option linter.all false
set_option maxRecDepth 100000
namespace G00
open PySem PySem.Spec PyProof.Rows L2 RZ RT DX
variable {K : PySem.W.Frag} {mg : Str → Option Value} {A : Ads}
def numP : SS K := SS.seq (SS.asg 5 (SX.op oIx (SX.lst (SA.cons (SX.int 0) (SA.cons (SX.int 1) (SA.cons (SX.int 2) (SA.cons (SX.op oAdd (SX.int 1) (SX.op oMod (SX.op oIx (SX.var 3) (SX.int 1)) (SX.int 40))) SA.nil))))) (SX.op oMod (SX.op oIx (SX.var 3) (SX.int 2)) (SX.int 4))))
    (SS.seq (SS.asg 6 (SX.lc (SI.rng1 (SX.var 5)) (SG.name 12) ST.yes (SX.op oMod (SX.cb oInt (SA.cons (SX.op oIx (SX.var 3) (SX.op oAdd (SX.int 3) (SX.var 12))) SA.nil)) (SX.int 256)) [12] (fun _ h => h)))
    (SS.seq (SS.ite (ST.and (ST.of (SX.op oGtX (SX.var 5) (SX.int 0))) (ST.of (SX.op oEq (SX.op oIx (SX.var 6) (SX.un oNeg (SX.int 1))) (SX.int 0))))
    (SS.setIx 6 (SX.un oNeg (SX.int 1)) (SX.op oAdd (SX.int 1) (SX.op oMod (SX.op oIx (SX.var 3) (SX.int 2)) (SX.int 255)))) SS.pass)
    (SS.seq (SS.asg 7 (SX.int 0))
    (SS.seq (SS.for_ (SI.rev (SX.var 6)) (SG.name 8)
    (SS.asg 7 (SX.op oAdd (SX.op oMul (SX.int 256) (SX.var 7)) (SX.var 8))))
    (SS.ret (SX.tup (SA.cons (SX.tup (SA.cons (SX.str "number") (SA.cons (SX.op oIx (SX.lst (SA.cons (SX.var 7) (SA.cons (SX.var 7) (SA.cons (SX.un oNeg (SX.var 7)) SA.nil)))) (SX.var 4)) SA.nil))) (SA.cons (SX.op oAdd (SX.lst (SA.cons (SX.op oAdd (SX.int 1) (SX.cb oInt (SA.cons (SX.and (SX.op oEq (SX.var 4) (SX.int 2)) (SX.op oGtX (SX.var 5) (SX.int 0))) SA.nil))) (SA.cons (SX.var 5) SA.nil))) (SX.var 6)) SA.nil))))))))
theorem num_fix (xs : List Int) (h : Nums 50 xs) (m : Nat) (hm : m ≤ 40) (a b c kd : Sl) :
    ∃ fs : List Int, Fg fs ∧ fs.length = m ∧ (SS.ite (K := K) (ST.and (ST.of (SX.op oGtX (SX.var 5) (SX.int 0))) (ST.of (SX.op oEq (SX.op oIx (SX.var 6) (SX.un oNeg (SX.int 1))) (SX.int 0))))
    (SS.setIx 6 (SX.un oNeg (SX.int 1)) (SX.op oAdd (SX.int 1) (SX.op oMod (SX.op oIx (SX.var 3) (SX.int 2)) (SX.int 255)))) SS.pass).ev [a, b, c, .own (.lst (xs.map D.int)), kd, .fz (.int (m : Nat)), .own (.lst ((row0 xs m).map D.int)), .no, .no, .no, .no, .no, .no] = .nx [a, b, c, .own (.lst (xs.map D.int)), kd, .fz (.int (m : Nat)), .own (.lst (fs.map D.int)), .no, .no, .no, .no, .no, .no] := by
  have i2 := fx h 2 (by omega)
  simp only [Int.cast_ofNat_Int] at i2
  have rm := @row0_mem xs m
  have rl := @row0_len xs m
  generalize row0 xs m = r at rm rl ⊢
  rcases List.eq_nil_or_concat r with rfl | ⟨l, x, rfl⟩
  · have : m = 0 := by simpa using rl.symm
    subst this
    exact ⟨[], .nil, rfl, by simp⟩
  · have m0 : (0 : Int) < (m : Int) := by simp at rl; omega
    have hx := rm x (by simp)
    have hl : ∀ f ∈ l, 0 ≤ f ∧ f < 256 := fun f hf => rm f (by simp [hf])
    have al : ixF (.lst ((l ++ [x]).map D.int)) (.int (-1)) = some (.fz (.int x)) := by
      rw [ix_lst, List.map_append]
      show (atI (l.map D.int ++ [D.int x]) (-1)).map Rt.fz = _
      rw [atI_last]; rfl
    have m1 : 0 < m := by omega
    by_cases hz : x = 0
    · subst hz
      refine ⟨l ++ [1 + nth xs 2 % 255], Fg.of l _ hl (by omega) (by omega), by simpa using rl, ?_⟩
      have sl : setD ((l ++ [0]).map D.int) (-1) (.int (1 + nth xs 2 % 255)) = some ((l ++ [1 + nth xs 2 % 255]).map D.int) := by
        rw [List.map_append]
        show setD (l.map D.int ++ [D.int 0]) (-1) _ = _
        rw [setD_last, List.map_append]; rfl
      simp (disch := omega) [-ix_lst, -List.map_append, m1, al, i2, intsF_mod, setE, sl]
    · refine ⟨l ++ [x], Fg.of l x hl (by omega) hx.2, by simpa using rl, ?_⟩
      simp [-ix_lst, -List.map_append, m1, al, hz]
theorem cell_num (xs : List Int) (h : Nums 50 xs) (ms rs : List Str) (a : Sl) (kd : Int) (hk : 0 ≤ kd ∧ kd < 3) :
    ∃ c due E', (numP (K := K)).ev [a, .fz (sD ms), .fz (sD rs), .own (.lst (xs.map D.int)), .fz (.int kd), .no, .no, .no, .no, .no, .no, .no, .no] = .rt (.fz (.tup [c, .lst (due.map D.int)])) (a :: .fz (sD ms) :: .fz (sD rs) :: E') ∧ CellOf ms rs c due := by
  obtain ⟨m, hm, mi⟩ := many_ix xs h
  obtain ⟨fs, hf, hl, fe⟩ := num_fix (K := K) xs h m hm a (.fz (sD ms)) (.fz (sD rs)) (.fz (.int kd))
  have i1 := fx h 1 (by omega)
  have i2 := fx h 2 (by omega)
  simp only [Int.cast_ofNat_Int] at i1 i2
  have z1 : (SS.asg (K := K) 5 (SX.op oIx (SX.lst (SA.cons (SX.int 0) (SA.cons (SX.int 1) (SA.cons (SX.int 2) (SA.cons (SX.op oAdd (SX.int 1) (SX.op oMod (SX.op oIx (SX.var 3) (SX.int 1)) (SX.int 40))) SA.nil))))) (SX.op oMod (SX.op oIx (SX.var 3) (SX.int 2)) (SX.int 4)))).ev [a, .fz (sD ms), .fz (sD rs), .own (.lst (xs.map D.int)), .fz (.int kd), .no, .no, .no, .no, .no, .no, .no, .no] = .nx [a, .fz (sD ms), .fz (sD rs), .own (.lst (xs.map D.int)), .fz (.int kd), .fz (.int m), .no, .no, .no, .no, .no, .no, .no] := by
    simp (disch := omega) [-ix_lst, i1, i2, intsF_mod, mi]
  have z2 := row_eq (K := K) xs h m hm a (.fz (sD ms)) (.fz (sD rs)) (.fz (.int kd)) .no .no .no .no .no .no
  obtain ⟨s', lp⟩ := rev_loop8 (SS.asg (K := K) 7 (SX.op oAdd (SX.op oMul (SX.int 256) (SX.var 7)) (SX.var 8))).ev (SG.name (K := K) 8).ev (fun n s => [a, .fz (sD ms), .fz (sD rs), .own (.lst (xs.map D.int)), .fz (.int kd), .fz (.int m), .fz (.lst (fs.map D.int)), .fz (.int n), s, .no, .no, .no, .no]) (fun n f s => by simp) (fun n f h0 h1 _ _ => by
    simp [mulF_int (mulOk_small (i := 256) (by decide) (val_small h0 (by omega)))]) fs.reverse 0 .no 0 (fun f hx => hf.mem f (List.mem_reverse.mp hx)) (by omega) (by decide) (by simp; omega)
  rw [fold_val, List.map_reverse] at lp
  have s1 : 2 + fs.length ≤ sizeLine := size_le (by omega)
  have z4 : (SS.asg (K := K) 7 (SX.int 0)).ev [a, .fz (sD ms), .fz (sD rs), .own (.lst (xs.map D.int)), .fz (.int kd), .fz (.int m), .own (.lst (fs.map D.int)), .no, .no, .no, .no, .no, .no] = .nx [a, .fz (sD ms), .fz (sD rs), .own (.lst (xs.map D.int)), .fz (.int kd), .fz (.int m), .own (.lst (fs.map D.int)), .fz (.int 0), .no, .no, .no, .no, .no] := by simp
  have z5 : (SI.rev (K := K) (SX.var 6)).ev [a, .fz (sD ms), .fz (sD rs), .own (.lst (xs.map D.int)), .fz (.int kd), .fz (.int m), .own (.lst (fs.map D.int)), .fz (.int 0), .no, .no, .no, .no, .no] = .ok (fs.map D.int).reverse [a, .fz (sD ms), .fz (sD rs), .own (.lst (xs.map D.int)), .fz (.int kd), .fz (.int m), .fz (.lst (fs.map D.int)), .fz (.int 0), .no, .no, .no, .no, .no] := by simp
  have go : ∀ c due, CellOf ms rs c due → (SS.ret (K := K) (SX.tup (SA.cons (SX.tup (SA.cons (SX.str "number") (SA.cons (SX.op oIx (SX.lst (SA.cons (SX.var 7) (SA.cons (SX.var 7) (SA.cons (SX.un oNeg (SX.var 7)) SA.nil)))) (SX.var 4)) SA.nil))) (SA.cons (SX.op oAdd (SX.lst (SA.cons (SX.op oAdd (SX.int 1) (SX.cb oInt (SA.cons (SX.and (SX.op oEq (SX.var 4) (SX.int 2)) (SX.op oGtX (SX.var 5) (SX.int 0))) SA.nil))) (SA.cons (SX.var 5) SA.nil))) (SX.var 6)) SA.nil)))).ev [a, .fz (sD ms), .fz (sD rs), .own (.lst (xs.map D.int)), .fz (.int kd), .fz (.int m), .fz (.lst (fs.map D.int)), .fz (.int (val fs)), s', .no, .no, .no, .no] = .rt (.fz (.tup [c, .lst (due.map D.int)])) [a, .fz (sD ms), .fz (sD rs), .own (.lst (xs.map D.int)), .fz (.int kd), .fz (.int m), .fz (.lst (fs.map D.int)), .fz (.int (val fs)), s', .no, .no, .no, .no] →
      ∃ c due E', (numP (K := K)).ev [a, .fz (sD ms), .fz (sD rs), .own (.lst (xs.map D.int)), .fz (.int kd), .no, .no, .no, .no, .no, .no, .no, .no] = .rt (.fz (.tup [c, .lst (due.map D.int)])) (a :: .fz (sD ms) :: .fz (sD rs) :: E') ∧ CellOf ms rs c due := fun c due hc e => by
    refine ⟨c, due, [.own (.lst (xs.map D.int)), .fz (.int kd), .fz (.int m), .fz (.lst (fs.map D.int)), .fz (.int (val fs)), s', .no, .no, .no, .no], ?_, hc⟩
    unfold numP
    have z2' : (SS.asg (K := K) 6 (SX.lc (SI.rng1 (SX.var 5)) (SG.name 12) ST.yes (SX.op oMod (SX.cb oInt (SA.cons (SX.op oIx (SX.var 3) (SX.op oAdd (SX.int 3) (SX.var 12))) SA.nil)) (SX.int 256)) [12] (fun _ h => h))).ev [a, .fz (sD ms), .fz (sD rs), .own (.lst (xs.map D.int)), .fz (.int kd), .fz (.int m), .no, .no, .no, .no, .no, .no, .no] = .nx [a, .fz (sD ms), .fz (sD rs), .own (.lst (xs.map D.int)), .fz (.int kd), .fz (.int m), .own (.lst ((row0 xs m).map D.int)), .no, .no, .no, .no, .no, .no] := by
      rw [ev_asg, z2]; rfl
    rw [ev_seq, z1, flS_nx, ev_seq, z2', flS_nx, ev_seq, fe, flS_nx, ev_seq, z4, flS_nx, ev_seq, ev_for, z5, Rs.fl_ok, lp, flS_nx, e]
  subst hl
  by_cases k2 : kd = 2
  · subst k2
    by_cases m0 : 0 < fs.length
    · have m0' : (0 : Int) < (fs.length : Int) := by omega
      refine go _ _ (.num fs true hf hm (fun _ => List.length_pos_iff.mp m0)) ?_
      simp [m0, m0', s1]
    · have : fs = [] := by
        cases fs with
        | nil => rfl
        | cons f fs => simp at m0
      subst this
      refine go _ _ (.num [] false hf hm (fun h => by cases h)) ?_
      simp [val]
  · have k3 : kd = 0 ∨ kd = 1 := by omega
    rcases k3 with rfl | rfl
    · refine go _ _ (.num fs false hf hm (fun h => by cases h)) ?_
      simp [s1]
    · refine go _ _ (.num fs false hf hm (fun h => by cases h)) ?_
      simp [s1]
end G00
set_option Elab.async false
set_option linter.all false
set_option maxRecDepth 100000
namespace G00
open PySem PySem.Spec PyProof.Rows L2 RZ RT DX
variable {K : PySem.W.Frag} {mg : Str → Option Value} {A : Ads}
theorem len_sD (ms : List Str) : lenF [sD ms] = some (.fz (.int ms.length)) := by
  show some (Rt.fz (.int ((ms.map D.str).length : Nat))) = _
  rw [List.length_map]
theorem ix_sD {ms : List Str} {k : Nat} {z : Str} (h : ms[k]? = some z) : ixF (sD ms) (.int (k : Int)) = some (.fz (.str z)) := by
  show (atI (ms.map D.str) (k : Int)).map Rt.fz = _
  rw [atI_nat', get_sD h]; rfl
theorem mod_ix (ms : List Str) (h : 0 < ms.length) (x : Int) : ∃ (k : Nat) (z : Str), (k : Int) = x % ms.length ∧ ms[k]? = some z := by
  have lt : x % (ms.length : Int) < ms.length := Int.emod_lt_of_pos _ (by omega)
  have ge : 0 ≤ x % (ms.length : Int) := Int.emod_nonneg _ (by omega)
  obtain ⟨k, hk⟩ := Int.eq_ofNat_of_zero_le ge
  exact ⟨k, ms[k]'(by omega), hk.symm, List.getElem?_eq_getElem _⟩
theorem law_cell_eq (T : Txt K mg A) (v : Int) (ms rs : List Str) (hms : 0 < ms.length) (hrs : 0 < rs.length) :
    ∃ c due, f_law_cell T [.fz (.int v), .fz (sD ms), .fz (sD rs)] = .ok (.fz (.tup [c, .lst (due.map D.int)])) [.no, .no, .no] ∧ CellOf ms rs c due := by
  obtain ⟨xs, h, nu⟩ := numbers_N T v 50 (by omega)
  have nu' := fun E => callE_2 (E := E) nu
  simp only [Int.cast_ofNat_Int] at nu'
  have i0 := fx h 0 (by omega)
  have i4 := fx h 4 (by omega)
  have i5 := fx h 5 (by omega)
  have i6 := fx h 6 (by omega)
  have i7 := fx h 7 (by omega)
  have i8 := fx h 8 (by omega)
  have i9 := fx h 9 (by omega)
  simp only [Int.cast_ofNat_Int] at i0 i4 i5 i6 i7 i8 i9
  have a5 := h.lo 5
  have b5 := h.hi 5
  have a7 := h.lo 7
  have b7 := h.hi 7
  have fin : ∀ {c due E'}, (b_law_cell T).ev [.fz (.int v), .fz (sD ms), .fz (sD rs), .no, .no, .no, .no, .no, .no, .no, .no, .no, .no] = .rt (.fz (.tup [c, .lst (due.map D.int)])) (.fz (.int v) :: .fz (sD ms) :: .fz (sD rs) :: E') → CellOf ms rs c due → ∃ c due, f_law_cell T [.fz (.int v), .fz (sD ms), .fz (sD rs)] = .ok (.fz (.tup [c, .lst (due.map D.int)])) [.no, .no, .no] ∧ CellOf ms rs c due := fun {c due E'} e hc => by
    refine ⟨c, due, ?_, hc⟩
    exact runF_rt e
  have z1 : (SS.asg (K := K) 3 (SX.call 2 (f_law_numbers T) (SP.cons (SX.var 0) (SP.cons (SX.int 50) SP.nil)))).ev [.fz (.int v), .fz (sD ms), .fz (sD rs), .no, .no, .no, .no, .no, .no, .no, .no, .no, .no] = .nx [.fz (.int v), .fz (sD ms), .fz (sD rs), .own (.lst (xs.map D.int)), .no, .no, .no, .no, .no, .no, .no, .no, .no] := by
    simp [nu']
  obtain ⟨kd, hkd⟩ : ∃ kd, kd = nth xs 0 % 8 := ⟨_, rfl⟩
  have z2 : (SS.asg (K := K) 4 (SX.op oMod (SX.op oIx (SX.var 3) (SX.int 0)) (SX.int 8))).ev [.fz (.int v), .fz (sD ms), .fz (sD rs), .own (.lst (xs.map D.int)), .no, .no, .no, .no, .no, .no, .no, .no, .no] = .nx [.fz (.int v), .fz (sD ms), .fz (sD rs), .own (.lst (xs.map D.int)), .fz (.int kd), .no, .no, .no, .no, .no, .no, .no, .no] := by
    simp [-ix_lst, i0, intsF_mod, hkd]
  have k0 : 0 ≤ kd ∧ kd < 8 := by omega
  by_cases k3 : kd < 3
  · obtain ⟨c, due, E', e, hc⟩ := cell_num (K := K) xs h ms rs (.fz (.int v)) kd ⟨k0.1, k3⟩
    refine fin (E' := E') ?_ hc
    unfold b_law_cell
    rw [ev_seq, z1, flS_nx, ev_seq, z2, flS_nx, ev_seq, ev_sif]
    unfold numP at e
    have t : (ST.of (K := K) (SX.op oLtX (SX.var 4) (SX.int 3))).ev [.fz (.int v), .fz (sD ms), .fz (sD rs), .own (.lst (xs.map D.int)), .fz (.int kd), .no, .no, .no, .no, .no, .no, .no, .no] = .ok true [.fz (.int v), .fz (sD ms), .fz (sD rs), .own (.lst (xs.map D.int)), .fz (.int kd), .no, .no, .no, .no, .no, .no, .no, .no] := by simp [k3]
    rw [t, Rs.fl_ok, if_pos rfl, e]; rfl
  · obtain ⟨n, hn⟩ : ∃ n : Nat, (n : Int) = nth xs 3 % 13 := ⟨(nth xs 3 % 13).toNat, by omega⟩
    have z3 := adr_eq (K := K) xs h n hn (.fz (.int v)) (.fz (sD ms)) (.fz (sD rs)) (.fz (.int kd)) .no .no .no .no .no .no .no
    have z3' : (SS.asg (K := K) 9 (SX.lc (SI.rng1 (SX.op oMod (SX.op oIx (SX.var 3) (SX.int 3)) (SX.int 13))) (SG.name 12) ST.yes (SX.op oMod (SX.op oAdd (SX.op oMul (SX.op oIx (SX.var 3) (SX.op oAdd (SX.int 5) (SX.var 12))) (SX.int 720)) (SX.op oIx (SX.var 3) (SX.op oAdd (SX.int 6) (SX.var 12)))) (SX.int 4096)) [12] (fun _ h => h))).ev [.fz (.int v), .fz (sD ms), .fz (sD rs), .own (.lst (xs.map D.int)), .fz (.int kd), .no, .no, .no, .no, .no, .no, .no, .no] = .nx [.fz (.int v), .fz (sD ms), .fz (sD rs), .own (.lst (xs.map D.int)), .fz (.int kd), .no, .no, .no, .no, .own (.lst ((adr xs n).map D.int)), .no, .no, .no] := by
      rw [ev_asg, z3]; rfl
    have t : (ST.of (K := K) (SX.op oLtX (SX.var 4) (SX.int 3))).ev [.fz (.int v), .fz (sD ms), .fz (sD rs), .own (.lst (xs.map D.int)), .fz (.int kd), .no, .no, .no, .no, .no, .no, .no, .no] = .ok false [.fz (.int v), .fz (sD ms), .fz (sD rs), .own (.lst (xs.map D.int)), .fz (.int kd), .no, .no, .no, .no, .no, .no, .no, .no] := by simp [k3]
    have al := @adr_len xs n
    have am := @adr_mem xs n
    have n12 : n ≤ 12 := by omega
    generalize adr xs n = as at z3' al am
    subst al
    have ff : ∀ {E : En} {a b : SS K}, (if false = true then a.ev E else b.ev E) = b.ev E := fun {E a b} => if_neg Bool.false_ne_true
    have mu5 : mulF (.int (nth xs 5)) (.int 720) = some (.fz (.int (nth xs 5 * 720))) := mulF_int (by refine mulOk_64 ?_ ?_ <;> omega)
    have mu7 : mulF (.int (nth xs 7)) (.int 720) = some (.fz (.int (nth xs 7 * 720))) := mulF_int (by refine mulOk_64 ?_ ?_ <;> omega)
    by_cases k5 : kd < 5
    · obtain ⟨k, z, hk, hz⟩ := mod_ix ms hms (nth xs 4)
      refine fin (c := .tup [.str "maker", .str z, .tup (as.map D.int)]) (due := 3 :: (k : Int) :: (as.length : Int) :: as) (E' := [.own (.lst (xs.map D.int)), .fz (.int kd), .no, .no, .no, .no, .fz (.lst (as.map D.int)), .fz (.int k), .no, .no]) ?_ (.mk k z as hz am n12)
      have mz : (0 : Int) < ms.length := by omega
      have s1 : 3 + as.length ≤ sizeLine := size_le (by omega)
      unfold b_law_cell
      rw [ev_seq, z1, flS_nx, ev_seq, z2, flS_nx, ev_seq, ev_sif, t, Rs.fl_ok, ff, ev_pass, flS_nx, ev_seq, z3', flS_nx]
      simp (disch := omega) [-lenF, -ix_lst, -ix_tuf, k5, i4, intsF_mod, len_sD, mz, ← hk, ix_sD hz]
      simp [s1]
    · have w1 : (SS.par (K := K) 8 11 (SX.op oMod (SX.op oAdd (SX.op oMul (SX.op oIx (SX.var 3) (SX.int 5)) (SX.int 720)) (SX.op oIx (SX.var 3) (SX.int 6))) (SX.int 4096)) (SX.op oMod (SX.op oAdd (SX.op oMul (SX.op oIx (SX.var 3) (SX.int 7)) (SX.int 720)) (SX.op oIx (SX.var 3) (SX.int 8))) (SX.int 4096))).ev [.fz (.int v), .fz (sD ms), .fz (sD rs), .own (.lst (xs.map D.int)), .fz (.int kd), .no, .no, .no, .no, .own (.lst (as.map D.int)), .no, .no, .no] = .nx [.fz (.int v), .fz (sD ms), .fz (sD rs), .own (.lst (xs.map D.int)), .fz (.int kd), .no, .no, .no, .fz (.int ((nth xs 5 * 720 + nth xs 6) % 4096)), .own (.lst (as.map D.int)), .no, .fz (.int ((nth xs 7 * 720 + nth xs 8) % 4096)), .no] := by
        simp [-ix_lst, i5, i6, i7, i8, mu5, mu7, intsF_mod]
      have o1 : 0 ≤ (nth xs 5 * 720 + nth xs 6) % 4096 ∧ (nth xs 5 * 720 + nth xs 6) % 4096 < 4096 := by omega
      have o2 : 0 ≤ (nth xs 7 * 720 + nth xs 8) % 4096 ∧ (nth xs 7 * 720 + nth xs 8) % 4096 < 4096 := by omega
      generalize (nth xs 5 * 720 + nth xs 6) % 4096 = one at w1 o1
      generalize (nth xs 7 * 720 + nth xs 8) % 4096 = two at w1 o2
      have w0 : (SS.ite (K := K) (ST.of (SX.op oLtX (SX.var 4) (SX.int 5)))
    (SS.seq (SS.asg 10 (SX.op oMod (SX.op oIx (SX.var 3) (SX.int 4)) (SX.cb oLen (SA.cons (SX.var 1) SA.nil))))
    (SS.ret (SX.tup (SA.cons (SX.tup (SA.cons (SX.str "maker") (SA.cons (SX.op oIx (SX.var 1) (SX.var 10)) (SA.cons (SX.cb oTup (SA.cons (SX.var 9) SA.nil)) SA.nil)))) (SA.cons (SX.op oAdd (SX.lst (SA.cons (SX.int 3) (SA.cons (SX.var 10) (SA.cons (SX.cb oLen (SA.cons (SX.var 9) SA.nil)) SA.nil)))) (SX.var 9)) SA.nil))))) SS.pass).ev [.fz (.int v), .fz (sD ms), .fz (sD rs), .own (.lst (xs.map D.int)), .fz (.int kd), .no, .no, .no, .no, .own (.lst (as.map D.int)), .no, .no, .no] = .nx [.fz (.int v), .fz (sD ms), .fz (sD rs), .own (.lst (xs.map D.int)), .fz (.int kd), .no, .no, .no, .no, .own (.lst (as.map D.int)), .no, .no, .no] := by
        rw [ev_sif]
        simp [k5]
      obtain ⟨E8, hE8⟩ : ∃ E8 : En, E8 = [.own (.lst (xs.map D.int)), .fz (.int kd), .no, .no, .no, .fz (.int one), .own (.lst (as.map D.int)), .no, .fz (.int two), .no] := ⟨_, rfl⟩
      by_cases e5 : kd = 5
      · refine fin (c := .tup [.str "apply", .int one, .int two]) (due := [4, one, two]) (E' := E8) ?_ (.ap one two o1.1 o1.2 o2.1 o2.2)
        unfold b_law_cell
        rw [ev_seq, z1, flS_nx, ev_seq, z2, flS_nx, ev_seq, ev_sif, t, Rs.fl_ok, ff, ev_pass, flS_nx, ev_seq, z3', flS_nx, ev_seq, w0, flS_nx, ev_seq, w1, flS_nx, hE8]
        simp [e5]
      · by_cases e6 : kd = 6
        · obtain ⟨k, z, hk, hz⟩ := mod_ix rs hrs (nth xs 9)
          have mz : (0 : Int) < rs.length := by omega
          refine fin (c := .tup [.str "row", .str z]) (due := [5, (k : Int)]) (E' := E8) ?_ (.row k z hz)
          unfold b_law_cell
          rw [ev_seq, z1, flS_nx, ev_seq, z2, flS_nx, ev_seq, ev_sif, t, Rs.fl_ok, ff, ev_pass, flS_nx, ev_seq, z3', flS_nx, ev_seq, w0, flS_nx, ev_seq, w1, flS_nx, hE8]
          simp (disch := omega) [-lenF, -ix_lst, -ix_tuf, e6, i9, intsF_mod, len_sD, mz, ← hk, ix_sD hz]
        · by_cases p9 : nth xs 9 % 2 = 0
          · refine fin (c := .tup [.str "lead", .int one]) (due := [6, one]) (E' := E8) ?_ (.lead one o1.1 o1.2)
            unfold b_law_cell
            rw [ev_seq, z1, flS_nx, ev_seq, z2, flS_nx, ev_seq, ev_sif, t, Rs.fl_ok, ff, ev_pass, flS_nx, ev_seq, z3', flS_nx, ev_seq, w0, flS_nx, ev_seq, w1, flS_nx, hE8]
            simp [i9, e5, e6, intsF_mod, p9]
          · have p91 : nth xs 9 % 2 = 1 := by omega
            refine fin (c := .tup [.str "empty"]) (due := [7, 0]) (E' := E8) ?_ .emp
            unfold b_law_cell
            rw [ev_seq, z1, flS_nx, ev_seq, z2, flS_nx, ev_seq, ev_sif, t, Rs.fl_ok, ff, ev_pass, flS_nx, ev_seq, z3', flS_nx, ev_seq, w0, flS_nx, ev_seq, w1, flS_nx, hE8]
            simp [i9, e5, e6, intsF_mod, p91]
end G00
set_option Elab.async false
set_option linter.all false
set_option maxRecDepth 100000
namespace G00
open PySem PySem.Spec PyProof.Rows L2 RZ RT DX
variable {K : PySem.W.Frag} {mg : Str → Option Value} {A : Ads}
theorem cell_at_int (T : Txt K mg A) (ns : List Int) (k : Nat) : f_law_cell_at T [.fz (.rdl (ns.map D.int)), .fz (.int k)] = .ok (.fz (.int (nth ns k))) [.no, .no] := by
  rw [cell_at_eq]
  by_cases h : k < ns.length
  · rw [List.getD_eq_getElem?_getD, List.getElem?_map, List.getElem?_eq_getElem h, nth_get h]; rfl
  · rw [nth_ge (by omega), List.getD_eq_getElem?_getD, List.getElem?_eq_none (by simp; omega)]; rfl
theorem CellOf.len {ms rs : List Str} {c : D} {due : List Int} (h : CellOf ms rs c due) : 2 ≤ due.length ∧ due.length ≤ 42 := by
  cases h <;> simp <;> omega
theorem CellOf.le {ms rs : List Str} {c : D} {due : List Int} (h : CellOf ms rs c due) (hm : ms.length ≤ 1000) (hr : rs.length ≤ 1000) : ∀ d ∈ due, 0 ≤ d ∧ d ≤ 65535 := by
  cases h with
  | num fs neg hf hl hn =>
    intro d hd
    rcases List.mem_cons.mp hd with rfl | hd
    · split <;> omega
    · rcases List.mem_cons.mp hd with rfl | hd
      · omega
      · have := hf.mem d hd; omega
  | mk k z as hz ha hl =>
    intro d hd
    have := lt_of_get hz
    rcases List.mem_cons.mp hd with rfl | hd
    · omega
    · rcases List.mem_cons.mp hd with rfl | hd
      · omega
      · rcases List.mem_cons.mp hd with rfl | hd
        · omega
        · have := ha d hd; omega
  | ap x y _ _ _ _ => intro d hd; simp at hd; omega
  | row k z hz =>
    have := lt_of_get hz
    intro d hd; simp at hd; omega
  | lead x _ _ => intro d hd; simp at hd; omega
  | emp => intro d hd; simp at hd; omega
theorem Sm.ints (n : Nat) (l : List Int) : ∀ d ∈ l.map D.int, Sm (n + 1) d d := fun d hd => by
  obtain ⟨i, _, rfl⟩ := List.mem_map.mp hd
  exact .int n i
theorem CellOf.sm {ms rs : List Str} {c : D} {due : List Int} (h : CellOf ms rs c due) : Sm 5 c c := by
  cases h with
  | num fs neg hf hl hn =>
    refine .tup 4 _ (fun d hd => ?_) (by simp)
    simp at hd
    rcases hd with rfl | rfl
    · exact .str 3 _
    · exact .int 3 _
  | mk k z as hz ha hl =>
    refine .tup 4 _ (fun d hd => ?_) (by simp)
    simp at hd
    rcases hd with rfl | rfl | rfl
    · exact .str 3 _
    · exact .str 3 _
    · exact .tup 3 _ (Sm.ints 2 as) (by simp; omega)
  | ap x y _ _ _ _ =>
    refine .tup 4 _ (fun d hd => ?_) (by simp)
    simp at hd
    rcases hd with rfl | rfl | rfl
    · exact .str 3 _
    · exact .int 3 _
    · exact .int 3 _
  | row k z hz =>
    refine .tup 4 _ (fun d hd => ?_) (by simp)
    simp at hd
    rcases hd with rfl | rfl
    · exact .str 3 _
    · exact .str 3 _
  | lead x _ _ =>
    refine .tup 4 _ (fun d hd => ?_) (by simp)
    simp at hd
    rcases hd with rfl | rfl
    · exact .str 3 _
    · exact .int 3 _
  | emp =>
    refine .tup 4 _ (fun d hd => ?_) (by simp)
    simp at hd
    rw [hd]; exact .str 3 _
/-! ### the memory that the law lays -/
theorem zeros (n : Nat) (hn : n ≤ 5000) : mulF (.lst [.int 0]) (.int (n : Nat)) = some (.tmp (.lst ((List.replicate n (0 : Int)).map D.int))) := by
  show (if in62 (n : Nat) = true ∧ ([D.int 0].length * ((n : Nat) : Int).toNat ≤ sizeLine) then _ else _) = _
  rw [if_pos ⟨in62_nat (by omega), size_le (by simp; omega)⟩]
  simp
def w40 (ys : List Int) : List Int := (List.range 40).map fun j => nth ys (3 + j)
structure W0 (w : List Int) : Prop where
  len : w.length = 4096
  bd : ∀ x ∈ w, 0 ≤ x ∧ x ≤ 65535
theorem w0_ok {ys : List Int} (h : Nums 60 ys) (zs : List Int) (hz : zs.length = 4056) (hz2 : ∀ z ∈ zs, z = 0) : W0 (w40 ys ++ zs) := by
  refine ⟨by unfold w40; simp [hz], fun x hx => ?_⟩
  rcases List.mem_append.mp hx with hx | hx
  · unfold w40 at hx
    obtain ⟨k, _, rfl⟩ := List.mem_map.mp hx
    have := h.lo (3 + k)
    have := h.hi (3 + k)
    omega
  · rw [hz2 x hx]; omega
def lay (w : List Int) (a : Nat) (due : List Int) : List Int := w.take a ++ due ++ w.drop (a + due.length)
theorem nth_mem {xs : List Int} {P : Int → Prop} (h0 : P 0) (h : ∀ x ∈ xs, P x) (k : Nat) : P (nth xs k) := by
  by_cases q : k < xs.length
  · rw [← nth_get q]; exact h _ (List.getElem_mem q)
  · rw [nth_ge (by omega)]; exact h0
theorem lay_mem {w : List Int} (h : W0 w) {a : Nat} {due : List Int} (hd : ∀ d ∈ due, 0 ≤ d ∧ d ≤ 65535) (hl : a + due.length ≤ 4096) : Mem (lay w a due) := by
  have b : ∀ x ∈ lay w a due, 0 ≤ x ∧ x ≤ 65535 := fun x hx => by
    unfold lay at hx
    rcases List.mem_append.mp hx with hx | hx
    · rcases List.mem_append.mp hx with hx | hx
      · exact h.bd x (List.mem_of_mem_take hx)
      · exact hd x hx
    · exact h.bd x (List.mem_of_mem_drop hx)
  have l := h.len
  refine ⟨?_, fun k => (nth_mem (P := fun x => 0 ≤ x ∧ x ≤ 65535) (by omega) b k).1, fun k => (nth_mem (P := fun x => 0 ≤ x ∧ x ≤ 65535) (by omega) b k).2⟩
  unfold lay
  simp
  omega
theorem lay_lies {w : List Int} (h : W0 w) {a : Nat} {due : List Int} (hl : a + due.length ≤ 4096) : Lies (lay w a due) a due := by
  refine ⟨fun k hk => ?_, hl⟩
  have l := h.len
  have t : (w.take a).length = a := by simp; omega
  unfold nth lay
  rw [List.getD_eq_getElem?_getD, List.getD_eq_getElem?_getD, List.append_assoc, List.getElem?_append_right (by omega), t, Nat.add_sub_cancel_left, List.getElem?_append_left hk]
theorem memD_filter (ws : List Int) (n : Nat) : ((rngD 0 n).filter fun d => match d with | .int i => decide (nth ws i.toNat ≠ 0) | _ => false).map (fun d => match d with | .int i => pr ws i.toNat | d => d) = memD ws n := by
  have e : rngD 0 n = (List.range n).map fun k => .int (k : Nat) := by
    unfold rngD
    exact List.map_congr_left fun k _ => by simp
  rw [e, List.filter_map, List.map_map]
  rfl
end G00
set_option Elab.async false
set_option linter.all false
set_option maxRecDepth 100000
namespace G00
open PySem PySem.Spec PyProof.Rows L2 RZ RT DX
variable {K : PySem.W.Frag} {mg : Str → Option Value} {A : Ads}
def lawB (T : Txt K mg A) : SS K := (SS.seq (SS.asg 5 (SX.call 2 (f_law_numbers T) (SP.cons (SX.op oDiv (SX.call 2 (f_law_cell_at T) (SP.cons (SX.var 0) (SP.cons (SX.op oAdd (SX.int 3) (SX.var 4)) SP.nil))) (SX.int 3)) (SP.cons (SX.int 60) SP.nil))))
    (SS.seq (SS.asgG (SG.tup 2 (SGs.cons (SG.name 6) (SGs.cons (SG.name 7) SGs.nil))) (SX.call 3 (f_law_cell T) (SP.cons (SX.call 2 (f_law_cell_at T) (SP.cons (SX.var 0) (SP.cons (SX.op oAdd (SX.int 3) (SX.var 4)) SP.nil))) (SP.cons (SX.var 2) (SP.cons (SX.var 3) SP.nil)))))
    (SS.seq (SS.ite (ST.not (ST.of (SX.call 2 (f_law_is_same T 5) (SP.cons (SX.call 3 (ffigures_of T) (SP.cons (SX.var 6) (SP.cons (SX.var 2) (SP.cons (SX.var 3) SP.nil)))) (SP.cons (SX.cb oTuf (SA.cons (SX.var 7) SA.nil)) SP.nil)))))
    (SS.ret (SX.bl false)) SS.pass)
    (SS.seq (SS.asg 8 (SX.op oIx (SX.lst (SA.cons (SX.op oSub (SX.int 4096) (SX.cb oLen (SA.cons (SX.var 7) SA.nil))) (SA.cons (SX.op oMod (SX.op oAdd (SX.op oMul (SX.op oIx (SX.var 5) (SX.int 0)) (SX.int 720)) (SX.op oIx (SX.var 5) (SX.int 1))) (SX.op oSub (SX.int 4097) (SX.cb oLen (SA.cons (SX.var 7) SA.nil)))) SA.nil))) (SX.op oMod (SX.op oIx (SX.var 5) (SX.int 2)) (SX.int 2))))
    (SS.seq (SS.asg 9 (SX.op oAdd (SX.lc (SI.rng1 (SX.int 40)) (SG.name 11) ST.yes (SX.cb oInt (SA.cons (SX.op oIx (SX.var 5) (SX.op oAdd (SX.int 3) (SX.var 11))) SA.nil)) [11] (fun _ h => h)) (SX.op oMul (SX.lst (SA.cons (SX.int 0) SA.nil)) (SX.int 4056))))
    (SS.seq (SS.setSl 9 (SX.var 8) (SX.op oAdd (SX.var 8) (SX.cb oLen (SA.cons (SX.var 7) SA.nil))) (SX.var 7))
    (SS.seq (SS.asg 10 (SX.cb oTuf (SA.cons (SX.lc (SI.rng1 (SX.int 4096)) (SG.name 11) (ST.of (SX.op oNe (SX.op oIx (SX.var 9) (SX.var 11)) (SX.int 0))) (SX.tup (SA.cons (SX.var 11) (SA.cons (SX.op oIx (SX.var 9) (SX.var 11)) SA.nil))) [11] (fun _ h => h)) SA.nil)))
    (SS.ite (ST.not (ST.of (SX.call 2 (f_law_is_same T 5) (SP.cons (SX.call 4 (fcell_at T) (SP.cons (SX.var 10) (SP.cons (SX.var 8) (SP.cons (SX.var 2) (SP.cons (SX.var 3) SP.nil))))) (SP.cons (SX.var 6) SP.nil)))))
    (SS.ret (SX.bl false)) SS.pass))))))))
theorem len_lst (ds : List D) : lenF [.lst ds] = some (.fz (.int ds.length)) := rfl
theorem w40_ev (ys : List Int) (h : Nums 60 ys) (a b c d e f g i j k : Sl) :
    (SX.lc (K := K) (SI.rng1 (SX.int 40)) (SG.name 11) ST.yes (SX.cb oInt (SA.cons (SX.op oIx (SX.var 5) (SX.op oAdd (SX.int 3) (SX.var 11))) SA.nil)) [11] (fun _ h => h)).ev [a, b, c, d, e, .own (.lst (ys.map D.int)), f, g, i, j, k, .no] = .ok (.tmp (.lst ((w40 ys).map D.int))) [a, b, c, d, e, .own (.lst (ys.map D.int)), f, g, i, j, k, .no] := by
  have e' : ((w40 ys).map D.int) = (rngD 0 40).map fun d => match d with | .int i => .int (nth ys (3 + i.toNat)) | d => d := by
    rw [rngD0]
    unfold w40
    rw [List.map_map]
    exact List.map_congr_left fun k _ => rfl
  rw [e']
  refine ev_lcm (items := rngD 0 40) ?_ (by simp) (.inl rfl) _ (fun d hd => ?_) (by rw [rngD_len]; omega)
  · have := in62_nat (n := 40) (by omega)
    simp at this
    simp [this]
  · obtain ⟨k, hk, rfl⟩ := rngD_mem (lo := 0) hd
    rw [Nat.zero_add]
    refine ⟨_, ?_, .inl rfl⟩
    have i1 := h.ix (i := 3 + (k : Int)) (by omega) (by omega)
    have e3 : (3 + (k : Int)).toNat = 3 + k := by omega
    rw [e3] at i1
    simp [i1]
theorem mem_ev (ws : List Int) (h : ws.length = 4096) (a b c d e f g i j k : Sl) :
    (SX.lc (K := K) (SI.rng1 (SX.int 4096)) (SG.name 11) (ST.of (SX.op oNe (SX.op oIx (SX.var 9) (SX.var 11)) (SX.int 0))) (SX.tup (SA.cons (SX.var 11) (SA.cons (SX.op oIx (SX.var 9) (SX.var 11)) SA.nil))) [11] (fun _ h => h)).ev [a, b, c, d, e, f, g, i, j, .own (.lst (ws.map D.int)), k, .no] = .ok (.tmp (.lst (memD ws 4096))) [a, b, c, d, e, f, g, i, j, .own (.lst (ws.map D.int)), k, .no] := by
  rw [← memD_filter]
  refine ev_lc1 (items := rngD 0 4096) ?_ (by simp) (.inl rfl) _ _ (fun d hd => ?_) (fun d hd _ => ?_) (by rw [rngD_len]; omega)
  · have := in62_nat (n := 4096) (by omega)
    simp at this
    simp [this]
  · obtain ⟨k, hk, rfl⟩ := rngD_mem (lo := 0) hd
    rw [Nat.zero_add]
    have i1 := ix_int (xs := ws) (i := (k : Int)) (by omega) (by omega)
    simp at i1
    simp [i1]
  · obtain ⟨k, hk, rfl⟩ := rngD_mem (lo := 0) hd
    rw [Nat.zero_add]
    have i1 := ix_int (xs := ws) (i := (k : Int)) (by omega) (by omega)
    simp at i1
    refine ⟨_, ?_, .inl rfl⟩
    simp [i1, pr]
theorem at_ix (ys : List Int) (h : Nums 60 ys) (n : Nat) (hn : n ≤ 42) : ∃ a : Nat, a + n ≤ 4096 ∧ ixF (.lst [.int (4096 - (n : Int)), .int ((nth ys 0 * 720 + nth ys 1) % (4097 - (n : Int)))]) (.int (nth ys 2 % 2)) = some (.fz (.int a)) := by
  rw [ix_lst, atI_int (by omega)]
  have : (nth ys 2 % 2).toNat < 2 := by omega
  generalize (nth ys 2 % 2).toNat = j at this
  match j, this with
  | 0, _ =>
    refine ⟨4096 - n, by omega, ?_⟩
    have : ((4096 - n : Nat) : Int) = 4096 - (n : Int) := by omega
    rw [this]; rfl
  | 1, _ =>
    have lt : (nth ys 0 * 720 + nth ys 1) % (4097 - (n : Int)) < 4097 - (n : Int) := Int.emod_lt_of_pos _ (by omega)
    have ge : 0 ≤ (nth ys 0 * 720 + nth ys 1) % (4097 - (n : Int)) := Int.emod_nonneg _ (by omega)
    refine ⟨((nth ys 0 * 720 + nth ys 1) % (4097 - (n : Int))).toNat, by omega, ?_⟩
    have : ((((nth ys 0 * 720 + nth ys 1) % (4097 - (n : Int))).toNat : Nat) : Int) = (nth ys 0 * 720 + nth ys 1) % (4097 - (n : Int)) := by omega
    rw [this]; rfl
set_option maxHeartbeats 2000000 in
theorem lawB_eq (T : Txt K mg A) (ns : List Int) (ms rs : List Str) (hm : ms.Nodup) (hr : rs.Nodup) (hm0 : 0 < ms.length) (hr0 : 0 < rs.length) (hm1 : ms.length ≤ 1000) (hr1 : rs.length ≤ 1000) (k : Nat) (x1 s5 s6 s7 s8 s9 s10 : Sl) :
    ∃ t5 t6 t7 t8 t9 t10 : Sl, (lawB T).ev [.fz (.rdl (ns.map D.int)), x1, .fz (sD ms), .fz (sD rs), .fz (.int k), s5, s6, s7, s8, s9, s10, .no] = .nx [.fz (.rdl (ns.map D.int)), x1, .fz (sD ms), .fz (sD rs), .fz (.int k), t5, t6, t7, t8, t9, t10, .no] := by
  have ca : ∀ E, callE (f_law_cell_at T) E [.d (.rdl (ns.map D.int)), .d (.int (3 + (k : Int)))] = .ok (.fz (.int (nth ns (3 + k)))) E := fun E => by
    have := callE_2 (E := E) (cell_at_int T ns (3 + k))
    rw [show ((3 + k : Nat) : Int) = 3 + (k : Int) by omega] at this
    exact this
  obtain ⟨ys, h, nu⟩ := numbers_N T (nth ns (3 + k) / 3) 60 (by omega)
  have nu' := fun E => callE_2 (E := E) nu
  simp only [Int.cast_ofNat_Int] at nu'
  obtain ⟨c, due, lc, hc⟩ := law_cell_eq T (nth ns (3 + k)) ms rs hm0 hr0
  have lc' := fun E => callE_3 (E := E) lc
  obtain ⟨l2, l42⟩ := hc.len
  have fg := fun E => callE_3 (E := E) (figures_eq T hc hm hr)
  have sm1 := fun E => callE_2 (E := E) (same_eq T 5 (Sm.tuf 4 (due.map D.int) (Sm.ints 3 due) (by simp; omega)))
  have sm2 := fun E => callE_2 (E := E) (same_eq T 5 hc.sm)
  obtain ⟨a, ha, ea⟩ := at_ix ys h due.length l42
  have i0 := fx h 0 (by omega)
  have i1 := fx h 1 (by omega)
  have i2 := fx h 2 (by omega)
  simp only [Int.cast_ofNat_Int] at i0 i1 i2
  have w0 := w0_ok h (List.replicate 4056 (0 : Int)) (by simp) (fun z hz => (List.mem_replicate.mp hz).2)
  have hM := lay_mem w0 (hc.le hm1 hr1) ha
  have cm := fun E => callE_4 (E := E) (cell_at_mem T hM hc (lay_lies w0 ha) l2)
  obtain ⟨W, eW⟩ : ∃ W, W = lay (w40 ys ++ List.replicate 4056 (0 : Int)) a due := ⟨_, rfl⟩
  rw [← eW] at hM cm
  have zz := zeros 4056 (by omega)
  simp only [Int.cast_ofNat_Int] at zz
  have z1 : (SS.asg (K := K) 5 (SX.call 2 (f_law_numbers T) (SP.cons (SX.op oDiv (SX.call 2 (f_law_cell_at T) (SP.cons (SX.var 0) (SP.cons (SX.op oAdd (SX.int 3) (SX.var 4)) SP.nil))) (SX.int 3)) (SP.cons (SX.int 60) SP.nil)))).ev [.fz (.rdl (ns.map D.int)), x1, .fz (sD ms), .fz (sD rs), .fz (.int k), s5, s6, s7, s8, s9, s10, .no] = .nx [.fz (.rdl (ns.map D.int)), x1, .fz (sD ms), .fz (sD rs), .fz (.int k), .own (.lst (ys.map D.int)), s6, s7, s8, s9, s10, .no] := by
    simp (disch := decide) [addF, ca, intsF_div, nu']
  have z2 : (SS.asgG (K := K) (SG.tup 2 (SGs.cons (SG.name 6) (SGs.cons (SG.name 7) SGs.nil))) (SX.call 3 (f_law_cell T) (SP.cons (SX.call 2 (f_law_cell_at T) (SP.cons (SX.var 0) (SP.cons (SX.op oAdd (SX.int 3) (SX.var 4)) SP.nil))) (SP.cons (SX.var 2) (SP.cons (SX.var 3) SP.nil))))).ev [.fz (.rdl (ns.map D.int)), x1, .fz (sD ms), .fz (sD rs), .fz (.int k), .own (.lst (ys.map D.int)), s6, s7, s8, s9, s10, .no] = .nx [.fz (.rdl (ns.map D.int)), x1, .fz (sD ms), .fz (sD rs), .fz (.int k), .own (.lst (ys.map D.int)), .fz c, .fz (.lst (due.map D.int)), s8, s9, s10, .no] := by
    simp [addF, ca, lc']
  have z3 : (SS.ite (K := K) (ST.not (ST.of (SX.call 2 (f_law_is_same T 5) (SP.cons (SX.call 3 (ffigures_of T) (SP.cons (SX.var 6) (SP.cons (SX.var 2) (SP.cons (SX.var 3) SP.nil)))) (SP.cons (SX.cb oTuf (SA.cons (SX.var 7) SA.nil)) SP.nil)))))
    (SS.ret (SX.bl false)) SS.pass).ev [.fz (.rdl (ns.map D.int)), x1, .fz (sD ms), .fz (sD rs), .fz (.int k), .own (.lst (ys.map D.int)), .fz c, .fz (.lst (due.map D.int)), s8, s9, s10, .no] = .nx [.fz (.rdl (ns.map D.int)), x1, .fz (sD ms), .fz (sD rs), .fz (.int k), .own (.lst (ys.map D.int)), .fz c, .fz (.lst (due.map D.int)), s8, s9, s10, .no] := by
    simp [fg, tufF, sm1]
  have z4 : (SS.asg (K := K) 8 (SX.op oIx (SX.lst (SA.cons (SX.op oSub (SX.int 4096) (SX.cb oLen (SA.cons (SX.var 7) SA.nil))) (SA.cons (SX.op oMod (SX.op oAdd (SX.op oMul (SX.op oIx (SX.var 5) (SX.int 0)) (SX.int 720)) (SX.op oIx (SX.var 5) (SX.int 1))) (SX.op oSub (SX.int 4097) (SX.cb oLen (SA.cons (SX.var 7) SA.nil)))) SA.nil))) (SX.op oMod (SX.op oIx (SX.var 5) (SX.int 2)) (SX.int 2)))).ev [.fz (.rdl (ns.map D.int)), x1, .fz (sD ms), .fz (sD rs), .fz (.int k), .own (.lst (ys.map D.int)), .fz c, .fz (.lst (due.map D.int)), s8, s9, s10, .no] = .nx [.fz (.rdl (ns.map D.int)), x1, .fz (sD ms), .fz (sD rs), .fz (.int k), .own (.lst (ys.map D.int)), .fz c, .fz (.lst (due.map D.int)), .fz (.int a), s9, s10, .no] := by
    have b0 := h.lo 0
    have b1 := h.hi 0
    simp (disch := first | assumption | omega | decide | (refine mulOk_64 ?_ ?_ <;> omega)) [-ix_lst, len_lst, i0, i1, i2, ea, addF, intsF_mod, mulF_int]
  have z5 : (SS.asg (K := K) 9 (SX.op oAdd (SX.lc (SI.rng1 (SX.int 40)) (SG.name 11) ST.yes (SX.cb oInt (SA.cons (SX.op oIx (SX.var 5) (SX.op oAdd (SX.int 3) (SX.var 11))) SA.nil)) [11] (fun _ h => h)) (SX.op oMul (SX.lst (SA.cons (SX.int 0) SA.nil)) (SX.int 4056)))).ev [.fz (.rdl (ns.map D.int)), x1, .fz (sD ms), .fz (sD rs), .fz (.int k), .own (.lst (ys.map D.int)), .fz c, .fz (.lst (due.map D.int)), .fz (.int a), s9, s10, .no] = .nx [.fz (.rdl (ns.map D.int)), x1, .fz (sD ms), .fz (sD rs), .fz (.int k), .own (.lst (ys.map D.int)), .fz c, .fz (.lst (due.map D.int)), .fz (.int a), .own (.lst ((w40 ys ++ List.replicate 4056 (0 : Int)).map D.int)), s10, .no] := by
    have q := w40_ev (K := K) ys h
    have sl : (w40 ys).length = 40 := by simp [w40]
    simp [-ev_lc, q, zz, addF, sl]
  have z6 : (SS.setSl (K := K) 9 (SX.var 8) (SX.op oAdd (SX.var 8) (SX.cb oLen (SA.cons (SX.var 7) SA.nil))) (SX.var 7)).ev [.fz (.rdl (ns.map D.int)), x1, .fz (sD ms), .fz (sD rs), .fz (.int k), .own (.lst (ys.map D.int)), .fz c, .fz (.lst (due.map D.int)), .fz (.int a), .own (.lst ((w40 ys ++ List.replicate 4056 (0 : Int)).map D.int)), s10, .no] = .nx [.fz (.rdl (ns.map D.int)), x1, .fz (sD ms), .fz (sD rs), .fz (.int k), .own (.lst (ys.map D.int)), .fz c, .fz (.lst (due.map D.int)), .fz (.int a), .own (.lst (W.map D.int)), s10, .no] := by
    have sl : (w40 ys).length = 40 := by simp [w40]
    have t1 : (a : Int) + due.length ≤ 4096 := by omega
    have t4 : (a : Int) ≤ a + due.length := by omega
    have t2 : ((a : Int) + due.length).toNat = a + due.length := by omega
    have t3 : 40 + 4056 + due.length ≤ 16777216 := by omega
    rw [eW]
    simp only [List.map_append]
    simp [len_lst, addF, slcE, sl, t1, t2, t3, t4, lay, List.map_take, List.map_drop]
  have z7 : (SS.asg (K := K) 10 (SX.cb oTuf (SA.cons (SX.lc (SI.rng1 (SX.int 4096)) (SG.name 11) (ST.of (SX.op oNe (SX.op oIx (SX.var 9) (SX.var 11)) (SX.int 0))) (SX.tup (SA.cons (SX.var 11) (SA.cons (SX.op oIx (SX.var 9) (SX.var 11)) SA.nil))) [11] (fun _ h => h)) SA.nil))).ev [.fz (.rdl (ns.map D.int)), x1, .fz (sD ms), .fz (sD rs), .fz (.int k), .own (.lst (ys.map D.int)), .fz c, .fz (.lst (due.map D.int)), .fz (.int a), .own (.lst (W.map D.int)), s10, .no] = .nx [.fz (.rdl (ns.map D.int)), x1, .fz (sD ms), .fz (sD rs), .fz (.int k), .own (.lst (ys.map D.int)), .fz c, .fz (.lst (due.map D.int)), .fz (.int a), .own (.lst (W.map D.int)), .fz (.tuf (memD W 4096)), .no] := by
    have q := mem_ev (K := K) W hM.len
    simp [-ev_lc, q, tufF]
  have z8 : (SS.ite (K := K) (ST.not (ST.of (SX.call 2 (f_law_is_same T 5) (SP.cons (SX.call 4 (fcell_at T) (SP.cons (SX.var 10) (SP.cons (SX.var 8) (SP.cons (SX.var 2) (SP.cons (SX.var 3) SP.nil))))) (SP.cons (SX.var 6) SP.nil)))))
    (SS.ret (SX.bl false)) SS.pass).ev [.fz (.rdl (ns.map D.int)), x1, .fz (sD ms), .fz (sD rs), .fz (.int k), .own (.lst (ys.map D.int)), .fz c, .fz (.lst (due.map D.int)), .fz (.int a), .own (.lst (W.map D.int)), .fz (.tuf (memD W 4096)), .no] = .nx [.fz (.rdl (ns.map D.int)), x1, .fz (sD ms), .fz (sD rs), .fz (.int k), .own (.lst (ys.map D.int)), .fz c, .fz (.lst (due.map D.int)), .fz (.int a), .own (.lst (W.map D.int)), .fz (.tuf (memD W 4096)), .no] := by
    simp [cm, sm2]
  unfold lawB
  rw [ev_seq, z1, flS_nx, ev_seq, z2, flS_nx, ev_seq, z3, flS_nx, ev_seq, z4, flS_nx, ev_seq, z5, flS_nx, ev_seq, z6, flS_nx, ev_seq, z7, flS_nx, z8]
  exact ⟨_, _, _, _, _, _, rfl⟩
theorem law_loop (T : Txt K mg A) (ns : List Int) (ms rs : List Str) (hm : ms.Nodup) (hr : rs.Nodup) (hm0 : 0 < ms.length) (hr0 : 0 < rs.length) (hm1 : ms.length ≤ 1000) (hr1 : rs.length ≤ 1000) (x1 : Sl) : ∀ (ks : List Nat) (s4 s5 s6 s7 s8 s9 s10 : Sl),
    ∃ t4 t5 t6 t7 t8 t9 t10 : Sl, forL (SG.name (K := K) 4).ev (lawB T).ev (ks.map fun k : Nat => D.int k) [.fz (.rdl (ns.map D.int)), x1, .fz (sD ms), .fz (sD rs), s4, s5, s6, s7, s8, s9, s10, .no] = .nx [.fz (.rdl (ns.map D.int)), x1, .fz (sD ms), .fz (sD rs), t4, t5, t6, t7, t8, t9, t10, .no]
  | [], s4, s5, s6, s7, s8, s9, s10 => ⟨s4, s5, s6, s7, s8, s9, s10, by simp [forL]⟩
  | k :: ks, s4, s5, s6, s7, s8, s9, s10 => by
    obtain ⟨t5, t6, t7, t8, t9, t10, e⟩ := lawB_eq T ns ms rs hm hr hm0 hr0 hm1 hr1 k x1 s5 s6 s7 s8 s9 s10
    obtain ⟨u4, u5, u6, u7, u8, u9, u10, e2⟩ := law_loop T ns ms rs hm hr hm0 hr0 hm1 hr1 x1 ks (.fz (.int k)) t5 t6 t7 t8 t9 t10
    refine ⟨u4, u5, u6, u7, u8, u9, u10, ?_⟩
    simp [forL, e, e2]
theorem law_true (T : Txt K mg A) (ns : List Int) (hl : ns.length ≤ 63) : ∃ E, flaw T [.fz (.rdl (ns.map D.int))] = .ok (.fz (.bl true)) E := by
  have c0 := fun E => callE_2 (E := E) (cell_at_int T ns 0)
  have c1 := fun E => callE_2 (E := E) (cell_at_int T ns 1)
  have c2 := fun E => callE_2 (E := E) (cell_at_int T ns 2)
  obtain ⟨xs, h, nu⟩ := numbers_N T (nth ns 0) 6 (by omega)
  have nu' := fun E => callE_2 (E := E) nu
  have i0 := fx h 0 (by omega)
  have i1 := fx h 1 (by omega)
  obtain ⟨n0, hn0⟩ : ∃ n : Nat, (n : Int) = nth xs 0 % 27 := ⟨(nth xs 0 % 27).toNat, by omega⟩
  obtain ⟨n1, hn1⟩ : ∃ n : Nat, (n : Int) = 1 + nth xs 1 % 20 := ⟨(1 + nth xs 1 % 20).toNat, by omega⟩
  obtain ⟨gs, g1, g2, g3⟩ := greats_eq T (nth ns 1) n0 (by omega)
  obtain ⟨ws, w1, w2, w3⟩ := words_eq T (nth ns 2) n1 (by omega)
  have g1' := fun E => callE_2 (E := E) g1
  have w1' := fun E => callE_2 (E := E) w1
  rw [hn0] at g1'
  rw [hn1] at w1'
  simp only [Int.cast_ofNat_Int, Int.ofNat_zero, Int.cast_ofNat_Int] at c0 c1 c2 nu' i0 i1
  have gl : gs.length ≤ 100 := by omega
  have z1 : (SS.asg (K := K) 1 (SX.call 2 (f_law_numbers T) (SP.cons (SX.call 2 (f_law_cell_at T) (SP.cons (SX.var 0) (SP.cons (SX.int 0) SP.nil))) (SP.cons (SX.int 6) SP.nil)))).ev [.fz (.rdl (ns.map D.int)), .no, .no, .no, .no, .no, .no, .no, .no, .no, .no, .no] = .nx [.fz (.rdl (ns.map D.int)), .own (.lst (xs.map D.int)), .no, .no, .no, .no, .no, .no, .no, .no, .no, .no] := by
    simp [c0, nu']
  have z2 : (SS.asg (K := K) 2 (SX.cb oTuf (SA.cons (SX.op oAdd (SX.lst (SA.cons (SX.str "False") (SA.cons (SX.str "True") SA.nil))) (SX.call 2 (f_law_greats T) (SP.cons (SX.call 2 (f_law_cell_at T) (SP.cons (SX.var 0) (SP.cons (SX.int 1) SP.nil))) (SP.cons (SX.op oMod (SX.op oIx (SX.var 1) (SX.int 0)) (SX.int 27)) SP.nil)))) SA.nil))).ev [.fz (.rdl (ns.map D.int)), .own (.lst (xs.map D.int)), .no, .no, .no, .no, .no, .no, .no, .no, .no, .no] = .nx [.fz (.rdl (ns.map D.int)), .own (.lst (xs.map D.int)), .fz (sD ("False" :: "True" :: gs)), .no, .no, .no, .no, .no, .no, .no, .no, .no] := by
    have sl : 2 + gs.length ≤ 16777216 := by omega
    simp [-ix_lst, c1, i0, intsF_mod, g1', addF, tufF, sD, sl]
  have z3 : (SS.asg (K := K) 3 (SX.cb oTuf (SA.cons (SX.call 2 (f_law_words T) (SP.cons (SX.call 2 (f_law_cell_at T) (SP.cons (SX.var 0) (SP.cons (SX.int 2) SP.nil))) (SP.cons (SX.op oAdd (SX.int 1) (SX.op oMod (SX.op oIx (SX.var 1) (SX.int 1)) (SX.int 20))) SP.nil))) SA.nil))).ev [.fz (.rdl (ns.map D.int)), .own (.lst (xs.map D.int)), .fz (sD ("False" :: "True" :: gs)), .no, .no, .no, .no, .no, .no, .no, .no, .no] = .nx [.fz (.rdl (ns.map D.int)), .own (.lst (xs.map D.int)), .fz (sD ("False" :: "True" :: gs)), .fz (sD ws), .no, .no, .no, .no, .no, .no, .no, .no] := by
    simp [-ix_lst, c2, i1, intsF_mod, w1', addF, tufF, sD]
  have z4 : ∃ m : Nat, (SI.rng1 (K := K) (SX.cb oMax2 (SA.cons (SX.int 1) (SA.cons (SX.cb oMin2 (SA.cons (SX.int 6) (SA.cons (SX.op oSub (SX.cb oLen (SA.cons (SX.var 0) SA.nil)) (SX.int 3)) SA.nil))) SA.nil)))).ev [.fz (.rdl (ns.map D.int)), .own (.lst (xs.map D.int)), .fz (sD ("False" :: "True" :: gs)), .fz (sD ws), .no, .no, .no, .no, .no, .no, .no, .no] = .ok (rngD 0 m) [.fz (.rdl (ns.map D.int)), .own (.lst (xs.map D.int)), .fz (sD ("False" :: "True" :: gs)), .fz (sD ws), .no, .no, .no, .no, .no, .no, .no, .no] := by
    have lr : lenF [.rdl (ns.map D.int)] = some (.fz (.int ns.length)) := by
      show some (Rt.fz (D.int ((ns.map D.int).length : Nat))) = _
      rw [List.length_map]
    have ii : ∀ i : Int, 0 ≤ i → i ≤ 63 → in62 i = true := fun i h1 h2 => in62_of (by omega) (by omega)
    by_cases q : (ns.length : Int) - 3 < 6
    · by_cases q2 : (ns.length : Int) - 3 > 1
      · refine ⟨((ns.length : Int) - 3).toNat, ?_⟩
        have := ii ((ns.length : Int) - 3) (by omega) (by omega)
        simp [lr, int2F, q, q2, this]
      · refine ⟨1, ?_⟩
        have := ii 1 (by omega) (by omega)
        simp [lr, int2F, q, q2, this]
    · refine ⟨6, ?_⟩
      have := ii 6 (by omega) (by omega)
      simp [lr, int2F, q, this]
  obtain ⟨m, z4⟩ := z4
  obtain ⟨t4, t5, t6, t7, t8, t9, t10, z5⟩ := law_loop T ns ("False" :: "True" :: gs) ws g3 w3 (by simp) (by omega) (by simp; omega) (by omega) (.own (.lst (xs.map D.int))) (List.range m) .no .no .no .no .no .no .no
  have r0 : rngD 0 m = (List.range m).map fun k : Nat => D.int k := by
    unfold rngD
    exact List.map_congr_left fun k _ => by simp
  rw [← r0] at z5
  refine ⟨_, runF_rt (E := [.fz (.rdl (ns.map D.int)), .own (.lst (xs.map D.int)), .fz (sD ("False" :: "True" :: gs)), .fz (sD ws), t4, t5, t6, t7, t8, t9, t10, .no]) ?_⟩
  show (blaw T).ev [.fz (.rdl (ns.map D.int)), .no, .no, .no, .no, .no, .no, .no, .no, .no, .no, .no] = _
  unfold blaw
  rw [ev_seq, z1, flS_nx, ev_seq, z2, flS_nx, ev_seq, z3, flS_nx, ev_seq, ev_for, z4, Rs.fl_ok]
  unfold lawB at z5
  rw [z5, flS_nx]
  simp
end G00
set_option Elab.async false
set_option linter.all false
set_option maxRecDepth 100000
set_option maxHeartbeats 8000000
namespace G00
open PySem PySem.Spec PyProof.Rows L2 RZ RT DX
theorem all_mk {l : PySem.W.OpenLaw} {w : World} {K : PySem.W.Frag} {h : Heap} {mg : Str → Option Value} {fa : Addr} (X : K.In h) (G : h.Ns mainGlobals mg) (hfa : mg "law" = some (.ref fa))
    {C_Words : Addr}
    {f_is_integer : Addr}
    {od_is_integer an_is_integer : Option Addr} {sl_is_integer : Array (Option Value)} {oc_is_integer kV_is_integer dc_is_integer pm_is_integer cd_is_integer ct_is_integer : Value}
    {f_is_from : Addr}
    {od_is_from an_is_from : Option Addr} {sl_is_from : Array (Option Value)} {oc_is_from kV_is_from dc_is_from pm_is_from cd_is_from ct_is_from : Value}
    {f_is_tuple : Addr}
    {od_is_tuple an_is_tuple : Option Addr} {sl_is_tuple : Array (Option Value)} {oc_is_tuple kV_is_tuple dc_is_tuple pm_is_tuple cd_is_tuple ct_is_tuple : Value}
    {f_is_address : Addr}
    {od_is_address an_is_address : Option Addr} {sl_is_address : Array (Option Value)} {oc_is_address kV_is_address dc_is_address pm_is_address cd_is_address ct_is_address : Value}
    {f_memory_dict : Addr}
    {od_memory_dict an_memory_dict : Option Addr} {sl_memory_dict : Array (Option Value)} {oc_memory_dict kV_memory_dict dc_memory_dict pm_memory_dict cd_memory_dict ct_memory_dict : Value}
    {f_is_cell : Addr}
    {od_is_cell an_is_cell : Option Addr} {sl_is_cell : Array (Option Value)} {oc_is_cell kV_is_cell dc_is_cell pm_is_cell cd_is_cell ct_is_cell : Value}
    {f_is_a_memory : Addr}
    {od_is_a_memory an_is_a_memory : Option Addr} {sl_is_a_memory : Array (Option Value)} {oc_is_a_memory kV_is_a_memory dc_is_a_memory pm_is_a_memory cd_is_a_memory ct_is_a_memory : Value}
    {f_need_memory : Addr}
    {od_need_memory an_need_memory : Option Addr} {sl_need_memory : Array (Option Value)} {oc_need_memory kV_need_memory dc_need_memory pm_need_memory cd_need_memory ct_need_memory : Value}
    {f_figures_of : Addr}
    {od_figures_of an_figures_of : Option Addr} {sl_figures_of : Array (Option Value)} {oc_figures_of kV_figures_of dc_figures_of pm_figures_of cd_figures_of ct_figures_of : Value}
    {f_Words___init__ : Addr}
    {od_Words___init__ an_Words___init__ : Option Addr} {sl_Words___init__ : Array (Option Value)} {oc_Words___init__ kV_Words___init__ dc_Words___init__ pm_Words___init__ cd_Words___init__ ct_Words___init__ : Value}
    {f_Words_at : Addr}
    {od_Words_at an_Words_at : Option Addr} {sl_Words_at : Array (Option Value)} {oc_Words_at kV_Words_at dc_Words_at pm_Words_at cd_Words_at ct_Words_at : Value}
    {f_Words_from_to : Addr}
    {od_Words_from_to an_Words_from_to : Option Addr} {sl_Words_from_to : Array (Option Value)} {oc_Words_from_to kV_Words_from_to dc_Words_from_to pm_Words_from_to cd_Words_from_to ct_Words_from_to : Value}
    {f_Words_number : Addr}
    {od_Words_number an_Words_number : Option Addr} {sl_Words_number : Array (Option Value)} {oc_Words_number kV_Words_number dc_Words_number pm_Words_number cd_Words_number ct_Words_number : Value}
    {f_Words_size : Addr}
    {od_Words_size an_Words_size : Option Addr} {sl_Words_size : Array (Option Value)} {oc_Words_size kV_Words_size dc_Words_size pm_Words_size cd_Words_size ct_Words_size : Value}
    {f_Words_cell : Addr}
    {od_Words_cell an_Words_cell : Option Addr} {sl_Words_cell : Array (Option Value)} {oc_Words_cell kV_Words_cell dc_Words_cell pm_Words_cell cd_Words_cell ct_Words_cell : Value}
    {f_cell_at : Addr}
    {od_cell_at an_cell_at : Option Addr} {sl_cell_at : Array (Option Value)} {oc_cell_at kV_cell_at dc_cell_at pm_cell_at cd_cell_at ct_cell_at : Value}
    {f__law_cell_at : Addr}
    {od__law_cell_at an__law_cell_at : Option Addr} {sl__law_cell_at : Array (Option Value)} {oc__law_cell_at kV__law_cell_at dc__law_cell_at pm__law_cell_at cd__law_cell_at ct__law_cell_at : Value}
    {f__law_numbers : Addr}
    {od__law_numbers an__law_numbers : Option Addr} {sl__law_numbers : Array (Option Value)} {oc__law_numbers kV__law_numbers dc__law_numbers pm__law_numbers cd__law_numbers ct__law_numbers : Value}
    {f__law_words : Addr}
    {od__law_words an__law_words : Option Addr} {sl__law_words : Array (Option Value)} {oc__law_words kV__law_words dc__law_words pm__law_words cd__law_words ct__law_words : Value}
    {f__law_greats : Addr}
    {od__law_greats an__law_greats : Option Addr} {sl__law_greats : Array (Option Value)} {oc__law_greats kV__law_greats dc__law_greats pm__law_greats cd__law_greats ct__law_greats : Value}
    {f__law_cell : Addr}
    {od__law_cell an__law_cell : Option Addr} {sl__law_cell : Array (Option Value)} {oc__law_cell kV__law_cell dc__law_cell pm__law_cell cd__law_cell ct__law_cell : Value}
    {f__law_is_same : Addr}
    {od__law_is_same an__law_is_same : Option Addr} {sl__law_is_same : Array (Option Value)} {oc__law_is_same kV__law_is_same dc__law_is_same pm__law_is_same cd__law_is_same ct__law_is_same : Value}
    {fz : Addr}
    {od_law an_law : Option Addr} {sl_law : Array (Option Value)} {oc_law kV_law dc_law pm_law cd_law ct_law : Value}
    {t_CELLS : Tok}
    {t_MOST_FIGURE : Tok}
    {t_BYTE : Tok}
    {t_ROW : Tok}
    {t_LEAD : Tok}
    {t_EMPTY : Tok}
    {t_MAKER : Tok}
    {t_APPLY : Tok}
    {t_MINUS : Tok}
    {t_PLUS : Tok}
    (a_Words : PySem.W.nsIn K mainGlobals "Words" = some (some (.ref C_Words)))
    (a_is_integer : PySem.W.nsIn K mainGlobals "is_integer" = some (some (.ref f_is_integer)))
    (l_is_integer : K.lookup f_is_integer = some ⟨oc_is_integer, od_is_integer, .func (PySem.W.fnOf "is_integer" "is_integer" (defArgs sis_integer) (defBody sis_integer) (defScope sis_integer) .none kV_is_integer dc_is_integer pm_is_integer an_is_integer cd_is_integer ct_is_integer), sl_is_integer⟩)
    (c_is_integer : PySem.W.codeIn K cd_is_integer "is_integer" = true)
    (k_is_integer : PySem.W.keepIn K (.ref f_is_integer) = true)
    (a_is_from : PySem.W.nsIn K mainGlobals "is_from" = some (some (.ref f_is_from)))
    (l_is_from : K.lookup f_is_from = some ⟨oc_is_from, od_is_from, .func (PySem.W.fnOf "is_from" "is_from" (defArgs sis_from) (defBody sis_from) (defScope sis_from) .none kV_is_from dc_is_from pm_is_from an_is_from cd_is_from ct_is_from), sl_is_from⟩)
    (c_is_from : PySem.W.codeIn K cd_is_from "is_from" = true)
    (k_is_from : PySem.W.keepIn K (.ref f_is_from) = true)
    (a_is_tuple : PySem.W.nsIn K mainGlobals "is_tuple" = some (some (.ref f_is_tuple)))
    (l_is_tuple : K.lookup f_is_tuple = some ⟨oc_is_tuple, od_is_tuple, .func (PySem.W.fnOf "is_tuple" "is_tuple" (defArgs sis_tuple) (defBody sis_tuple) (defScope sis_tuple) .none kV_is_tuple dc_is_tuple pm_is_tuple an_is_tuple cd_is_tuple ct_is_tuple), sl_is_tuple⟩)
    (c_is_tuple : PySem.W.codeIn K cd_is_tuple "is_tuple" = true)
    (k_is_tuple : PySem.W.keepIn K (.ref f_is_tuple) = true)
    (a_is_address : PySem.W.nsIn K mainGlobals "is_address" = some (some (.ref f_is_address)))
    (l_is_address : K.lookup f_is_address = some ⟨oc_is_address, od_is_address, .func (PySem.W.fnOf "is_address" "is_address" (defArgs sis_address) (defBody sis_address) (defScope sis_address) .none kV_is_address dc_is_address pm_is_address an_is_address cd_is_address ct_is_address), sl_is_address⟩)
    (c_is_address : PySem.W.codeIn K cd_is_address "is_address" = true)
    (k_is_address : PySem.W.keepIn K (.ref f_is_address) = true)
    (a_memory_dict : PySem.W.nsIn K mainGlobals "memory_dict" = some (some (.ref f_memory_dict)))
    (l_memory_dict : K.lookup f_memory_dict = some ⟨oc_memory_dict, od_memory_dict, .func (PySem.W.fnOf "memory_dict" "memory_dict" (defArgs smemory_dict) (defBody smemory_dict) (defScope smemory_dict) .none kV_memory_dict dc_memory_dict pm_memory_dict an_memory_dict cd_memory_dict ct_memory_dict), sl_memory_dict⟩)
    (c_memory_dict : PySem.W.codeIn K cd_memory_dict "memory_dict" = true)
    (k_memory_dict : PySem.W.keepIn K (.ref f_memory_dict) = true)
    (a_is_cell : PySem.W.nsIn K mainGlobals "is_cell" = some (some (.ref f_is_cell)))
    (l_is_cell : K.lookup f_is_cell = some ⟨oc_is_cell, od_is_cell, .func (PySem.W.fnOf "is_cell" "is_cell" (defArgs sis_cell) (defBody sis_cell) (defScope sis_cell) .none kV_is_cell dc_is_cell pm_is_cell an_is_cell cd_is_cell ct_is_cell), sl_is_cell⟩)
    (c_is_cell : PySem.W.codeIn K cd_is_cell "is_cell" = true)
    (k_is_cell : PySem.W.keepIn K (.ref f_is_cell) = true)
    (a_is_a_memory : PySem.W.nsIn K mainGlobals "is_a_memory" = some (some (.ref f_is_a_memory)))
    (l_is_a_memory : K.lookup f_is_a_memory = some ⟨oc_is_a_memory, od_is_a_memory, .func (PySem.W.fnOf "is_a_memory" "is_a_memory" (defArgs sis_a_memory) (defBody sis_a_memory) (defScope sis_a_memory) .none kV_is_a_memory dc_is_a_memory pm_is_a_memory an_is_a_memory cd_is_a_memory ct_is_a_memory), sl_is_a_memory⟩)
    (c_is_a_memory : PySem.W.codeIn K cd_is_a_memory "is_a_memory" = true)
    (k_is_a_memory : PySem.W.keepIn K (.ref f_is_a_memory) = true)
    (a_need_memory : PySem.W.nsIn K mainGlobals "need_memory" = some (some (.ref f_need_memory)))
    (l_need_memory : K.lookup f_need_memory = some ⟨oc_need_memory, od_need_memory, .func (PySem.W.fnOf "need_memory" "need_memory" (defArgs sneed_memory) (defBody sneed_memory) (defScope sneed_memory) .none kV_need_memory dc_need_memory pm_need_memory an_need_memory cd_need_memory ct_need_memory), sl_need_memory⟩)
    (c_need_memory : PySem.W.codeIn K cd_need_memory "need_memory" = true)
    (k_need_memory : PySem.W.keepIn K (.ref f_need_memory) = true)
    (a_figures_of : PySem.W.nsIn K mainGlobals "figures_of" = some (some (.ref f_figures_of)))
    (l_figures_of : K.lookup f_figures_of = some ⟨oc_figures_of, od_figures_of, .func (PySem.W.fnOf "figures_of" "figures_of" (defArgs sfigures_of) (defBody sfigures_of) (defScope sfigures_of) .none kV_figures_of dc_figures_of pm_figures_of an_figures_of cd_figures_of ct_figures_of), sl_figures_of⟩)
    (c_figures_of : PySem.W.codeIn K cd_figures_of "figures_of" = true)
    (k_figures_of : PySem.W.keepIn K (.ref f_figures_of) = true)
    (a_Words___init__ : PySem.W.findIn K (.ref C_Words) "__init__" = some (some (.ref f_Words___init__)))
    (i_Words___init__ : PySem.W.isFn K (.ref f_Words___init__) = true)
    (l_Words___init__ : K.lookup f_Words___init__ = some ⟨oc_Words___init__, od_Words___init__, .func (PySem.W.fnOf "__init__" "Words.__init__" (defArgs sWords___init__) (defBody sWords___init__) (defScope sWords___init__) .none kV_Words___init__ dc_Words___init__ pm_Words___init__ an_Words___init__ cd_Words___init__ ct_Words___init__), sl_Words___init__⟩)
    (c_Words___init__ : PySem.W.codeIn K cd_Words___init__ "Words.__init__" = true)
    (k_Words___init__ : PySem.W.keepIn K (.ref f_Words___init__) = true)
    (a_Words_at : PySem.W.findIn K (.ref C_Words) "at" = some (some (.ref f_Words_at)))
    (i_Words_at : PySem.W.isFn K (.ref f_Words_at) = true)
    (l_Words_at : K.lookup f_Words_at = some ⟨oc_Words_at, od_Words_at, .func (PySem.W.fnOf "at" "Words.at" (defArgs sWords_at) (defBody sWords_at) (defScope sWords_at) .none kV_Words_at dc_Words_at pm_Words_at an_Words_at cd_Words_at ct_Words_at), sl_Words_at⟩)
    (c_Words_at : PySem.W.codeIn K cd_Words_at "Words.at" = true)
    (k_Words_at : PySem.W.keepIn K (.ref f_Words_at) = true)
    (a_Words_from_to : PySem.W.findIn K (.ref C_Words) "from_to" = some (some (.ref f_Words_from_to)))
    (i_Words_from_to : PySem.W.isFn K (.ref f_Words_from_to) = true)
    (l_Words_from_to : K.lookup f_Words_from_to = some ⟨oc_Words_from_to, od_Words_from_to, .func (PySem.W.fnOf "from_to" "Words.from_to" (defArgs sWords_from_to) (defBody sWords_from_to) (defScope sWords_from_to) .none kV_Words_from_to dc_Words_from_to pm_Words_from_to an_Words_from_to cd_Words_from_to ct_Words_from_to), sl_Words_from_to⟩)
    (c_Words_from_to : PySem.W.codeIn K cd_Words_from_to "Words.from_to" = true)
    (k_Words_from_to : PySem.W.keepIn K (.ref f_Words_from_to) = true)
    (a_Words_number : PySem.W.findIn K (.ref C_Words) "number" = some (some (.ref f_Words_number)))
    (i_Words_number : PySem.W.isFn K (.ref f_Words_number) = true)
    (l_Words_number : K.lookup f_Words_number = some ⟨oc_Words_number, od_Words_number, .func (PySem.W.fnOf "number" "Words.number" (defArgs sWords_number) (defBody sWords_number) (defScope sWords_number) .none kV_Words_number dc_Words_number pm_Words_number an_Words_number cd_Words_number ct_Words_number), sl_Words_number⟩)
    (c_Words_number : PySem.W.codeIn K cd_Words_number "Words.number" = true)
    (k_Words_number : PySem.W.keepIn K (.ref f_Words_number) = true)
    (a_Words_size : PySem.W.findIn K (.ref C_Words) "size" = some (some (.ref f_Words_size)))
    (i_Words_size : PySem.W.isFn K (.ref f_Words_size) = true)
    (l_Words_size : K.lookup f_Words_size = some ⟨oc_Words_size, od_Words_size, .func (PySem.W.fnOf "size" "Words.size" (defArgs sWords_size) (defBody sWords_size) (defScope sWords_size) .none kV_Words_size dc_Words_size pm_Words_size an_Words_size cd_Words_size ct_Words_size), sl_Words_size⟩)
    (c_Words_size : PySem.W.codeIn K cd_Words_size "Words.size" = true)
    (k_Words_size : PySem.W.keepIn K (.ref f_Words_size) = true)
    (a_Words_cell : PySem.W.findIn K (.ref C_Words) "cell" = some (some (.ref f_Words_cell)))
    (i_Words_cell : PySem.W.isFn K (.ref f_Words_cell) = true)
    (l_Words_cell : K.lookup f_Words_cell = some ⟨oc_Words_cell, od_Words_cell, .func (PySem.W.fnOf "cell" "Words.cell" (defArgs sWords_cell) (defBody sWords_cell) (defScope sWords_cell) .none kV_Words_cell dc_Words_cell pm_Words_cell an_Words_cell cd_Words_cell ct_Words_cell), sl_Words_cell⟩)
    (c_Words_cell : PySem.W.codeIn K cd_Words_cell "Words.cell" = true)
    (k_Words_cell : PySem.W.keepIn K (.ref f_Words_cell) = true)
    (a_cell_at : PySem.W.nsIn K mainGlobals "cell_at" = some (some (.ref f_cell_at)))
    (l_cell_at : K.lookup f_cell_at = some ⟨oc_cell_at, od_cell_at, .func (PySem.W.fnOf "cell_at" "cell_at" (defArgs scell_at) (defBody scell_at) (defScope scell_at) .none kV_cell_at dc_cell_at pm_cell_at an_cell_at cd_cell_at ct_cell_at), sl_cell_at⟩)
    (c_cell_at : PySem.W.codeIn K cd_cell_at "cell_at" = true)
    (k_cell_at : PySem.W.keepIn K (.ref f_cell_at) = true)
    (a__law_cell_at : PySem.W.nsIn K mainGlobals "_law_cell_at" = some (some (.ref f__law_cell_at)))
    (l__law_cell_at : K.lookup f__law_cell_at = some ⟨oc__law_cell_at, od__law_cell_at, .func (PySem.W.fnOf "_law_cell_at" "_law_cell_at" (defArgs s_law_cell_at) (defBody s_law_cell_at) (defScope s_law_cell_at) .none kV__law_cell_at dc__law_cell_at pm__law_cell_at an__law_cell_at cd__law_cell_at ct__law_cell_at), sl__law_cell_at⟩)
    (c__law_cell_at : PySem.W.codeIn K cd__law_cell_at "_law_cell_at" = true)
    (k__law_cell_at : PySem.W.keepIn K (.ref f__law_cell_at) = true)
    (a__law_numbers : PySem.W.nsIn K mainGlobals "_law_numbers" = some (some (.ref f__law_numbers)))
    (l__law_numbers : K.lookup f__law_numbers = some ⟨oc__law_numbers, od__law_numbers, .func (PySem.W.fnOf "_law_numbers" "_law_numbers" (defArgs s_law_numbers) (defBody s_law_numbers) (defScope s_law_numbers) .none kV__law_numbers dc__law_numbers pm__law_numbers an__law_numbers cd__law_numbers ct__law_numbers), sl__law_numbers⟩)
    (c__law_numbers : PySem.W.codeIn K cd__law_numbers "_law_numbers" = true)
    (k__law_numbers : PySem.W.keepIn K (.ref f__law_numbers) = true)
    (a__law_words : PySem.W.nsIn K mainGlobals "_law_words" = some (some (.ref f__law_words)))
    (l__law_words : K.lookup f__law_words = some ⟨oc__law_words, od__law_words, .func (PySem.W.fnOf "_law_words" "_law_words" (defArgs s_law_words) (defBody s_law_words) (defScope s_law_words) .none kV__law_words dc__law_words pm__law_words an__law_words cd__law_words ct__law_words), sl__law_words⟩)
    (c__law_words : PySem.W.codeIn K cd__law_words "_law_words" = true)
    (k__law_words : PySem.W.keepIn K (.ref f__law_words) = true)
    (a__law_greats : PySem.W.nsIn K mainGlobals "_law_greats" = some (some (.ref f__law_greats)))
    (l__law_greats : K.lookup f__law_greats = some ⟨oc__law_greats, od__law_greats, .func (PySem.W.fnOf "_law_greats" "_law_greats" (defArgs s_law_greats) (defBody s_law_greats) (defScope s_law_greats) .none kV__law_greats dc__law_greats pm__law_greats an__law_greats cd__law_greats ct__law_greats), sl__law_greats⟩)
    (c__law_greats : PySem.W.codeIn K cd__law_greats "_law_greats" = true)
    (k__law_greats : PySem.W.keepIn K (.ref f__law_greats) = true)
    (a__law_cell : PySem.W.nsIn K mainGlobals "_law_cell" = some (some (.ref f__law_cell)))
    (l__law_cell : K.lookup f__law_cell = some ⟨oc__law_cell, od__law_cell, .func (PySem.W.fnOf "_law_cell" "_law_cell" (defArgs s_law_cell) (defBody s_law_cell) (defScope s_law_cell) .none kV__law_cell dc__law_cell pm__law_cell an__law_cell cd__law_cell ct__law_cell), sl__law_cell⟩)
    (c__law_cell : PySem.W.codeIn K cd__law_cell "_law_cell" = true)
    (k__law_cell : PySem.W.keepIn K (.ref f__law_cell) = true)
    (a__law_is_same : PySem.W.nsIn K mainGlobals "_law_is_same" = some (some (.ref f__law_is_same)))
    (l__law_is_same : K.lookup f__law_is_same = some ⟨oc__law_is_same, od__law_is_same, .func (PySem.W.fnOf "_law_is_same" "_law_is_same" (defArgs s_law_is_same) (defBody s_law_is_same) (defScope s_law_is_same) .none kV__law_is_same dc__law_is_same pm__law_is_same an__law_is_same cd__law_is_same ct__law_is_same), sl__law_is_same⟩)
    (c__law_is_same : PySem.W.codeIn K cd__law_is_same "_law_is_same" = true)
    (k__law_is_same : PySem.W.keepIn K (.ref f__law_is_same) = true)
    (a_law : PySem.W.nsIn K mainGlobals "law" = some (some (.ref fz)))
    (l_law : K.lookup fz = some ⟨oc_law, od_law, .func (PySem.W.fnOf "law" "law" (defArgs slaw) (defBody slaw) (defScope slaw) .none kV_law dc_law pm_law an_law cd_law ct_law), sl_law⟩)
    (c_law : PySem.W.codeIn K cd_law "law" = true)
    (k_law : PySem.W.keepIn K (.ref fz) = true)
    (pg_Words : PySem.W.plainGet K C_Words Str.empty = true)
    (hd_Words : PySem.W.hasDictIn K C_Words = true)
    (po_Words : PySem.W.plainOver K C_Words = true)
    (sa_Words : PySem.W.findIn K (.ref C_Words) "__setattr__" = some (some (.builtin "object.__setattr__")))
    (mk_Words : PySem.W.makesIn K C_Words = true)
    (kc_Words : PySem.W.keepIn K (.ref C_Words) = true)
    (na_Words_words : PySem.W.findIn K (.ref C_Words) "words" = some none)
    (na_Words_makers : PySem.W.findIn K (.ref C_Words) "makers" = some none)
    (na_Words_rows : PySem.W.findIn K (.ref C_Words) "rows" = some none)
    (b_isinstance : PySem.W.nsIn K mainGlobals "isinstance" = some none)
    (b_int : PySem.W.nsIn K mainGlobals "int" = some none)
    (b_bool : PySem.W.nsIn K mainGlobals "bool" = some none)
    (b_tuple : PySem.W.nsIn K mainGlobals "tuple" = some none)
    (b_len : PySem.W.nsIn K mainGlobals "len" = some none)
    (b_dict : PySem.W.nsIn K mainGlobals "dict" = some none)
    (b_all : PySem.W.nsIn K mainGlobals "all" = some none)
    (b_zip : PySem.W.nsIn K mainGlobals "zip" = some none)
    (b_abs : PySem.W.nsIn K mainGlobals "abs" = some none)
    (b_range : PySem.W.nsIn K mainGlobals "range" = some none)
    (b_list : PySem.W.nsIn K mainGlobals "list" = some none)
    (b_reversed : PySem.W.nsIn K mainGlobals "reversed" = some none)
    (b_str : PySem.W.nsIn K mainGlobals "str" = some none)
    (b_max : PySem.W.nsIn K mainGlobals "max" = some none)
    (b_min : PySem.W.nsIn K mainGlobals "min" = some none)
    (n_CELLS : PySem.W.nsIn K mainGlobals "CELLS" = some (some (.int 4096 t_CELLS)))
    (n_MOST_FIGURE : PySem.W.nsIn K mainGlobals "MOST_FIGURE" = some (some (.int 65535 t_MOST_FIGURE)))
    (n_BYTE : PySem.W.nsIn K mainGlobals "BYTE" = some (some (.int 256 t_BYTE)))
    (n_ROW : PySem.W.nsIn K mainGlobals "ROW" = some (some (.int 5 t_ROW)))
    (n_LEAD : PySem.W.nsIn K mainGlobals "LEAD" = some (some (.int 6 t_LEAD)))
    (n_EMPTY : PySem.W.nsIn K mainGlobals "EMPTY" = some (some (.int 7 t_EMPTY)))
    (n_MAKER : PySem.W.nsIn K mainGlobals "MAKER" = some (some (.int 3 t_MAKER)))
    (n_APPLY : PySem.W.nsIn K mainGlobals "APPLY" = some (some (.int 4 t_APPLY)))
    (n_MINUS : PySem.W.nsIn K mainGlobals "MINUS" = some (some (.int 2 t_MINUS)))
    (n_PLUS : PySem.W.nsIn K mainGlobals "PLUS" = some (some (.int 1 t_PLUS))) :
    ∃ fd : FuncData, (∀ (s : Shared) (v : Value), BindsTo s fd ⟨[v], []⟩ [("script", v)]) ∧ ∀ base : Heap, K.In base → base.Ns mainGlobals mg → FnOk l.prog w K mg base (L2.CX l.prog w) 8 fa fd ["script"] (spLaw K) := by
  have e := hfa.symm.trans (PySem.W.mg_of X G a_law)
  cases e
  let A : Ads := { fis_integer := f_is_integer, fis_from := f_is_from, fis_tuple := f_is_tuple, fis_address := f_is_address, fmemory_dict := f_memory_dict, fis_cell := f_is_cell, fis_a_memory := f_is_a_memory, fneed_memory := f_need_memory, ffigures_of := f_figures_of, fWords___init__ := f_Words___init__, fWords_at := f_Words_at, fWords_from_to := f_Words_from_to, fWords_number := f_Words_number, fWords_size := f_Words_size, fWords_cell := f_Words_cell, fcell_at := f_cell_at, f_law_cell_at := f__law_cell_at, f_law_numbers := f__law_numbers, f_law_words := f__law_words, f_law_greats := f__law_greats, f_law_cell := f__law_cell, f_law_is_same := f__law_is_same, flaw := fa, c_Words := C_Words }
  have T : Txt K mg A := {
    b_isinstance := PySem.W.mg_none_of X G b_isinstance,
    b_int := PySem.W.mg_none_of X G b_int,
    b_bool := PySem.W.mg_none_of X G b_bool,
    b_tuple := PySem.W.mg_none_of X G b_tuple,
    b_len := PySem.W.mg_none_of X G b_len,
    b_dict := PySem.W.mg_none_of X G b_dict,
    b_all := PySem.W.mg_none_of X G b_all,
    b_zip := PySem.W.mg_none_of X G b_zip,
    b_abs := PySem.W.mg_none_of X G b_abs,
    b_range := PySem.W.mg_none_of X G b_range,
    b_list := PySem.W.mg_none_of X G b_list,
    b_reversed := PySem.W.mg_none_of X G b_reversed,
    b_str := PySem.W.mg_none_of X G b_str,
    b_max := PySem.W.mg_none_of X G b_max,
    b_min := PySem.W.mg_none_of X G b_min,
    i_CELLS := ⟨_, PySem.W.mg_of X G n_CELLS⟩,
    i_MOST_FIGURE := ⟨_, PySem.W.mg_of X G n_MOST_FIGURE⟩,
    i_BYTE := ⟨_, PySem.W.mg_of X G n_BYTE⟩,
    i_ROW := ⟨_, PySem.W.mg_of X G n_ROW⟩,
    i_LEAD := ⟨_, PySem.W.mg_of X G n_LEAD⟩,
    i_EMPTY := ⟨_, PySem.W.mg_of X G n_EMPTY⟩,
    i_MAKER := ⟨_, PySem.W.mg_of X G n_MAKER⟩,
    i_APPLY := ⟨_, PySem.W.mg_of X G n_APPLY⟩,
    i_MINUS := ⟨_, PySem.W.mg_of X G n_MINUS⟩,
    i_PLUS := ⟨_, PySem.W.mg_of X G n_PLUS⟩,
    Fis_integer := ⟨_, fun_mk (st := sis_integer) l_is_integer c_is_integer k_is_integer, (fun_mk (st := sis_integer) l_is_integer c_is_integer k_is_integer).binds (ps := Pis_integer) (fun _ _ _ _ _ _ us hl => match us, hl with | [_, _, _], _ => rfl)⟩,
    m_is_integer := PySem.W.mg_of X G a_is_integer,
    k_is_integer := k_is_integer,
    Fis_from := ⟨_, fun_mk (st := sis_from) l_is_from c_is_from k_is_from, (fun_mk (st := sis_from) l_is_from c_is_from k_is_from).binds (ps := Pis_from) (fun _ _ _ _ _ _ us hl => match us, hl with | [_, _, _], _ => rfl)⟩,
    m_is_from := PySem.W.mg_of X G a_is_from,
    k_is_from := k_is_from,
    Fis_tuple := ⟨_, fun_mk (st := sis_tuple) l_is_tuple c_is_tuple k_is_tuple, (fun_mk (st := sis_tuple) l_is_tuple c_is_tuple k_is_tuple).binds (ps := Pis_tuple) (fun _ _ _ _ _ _ us hl => match us, hl with | [_, _, _], _ => rfl)⟩,
    m_is_tuple := PySem.W.mg_of X G a_is_tuple,
    k_is_tuple := k_is_tuple,
    Fis_address := ⟨_, fun_mk (st := sis_address) l_is_address c_is_address k_is_address, (fun_mk (st := sis_address) l_is_address c_is_address k_is_address).binds (ps := Pis_address) (fun _ _ _ _ _ _ us hl => match us, hl with | [_], _ => rfl)⟩,
    m_is_address := PySem.W.mg_of X G a_is_address,
    k_is_address := k_is_address,
    Fmemory_dict := ⟨_, fun_mk (st := smemory_dict) l_memory_dict c_memory_dict k_memory_dict, (fun_mk (st := smemory_dict) l_memory_dict c_memory_dict k_memory_dict).binds (ps := Pmemory_dict) (fun _ _ _ _ _ _ us hl => match us, hl with | [_], _ => rfl)⟩,
    m_memory_dict := PySem.W.mg_of X G a_memory_dict,
    k_memory_dict := k_memory_dict,
    Fis_cell := ⟨_, fun_mk (st := sis_cell) l_is_cell c_is_cell k_is_cell, (fun_mk (st := sis_cell) l_is_cell c_is_cell k_is_cell).binds (ps := Pis_cell) (fun _ _ _ _ _ _ us hl => match us, hl with | [_], _ => rfl)⟩,
    m_is_cell := PySem.W.mg_of X G a_is_cell,
    k_is_cell := k_is_cell,
    Fis_a_memory := ⟨_, fun_mk (st := sis_a_memory) l_is_a_memory c_is_a_memory k_is_a_memory, (fun_mk (st := sis_a_memory) l_is_a_memory c_is_a_memory k_is_a_memory).binds (ps := Pis_a_memory) (fun _ _ _ _ _ _ us hl => match us, hl with | [_], _ => rfl)⟩,
    m_is_a_memory := PySem.W.mg_of X G a_is_a_memory,
    k_is_a_memory := k_is_a_memory,
    Fneed_memory := ⟨_, fun_mk (st := sneed_memory) l_need_memory c_need_memory k_need_memory, (fun_mk (st := sneed_memory) l_need_memory c_need_memory k_need_memory).binds (ps := Pneed_memory) (fun _ _ _ _ _ _ us hl => match us, hl with | [_], _ => rfl)⟩,
    m_need_memory := PySem.W.mg_of X G a_need_memory,
    k_need_memory := k_need_memory,
    Ffigures_of := ⟨_, fun_mk (st := sfigures_of) l_figures_of c_figures_of k_figures_of, (fun_mk (st := sfigures_of) l_figures_of c_figures_of k_figures_of).binds (ps := Pfigures_of) (fun _ _ _ _ _ _ us hl => match us, hl with | [_, _, _], _ => rfl)⟩,
    m_figures_of := PySem.W.mg_of X G a_figures_of,
    k_figures_of := k_figures_of,
    FWords___init__ := ⟨_, fun_mk (st := sWords___init__) l_Words___init__ c_Words___init__ k_Words___init__, (fun_mk (st := sWords___init__) l_Words___init__ c_Words___init__ k_Words___init__).binds (ps := PWords___init__) (fun _ _ _ _ _ _ us hl => match us, hl with | [_, _, _, _], _ => rfl)⟩,
    FWords_at := ⟨_, fun_mk (st := sWords_at) l_Words_at c_Words_at k_Words_at, (fun_mk (st := sWords_at) l_Words_at c_Words_at k_Words_at).binds (ps := PWords_at) (fun _ _ _ _ _ _ us hl => match us, hl with | [_, _], _ => rfl)⟩,
    FWords_from_to := ⟨_, fun_mk (st := sWords_from_to) l_Words_from_to c_Words_from_to k_Words_from_to, (fun_mk (st := sWords_from_to) l_Words_from_to c_Words_from_to k_Words_from_to).binds (ps := PWords_from_to) (fun _ _ _ _ _ _ us hl => match us, hl with | [_, _, _], _ => rfl)⟩,
    FWords_number := ⟨_, fun_mk (st := sWords_number) l_Words_number c_Words_number k_Words_number, (fun_mk (st := sWords_number) l_Words_number c_Words_number k_Words_number).binds (ps := PWords_number) (fun _ _ _ _ _ _ us hl => match us, hl with | [_, _], _ => rfl)⟩,
    FWords_size := ⟨_, fun_mk (st := sWords_size) l_Words_size c_Words_size k_Words_size, (fun_mk (st := sWords_size) l_Words_size c_Words_size k_Words_size).binds (ps := PWords_size) (fun _ _ _ _ _ _ us hl => match us, hl with | [_, _], _ => rfl)⟩,
    FWords_cell := ⟨_, fun_mk (st := sWords_cell) l_Words_cell c_Words_cell k_Words_cell, (fun_mk (st := sWords_cell) l_Words_cell c_Words_cell k_Words_cell).binds (ps := PWords_cell) (fun _ _ _ _ _ _ us hl => match us, hl with | [_, _], _ => rfl)⟩,
    Fcell_at := ⟨_, fun_mk (st := scell_at) l_cell_at c_cell_at k_cell_at, (fun_mk (st := scell_at) l_cell_at c_cell_at k_cell_at).binds (ps := Pcell_at) (fun _ _ _ _ _ _ us hl => match us, hl with | [_, _, _, _], _ => rfl)⟩,
    m_cell_at := PySem.W.mg_of X G a_cell_at,
    k_cell_at := k_cell_at,
    F_law_cell_at := ⟨_, fun_mk (st := s_law_cell_at) l__law_cell_at c__law_cell_at k__law_cell_at, (fun_mk (st := s_law_cell_at) l__law_cell_at c__law_cell_at k__law_cell_at).binds (ps := P_law_cell_at) (fun _ _ _ _ _ _ us hl => match us, hl with | [_, _], _ => rfl)⟩,
    m__law_cell_at := PySem.W.mg_of X G a__law_cell_at,
    k__law_cell_at := k__law_cell_at,
    F_law_numbers := ⟨_, fun_mk (st := s_law_numbers) l__law_numbers c__law_numbers k__law_numbers, (fun_mk (st := s_law_numbers) l__law_numbers c__law_numbers k__law_numbers).binds (ps := P_law_numbers) (fun _ _ _ _ _ _ us hl => match us, hl with | [_, _], _ => rfl)⟩,
    m__law_numbers := PySem.W.mg_of X G a__law_numbers,
    k__law_numbers := k__law_numbers,
    F_law_words := ⟨_, fun_mk (st := s_law_words) l__law_words c__law_words k__law_words, (fun_mk (st := s_law_words) l__law_words c__law_words k__law_words).binds (ps := P_law_words) (fun _ _ _ _ _ _ us hl => match us, hl with | [_, _], _ => rfl)⟩,
    m__law_words := PySem.W.mg_of X G a__law_words,
    k__law_words := k__law_words,
    F_law_greats := ⟨_, fun_mk (st := s_law_greats) l__law_greats c__law_greats k__law_greats, (fun_mk (st := s_law_greats) l__law_greats c__law_greats k__law_greats).binds (ps := P_law_greats) (fun _ _ _ _ _ _ us hl => match us, hl with | [_, _], _ => rfl)⟩,
    m__law_greats := PySem.W.mg_of X G a__law_greats,
    k__law_greats := k__law_greats,
    F_law_cell := ⟨_, fun_mk (st := s_law_cell) l__law_cell c__law_cell k__law_cell, (fun_mk (st := s_law_cell) l__law_cell c__law_cell k__law_cell).binds (ps := P_law_cell) (fun _ _ _ _ _ _ us hl => match us, hl with | [_, _, _], _ => rfl)⟩,
    m__law_cell := PySem.W.mg_of X G a__law_cell,
    k__law_cell := k__law_cell,
    F_law_is_same := ⟨_, fun_mk (st := s_law_is_same) l__law_is_same c__law_is_same k__law_is_same, (fun_mk (st := s_law_is_same) l__law_is_same c__law_is_same k__law_is_same).binds (ps := P_law_is_same) (fun _ _ _ _ _ _ us hl => match us, hl with | [_, _], _ => rfl)⟩,
    m__law_is_same := PySem.W.mg_of X G a__law_is_same,
    k__law_is_same := k__law_is_same,
    Flaw := ⟨_, fun_mk (st := slaw) l_law c_law k_law, (fun_mk (st := slaw) l_law c_law k_law).binds (ps := Plaw) (fun _ _ _ _ _ _ us hl => match us, hl with | [_], _ => rfl)⟩,
    m_law := PySem.W.mg_of X G a_law,
    k_law := k_law,
    cl_Words := ⟨pg_Words, hd_Words, po_Words, sa_Words⟩,
    mc_Words := PySem.W.mg_of X G a_Words,
    mk_Words := ⟨mk_Words, a_Words___init__, i_Words___init__, kc_Words⟩,
    na_Words_words := na_Words_words,
    na_Words_makers := na_Words_makers,
    na_Words_rows := na_Words_rows,
    mt_Words_at := ⟨a_Words_at, i_Words_at, k_Words_at⟩,
    mt_Words_from_to := ⟨a_Words_from_to, i_Words_from_to, k_Words_from_to⟩,
    mt_Words_number := ⟨a_Words_number, i_Words_number, k_Words_number⟩,
    mt_Words_size := ⟨a_Words_size, i_Words_size, k_Words_size⟩,
    mt_Words_cell := ⟨a_Words_cell, i_Words_cell, k_Words_cell⟩ }
  refine ⟨PySem.W.fnOf "law" "law" (defArgs slaw) (defBody slaw) (defScope slaw) .none kV_law dc_law pm_law an_law cd_law ct_law, fun s v => .of_eq rfl, fun base _ _ => ?_⟩
  exact (oklaw (P := l.prog) (w := w) (base := base) T (fun_mk (st := slaw) l_law c_law k_law)).imp (law_spF fun ns h => law_true T ns h)
end G00
open PySem PySem.W PyProof.Rows in
set_option maxRecDepth 100000 in
set_option maxHeartbeats 0 in
theorem PySem.Challenge.cw_saidbelow_k00_cells_as_figures_and_back_holds : PySem.Challenge.rw_saidbelow_k00_cells_as_figures_and_back.Holds := by
  w_on; o_law; k_head; (case hw => w_witness2)
  k_fill
  refine L2.walk_of (l := PySem.Challenge.rw_saidbelow_k00_cells_as_figures_and_back) (n := 63) (k := 8) (x := "script") (CX := fun w => L2.CX (PySem.Challenge.rw_saidbelow_k00_cells_as_figures_and_back).prog w) (sp := fun w => DX.spLaw _) rfl (by decide) rfl ⟨rfl, by decide, by decide⟩ (fun w h Y => PySem.W.kIn_of Y) ?F (fun _ _ a ns hl _ hS => ⟨a, ns, rfl, hS, hl, fun _ => rfl⟩) (fun _ _ _ _ _ z => DX.cx_no z)
  case F =>
    intro w mg fa h KX G hmg
    refine' G00.all_mk KX G hmg ?a_Words ?a_is_integer ?l_is_integer ?c_is_integer ?k_is_integer ?a_is_from ?l_is_from ?c_is_from ?k_is_from ?a_is_tuple ?l_is_tuple ?c_is_tuple ?k_is_tuple ?a_is_address ?l_is_address ?c_is_address ?k_is_address ?a_memory_dict ?l_memory_dict ?c_memory_dict ?k_memory_dict ?a_is_cell ?l_is_cell ?c_is_cell ?k_is_cell ?a_is_a_memory ?l_is_a_memory ?c_is_a_memory ?k_is_a_memory ?a_need_memory ?l_need_memory ?c_need_memory ?k_need_memory ?a_figures_of ?l_figures_of ?c_figures_of ?k_figures_of ?a_Words___init__ ?i_Words___init__ ?l_Words___init__ ?c_Words___init__ ?k_Words___init__ ?a_Words_at ?i_Words_at ?l_Words_at ?c_Words_at ?k_Words_at ?a_Words_from_to ?i_Words_from_to ?l_Words_from_to ?c_Words_from_to ?k_Words_from_to ?a_Words_number ?i_Words_number ?l_Words_number ?c_Words_number ?k_Words_number ?a_Words_size ?i_Words_size ?l_Words_size ?c_Words_size ?k_Words_size ?a_Words_cell ?i_Words_cell ?l_Words_cell ?c_Words_cell ?k_Words_cell ?a_cell_at ?l_cell_at ?c_cell_at ?k_cell_at ?a__law_cell_at ?l__law_cell_at ?c__law_cell_at ?k__law_cell_at ?a__law_numbers ?l__law_numbers ?c__law_numbers ?k__law_numbers ?a__law_words ?l__law_words ?c__law_words ?k__law_words ?a__law_greats ?l__law_greats ?c__law_greats ?k__law_greats ?a__law_cell ?l__law_cell ?c__law_cell ?k__law_cell ?a__law_is_same ?l__law_is_same ?c__law_is_same ?k__law_is_same ?a_law ?l_law ?c_law ?k_law ?pg_Words ?hd_Words ?po_Words ?sa_Words ?mk_Words ?kc_Words ?na_Words_words ?na_Words_makers ?na_Words_rows ?b_isinstance ?b_int ?b_bool ?b_tuple ?b_len ?b_dict ?b_all ?b_zip ?b_abs ?b_range ?b_list ?b_reversed ?b_str ?b_max ?b_min ?n_CELLS ?n_MOST_FIGURE ?n_BYTE ?n_ROW ?n_LEAD ?n_EMPTY ?n_MAKER ?n_APPLY ?n_MINUS ?n_PLUS
    (case a_Words => k_is)
    (case a_is_integer => k_is)
    (case l_is_integer => k_is)
    (case c_is_integer => k_is)
    (case k_is_integer => k_is)
    (case a_is_from => k_is)
    (case l_is_from => k_is)
    (case c_is_from => k_is)
    (case k_is_from => k_is)
    (case a_is_tuple => k_is)
    (case l_is_tuple => k_is)
    (case c_is_tuple => k_is)
    (case k_is_tuple => k_is)
    (case a_is_address => k_is)
    (case l_is_address => k_is)
    (case c_is_address => k_is)
    (case k_is_address => k_is)
    (case a_memory_dict => k_is)
    (case l_memory_dict => k_is)
    (case c_memory_dict => k_is)
    (case k_memory_dict => k_is)
    (case a_is_cell => k_is)
    (case l_is_cell => k_is)
    (case c_is_cell => k_is)
    (case k_is_cell => k_is)
    (case a_is_a_memory => k_is)
    (case l_is_a_memory => k_is)
    (case c_is_a_memory => k_is)
    (case k_is_a_memory => k_is)
    (case a_need_memory => k_is)
    (case l_need_memory => k_is)
    (case c_need_memory => k_is)
    (case k_need_memory => k_is)
    (case a_figures_of => k_is)
    (case l_figures_of => k_is)
    (case c_figures_of => k_is)
    (case k_figures_of => k_is)
    (case a_Words___init__ => k_is)
    (case i_Words___init__ => k_is)
    (case l_Words___init__ => k_is)
    (case c_Words___init__ => k_is)
    (case k_Words___init__ => k_is)
    (case a_Words_at => k_is)
    (case i_Words_at => k_is)
    (case l_Words_at => k_is)
    (case c_Words_at => k_is)
    (case k_Words_at => k_is)
    (case a_Words_from_to => k_is)
    (case i_Words_from_to => k_is)
    (case l_Words_from_to => k_is)
    (case c_Words_from_to => k_is)
    (case k_Words_from_to => k_is)
    (case a_Words_number => k_is)
    (case i_Words_number => k_is)
    (case l_Words_number => k_is)
    (case c_Words_number => k_is)
    (case k_Words_number => k_is)
    (case a_Words_size => k_is)
    (case i_Words_size => k_is)
    (case l_Words_size => k_is)
    (case c_Words_size => k_is)
    (case k_Words_size => k_is)
    (case a_Words_cell => k_is)
    (case i_Words_cell => k_is)
    (case l_Words_cell => k_is)
    (case c_Words_cell => k_is)
    (case k_Words_cell => k_is)
    (case a_cell_at => k_is)
    (case l_cell_at => k_is)
    (case c_cell_at => k_is)
    (case k_cell_at => k_is)
    (case a__law_cell_at => k_is)
    (case l__law_cell_at => k_is)
    (case c__law_cell_at => k_is)
    (case k__law_cell_at => k_is)
    (case a__law_numbers => k_is)
    (case l__law_numbers => k_is)
    (case c__law_numbers => k_is)
    (case k__law_numbers => k_is)
    (case a__law_words => k_is)
    (case l__law_words => k_is)
    (case c__law_words => k_is)
    (case k__law_words => k_is)
    (case a__law_greats => k_is)
    (case l__law_greats => k_is)
    (case c__law_greats => k_is)
    (case k__law_greats => k_is)
    (case a__law_cell => k_is)
    (case l__law_cell => k_is)
    (case c__law_cell => k_is)
    (case k__law_cell => k_is)
    (case a__law_is_same => k_is)
    (case l__law_is_same => k_is)
    (case c__law_is_same => k_is)
    (case k__law_is_same => k_is)
    (case a_law => k_is)
    (case l_law => k_is)
    (case c_law => k_is)
    (case k_law => k_is)
    (case pg_Words => k_is)
    (case hd_Words => k_is)
    (case po_Words => k_is)
    (case sa_Words => k_is)
    (case mk_Words => k_is)
    (case kc_Words => k_is)
    (case na_Words_words => k_is)
    (case na_Words_makers => k_is)
    (case na_Words_rows => k_is)
    (case b_isinstance => k_is)
    (case b_int => k_is)
    (case b_bool => k_is)
    (case b_tuple => k_is)
    (case b_len => k_is)
    (case b_dict => k_is)
    (case b_all => k_is)
    (case b_zip => k_is)
    (case b_abs => k_is)
    (case b_range => k_is)
    (case b_list => k_is)
    (case b_reversed => k_is)
    (case b_str => k_is)
    (case b_max => k_is)
    (case b_min => k_is)
    (case n_CELLS => k_is)
    (case n_MOST_FIGURE => k_is)
    (case n_BYTE => k_is)
    (case n_ROW => k_is)
    (case n_LEAD => k_is)
    (case n_EMPTY => k_is)
    (case n_MAKER => k_is)
    (case n_APPLY => k_is)
    (case n_MINUS => k_is)
    (case n_PLUS => k_is)
#print axioms PySem.Challenge.cw_saidbelow_k00_cells_as_figures_and_back_holds
