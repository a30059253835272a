import PyProof.Rows.All
import Wide.All
import OpenK.AllK
import Wide.FinOn
import KE.KStateDown
import HandS.ForMost
import HandS.ForExc
import HandS.Defaults
import HandS.HeadHook1
import HandS.HeadHook2
import HandS.HeadHook3
import HandS.HeadHook4
import HandS.Lambda
import HandS.NestedK
import HandS.TupAny
import HandS.TupMul
import HandS.TupLe
import HandS.WideBits
import HandS.Deep
import HandS.Style
import HandS.Walk
import HandS.Zip
import HandS.IsInst
import HandS.FStr
import HandS.RaiseMore
import HandS.StrMore
import HandS.ExcInit
import HandS.ExcField
import HandS.ExcIs
import HandS.TryMany
import KE.KExcIs
import KE.GoesEnum
import HandS.New
import PyProof.ReprRoads
import PyProof.Rows.StrStep
import HandS.ReplaceLit
import HandS.Ends
import HandS.EndBits
import HandS.Head2
import HandS.HeadEnd
import PySem.Challenge.RW_axlecounts_k77_texts_refused_and_read_ag
set_option Elab.async false
set_option linter.all false
set_option maxRecDepth 100000
set_option maxHeartbeats 0
namespace Pv
open PySem PySem.Spec PyProof.Rows L2

/-- a value as data -/
inductive D where
  | non | bl (b : Bool) | int (i : Int) | str (x : Str)
  | tup (xs : List D) | lst (xs : List D) | frz (xs : List D) | dic (kvs : List (Key × D))
  | fn (x : Str) | ty (n : String) | ref (i : Nat) | exc (c : Str) (fs : List (Str × D)) | clo (q : Str) (ds : List D)
instance : Inhabited D := ⟨.non⟩
/-- a thing that is changed: a list, an instance -/
inductive Cell where
  | lst (ds : List D) | ins (c : Str) (fs : List (Str × D))
abbrev Sto := List Cell
structure Exn where
  cls : Str
  args : List (Str × D)
/-- how a piece of the program ends -/
inductive R (α : Type) where
  | stuck | val (a : α) (s : Sto) | exn (x : Exn) (s : Sto)
def R.bind {α β : Type} (r : R α) (f : α → Sto → R β) : R β := match r with
  | .stuck => .stuck
  | .val a s => f a s
  | .exn x s => .exn x s
@[simp] theorem R.bind_val {α β : Type} (a : α) (s : Sto) (f : α → Sto → R β) : (R.val a s).bind f = f a s := Eq.trans rfl rfl
@[simp] theorem R.bind_exn {α β : Type} (x : Exn) (s : Sto) (f : α → Sto → R β) : (R.exn x s : R α).bind f = .exn x s := Eq.trans rfl rfl
@[simp] theorem R.bind_stuck {α β : Type} (f : α → Sto → R β) : (R.stuck : R α).bind f = .stuck := Eq.trans rfl rfl

/-- a lambda: its full name, its parameters, body, scope; the names that it keeps -/
structure LamD where
  qual : Str
  params : Arguments
  body : Expr
  scope : Scope
  caps : List Str
/-- the defs whose tables of code objects are followed, each with its lambda's full name; the lambdas -/
class Tf where
  tabs : List (He.Defn × Str)
  lam : Str → LamD
variable [Tf]
/-- what is written, and the exception that an except suite handles: where it stands, its class, its dict; what stands fast -/
structure KX where
  fr : PySem.W.Frag
  ex : Option (Addr × Value × Option Addr)
  base : Heap
  mg : Str → Option Value
def L2kx (X : Cx) : KX := ⟨X.K, match X.calm, X.pn with
  | false, p :: _ => some (p.1, p.2.cls, p.2.dict)
  | _, _ => none, X.base, X.mg⟩
abbrev _root_.L2.Cx.kx (X : Cx) : KX := L2kx X
theorem kx_calm {X : Cx} (h : X.calm = true) : X.kx = ⟨X.K, none, X.base, X.mg⟩ := by
  show L2kx X = _
  unfold L2kx
  rw [h]
/-- a list of the module's own top -/
def KL (K : PySem.W.Frag) (a : Addr) (xs : List V) : Prop :=
  ∃ (o : Obj) (its : Array Value) (n : Nat), K.lookup a = some o ∧ o.cls = .type "list" ∧ o.dict = none ∧ o.data = .seq its n ∧ its.size ≤ sizeLine ∧ Vals xs its.toList
/-- the lambda's object at f, what it keeps -/
def CloAt (K : KX) (l : LamD) (f c : Addr) (vs : List V) : Prop := ∃ (cl : List (Str × Addr)) (pm ctv : Value),
  K.base.get? f = some (PySem.W.kla_obj "<lambda>" l.qual l.params l.body l.scope cl pm c ctv) ∧ NdefX.CellsAt cl l.caps (vs.map some) K.base fun _ => none
/-- the defs that make lambdas -/
def TabsB (K : KX) : Prop := ∀ p ∈ Tf.tabs, LamX.TabB K.base K.mg (He.cT K.fr p.1).1 (He.cT K.fr p.1).2
/-- the tables of code objects -/
def TabsOk (K : KX) (H : Hp) : Prop := ∀ p ∈ Tf.tabs, ∃ ps : Array Value, H (He.cT K.fr p.1).2 = some (.tbl ps) ∧ TriplesOk ps.toList ∧
  ∀ (pos : Pos) (cv : Value), codeAmong pos ps.toList = some cv → ∃ c, cv = .ref c ∧ H c = some (LamX.CodeO c p.2)
section
variable (K : KX) (ρ : List Addr) (L : Addr → Prop) (H : Hp)
mutual
/-- the value v is the data d; lists and dicts off the cells ρ and off L -/
def Rep : D → V → Prop
  | .non, v => v = .non
  | .bl b, v => v = .bl b
  | .int i, v => v = .int i
  | .str x, v => v = .str x
  | .tup ds, v => ∃ a vs, v = .ref a ∧ SqT K.fr H a vs ∧ Reps ds vs
  | .lst ds, v => ∃ a vs, v = .ref a ∧ H a = some (.lst vs) ∧ a ∉ ρ ∧ ¬ L a ∧ Reps ds vs
  | .frz ds, v => ∃ a vs, v = .ref a ∧ ((∃ o, H a = some (.frz o (.lst vs))) ∨ KL K.fr a vs) ∧ Reps ds vs
  | .dic kvs, v => ∃ a vs, v = .ref a ∧ H a = some (.dK vs) ∧ a ∉ ρ ∧ ¬ L a ∧ RepK kvs vs
  | .fn x, v => v = .ref (He.ga K.fr x)
  | .ty n, v => v = .ty n
  | .ref i, v => ∃ a, ρ[i]? = some a ∧ v = .ref a
  | .exc c fs, v => ∃ a cls od, K.ex = some (a, cls, od) ∧ v = .ref a ∧ cls = .ref (He.ga K.fr c) ∧ ((fs = [] ∧ od = none) ∨ ∃ d vs, od = some d ∧ H d = some (.xd vs) ∧ d ∉ ρ ∧ ¬ L d ∧ RepF fs vs)
  | .clo q ds, v => ∃ f c vs, v = .ref f ∧ CloAt K (Tf.lam q) f c vs ∧ H c = some (LamX.CodeO c (Tf.lam q).qual) ∧ Reps ds vs
def Reps : List D → List V → Prop
  | [], vs => vs = []
  | d :: ds, vs => ∃ v r, vs = v :: r ∧ Rep d v ∧ Reps ds r
def RepK : List (Key × D) → List (Key × V) → Prop
  | [], vs => vs = []
  | (k, d) :: ds, vs => ∃ v r, vs = (k, v) :: r ∧ Rep d v ∧ RepK ds r
/-- the fields of an instance, of an exception -/
def RepF : List (Str × D) → List (Str × V) → Prop
  | [], vs => vs = []
  | (k, d) :: ds, vs => ∃ v r, vs = (k, v) :: r ∧ Rep d v ∧ RepF ds r
end
def CellOk (a : Addr) : Cell → Prop
  | .lst ds => ∃ vs, H a = some (.lst vs) ∧ Reps K ρ L H ds vs
  | .ins c fs => ∃ dx vs, H a = some (.ins (He.ga K.fr c) dx vs) ∧ RepF K ρ L H fs vs
structure Cells (S : Sto) : Prop where
  len : ρ.length = S.length
  nd : ρ.Nodup
  at_ : ∀ (i : Nat) (a : Addr) (c : Cell), ρ[i]? = some a → S[i]? = some c → CellOk K ρ L H a c
  trk : ∀ a, L a → H a ≠ none
  apart : ∀ a ∈ ρ, ¬ L a
  tab : TabsOk K H
  tbb : TabsB K
def XRep (x : Exn) (cls : Value) (od : Option Addr) : Prop :=
  cls = .ref (He.ga K.fr x.cls) ∧ ((x.args = [] ∧ od = none) ∨ ∃ d vs, od = some d ∧ H d = some (.xd vs) ∧ d ∉ ρ ∧ ¬ L d ∧ RepF K ρ L H x.args vs)
end
/-- from one state to a later one: the cells ρ may change, and what M tells; others come -/
structure StepM (M : Addr → Prop) (ρ ρ' : List Addr) (H H' : Hp) : Prop where
  pre : ρ <+: ρ'
  new : ∀ a ∈ ρ', a ∈ ρ ∨ H a = none
  keepM : ∀ a o, H a = some o → a ∉ ρ → ¬ M a → (∀ ps, o ≠ .tbl ps) → H' a = some o
  tups : ∀ a xs, H a = some (.tup xs) → H' a = some (.tup xs)
  frzs : ∀ a o u, H a = some (.frz o u) → H' a = some (.frz o u)
  codes : ∀ a c q, H a = some (LamX.CodeO c q) → H' a = some (LamX.CodeO c q)
  some_ : ∀ a, H a ≠ none → H' a ≠ none
abbrev Step := StepM fun _ => False
theorem StepM.keep {ρ ρ' : List Addr} {H H' : Hp} (s : Step ρ ρ' H H') (a : Addr) (o : HO) (h : H a = some o) (n : a ∉ ρ) (ht : ∀ ps, o ≠ .tbl ps := by intro _ z; cases z) : H' a = some o := s.keepM a o h n id ht
theorem StepM.of {M : Addr → Prop} {ρ ρ' : List Addr} {H H' : Hp} (s : Step ρ ρ' H H') : StepM M ρ ρ' H H' := ⟨s.pre, s.new, fun a o h n _ ht => s.keep a o h n ht, s.tups, s.frzs, s.codes, s.some_⟩
theorem StepM.refl {M : Addr → Prop} {ρ : List Addr} {H : Hp} : StepM M ρ ρ H H := ⟨List.prefix_refl _, fun _ h => .inl h, fun _ _ h _ _ _ => h, fun _ _ h => h, fun _ _ _ h => h, fun _ _ _ h => h, fun _ h => h⟩
theorem StepM.transM {M M1 : Addr → Prop} {ρ ρ1 ρ2 : List Addr} {H H1 H2 : Hp} (a : StepM M ρ ρ1 H H1) (b : StepM M1 ρ1 ρ2 H1 H2) (w : ∀ x, M1 x → M x ∨ H x = none) : StepM M ρ ρ2 H H2 where
  pre := a.pre.trans b.pre
  new := fun x h => by
    rcases b.new x h with q | q
    · exact a.new x q
    · right
      cases e : H x with
      | none => rfl
      | some o => exact absurd q (a.some_ x (by rw [e]; exact fun z => nomatch z))
  keepM := fun x o h hn hm ht => b.keepM x o (a.keepM x o h hn hm ht) (fun z => by
    rcases a.new x z with q | q
    · exact hn q
    · rw [h] at q; cases q) (fun z => (w x z).elim hm fun q => by rw [h] at q; cases q) ht
  tups := fun x xs h => b.tups x xs (a.tups x xs h)
  frzs := fun x o u h => b.frzs x o u (a.frzs x o u h)
  codes := fun x c q h => b.codes x c q (a.codes x c q h)
  some_ := fun x h => b.some_ x (a.some_ x h)
theorem StepM.trans {M : Addr → Prop} {ρ ρ1 ρ2 : List Addr} {H H1 H2 : Hp} (a : StepM M ρ ρ1 H H1) (b : StepM M ρ1 ρ2 H1 H2) : StepM M ρ ρ2 H H2 := a.transM b fun _ z => .inl z
theorem Step.refl {ρ : List Addr} {H : Hp} : Step ρ ρ H H := StepM.refl
/-- a new thing at p -/
theorem Step.laid {ρ : List Addr} {H : Hp} {p : Addr} {o : HO} (h : H p = none) : Step ρ ρ H (upd H p o) := by
  have ne : ∀ a u, H a = some u → a ≠ p := fun a u e z => by subst z; rw [h] at e; cases e
  refine ⟨List.prefix_refl _, fun _ h => .inl h, fun a u e _ _ _ => by rw [upd_ne (ne a u e)]; exact e, fun a xs e => by rw [upd_ne (ne a _ e)]; exact e, fun a u v e => by rw [upd_ne (ne a _ e)]; exact e, fun a c q e => by rw [upd_ne (ne a _ e)]; exact e, fun a e => ?_⟩
  by_cases z : a = p
  · subst z; rw [upd_same]; exact fun q => nomatch q
  · rw [upd_ne z]; exact e
theorem StepM.offρ {M : Addr → Prop} {ρ ρ' : List Addr} {H H' : Hp} (s : StepM M ρ ρ' H H') {a : Addr} (h : H a ≠ none) (hn : a ∉ ρ) : a ∉ ρ' := fun z => (s.new a z).elim hn h
theorem Rd.step {ρ ρ' : List Addr} {H H' : Hp} (s : Step ρ ρ' H H') {a : Addr} {u : HO} (h : Rd H a u) (hn : a ∉ ρ) (ht : ∀ ps, u ≠ .tbl ps := by intro _ z; cases z) : Rd H' a u ∧ a ∉ ρ' := by
  rcases h with h | ⟨o, h⟩
  · exact ⟨.inl (s.keep a _ h hn ht), s.offρ (by rw [h]; exact fun z => nomatch z) hn⟩
  · exact ⟨.inr ⟨o, s.keep a _ h hn⟩, s.offρ (by rw [h]; exact fun z => nomatch z) hn⟩
theorem SqT.step {M : Addr → Prop} {K : KX} {ρ ρ' : List Addr} {H H' : Hp} (s : StepM M ρ ρ' H H') {a : Addr} {xs : List V} (h : SqT K.fr H a xs) : SqT K.fr H' a xs := by
  rcases h with (h | ⟨o, h⟩) | h
  · exact .inl (.inl (s.tups a xs h))
  · exact .inl (.inr ⟨o, s.frzs a o _ h⟩)
  · exact .inr h
section
variable {M : Addr → Prop} {K : KX} {ρ ρ' : List Addr} {L L' : Addr → Prop} {H H' : Hp}
mutual
theorem Rep.stepM (s : StepM M ρ ρ' H H') (hM : ∀ a, M a → L a) : ∀ (d : D) (v : V), Rep K ρ L H d v → Rep K ρ' L H' d v
  | .non, _, h => by simpa [Rep] using h
  | .bl _, _, h => by simpa [Rep] using h
  | .int _, _, h => by simpa [Rep] using h
  | .str _, _, h => by simpa [Rep] using h
  | .fn _, _, h => by simpa [Rep] using h
  | .ty _, _, h => by simpa [Rep] using h
  | .ref i, _, h => by
    unfold Rep at h ⊢
    obtain ⟨a, e, q⟩ := h
    obtain ⟨t, ht⟩ := s.pre
    refine ⟨a, ?_, q⟩
    rw [← ht, List.getElem?_append_left (List.getElem?_eq_some_iff.mp e).1]
    exact e
  | .tup ds, _, h => by
    unfold Rep at h ⊢
    obtain ⟨a, vs, e, q, r⟩ := h
    exact ⟨a, vs, e, SqT.step s q, Reps.stepM s hM ds vs r⟩
  | .lst ds, _, h => by
    unfold Rep at h ⊢
    obtain ⟨a, vs, e, q, q2, q3, r⟩ := h
    exact ⟨a, vs, e, s.keepM a _ q q2 (fun z => q3 (hM a z)) (fun _ z => by cases z), s.offρ (by rw [q]; exact fun z => nomatch z) q2, q3, Reps.stepM s hM ds vs r⟩
  | .frz ds, _, h => by
    unfold Rep at h ⊢
    obtain ⟨a, vs, e, q, r⟩ := h
    refine ⟨a, vs, e, ?_, Reps.stepM s hM ds vs r⟩
    rcases q with ⟨o, q⟩ | q
    · exact .inl ⟨o, s.frzs a o _ q⟩
    · exact .inr q
  | .dic kvs, _, h => by
    unfold Rep at h ⊢
    obtain ⟨a, vs, e, q, q2, q3, r⟩ := h
    exact ⟨a, vs, e, s.keepM a _ q q2 (fun z => q3 (hM a z)) (fun _ z => by cases z), s.offρ (by rw [q]; exact fun z => nomatch z) q2, q3, RepK.stepM s hM kvs vs r⟩
  | .exc c fs, _, h => by
    unfold Rep at h ⊢
    obtain ⟨a, cls, od, e1, e2, e3, q⟩ := h
    refine ⟨a, cls, od, e1, e2, e3, q.imp id fun ⟨d, vs, q1, q2, q3, q4, q5⟩ => ⟨d, vs, q1, s.keepM d _ q2 q3 (fun z => q4 (hM d z)) (fun _ z => by cases z), s.offρ (by rw [q2]; exact fun z => nomatch z) q3, q4, RepF.stepM s hM fs vs q5⟩⟩
  | .clo q ds, _, h => by
    unfold Rep at h ⊢
    obtain ⟨f, c, vs, e, k, q1, r⟩ := h
    exact ⟨f, c, vs, e, k, s.codes c _ _ q1, Reps.stepM s hM ds vs r⟩
theorem Reps.stepM (s : StepM M ρ ρ' H H') (hM : ∀ a, M a → L a) : ∀ (ds : List D) (vs : List V), Reps K ρ L H ds vs → Reps K ρ' L H' ds vs
  | [], _, h => by simpa [Reps] using h
  | d :: ds, _, h => by
    unfold Reps at h ⊢
    obtain ⟨v, r, e, q, z⟩ := h
    exact ⟨v, r, e, Rep.stepM s hM d v q, Reps.stepM s hM ds r z⟩
theorem RepK.stepM (s : StepM M ρ ρ' H H') (hM : ∀ a, M a → L a) : ∀ (ds : List (Key × D)) (vs : List (Key × V)), RepK K ρ L H ds vs → RepK K ρ' L H' ds vs
  | [], _, h => by simpa [RepK] using h
  | (k, d) :: ds, _, h => by
    unfold RepK at h ⊢
    obtain ⟨v, r, e, q, z⟩ := h
    exact ⟨v, r, e, Rep.stepM s hM d v q, RepK.stepM s hM ds r z⟩
theorem RepF.stepM (s : StepM M ρ ρ' H H') (hM : ∀ a, M a → L a) : ∀ (ds : List (Str × D)) (vs : List (Str × V)), RepF K ρ L H ds vs → RepF K ρ' L H' ds vs
  | [], _, h => by simpa [RepF] using h
  | (k, d) :: ds, _, h => by
    unfold RepF at h ⊢
    obtain ⟨v, r, e, q, z⟩ := h
    exact ⟨v, r, e, Rep.stepM s hM d v q, RepF.stepM s hM ds r z⟩
end
theorem Rep.step (s : Step ρ ρ' H H') (d : D) (v : V) (h : Rep K ρ L H d v) : Rep K ρ' L H' d v := Rep.stepM s (fun _ z => z.elim) d v h
theorem Reps.step (s : Step ρ ρ' H H') (d : List D) (v : List V) (h : Reps K ρ L H d v) : Reps K ρ' L H' d v := Reps.stepM s (fun _ z => z.elim) d v h
theorem RepK.step (s : Step ρ ρ' H H') (d : List (Key × D)) (v : List (Key × V)) (h : RepK K ρ L H d v) : RepK K ρ' L H' d v := RepK.stepM s (fun _ z => z.elim) d v h
theorem RepF.step (s : Step ρ ρ' H H') (d : List (Str × D)) (v : List (Str × V)) (h : RepF K ρ L H d v) : RepF K ρ' L H' d v := RepF.stepM s (fun _ z => z.elim) d v h
mutual
/-- fewer places to keep off, or more that it is off anyway -/
theorem Rep.weak (w : ∀ a, L' a → L a) : ∀ (d : D) (v : V), Rep K ρ L H d v → Rep K ρ L' H d v
  | .non, _, h => by simpa [Rep] using h
  | .bl _, _, h => by simpa [Rep] using h
  | .int _, _, h => by simpa [Rep] using h
  | .str _, _, h => by simpa [Rep] using h
  | .fn _, _, h => by simpa [Rep] using h
  | .ty _, _, h => by simpa [Rep] using h
  | .ref i, _, h => by simpa [Rep] using h
  | .tup ds, _, h => by
    unfold Rep at h ⊢
    obtain ⟨a, vs, e, q, r⟩ := h
    exact ⟨a, vs, e, q, Reps.weak w ds vs r⟩
  | .lst ds, _, h => by
    unfold Rep at h ⊢
    obtain ⟨a, vs, e, q, q2, q3, r⟩ := h
    exact ⟨a, vs, e, q, q2, fun z => q3 (w a z), Reps.weak w ds vs r⟩
  | .frz ds, _, h => by
    unfold Rep at h ⊢
    obtain ⟨a, vs, e, q, r⟩ := h
    exact ⟨a, vs, e, q, Reps.weak w ds vs r⟩
  | .dic kvs, _, h => by
    unfold Rep at h ⊢
    obtain ⟨a, vs, e, q, q2, q3, r⟩ := h
    exact ⟨a, vs, e, q, q2, fun z => q3 (w a z), RepK.weak w kvs vs r⟩
  | .exc c fs, _, h => by
    unfold Rep at h ⊢
    obtain ⟨a, cls, od, e1, e2, e3, q⟩ := h
    exact ⟨a, cls, od, e1, e2, e3, q.imp id fun ⟨d, vs, q1, q2, q3, q4, q5⟩ => ⟨d, vs, q1, q2, q3, fun z => q4 (w d z), RepF.weak w fs vs q5⟩⟩
  | .clo q ds, _, h => by
    unfold Rep at h ⊢
    obtain ⟨f, c, vs, e, k, q1, r⟩ := h
    exact ⟨f, c, vs, e, k, q1, Reps.weak w ds vs r⟩
theorem Reps.weak (w : ∀ a, L' a → L a) : ∀ (ds : List D) (vs : List V), Reps K ρ L H ds vs → Reps K ρ L' H ds vs
  | [], _, h => by simpa [Reps] using h
  | d :: ds, _, h => by
    unfold Reps at h ⊢
    obtain ⟨v, r, e, q, z⟩ := h
    exact ⟨v, r, e, Rep.weak w d v q, Reps.weak w ds r z⟩
theorem RepK.weak (w : ∀ a, L' a → L a) : ∀ (ds : List (Key × D)) (vs : List (Key × V)), RepK K ρ L H ds vs → RepK K ρ L' H ds vs
  | [], _, h => by simpa [RepK] using h
  | (k, d) :: ds, _, h => by
    unfold RepK at h ⊢
    obtain ⟨v, r, e, q, z⟩ := h
    exact ⟨v, r, e, Rep.weak w d v q, RepK.weak w ds r z⟩
theorem RepF.weak (w : ∀ a, L' a → L a) : ∀ (ds : List (Str × D)) (vs : List (Str × V)), RepF K ρ L H ds vs → RepF K ρ L' H ds vs
  | [], _, h => by simpa [RepF] using h
  | (k, d) :: ds, _, h => by
    unfold RepF at h ⊢
    obtain ⟨v, r, e, q, z⟩ := h
    exact ⟨v, r, e, Rep.weak w d v q, RepF.weak w ds r z⟩
end
end
section
variable {K : KX} {ρ ρ' : List Addr} {L L' : Addr → Prop} {H H' : Hp} {S : Sto}
theorem CellOk.weak (w : ∀ a, L' a → L a) {a : Addr} {c : Cell} (h : CellOk K ρ L H a c) : CellOk K ρ L' H a c := by
  cases c with
  | lst ds => obtain ⟨vs, e, r⟩ := h; exact ⟨vs, e, Reps.weak w ds vs r⟩
  | ins c fs => obtain ⟨dx, vs, e, r⟩ := h; exact ⟨dx, vs, e, RepF.weak w fs vs r⟩
theorem code_ne {a b c : Addr} {q : Str} {vs : List V} (h : H a = some (.lst vs)) (e : H b = some (LamX.CodeO c q)) : b ≠ a := fun z => by
  rw [z, h] at e
  unfold LamX.CodeO at e
  cases e
/-- what is tracked stays -/
theorem TabsOk.keep (t : TabsOk K H) (hT : ∀ a ps, H a = some (.tbl ps) → H' a = some (.tbl ps)) (hc : ∀ a c q, H a = some (LamX.CodeO c q) → H' a = some (LamX.CodeO c q)) : TabsOk K H' := fun p hp => by
  obtain ⟨ps, h1, h2, h3⟩ := t p hp
  refine ⟨ps, hT _ _ h1, h2, fun pos cv q => ?_⟩
  obtain ⟨c, e1, e2⟩ := h3 pos cv q
  exact ⟨c, e1, hc _ _ _ e2⟩
theorem TabsOk.laid {p : Addr} {o : HO} (t : TabsOk K H) (hp : H p = none) : TabsOk K (upd H p o) :=
  t.keep (fun a u e => by rw [upd_ne (ne_of_none e hp)]; exact e) fun a c q e => by rw [upd_ne (ne_of_none e hp)]; exact e
theorem TabsOk.upd {a : Addr} {vs : List V} {o : HO} (t : TabsOk K H) (h : H a = some (.lst vs)) : TabsOk K (upd H a o) :=
  t.keep (fun b u e => by rw [upd_ne (fun (z : b = a) => by rw [z, h] at e; cases e)]; exact e) fun b c q e => by rw [upd_ne (code_ne h e)]; exact e
theorem Cells.weak (c : Cells K ρ L H S) (w : ∀ a, L' a → L a) : Cells K ρ L' H S :=
  ⟨c.len, c.nd, fun i a x h1 h2 => (c.at_ i a x h1 h2).weak w, fun a h => c.trk a (w a h), fun a h z => c.apart a h (w a z), c.tab, c.tbb⟩
/-- a new thing at p leaves the cells -/
theorem CellOk.laid {p : Addr} {o : HO} (hp : H p = none) {a : Addr} {c : Cell} (h : CellOk K ρ L H a c) : CellOk K ρ L (upd H p o) a c := by
  have s : Step ρ ρ H (upd H p o) := Step.laid hp
  cases c with
  | lst ds =>
    obtain ⟨vs, e, r⟩ := h
    exact ⟨vs, by rw [upd_ne (ne_of_none e hp)]; exact e, Reps.step s ds vs r⟩
  | ins c fs =>
    obtain ⟨dx, vs, e, r⟩ := h
    exact ⟨dx, vs, by rw [upd_ne (ne_of_none e hp)]; exact e, RepF.step s fs vs r⟩
theorem Cells.laid {p : Addr} {o : HO} (c : Cells K ρ L H S) (hp : H p = none) : Cells K ρ L (upd H p o) S :=
  ⟨c.len, c.nd, fun i a x h1 h2 => (c.at_ i a x h1 h2).laid hp, fun a h => (Step.laid (ρ := ρ) hp).some_ a (c.trk a h), c.apart, c.tab.laid hp, c.tbb⟩
/-- what is wanted of an end: of its value, of its exception -/
def GoalG {α β : Type} (rp : List Addr → Hp → α → β → Prop) (K : KX) (ρ : List Addr) (L : Addr → Prop) (H : Hp) (r : R α) (Q : β → Hp → Prop) (QX : XK) : Prop := match r with
  | .stuck => False
  | .val d S' => ∀ v ρ' H', Step ρ ρ' H H' → Cells K ρ' L H' S' → rp ρ' H' d v → Q v H'
  | .exn x S' => ∀ c od ρ' H', Step ρ ρ' H H' → Cells K ρ' L H' S' → XRep K ρ' L H' x c od → QX c od H'
section
variable {α β γ δ : Type} {rp : List Addr → Hp → α → β → Prop} {rp' : List Addr → Hp → γ → δ → Prop}
theorem GoalG.step {r : R α} {Q : β → Hp → Prop} {QX : XK} (s : Step ρ ρ' H H') (g : GoalG rp K ρ L H r Q QX) : GoalG rp K ρ' L H' r Q QX := by
  cases r with
  | stuck => exact g
  | val d S => exact fun v ρ2 H2 t c r => g v ρ2 H2 (s.trans t) c r
  | exn x S => exact fun c od ρ2 H2 t cs r => g c od ρ2 H2 (s.trans t) cs r
theorem GoalG.imp {r : R α} {Q Q' : β → Hp → Prop} {QX QX' : XK} (hq : ∀ v H, Q v H → Q' v H) (hx : ∀ c d H, QX c d H → QX' c d H) (g : GoalG rp K ρ L H r Q QX) : GoalG rp K ρ L H r Q' QX' := by
  cases r with
  | stuck => exact g
  | val d S => exact fun v ρ2 H2 t c r => hq _ _ (g v ρ2 H2 t c r)
  | exn x S => exact fun c od ρ2 H2 t cs r => hx _ _ _ (g c od ρ2 H2 t cs r)
/-- two in a row -/
theorem GoalG.bind {r : R α} {f : α → Sto → R γ} {Q : δ → Hp → Prop} {QX : XK} (g : GoalG rp' K ρ L H (r.bind f) Q QX) {Q1 : β → Hp → Prop}
    (h : ∀ d S v ρ' H', Step ρ ρ' H H' → Cells K ρ' L H' S → rp ρ' H' d v → GoalG rp' K ρ' L H' (f d S) Q QX → Q1 v H') : GoalG rp K ρ L H r Q1 QX := by
  cases r with
  | stuck => exact g
  | exn x S => exact g
  | val d S => exact fun v ρ' H' s c rp => h d S v ρ' H' s c rp (GoalG.step s g)
theorem GoalG.val {d : α} {v : β} {Q : β → Hp → Prop} {QX : XK} (g : GoalG rp K ρ L H (.val d S) Q QX) (c : Cells K ρ L H S) (r : rp ρ H d v) : Q v H := g v ρ H .refl c r
end
abbrev Goal (K : KX) (ρ : List Addr) (L : Addr → Prop) (H : Hp) (r : R D) (Q : VK) (QX : XK) : Prop := GoalG (fun ρ' H' d v => Rep K ρ' L H' d v) K ρ L H r Q QX
abbrev GoalL (K : KX) (ρ : List Addr) (L : Addr → Prop) (H : Hp) (r : R (List D)) (Q : List V → Hp → Prop) (QX : XK) : Prop := GoalG (fun ρ' H' d v => Reps K ρ' L H' d v) K ρ L H r Q QX
abbrev GoalB (K : KX) (ρ : List Addr) (L : Addr → Prop) (H : Hp) (r : R Bool) (Q : Bool → Hp → Prop) (QX : XK) : Prop := GoalG (fun _ _ (d v : Bool) => v = d) K ρ L H r Q QX
/-- a new tuple -/
theorem Goal.tup {ds : List D} {vs : List V} {p : Addr} {Q : VK} {QX : XK} (g : Goal K ρ L H (.val (.tup ds) S) Q QX) (c : Cells K ρ L H S) (r : Reps K ρ L H ds vs) (hp : H p = none) : Q (.ref p) (upd H p (.tup vs)) := by
  have s : Step ρ ρ H (upd H p (.tup vs)) := Step.laid hp
  refine g _ ρ _ s (c.laid hp) ?_
  unfold Rep
  exact ⟨p, vs, rfl, SqT.of upd_same, Reps.step s ds vs r⟩
theorem Cells.off (c : Cells K ρ L H S) {p : Addr} (hp : H p = none) : p ∉ ρ ∧ ¬ L p := by
  refine ⟨fun z => ?_, fun z => c.trk p z hp⟩
  obtain ⟨i, hi, e⟩ := List.mem_iff_getElem.mp z
  have hs : i < S.length := by rw [← c.len]; exact hi
  have q := c.at_ i p S[i] (by rw [List.getElem?_eq_getElem hi, e]) (by rw [List.getElem?_eq_getElem hs])
  cases x : S[i] with
  | lst ds => rw [x] at q; obtain ⟨vs, e, _⟩ := q; rw [hp] at e; cases e
  | ins k fs => rw [x] at q; obtain ⟨dx, vs, e, _⟩ := q; rw [hp] at e; cases e
/-- a new list -/
theorem Goal.lst {ds : List D} {vs : List V} {p : Addr} {Q : VK} {QX : XK} (g : Goal K ρ L H (.val (.lst ds) S) Q QX) (c : Cells K ρ L H S) (r : Reps K ρ L H ds vs) (hp : H p = none) : Q (.ref p) (upd H p (.lst vs)) := by
  have s : Step ρ ρ H (upd H p (.lst vs)) := Step.laid hp
  refine g _ ρ _ s (c.laid hp) ?_
  unfold Rep
  exact ⟨p, vs, rfl, upd_same, (c.off hp).1, (c.off hp).2, Reps.step s ds vs r⟩

/-! ### the frame -/
abbrev Env' := List (Option D)
/-- what is kept off: the callers' things, the lists that the slots O own -/
def LO (L0 : Addr → Prop) (O : List Nat) (σ : L2.St) : Addr → Prop := fun a => L0 a ∨ ∃ i ∈ O, σ[i]? = some (some (.ref a))
structure EnvOk (K : KX) (ρ : List Addr) (L0 : Addr → Prop) (O : List Nat) (σ : L2.St) (Γ : Env') (H : Hp) : Prop where
  slot : ∀ (i : Nat) (d : D), Γ[i]? = some (some d) → i ∉ O → ∃ v, σ[i]? = some (some v) ∧ Rep K ρ (LO L0 O σ) H d v
  own : ∀ i ∈ O, ∃ (a : Addr) (vs : List V) (ds : List D), σ[i]? = some (some (.ref a)) ∧ Γ[i]? = some (some (.lst ds)) ∧ H a = some (.lst vs) ∧ a ∉ ρ ∧ ¬ L0 a ∧ Reps K ρ (LO L0 O σ) H ds vs
  inj : ∀ i ∈ O, ∀ j ∈ O, ∀ a : Addr, σ[i]? = some (some (.ref a)) → σ[j]? = some (some (.ref a)) → i = j
  len : Γ.length = σ.length
variable {L0 : Addr → Prop} {O O' : List Nat} {σ : L2.St} {Γ : Env'}
theorem EnvOk.step (e : EnvOk K ρ L0 O σ Γ H) (s : Step ρ ρ' H H') : EnvOk K ρ' L0 O σ Γ H' := by
  refine ⟨fun i d h n => ?_, fun i h => ?_, e.inj, e.len⟩
  · obtain ⟨v, q, r⟩ := e.slot i d h n
    exact ⟨v, q, Rep.step s d v r⟩
  · obtain ⟨a, vs, ds, q1, q2, q3, q4, q5, q6⟩ := e.own i h
    have z := Rd.step (u := .lst vs) s (.inl q3) q4
    exact ⟨a, vs, ds, q1, q2, s.keep a _ q3 q4, z.2, q5, Reps.step s ds vs q6⟩
theorem LO.mono (h : ∀ i ∈ O', i ∈ O) : ∀ a, LO L0 O' σ a → LO L0 O σ a := fun a z => z.imp id fun ⟨i, hi, e⟩ => ⟨i, h i hi, e⟩
/-- a list is no longer owned -/
theorem EnvOk.demote (e : EnvOk K ρ L0 O σ Γ H) (h : ∀ i ∈ O', i ∈ O) : EnvOk K ρ L0 O' σ Γ H := by
  have w := LO.mono (L0 := L0) (σ := σ) h
  refine ⟨fun i d hg n => ?_, fun i hi => ?_, fun i hi j hj => e.inj i (h i hi) j (h j hj), e.len⟩
  · by_cases z : i ∈ O
    · obtain ⟨a, vs, ds, q1, q2, q3, q4, q5, q6⟩ := e.own i z
      rw [hg] at q2
      cases q2
      refine ⟨_, q1, ?_⟩
      unfold Rep
      refine ⟨a, vs, rfl, q3, q4, fun y => ?_, Reps.weak w ds vs q6⟩
      rcases y with y | ⟨j, hj, y⟩
      · exact q5 y
      · have := e.inj i z j (h j hj) a q1 y
        subst this
        exact n hj
    · obtain ⟨v, q, r⟩ := e.slot i d hg z
      exact ⟨v, q, Rep.weak w d v r⟩
  · obtain ⟨a, vs, ds, q1, q2, q3, q4, q5, q6⟩ := e.own i (h i hi)
    exact ⟨a, vs, ds, q1, q2, q3, q4, q5, Reps.weak w ds vs q6⟩

/-! ### expressions -/
abbrev EM := Env' → Sto → R D
def tE (K : KX) (W : WX) (L0 : Addr → Prop) (O : List Nat) (m : EM) : TE := fun σ H Q => ∃ (ρ : List Addr) (Γ : Env') (S : Sto), EnvOk K ρ L0 O σ Γ H ∧ Cells K ρ (LO L0 O σ) H S ∧
  Goal K ρ (LO L0 O σ) H (m Γ S) Q fun c od H' => W c od σ H'
abbrev JE (X : Cx) (W : WX) (L0 : Addr → Prop) (O : List Nat) (e : Expr) (m : EM) : Prop := PE X e (tE X.kx W L0 O m)
theorem PE.imp {X : Cx} {e : Expr} {t t' : TE} (h : PE X e t) (i : ∀ σ H Q, t' σ H Q → t σ H Q) : PE X e t' := ⟨fun pins s σ H Q I hq => h.run pins s σ H Q I (i σ H Q hq)⟩
theorem PT.imp {X : Cx} {e : Expr} {t t' : TT} (h : PT X e t) (i : ∀ σ H Q, t' σ H Q → t σ H Q) : PT X e t' := ⟨fun pins s σ H Q I hq => h.run pins s σ H Q I (i σ H Q hq)⟩
variable {X : Cx} {W : WX}
def eVar (i : Nat) : EM := fun Γ S => match Γ[i]? with
  | some (some d) => .val d S
  | _ => .stuck
theorem je_var {i : Nat} {x : Str} {pos : Pos} (hN : X.N[i]? = some x) (hv : Vis X.env.scope x) (hi : i ∉ O) (hd : (x == ("__debug__" : Str)) = false := by decide) (hcd : (x == ("__classdict__" : Str)) = false := by decide) :
    JE X W L0 O (.Name x pos) (eVar i) := PE.imp (pe_var hN hv hd hcd) fun σ H Q ⟨ρ, Γ, S, e, c, g⟩ => by
  unfold eVar at g
  split at g
  · rename_i d h
    obtain ⟨v, q, r⟩ := e.slot i d h hi
    exact ⟨v, q, GoalG.val g c r⟩
  · exact g.elim
def eC (d : D) : EM := fun _ S => .val d S
theorem je_const {d : D} {v : V} {e : Expr} (h : PE X e (tC v)) (r : ∀ ρ L H, Rep X.kx ρ L H d v) : JE X W L0 O e (eC d) := PE.imp h fun σ H Q ⟨ρ, Γ, S, e, c, g⟩ => GoalG.val g c (r _ _ _)
theorem je_int {i j pos} : JE X W L0 O (.Constant (.int i) j pos) (eC (.int i)) := je_const pe_int fun _ _ _ => by simp [Rep]
theorem je_bl {b j pos} : JE X W L0 O (.Constant (.bool b) j pos) (eC (.bl b)) := je_const pe_bl fun _ _ _ => by simp [Rep]
theorem je_non {j pos} : JE X W L0 O (.Constant .none j pos) (eC .non) := je_const pe_non fun _ _ _ => by simp [Rep]
theorem je_str {x j pos} : JE X W L0 O (.Constant (.str x) j pos) (eC (.str x)) := je_const pe_str fun _ _ _ => by simp [Rep]
def eBin (f : D → D → Sto → R D) (ma mb : EM) : EM := fun Γ S => (ma Γ S).bind fun x S1 => (mb Γ S1).bind fun y S2 => f x y S2
/-- a two-place operation's rule serves -/
def Prim2 (K : KX) (f : D → D → Sto → R D) (r : R2) : Prop := ∀ (ρ : List Addr) (L : Addr → Prop) (H : Hp) (S : Sto) (x y : D) (v u : V) (Q : VK) (QX : XK), Rep K ρ L H x v → Rep K ρ L H y u → Cells K ρ L H S → Goal K ρ L H (f x y S) Q QX → r v u H Q
theorem tE_bin {f : D → D → Sto → R D} {r : R2} {ma mb : EM} (hf : Prim2 K f r) (σ : L2.St) (H : Hp) (Q : VK) (h : tE K W L0 O (eBin f ma mb) σ H Q) : tOp r (tE K W L0 O ma) (tE K W L0 O mb) σ H Q := by
  obtain ⟨ρ, Γ, S, e, c, g⟩ := h
  refine ⟨ρ, Γ, S, e, c, GoalG.bind g fun x S1 v ρ1 H1 s1 c1 r1 g1 => ?_⟩
  refine ⟨ρ1, Γ, S1, e.step s1, c1, GoalG.bind g1 fun y S2 u ρ2 H2 s2 c2 r2 g2 => ?_⟩
  exact hf ρ2 _ H2 S2 x y v u Q _ (Rep.step s2 x v r1) r2 c2 g2
theorem je_bin {op : Operator} {a b : Expr} {pos : Pos} {f : D → D → Sto → R D} {r : R2} {ma mb : EM} (ho : OpR X (binaryOp op) r) (hf : Prim2 X.kx f r) (ha : JE X W L0 O a ma) (hb : JE X W L0 O b mb) : JE X W L0 O (.BinOp a op b pos) (eBin f ma mb) :=
  PE.imp (pe_op ho ha hb) fun σ H Q h => tE_bin hf σ H Q h
theorem je_cmp {op : CmpOp} {a b : Expr} {pos : Pos} {f : D → D → Sto → R D} {r : R2} {ma mb : EM} (ho : OpR X (compareOp op) r) (hf : Prim2 X.kx f r) (ha : JE X W L0 O a ma) (hb : JE X W L0 O b mb) (hm : behindInMarks op b = false) :
    JE X W L0 O (.Compare a [op] [b] pos) (eBin f ma mb) :=
  PE.imp (pe_cmpR ho ha hb hm) fun σ H Q h => tE_bin hf σ H Q h
end
end Pv
namespace Pv
open PySem PySem.Spec PyProof.Rows L2
variable [Tf]

/-! ### data as the library's data -/
mutual
def D.py : D → Option PyData
  | .non => some .none
  | .bl b => some (.bool b)
  | .int i => some (.int i)
  | .str x => some (.str x)
  | .tup ds => (pyAll ds).map .tuple
  | .lst ds => (pyAll ds).map .list
  | .frz ds => (pyAll ds).map .list
  | .dic _ => none
  | .fn _ => none
  | .ty _ => none
  | .ref _ => none
  | .exc _ _ => none
  | .clo _ _ => none
def pyAll : List D → Option (List PyData)
  | [] => some []
  | d :: ds => match d.py, pyAll ds with
    | some x, some xs => some (x :: xs)
    | _, _ => none
end
section
variable {K : KX} {ρ : List Addr} {L : Addr → Prop} {H : Hp}
theorem sql_frz {a : Addr} {vs : List V} (h : (∃ o, H a = some (.frz o (.lst vs))) ∨ KL K.fr a vs) : SqL K.fr H a vs := by
  rcases h with ⟨o, h⟩ | h
  · exact .inl (.inr ⟨o, h⟩)
  · exact .inr h
mutual
theorem Rep.dp : ∀ (d : D) (v : V) (p : PyData), Rep K ρ L H d v → d.py = some p → Dp K.fr H v p
  | .non, v, p, h, e => by
    unfold Rep at h; unfold D.py at e; subst h; cases e; exact .non
  | .bl b, v, p, h, e => by
    unfold Rep at h; unfold D.py at e; subst h; cases e; exact .bl b
  | .int b, v, p, h, e => by
    unfold Rep at h; unfold D.py at e; subst h; cases e; exact .int b
  | .str b, v, p, h, e => by
    unfold Rep at h; unfold D.py at e; subst h; cases e; exact .str b
  | .tup ds, v, p, h, e => by
    unfold Rep at h; unfold D.py at e
    obtain ⟨a, vs, rfl, q, r⟩ := h
    obtain ⟨ps, e1, rfl⟩ := Option.map_eq_some_iff.mp e
    exact .tup q (Reps.dp ds vs ps r e1)
  | .lst ds, v, p, h, e => by
    unfold Rep at h; unfold D.py at e
    obtain ⟨a, vs, rfl, q, _, _, r⟩ := h
    obtain ⟨ps, e1, rfl⟩ := Option.map_eq_some_iff.mp e
    exact .lst (SqL.of q) (Reps.dp ds vs ps r e1)
  | .frz ds, v, p, h, e => by
    unfold Rep at h; unfold D.py at e
    obtain ⟨a, vs, rfl, q, r⟩ := h
    obtain ⟨ps, e1, rfl⟩ := Option.map_eq_some_iff.mp e
    exact .lst (sql_frz q) (Reps.dp ds vs ps r e1)
  | .dic _, v, p, h, e => by unfold D.py at e; cases e
  | .fn _, v, p, h, e => by unfold D.py at e; cases e
  | .ty _, v, p, h, e => by unfold D.py at e; cases e
  | .ref _, v, p, h, e => by unfold D.py at e; cases e
  | .exc _ _, v, p, h, e => by unfold D.py at e; cases e
  | .clo _ _, v, p, h, e => by unfold D.py at e; cases e
theorem Reps.dp : ∀ (ds : List D) (vs : List V) (ps : List PyData), Reps K ρ L H ds vs → pyAll ds = some ps → DpAll K.fr H vs ps
  | [], vs, ps, h, e => by unfold Reps at h; unfold pyAll at e; subst h; cases e; exact .nil
  | d :: ds, vs, ps, h, e => by
    unfold Reps at h; unfold pyAll at e
    obtain ⟨v, r, rfl, q, z⟩ := h
    split at e
    · rename_i x xs e1 e2
      cases e
      exact .cons (Rep.dp d v x q e1) (Reps.dp ds r xs z e2)
    · cases e
end
theorem Reps.length : ∀ {ds : List D} {vs : List V}, Reps K ρ L H ds vs → ds.length = vs.length
  | [], vs, h => by unfold Reps at h; subst h; rfl
  | d :: ds, vs, h => by
    unfold Reps at h
    obtain ⟨v, r, rfl, q, z⟩ := h
    rw [List.length_cons, List.length_cons, Reps.length z]
theorem Reps.append : ∀ {ds es : List D} {vs us : List V}, Reps K ρ L H ds vs → Reps K ρ L H es us → Reps K ρ L H (ds ++ es) (vs ++ us)
  | [], _, vs, _, h, g => by unfold Reps at h; subst h; exact g
  | d :: ds, es, vs, us, h, g => by
    unfold Reps at h
    obtain ⟨v, r, rfl, q, z⟩ := h
    show Reps K ρ L H (d :: (ds ++ es)) (v :: (r ++ us))
    unfold Reps
    exact ⟨v, r ++ us, rfl, q, Reps.append z g⟩
theorem Reps.get : ∀ {ds : List D} {vs : List V} {i : Nat} {d : D}, Reps K ρ L H ds vs → ds[i]? = some d → ∃ v, vs[i]? = some v ∧ Rep K ρ L H d v
  | [], _, _, _, _, e => by simp at e
  | d :: ds, vs, 0, _, h, e => by
    unfold Reps at h
    obtain ⟨v, r, rfl, q, z⟩ := h
    simp at e
    subst e
    exact ⟨v, rfl, q⟩
  | d :: ds, vs, i + 1, _, h, e => by
    unfold Reps at h
    obtain ⟨v, r, rfl, q, z⟩ := h
    obtain ⟨u, e1, r1⟩ := Reps.get (i := i) z (by simpa using e)
    exact ⟨u, by simpa using e1, r1⟩
theorem Reps.drop : ∀ {ds : List D} {vs : List V} (n : Nat), Reps K ρ L H ds vs → Reps K ρ L H (ds.drop n) (vs.drop n)
  | ds, vs, 0, h => h
  | [], vs, n + 1, h => by unfold Reps at h; subst h; unfold Reps; rfl
  | d :: ds, vs, n + 1, h => by
    unfold Reps at h
    obtain ⟨v, r, rfl, q, z⟩ := h
    exact Reps.drop n z
theorem Reps.take : ∀ {ds : List D} {vs : List V} (n : Nat), Reps K ρ L H ds vs → Reps K ρ L H (ds.take n) (vs.take n)
  | ds, vs, 0, h => by rw [List.take_zero, List.take_zero]; unfold Reps; rfl
  | [], vs, n + 1, h => by unfold Reps at h; subst h; unfold Reps; rfl
  | d :: ds, vs, n + 1, h => by
    unfold Reps at h
    obtain ⟨v, r, rfl, q, z⟩ := h
    show Reps K ρ L H (d :: ds.take n) (v :: r.take n)
    unfold Reps
    exact ⟨v, r.take n, rfl, q, Reps.take n z⟩
theorem Reps.set : ∀ {ds : List D} {vs : List V} {d : D} {v : V} (n : Nat), Reps K ρ L H ds vs → Rep K ρ L H d v → Reps K ρ L H (ds.set n d) (vs.set n v)
  | [], vs, _, _, n, h, _ => by unfold Reps at h; subst h; unfold Reps; rfl
  | d :: ds, vs, _, _, 0, h, g => by
    unfold Reps at h
    obtain ⟨v, r, rfl, q, z⟩ := h
    show Reps K ρ L H (_ :: ds) (_ :: r)
    unfold Reps
    exact ⟨_, r, rfl, g, z⟩
  | d :: ds, vs, _, _, n + 1, h, g => by
    unfold Reps at h
    obtain ⟨v, r, rfl, q, z⟩ := h
    show Reps K ρ L H (d :: ds.set n _) (v :: r.set n _)
    unfold Reps
    exact ⟨v, _, rfl, q, Reps.set n z g⟩
theorem Reps.nil : Reps K ρ L H [] [] := by unfold Reps; rfl
theorem Reps.cons {d : D} {v : V} {ds : List D} {vs : List V} (h : Rep K ρ L H d v) (t : Reps K ρ L H ds vs) : Reps K ρ L H (d :: ds) (v :: vs) := by
  unfold Reps
  exact ⟨v, vs, rfl, h, t⟩
theorem Reps.rev {ds : List D} {vs : List V} (h : Reps K ρ L H ds vs) : Reps K ρ L H ds.reverse vs.reverse := by
  induction ds generalizing vs with
  | nil => unfold Reps at h; subst h; unfold Reps; rfl
  | cons d ds ih =>
    unfold Reps at h
    obtain ⟨v, r, rfl, q, z⟩ := h
    rw [List.reverse_cons, List.reverse_cons]
    exact Reps.append (ih z) (Reps.cons q Reps.nil)
theorem Reps.rep {ds : List D} {vs : List V} (h : Reps K ρ L H ds vs) (n : Nat) : Reps K ρ L H (List.replicate n ds).flatten (List.replicate n vs).flatten := by
  induction n with
  | zero => exact Reps.nil
  | succ n ih =>
    rw [List.replicate_succ, List.replicate_succ, List.flatten_cons, List.flatten_cons]
    exact Reps.append h ih
theorem Rep.int_inv {i : Int} {v : V} (h : Rep K ρ L H (.int i) v) : v = .int i := by unfold Rep at h; exact h
theorem Rep.bl_inv {i : Bool} {v : V} (h : Rep K ρ L H (.bl i) v) : v = .bl i := by unfold Rep at h; exact h
theorem Rep.str_inv {i : Str} {v : V} (h : Rep K ρ L H (.str i) v) : v = .str i := by unfold Rep at h; exact h
theorem Rep.non_inv {v : V} (h : Rep K ρ L H .non v) : v = .non := by unfold Rep at h; exact h
theorem Rep.tup_inv {ds : List D} {v : V} (h : Rep K ρ L H (.tup ds) v) : ∃ a vs, v = .ref a ∧ SqT K.fr H a vs ∧ Reps K ρ L H ds vs := by unfold Rep at h; exact h
theorem Rep.lst_inv {ds : List D} {v : V} (h : Rep K ρ L H (.lst ds) v) : ∃ a vs, v = .ref a ∧ H a = some (.lst vs) ∧ a ∉ ρ ∧ ¬ L a ∧ Reps K ρ L H ds vs := by unfold Rep at h; exact h
theorem Rep.frz_inv {ds : List D} {v : V} (h : Rep K ρ L H (.frz ds) v) : ∃ a vs, v = .ref a ∧ ((∃ o, H a = some (.frz o (.lst vs))) ∨ KL K.fr a vs) ∧ Reps K ρ L H ds vs := by unfold Rep at h; exact h
theorem rep_int {i : Int} : Rep K ρ L H (.int i) (.int i) := by unfold Rep; rfl
theorem rep_bl {i : Bool} : Rep K ρ L H (.bl i) (.bl i) := by unfold Rep; rfl
theorem rep_str {i : Str} : Rep K ρ L H (.str i) (.str i) := by unfold Rep; rfl
theorem rep_non : Rep K ρ L H .non .non := by unfold Rep; rfl
/-- the items of a sequence -/
def D.items : D → Option (List D)
  | .tup ds => some ds
  | .lst ds => some ds
  | .frz ds => some ds
  | _ => none
theorem Rep.seq {d : D} {ds : List D} {v : V} (h : Rep K ρ L H d v) (e : d.items = some ds) : ∃ a vs, v = .ref a ∧ (SqL K.fr H a vs ∨ SqT K.fr H a vs) ∧ Reps K ρ L H ds vs := by
  cases d with
  | tup xs =>
    cases e
    obtain ⟨a, vs, rfl, q, r⟩ := h.tup_inv
    exact ⟨a, vs, rfl, .inr q, r⟩
  | lst xs =>
    cases e
    obtain ⟨a, vs, rfl, q, _, _, r⟩ := h.lst_inv
    exact ⟨a, vs, rfl, .inl (SqL.of q), r⟩
  | frz xs =>
    cases e
    obtain ⟨a, vs, rfl, q, r⟩ := h.frz_inv
    exact ⟨a, vs, rfl, .inl (sql_frz q), r⟩
  | _ => cases e
end

/-! ### what the operations do -/
abbrev P1 := D → Sto → R D
abbrev P2 := D → D → Sto → R D
def ifR {α : Type} (b : Bool) (r : R α) : R α := if b then r else .stuck
def addD : P2 := fun x y S => match x, y with
  | .int i, .int j => .val (.int (i + j)) S
  | .str a, .str b => ifR (decide (a.length + b.length ≤ sizeLine)) (.val (.str (a ++ b)) S)
  | .tup xs, .tup ys => ifR (decide (xs.length + ys.length ≤ sizeLine)) (.val (.tup (xs ++ ys)) S)
  | .lst xs, .lst ys => ifR (decide (xs.length + ys.length ≤ sizeLine)) (.val (.lst (xs ++ ys)) S)
  | _, _ => .stuck
def subD : P2 := fun x y S => match x, y with
  | .int i, .int j => .val (.int (i - j)) S
  | _, _ => .stuck
/-- a text n times -/
def strTimes (x : Str) (n : Nat) : Str := ⟨(List.replicate n x.cps).foldl (· ++ ·) #[]⟩
theorem foldl_size (x : Array Nat) : ∀ (n : Nat) (acc : Array Nat), ((List.replicate n x).foldl (· ++ ·) acc).size = acc.size + n * x.size
  | 0, acc => by simp
  | n + 1, acc => by
    rw [List.replicate_succ, List.foldl_cons, foldl_size x n, Array.size_append, Nat.succ_mul]
    omega
theorem strTimes_length (x : Str) (n : Nat) : (strTimes x n).length = n * x.length := by
  show (strTimes x n).cps.size = n * x.cps.size
  unfold strTimes
  rw [foldl_size]
  simp
def rStrRep : R2 := fun x y H Q => ∃ (a : Str) (k : Int), x = .str a ∧ y = .int k ∧ (2 ≤ k ∧ k ≤ 1000 ∧ 2 ≤ a.length ∧ a.length ≤ 1000) ∧ Q (.str (strTimes a k.toNat)) H
theorem op_strRep {X : Cx} : OpR X (binaryOp .Mult) rStrRep := by
  intro pins s σ H x y v u Q I rx ry h
  obtain ⟨a, k, rfl, rfl, ⟨h1, h2, h3, h4⟩, q⟩ := h
  obtain ⟨t, rfl⟩ := rx
  obtain ⟨t', rfl⟩ := ry
  have hb : a.length * k.toNat ≤ 1000 * 1000 := Nat.mul_le_mul h4 (by omega)
  have hz : a.length * k.toNat ≤ sizeLine := Nat.le_trans hb (by decide)
  have e1 : (k == 1 || a.length == 0) = false := by
    rw [Bool.or_eq_false_iff]
    exact ⟨beq_false_of_ne (by omega), beq_false_of_ne (by omega)⟩
  refine PySem.P.mul_str ?_ (fun _ _ => ?_) (fun _ _ => ?_) ?_
  · rw [decide_eq_false (show ¬ k < -(2 ^ 63 : Int) by omega), decide_eq_false (show ¬ k ≥ 2 ^ 63 by omega)]
    rfl
  · have : (1000 : Int) * k ≤ 2 ^ 63 - 1 := by omega
    have h5 : (1000 : Int) ≤ (2 ^ 63 - 1) / k := (Int.le_ediv_iff_mul_le (by omega)).mpr this
    omega
  · unfold Builtin.Str.tooLong
    exact decide_eq_false (by omega)
  · rw [if_neg (by omega), if_neg (by rw [e1]; exact Bool.false_ne_true)]
    refine ⟨?_, .str _, H, I.tok _, ⟨_, rfl⟩, q⟩
    show (strTimes a k.toNat).length ≤ sizeLine
    rw [strTimes_length, Nat.mul_comm]
    exact hz
def mulD : P2 := fun x y S => match x, y with
  | .int i, .int j => ifR (decide ((Builtin.Int.intBits i : Int) + (Builtin.Int.intBits j : Int) ≤ 134217728)) (.val (.int (i * j)) S)
  | .lst xs, .int k => ifR (decide (-(2 ^ 63) ≤ k ∧ k < 2 ^ 63 ∧ xs.length * k.toNat ≤ sizeLine)) (.val (.lst (List.replicate k.toNat xs).flatten) S)
  | .tup xs, .int k => ifR (decide (xs ≠ [] ∧ 2 ≤ k ∧ k ≤ 1000 ∧ xs.length ≤ 1000)) (.val (.tup (List.replicate k.toNat xs).flatten) S)
  | .str a, .int k => ifR (decide (2 ≤ k ∧ k ≤ 1000 ∧ 2 ≤ a.length ∧ a.length ≤ 1000)) (.val (.str (strTimes a k.toNat)) S)
  | _, _ => .stuck
section
variable {X : Cx} {K : KX}
theorem of_ifR {b : Bool} {α β : Type} {rp : List Addr → Hp → α → β → Prop} {K : KX} {ρ : List Addr} {L : Addr → Prop} {H : Hp} {r : R α} {Q : β → Hp → Prop} {QX : XK} (g : GoalG rp K ρ L H (ifR b r) Q QX) : b = true ∧ GoalG rp K ρ L H r Q QX := by
  unfold ifR at g
  cases b with
  | true => exact ⟨rfl, by simpa using g⟩
  | false => exact (by simpa [GoalG] using g)
def OpR.or {f : Value → Value → Sem Value} {r r' : R2} (h : OpR X f r) (h' : OpR X f r') : OpR X f (fun x y H Q => r x y H Q ∨ r' x y H Q) := fun pins s σ H x y v u Q I rx ry q => q.elim (h pins s σ H x y v u Q I rx ry) (h' pins s σ H x y v u Q I rx ry)
def rStr2 (C : Str → Str → Prop) (g : Str → Str → V) : R2 := fun x y H Q => ∃ i j, x = .str i ∧ y = .str j ∧ C i j ∧ Q (g i j) H
def rAddD (K : PySem.W.Frag) : R2 := fun x y H Q => (rI0 fun i j => .int (i + j)) x y H Q ∨ ((fun x y H Q => ∃ i j, x = .str i ∧ y = .str j ∧ i.length + j.length ≤ sizeLine ∧ Q (.str (i ++ j)) H) : R2) x y H Q ∨ rCatA K x y H Q ∨ rCat x y H Q
theorem op_addD : OpR X (binaryOp .Add) (rAddD X.K) := OpR.or op_add (OpR.or op_add_str (OpR.or op_catA op_cat))
theorem prim_add : Prim2 K addD (rAddD K.fr) := by
  intro ρ L H S x y v u Q QX rx ry c g
  unfold addD at g
  split at g
  · rename_i i j
    rw [rx.int_inv, ry.int_inv]
    exact .inl ⟨_, _, rfl, rfl, GoalG.val g c rep_int⟩
  · rename_i a b
    obtain ⟨h, g⟩ := of_ifR g
    rw [rx.str_inv, ry.str_inv]
    exact .inr (.inl ⟨_, _, rfl, rfl, of_decide_eq_true h, GoalG.val g c rep_str⟩)
  · rename_i xs ys
    obtain ⟨h, g⟩ := of_ifR g
    obtain ⟨a, vs, rfl, q, r⟩ := rx.tup_inv
    obtain ⟨b, us, rfl, q2, r2⟩ := ry.tup_inv
    have hl := of_decide_eq_true h
    rw [r.length, r2.length] at hl
    refine .inr (.inr (.inl ⟨a, b, vs, us, rfl, rfl, q, q2, hl, fun e => ?_, fun n e => ?_, fun n1 n2 p hp => Goal.tup g c (r.append r2) hp⟩))
    · have : xs = [] := List.eq_nil_of_length_eq_zero (by rw [r.length, e]; rfl)
      subst this
      exact GoalG.val g c ry
    · have : ys = [] := List.eq_nil_of_length_eq_zero (by rw [r2.length, e]; rfl)
      subst this
      rw [List.append_nil] at g
      exact GoalG.val g c rx
  · rename_i xs ys
    obtain ⟨h, g⟩ := of_ifR g
    obtain ⟨a, vs, rfl, q, _, _, r⟩ := rx.lst_inv
    obtain ⟨b, us, rfl, q2, _, _, r2⟩ := ry.lst_inv
    have hl := of_decide_eq_true h
    rw [r.length, r2.length] at hl
    exact .inr (.inr (.inr ⟨a, b, vs, us, rfl, rfl, q, q2, hl, fun p hp => Goal.lst g c (r.append r2) hp⟩))
  · exact g.elim
theorem prim_sub : Prim2 K subD (rI0 fun i j => .int (i - j)) := by
  intro ρ L H S x y v u Q QX rx ry c g
  unfold subD at g
  split at g
  · rw [rx.int_inv, ry.int_inv]
    exact ⟨_, _, rfl, rfl, GoalG.val g c rep_int⟩
  · exact g.elim
def rMulD (K : PySem.W.Frag) : R2 := fun x y H Q => (rI CMulX fun i j => .int (i * j)) x y H Q ∨ rRep x y H Q ∨ rRepT K x y H Q ∨ rStrRep x y H Q
theorem op_mulD : OpR X (binaryOp .Mult) (rMulD X.K) := OpR.or op_mulX (OpR.or op_rep (OpR.or op_repT op_strRep))
theorem prim_mul : Prim2 K mulD (rMulD K.fr) := by
  intro ρ L H S x y v u Q QX rx ry c g
  unfold mulD at g
  split at g
  · rename_i i j
    obtain ⟨h, g⟩ := of_ifR g
    rw [rx.int_inv, ry.int_inv]
    have h' : (Builtin.Int.intBits i : Int) + (Builtin.Int.intBits j : Int) ≤ 134217728 := of_decide_eq_true h
    exact .inl ⟨_, _, rfl, rfl, h', GoalG.val g c rep_int⟩
  · rename_i xs k
    obtain ⟨h, g⟩ := of_ifR g
    obtain ⟨a, vs, rfl, q, _, _, r⟩ := rx.lst_inv
    rw [ry.int_inv]
    obtain ⟨h1, h2, h3⟩ := of_decide_eq_true h
    rw [r.length] at h3
    exact .inr (.inl ⟨a, k, vs, rfl, rfl, q, h1, h2, h3, fun p hp => Goal.lst g c (r.rep _) hp⟩)
  · rename_i xs k
    obtain ⟨h, g⟩ := of_ifR g
    obtain ⟨a, vs, rfl, q, r⟩ := rx.tup_inv
    rw [ry.int_inv]
    obtain ⟨h0, h1, h2, h3⟩ := of_decide_eq_true h
    rw [r.length] at h3
    exact .inr (.inr (.inl ⟨a, k, vs, rfl, rfl, q, fun e => h0 (List.eq_nil_of_length_eq_zero (by rw [r.length, e]; rfl)), h1, h2, h3, fun p hp => Goal.tup g c (r.rep _) hp⟩))
  · rename_i a k
    obtain ⟨h, g⟩ := of_ifR g
    rw [rx.str_inv, ry.int_inv]
    exact .inr (.inr (.inr ⟨a, k, rfl, rfl, of_decide_eq_true h, GoalG.val g c rep_str⟩))
  · exact g.elim
/-- two ints under a condition that can be looked at -/
def intD (C : Int → Int → Bool) (f : Int → Int → D) : P2 := fun x y S => match x, y with
  | .int i, .int j => ifR (C i j) (.val (f i j) S)
  | _, _ => .stuck
theorem prim_int {C : Int → Int → Bool} {f : Int → Int → D} {C' : Int → Int → Prop} {f' : Int → Int → V} (hc : ∀ i j, C i j = true → C' i j) (hf : ∀ ρ L H i j, Rep K ρ L H (f i j) (f' i j)) : Prim2 K (intD C f) (rI C' f') := by
  intro ρ L H S x y v u Q QX rx ry c g
  unfold intD at g
  split at g
  · obtain ⟨h, g⟩ := of_ifR g
    rw [rx.int_inv, ry.int_inv]
    exact ⟨_, _, rfl, rfl, hc _ _ h, GoalG.val g c (hf _ _ _ _ _)⟩
  · exact g.elim
def fdivD : P2 := intD (fun i j => decide (0 < j ∧ j < 1073741824)) fun i j => .int (i / j)
theorem prim_fdiv : Prim2 K fdivD (rI CDiv fun i j => .int (i / j)) := prim_int (fun i j h => show 0 < j ∧ j < 1073741824 from of_decide_eq_true h) fun _ _ _ _ _ => rep_int
def modD : P2 := intD (fun _ j => decide (0 < j)) fun i j => .int (i % j)
theorem prim_mod : Prim2 K modD (rI (fun _ j => 0 < j) fun i j => .int (i % j)) := prim_int (fun _ _ h => of_decide_eq_true h) fun _ _ _ _ _ => rep_int
def powD : P2 := intD (fun i j => decide (0 ≤ j ∧ j ≤ 1000000 ∧ i.natAbs < 2 ^ 64)) fun i j => .int (i ^ j.toNat)
theorem prim_pow : Prim2 K powD (rI CPow fun i j => .int (i ^ j.toNat)) := prim_int (fun i j h => show 0 ≤ j ∧ j ≤ 1000000 ∧ i.natAbs < 2 ^ 64 from of_decide_eq_true h) fun _ _ _ _ _ => rep_int
def cmpD (f : Int → Int → Bool) : P2 := fun x y S => match x, y with
  | .int i, .int j => .val (.bl (f i j)) S
  | _, _ => .stuck
theorem prim_cmp {f : Int → Int → Bool} : Prim2 K (cmpD f) (rI0 fun i j => .bl (f i j)) := by
  intro ρ L H S x y v u Q QX rx ry c g
  unfold cmpD at g
  split at g
  · rw [rx.int_inv, ry.int_inv]
    exact ⟨_, _, rfl, rfl, GoalG.val g c rep_bl⟩
  · exact g.elim
def eqD : P2 := fun x y S => match x, y with
  | .int i, .int j => .val (.bl (decide (i = j))) S
  | .str a, .str b => .val (.bl (decide (a = b))) S
  | x, y => match x.py, y.py with
    | some a, some b => ifR (SeqAt.shaped a && SeqAt.shaped b) (.val (.bl (PyData.eqv a b)) S)
    | _, _ => .stuck
def neD : P2 := fun x y S => match x, y with
  | .int i, .int j => .val (.bl (!decide (i = j))) S
  | .str a, .str b => .val (.bl (!decide (a = b))) S
  | x, y => match x.py, y.py with
    | some a, some b => ifR (SeqAt.shaped a && SeqAt.shaped b) (.val (.bl (!PyData.eqv a b)) S)
    | _, _ => .stuck
def rEqX (K : PySem.W.Frag) : R2 := fun x y H Q => rEq x y H Q ∨ rEqD K x y H Q
def rNeX (K : PySem.W.Frag) : R2 := fun x y H Q => rNe x y H Q ∨ rNeD K x y H Q
theorem op_eqX (hu : X.A.units + 64 < cLine) : OpR X (compareOp .Eq) (rEqX X.K) := OpR.or op_eq (op_eqD hu)
theorem op_neX (hu : X.A.units + 64 < cLine) : OpR X (compareOp .NotEq) (rNeX X.K) := OpR.or op_ne (op_neD hu)
theorem dec_int' {i j : Int} : decide (V.int i = V.int j) = decide (i = j) := by
  by_cases h : i = j
  · subst h; simp
  · rw [decide_eq_false h, decide_eq_false (fun z => h (by cases z; rfl))]
theorem dec_str' {i j : Str} : decide (V.str i = V.str j) = decide (i = j) := by
  by_cases h : i = j
  · subst h; simp
  · rw [decide_eq_false h, decide_eq_false (fun z => h (by cases z; rfl))]
theorem prim_eq : Prim2 K eqD (rEqX K.fr) := by
  intro ρ L H S x y v u Q QX rx ry c g
  unfold eqD at g
  split at g
  · rw [rx.int_inv, ry.int_inv]
    exact .inl ⟨rfl, GoalG.val g c (by rw [dec_int']; exact rep_bl)⟩
  · rw [rx.str_inv, ry.str_inv]
    exact .inl ⟨rfl, GoalG.val g c (by rw [dec_str']; exact rep_bl)⟩
  · split at g
    · rename_i a b e1 e2
      obtain ⟨h, g⟩ := of_ifR g
      obtain ⟨h1, h2⟩ := Bool.and_eq_true_iff.mp h
      exact .inr ⟨a, b, Rep.dp _ v a rx e1, Rep.dp _ u b ry e2, h1, h2, GoalG.val g c rep_bl⟩
    · exact g.elim
theorem prim_ne : Prim2 K neD (rNeX K.fr) := by
  intro ρ L H S x y v u Q QX rx ry c g
  unfold neD at g
  split at g
  · rw [rx.int_inv, ry.int_inv]
    exact .inl ⟨rfl, GoalG.val g c (by rw [dec_int']; exact rep_bl)⟩
  · rw [rx.str_inv, ry.str_inv]
    exact .inl ⟨rfl, GoalG.val g c (by rw [dec_str']; exact rep_bl)⟩
  · split at g
    · rename_i a b e1 e2
      obtain ⟨h, g⟩ := of_ifR g
      obtain ⟨h1, h2⟩ := Bool.and_eq_true_iff.mp h
      exact .inr ⟨a, b, Rep.dp _ v a rx e1, Rep.dp _ u b ry e2, h1, h2, GoalG.val g c rep_bl⟩
    · exact g.elim
/-- is None -/
def D.isNon : D → Bool
  | .non => true
  | _ => false
theorem Rep.isNon {ρ : List Addr} {L : Addr → Prop} {H : Hp} {d : D} {v : V} (h : Rep K ρ L H d v) : decide (v = .non) = d.isNon := by
  cases d with
  | non => rw [h.non_inv]; rfl
  | _ => (
    refine decide_eq_false ?_
    rintro rfl
    simp [Rep] at h)
def isND : P2 := fun x y S => match y with
  | .non => .val (.bl x.isNon) S
  | _ => .stuck
def notND : P2 := fun x y S => match y with
  | .non => .val (.bl (!x.isNon)) S
  | _ => .stuck
theorem prim_isN : Prim2 K isND (fun x y H Q => y = .non ∧ Q (.bl (decide (x = .non))) H) := by
  intro ρ L H S x y v u Q QX rx ry c g
  unfold isND at g
  split at g
  · exact ⟨ry.non_inv, GoalG.val g c (by rw [rx.isNon]; exact rep_bl)⟩
  · exact g.elim
theorem prim_notN : Prim2 K notND (fun x y H Q => y = .non ∧ Q (.bl (!decide (x = .non))) H) := by
  intro ρ L H S x y v u Q QX rx ry c g
  unfold notND at g
  split at g
  · exact ⟨ry.non_inv, GoalG.val g c (by rw [rx.isNon]; exact rep_bl)⟩
  · exact g.elim
def isBD : P2 := fun x y S => match x, y with
  | .bl a, .bl b => .val (.bl (decide (a = b))) S
  | _, _ => .stuck
def notBD : P2 := fun x y S => match x, y with
  | .bl a, .bl b => .val (.bl (!decide (a = b))) S
  | _, _ => .stuck
theorem prim_isB : Prim2 K isBD (fun x y H Q => ∃ a b, x = .bl a ∧ y = .bl b ∧ Q (.bl (decide (a = b))) H) := by
  intro ρ L H S x y v u Q QX rx ry c g
  unfold isBD at g
  split at g
  · rw [rx.bl_inv, ry.bl_inv]; exact ⟨_, _, rfl, rfl, GoalG.val g c rep_bl⟩
  · exact g.elim
theorem prim_notB : Prim2 K notBD (fun x y H Q => ∃ a b, x = .bl a ∧ y = .bl b ∧ Q (.bl (!decide (a = b))) H) := by
  intro ρ L H S x y v u Q QX rx ry c g
  unfold notBD at g
  split at g
  · rw [rx.bl_inv, ry.bl_inv]; exact ⟨_, _, rfl, rfl, GoalG.val g c rep_bl⟩
  · exact g.elim
end
end Pv
namespace Pv
open PySem PySem.Spec PyProof.Rows L2
variable [Tf]

/-! ### tests -/
abbrev BM := Env' → Sto → R Bool
abbrev LM := Env' → Sto → R (List D)
def tT (K : KX) (W : WX) (L0 : Addr → Prop) (O : List Nat) (m : BM) : TT := fun σ H Q => ∃ (ρ : List Addr) (Γ : Env') (S : Sto), EnvOk K ρ L0 O σ Γ H ∧ Cells K ρ (LO L0 O σ) H S ∧
  GoalB K ρ (LO L0 O σ) H (m Γ S) Q fun c od H' => W c od σ H'
def tA (K : KX) (W : WX) (L0 : Addr → Prop) (O : List Nat) (m : LM) : TA := fun σ H Q => ∃ (ρ : List Addr) (Γ : Env') (S : Sto), EnvOk K ρ L0 O σ Γ H ∧ Cells K ρ (LO L0 O σ) H S ∧
  GoalL K ρ (LO L0 O σ) H (m Γ S) Q fun c od H' => W c od σ H'
abbrev JT (X : Cx) (W : WX) (L0 : Addr → Prop) (O : List Nat) (e : Expr) (m : BM) : Prop := PT X e (tT X.kx W L0 O m)
abbrev JW (X : Cx) (W : WX) (L0 : Addr → Prop) (O : List Nat) (e : Expr) (m : BM) : Prop := PW X e (tT X.kx W L0 O m)
abbrev JA (X : Cx) (W : WX) (L0 : Addr → Prop) (O : List Nat) (es : List Expr) (m : LM) : Prop := PA X es (tA X.kx W L0 O m)
theorem PW.imp {X : Cx} {e : Expr} {t t' : TT} (h : PW X e t) (i : ∀ σ H Q, t' σ H Q → t σ H Q) : PW X e t' := ⟨fun w pins s σ H Q I hq => h.run w pins s σ H Q I (i σ H Q hq)⟩
theorem PA.imp {X : Cx} {e : List Expr} {t t' : TA} (h : PA X e t) (i : ∀ σ H Q, t' σ H Q → t σ H Q) : PA X e t' := ⟨fun w pins s σ H Q I hq => h.run w pins s σ H Q I (i σ H Q hq)⟩
def ofB (d : D) (S : Sto) : R Bool := match d with
  | .bl b => .val b S
  | _ => .stuck
def bT (m : EM) : BM := fun Γ S => (m Γ S).bind ofB
def bNot (m : BM) : BM := fun Γ S => (m Γ S).bind fun b S1 => .val (!b) S1
def bAnd (m n : BM) : BM := fun Γ S => (m Γ S).bind fun b S1 => if b then n Γ S1 else .val false S1
def bOr (m n : BM) : BM := fun Γ S => (m Γ S).bind fun b S1 => if b then .val true S1 else n Γ S1
def eNot (m : EM) : EM := fun Γ S => (m Γ S).bind fun d S1 => (ofB d S1).bind fun b S2 => .val (.bl (!b)) S2
def eAnd (m n : EM) : EM := fun Γ S => (m Γ S).bind fun d S1 => (ofB d S1).bind fun b S2 => if b then n Γ S2 else .val (.bl false) S2
def eOr (m n : EM) : EM := fun Γ S => (m Γ S).bind fun d S1 => (ofB d S1).bind fun b S2 => if b then .val (.bl true) S2 else n Γ S2
def eIf (c : BM) (m n : EM) : EM := fun Γ S => (c Γ S).bind fun b S1 => if b then m Γ S1 else n Γ S1
section
variable {X : Cx} {W : WX} {L0 : Addr → Prop} {O : List Nat} {a b : Expr} {ma mb : EM} {pos : Pos}
theorem ofB_goal {γ δ : Type} {rp : List Addr → Hp → γ → δ → Prop} {K : KX} {ρ : List Addr} {L : Addr → Prop} {H : Hp} {d : D} {S : Sto} {f : Bool → Sto → R γ} {Q : δ → Hp → Prop} {QX : XK} (g : GoalG rp K ρ L H ((ofB d S).bind f) Q QX) :
    ∃ b, d = .bl b ∧ GoalG rp K ρ L H (f b S) Q QX := by
  unfold ofB at g
  split at g
  · exact ⟨_, rfl, g⟩
  · exact g.elim
theorem ofB_goal' {K : KX} {ρ : List Addr} {L : Addr → Prop} {H : Hp} {d : D} {S : Sto} {Q : Bool → Hp → Prop} {QX : XK} (g : GoalB K ρ L H (ofB d S) Q QX) :
    ∃ b, d = .bl b ∧ GoalB K ρ L H (.val b S) Q QX := by
  unfold ofB at g
  split at g
  · exact ⟨_, rfl, g⟩
  · exact g.elim
theorem tT_test {t : TE} {m : EM} (ht : ∀ σ H Q, tE X.kx W L0 O m σ H Q → t σ H Q) (σ : L2.St) (H : Hp) (Q : Bool → Hp → Prop) (h : tT X.kx W L0 O (bT m) σ H Q) : t σ H fun x H' => ∃ k, x = .bl k ∧ Q k H' := by
  obtain ⟨ρ, Γ, S, e, c, g⟩ := h
  refine ht σ H _ ⟨ρ, Γ, S, e, c, GoalG.bind g fun d S1 v ρ1 H1 s1 c1 r1 g1 => ?_⟩
  obtain ⟨k, rfl, g2⟩ := ofB_goal' g1
  exact ⟨k, r1.bl_inv, GoalG.val g2 c1 rfl⟩
theorem jt_cmp {op : CmpOp} {f : P2} {r : R2} (ho : OpR X (compareOp op) r) (hf : Prim2 X.kx f r) (ha : JE X W L0 O a ma) (hb : JE X W L0 O b mb) (hm : behindInMarks op b = false) :
    JT X W L0 O (.Compare a [op] [b] pos) (bT (eBin f ma mb)) :=
  PT.imp (pt_cmpR ho ha hb hm) fun σ H Q h => tT_test (fun σ H Q h => tE_bin hf σ H Q h) σ H Q h
/-- an expression whose value is a bool, as a test -/
theorem jt_val {e : Expr} {m : EM} (h : JE X W L0 O e m) (he : ∀ whole, isTrue e X.env whole = (do let v ← whole; standAt e.pos; holding [v] (truthy v)) := by intro _; rfl) : JT X W L0 O e (bT m) :=
  PT.imp (pt_val h he) fun σ H Q h => tT_test (fun _ _ _ h => h) σ H Q h
theorem jt_not {m : BM} (h : JT X W L0 O a m) : JT X W L0 O (.UnaryOp .Not a pos) (bNot m) := PT.imp (pt_not h) fun σ H Q h => by
  obtain ⟨ρ, Γ, S, e, c, g⟩ := h
  exact ⟨ρ, Γ, S, e, c, GoalG.bind g fun d S1 v ρ1 H1 s1 c1 r1 g1 => GoalG.val g1 c1 (by rw [r1])⟩
theorem jw_and1 {m : BM} (h : JT X W L0 O a m) : JW X W L0 O (.BoolOp .And [a] pos) m := pw_and1 h
theorem jw_or1 {m : BM} (h : JT X W L0 O a m) : JW X W L0 O (.BoolOp .Or [a] pos) m := pw_or1 h
theorem jw_and {m n : BM} {rest : List Expr} (ha : JT X W L0 O a m) (hb : JW X W L0 O (.BoolOp .And (b :: rest) pos) n) : JW X W L0 O (.BoolOp .And (a :: b :: rest) pos) (bAnd m n) := PW.imp (pw_and ha hb) fun σ H Q h => by
  obtain ⟨ρ, Γ, S, e, c, g⟩ := h
  refine ⟨ρ, Γ, S, e, c, GoalG.bind g fun d S1 v ρ1 H1 s1 c1 r1 g1 => ?_⟩
  subst r1
  cases v with
  | true => exact ⟨ρ1, Γ, S1, e.step s1, c1, g1⟩
  | false => exact GoalG.val g1 c1 rfl
theorem jw_or {m n : BM} {rest : List Expr} (ha : JT X W L0 O a m) (hb : JW X W L0 O (.BoolOp .Or (b :: rest) pos) n) : JW X W L0 O (.BoolOp .Or (a :: b :: rest) pos) (bOr m n) := PW.imp (pw_or ha hb) fun σ H Q h => by
  obtain ⟨ρ, Γ, S, e, c, g⟩ := h
  refine ⟨ρ, Γ, S, e, c, GoalG.bind g fun d S1 v ρ1 H1 s1 c1 r1 g1 => ?_⟩
  subst r1
  cases v with
  | false => exact ⟨ρ1, Γ, S1, e.step s1, c1, g1⟩
  | true => exact GoalG.val g1 c1 rfl
theorem JW.jt {e : Expr} {m : BM} (h : JW X W L0 O e m) : JT X W L0 O e m := h.pt
theorem je_one {op} (h : JE X W L0 O a ma) : JE X W L0 O (.BoolOp op [a] pos) ma := pe_one h
theorem je_and {rest : List Expr} (ha : JE X W L0 O a ma) (hb : JE X W L0 O (.BoolOp .And (b :: rest) pos) mb) : JE X W L0 O (.BoolOp .And (a :: b :: rest) pos) (eAnd ma mb) := PE.imp (pe_and ha hb) fun σ H Q h => by
  obtain ⟨ρ, Γ, S, e, c, g⟩ := h
  refine ⟨ρ, Γ, S, e, c, GoalG.bind g fun d S1 v ρ1 H1 s1 c1 r1 g1 => ?_⟩
  obtain ⟨k, rfl, g2⟩ := ofB_goal g1
  refine ⟨k, r1.bl_inv, ?_⟩
  cases k with
  | true => exact ⟨ρ1, Γ, S1, e.step s1, c1, g2⟩
  | false => exact GoalG.val g2 c1 rep_bl
theorem je_or {rest : List Expr} (ha : JE X W L0 O a ma) (hb : JE X W L0 O (.BoolOp .Or (b :: rest) pos) mb) : JE X W L0 O (.BoolOp .Or (a :: b :: rest) pos) (eOr ma mb) := PE.imp (pe_or ha hb) fun σ H Q h => by
  obtain ⟨ρ, Γ, S, e, c, g⟩ := h
  refine ⟨ρ, Γ, S, e, c, GoalG.bind g fun d S1 v ρ1 H1 s1 c1 r1 g1 => ?_⟩
  obtain ⟨k, rfl, g2⟩ := ofB_goal g1
  refine ⟨k, r1.bl_inv, ?_⟩
  cases k with
  | false => exact ⟨ρ1, Γ, S1, e.step s1, c1, g2⟩
  | true => exact GoalG.val g2 c1 rep_bl
theorem je_not (ha : JE X W L0 O a ma) : JE X W L0 O (.UnaryOp .Not a pos) (eNot ma) := PE.imp (pe_not ha) fun σ H Q h => by
  obtain ⟨ρ, Γ, S, e, c, g⟩ := h
  refine ⟨ρ, Γ, S, e, c, GoalG.bind g fun d S1 v ρ1 H1 s1 c1 r1 g1 => ?_⟩
  obtain ⟨k, rfl, g2⟩ := ofB_goal g1
  exact ⟨k, r1.bl_inv, GoalG.val g2 c1 rep_bl⟩
theorem je_ifx {t : Expr} {mc : BM} (hc : JT X W L0 O t mc) (ha : JE X W L0 O a ma) (hb : JE X W L0 O b mb) : JE X W L0 O (.IfExp t a b pos) (eIf mc ma mb) := PE.imp (pe_ifExp hc ha hb) fun σ H Q h => by
  obtain ⟨ρ, Γ, S, e, c, g⟩ := h
  refine ⟨ρ, Γ, S, e, c, GoalG.bind g fun d S1 v ρ1 H1 s1 c1 r1 g1 => ?_⟩
  subst r1
  cases v with
  | true => exact ⟨ρ1, Γ, S1, e.step s1, c1, g1⟩
  | false => exact ⟨ρ1, Γ, S1, e.step s1, c1, g1⟩
/-- a op b op' c -/
def eChain (f f' : P2) (ma mb mc : EM) : EM := fun Γ S => (ma Γ S).bind fun x S1 => (mb Γ S1).bind fun y S2 => (f x y S2).bind fun z S3 => (ofB z S3).bind fun k S4 => if k then (mc Γ S4).bind fun w S5 => f' y w S5 else .val (.bl false) S4
theorem tE_chain {r r' : R2} {f f' : P2} {mc : EM} (hf : Prim2 X.kx f r) (hf' : Prim2 X.kx f' r') (σ : L2.St) (H : Hp) (Q : VK) (h : tE X.kx W L0 O (eChain f f' ma mb mc) σ H Q) : tChain r r' (tE X.kx W L0 O ma) (tE X.kx W L0 O mb) (tE X.kx W L0 O mc) σ H Q := by
  obtain ⟨ρ, Γ, S, e, c, g⟩ := h
  refine ⟨ρ, Γ, S, e, c, GoalG.bind g fun x S1 v ρ1 H1 s1 c1 r1 g1 => ?_⟩
  refine ⟨ρ1, Γ, S1, e.step s1, c1, GoalG.bind g1 fun y S2 u ρ2 H2 s2 c2 r2 g2 => ?_⟩
  refine hf ρ2 _ H2 S2 x y v u _ _ (Rep.step s2 x v r1) r2 c2 (GoalG.bind g2 fun z S3 w ρ3 H3 s3 c3 r3 g3 => ?_)
  obtain ⟨k, rfl, g4⟩ := ofB_goal g3
  refine ⟨k, r3.bl_inv, ?_⟩
  cases k with
  | false => exact GoalG.val g4 c3 rep_bl
  | true =>
    refine ⟨ρ3, Γ, S3, ((e.step s1).step s2).step s3, c3, GoalG.bind g4 fun z S5 w' ρ5 H5 s5 c5 r5 g5 => ?_⟩
    exact hf' ρ5 _ H5 S5 y z u w' _ _ (Rep.step s5 y u (Rep.step s3 y u r2)) r5 c5 g5
theorem je_chain {op op' : CmpOp} {r r' : R2} {f f' : P2} {d : Expr} {mc : EM} (ho : OpR X (compareOp op) r) (ho' : OpR X (compareOp op') r') (hf : Prim2 X.kx f r) (hf' : Prim2 X.kx f' r') (ha : JE X W L0 O a ma) (hb : JE X W L0 O b mb) (hc : JE X W L0 O d mc)
    (hm : lastMarks [op, op'] [b, d] = false := by with_unfolding_all rfl) : JE X W L0 O (.Compare a [op, op'] [b, d] pos) (eChain f f' ma mb mc) := PE.imp (pe_chain ho ho' ha hb hc hm) fun σ H Q h => tE_chain hf hf' σ H Q h
theorem jt_chain {op op' : CmpOp} {r r' : R2} {f f' : P2} {d : Expr} {mc : EM} (ho : OpR X (compareOp op) r) (ho' : OpR X (compareOp op') r') (hf : Prim2 X.kx f r) (hf' : Prim2 X.kx f' r') (ha : JE X W L0 O a ma) (hb : JE X W L0 O b mb) (hc : JE X W L0 O d mc)
    (hm : lastMarks [op, op'] [b, d] = false := by with_unfolding_all rfl) : JT X W L0 O (.Compare a [op, op'] [b, d] pos) (bT (eChain f f' ma mb mc)) := PT.imp (pt_chain ho ho' ha hb hc hm) fun σ H Q h => tT_test (fun σ H Q h => tE_chain hf hf' σ H Q h) σ H Q h

/-! ### argument lists, displays -/
def aNil : LM := fun _ S => .val [] S
def aCons (m : EM) (n : LM) : LM := fun Γ S => (m Γ S).bind fun d S1 => (n Γ S1).bind fun ds S2 => .val (d :: ds) S2
theorem ja_nil : JA X W L0 O [] aNil := PA.imp pa_nil fun σ H Q ⟨ρ, Γ, S, e, c, g⟩ => GoalG.val g c Reps.nil
theorem ja_cons {es : List Expr} {n : LM} (ha : JE X W L0 O a ma) (hr : JA X W L0 O es n) (hs : starEach (a :: es) X.env = (false, eval a X.env) :: starEach es X.env := by rfl) : JA X W L0 O (a :: es) (aCons ma n) := PA.imp (pa_cons ha hr hs) fun σ H Q h => by
  obtain ⟨ρ, Γ, S, e, c, g⟩ := h
  refine ⟨ρ, Γ, S, e, c, GoalG.bind g fun d S1 v ρ1 H1 s1 c1 r1 g1 => ?_⟩
  refine ⟨ρ1, Γ, S1, e.step s1, c1, GoalG.bind g1 fun ds S2 vs ρ2 H2 s2 c2 r2 g2 => ?_⟩
  exact GoalG.val g2 c2 (Reps.cons (Rep.step s2 d v r1) r2)
/-- a rule upon an argument list -/
abbrev PN := List D → Sto → R D
def PrimN (K : KX) (f : PN) (r : List V → Hp → VK → Prop) : Prop := ∀ (ρ : List Addr) (L : Addr → Prop) (H : Hp) (S : Sto) (ds : List D) (vs : List V) (Q : VK) (QX : XK), Reps K ρ L H ds vs → Cells K ρ L H S → Goal K ρ L H (f ds S) Q QX → r vs H Q
def eN (f : PN) (m : LM) : EM := fun Γ S => (m Γ S).bind f
theorem tE_N {f : PN} {m : LM} {r : List V → Hp → VK → Prop} (hf : PrimN X.kx f r) (σ : L2.St) (H : Hp) (Q : VK) (h : tE X.kx W L0 O (eN f m) σ H Q) : tA X.kx W L0 O m σ H fun vs H1 => r vs H1 Q := by
  obtain ⟨ρ, Γ, S, e, c, g⟩ := h
  refine ⟨ρ, Γ, S, e, c, GoalG.bind g fun ds S1 vs ρ1 H1 s1 c1 r1 g1 => ?_⟩
  exact hf ρ1 _ H1 S1 ds vs Q _ r1 c1 g1
def tupN : PN := fun ds S => ifR (decide (ds.length ≤ sizeLine)) (.val (.tup ds) S)
def lstN : PN := fun ds S => ifR (decide (ds.length ≤ sizeLine)) (.val (.lst ds) S)
theorem je_tup {es : List Expr} {m : LM} {x1} (h : JA X W L0 O es m) : JE X W L0 O (.Tuple es x1 pos) (eN tupN m) := PE.imp (pe_tup h) fun σ H Q hq =>
  tE_N (r := fun xs H1 Q => xs.length ≤ sizeLine ∧ ∀ p, H1 p = none → Q (.ref p) (upd H1 p (.tup xs))) (fun ρ L H S ds vs Q QX r c g => by
    obtain ⟨hl, g⟩ := of_ifR g
    exact ⟨by rw [← r.length]; exact of_decide_eq_true hl, fun p hp => Goal.tup g c r hp⟩) σ H Q hq
theorem je_lst {es : List Expr} {m : LM} (h : JA X W L0 O es m) : JE X W L0 O (.List es pos) (eN lstN m) := PE.imp (pe_lst h) fun σ H Q hq =>
  tE_N (r := fun xs H1 Q => xs.length ≤ sizeLine ∧ ∀ p, H1 p = none → Q (.ref p) (upd H1 p (.lst xs))) (fun ρ L H S ds vs Q QX r c g => by
    obtain ⟨hl, g⟩ := of_ifR g
    exact ⟨by rw [← r.length]; exact of_decide_eq_true hl, fun p hp => Goal.lst g c r hp⟩) σ H Q hq
/-- a built-in, a built-in class -/
theorem je_callB {id : String} {x : Str} {es : List Expr} {m : LM} {f : PN} {r : List V → Hp → VK → Prop} {p : Pos} (hc : CallR X (.builtin id) r) (hf : PrimN X.kx f r) (hg : Gl X x) (hm : X.mg x = none) (hv : bootBuiltins x = some (.builtin id)) (ha : JA X W L0 O (a :: es) m)
    (hn : x ≠ "__name__" := by decide) (hdb : (x == ("__debug__" : Str)) = false := by decide) (he : starEach (a :: es) X.env = (false, eval a X.env) :: starEach es X.env := by rfl) (hpl : (backTo pos (starEach es X.env)).any (·.1) = false := by rfl) :
    JE X W L0 O (.Call (.Name x p) (a :: es) [] pos) (eN f m) := PE.imp (pe_callB hc hg hm hv ha hn hdb he hpl) fun σ H Q h => tE_N hf σ H Q h
theorem je_callTy {T : String} {x : Str} {es : List Expr} {m : LM} {f : PN} {r : List V → Hp → VK → Prop} {p : Pos} (hc : CallR X (.type T) r) (hf : PrimN X.kx f r) (hg : Gl X x) (hm : X.mg x = none) (hv : bootBuiltins x = some (.type T)) (ha : JA X W L0 O (a :: es) m)
    (hn : x ≠ "__name__" := by decide) (hdb : (x == ("__debug__" : Str)) = false := by decide) (he : starEach (a :: es) X.env = (false, eval a X.env) :: starEach es X.env := by rfl) (hpl : (backTo pos (starEach es X.env)).any (·.1) = false := by rfl) :
    JE X W L0 O (.Call (.Name x p) (a :: es) [] pos) (eN f m) := PE.imp (pe_callTy hc hg hm hv ha hn hdb he hpl) fun σ H Q h => tE_N hf σ H Q h

/-! ### defs -/
/-- a def that does F -/
def spF (K : KX) (n : Nat) (F : PN) : Sp := fun vs H Q E => ∃ (ρ : List Addr) (L : Addr → Prop) (S : Sto) (ds : List D), Reps K ρ L H ds vs ∧ Cells K ρ L H S ∧ ds.length = n ∧ Goal K ρ L H (F ds S) Q E
/-- FnOk where no repr is under way -/
structure FnG (P : Program) (w : World) (K : PySem.W.Frag) (mg : Str → Option Value) (base : Heap) (CX : CXT) (k : Nat) (f : Addr) (fd : FuncData) (ps : List Str) (sp : Sp) : Prop where
  len : ∀ vs H Q E, sp vs H Q E → vs.length = ps.length
  run : ∀ (A : Around) (outer : List Env) (s : Shared) (H : Hp) (args : Args) (us : List Value) (vs : List V) (Q : VK) (E : XK), Room k A → A.guards = some [] → Env0 P w K mg base A outer s H → BindsTo s fd args (ps.zip us) → Vals vs us → sp vs H Q E →
    codeAny (model P w) A (.call (.ref f) args) (CR CX outer P w H s Q E) s
theorem FnG.mono {P : Program} {w : World} {K : PySem.W.Frag} {mg : Str → Option Value} {base : Heap} {CX : CXT} {j k : Nat} {f : Addr} {fd : FuncData} {ps : List Str} {sp : Sp} (F : FnG P w K mg base CX j f fd ps sp) (h : j ≤ k) : FnG P w K mg base CX k f fd ps sp :=
  ⟨F.len, fun A outer s H args us vs Q E hr => F.run A outer s H args us vs Q E (hr.mono h)⟩
def callN (n : Nat) (F : PN) : PN := fun ds S => ifR (decide (ds.length = n)) (F ds S)
theorem run_G {k : Nat} {f : Addr} {fd : FuncData} {ps : List Str} {sp : Sp} {E : XK} {pins : List (Addr × Obj)} {Q : VK} {args : Args} {us : List Value} {vs : List V} {s : Shared} (F : FnG X.prog X.w X.K X.mg X.base (L2.CX X.prog X.w) k f fd ps sp) (hr : Room k X.A) (gd : X.A.guards = some [])
    (hb : BindsTo s fd args (ps.zip us)) (hx : PassesAt (L2.CX X.prog X.w) X σ E) (I : Inv X pins σ H s) (r : Vals vs us) (h : sp vs H Q E) : wpAny (model X.prog X.w) X.A (call (.ref f) args.pos args.kw) (EP X pins σ Q) X.xe s := by
  refine wpAny_call (codeAny_mono (F.run X.A X.stack s H args us vs Q E hr gd I.env0 hb r h) fun r s' hq => ?_)
  cases r with
  | error e => exact hx pins H s e s' I hq
  | ok fl =>
    cases fl with
    | ret u => exact I.after hq
    | next => exact False.elim hq
    | brk => exact False.elim hq
    | cont => exact False.elim hq
theorem je_call {k : Nat} {f : Addr} {fd : FuncData} {ps : List Str} {x : Str} {es : List Expr} {m : LM} {F : PN} {p : Pos} (G : FnG X.prog X.w X.K X.mg X.base (L2.CX X.prog X.w) k f fd ps (spF ⟨X.K, none, X.base, X.mg⟩ ps.length F)) (hcalm : X.calm = true) (tk : Takes X W) (hr : Room k X.A) (gd : X.A.guards = some [])
    (hg : Gl X x) (hm : X.mg x = some (.ref f)) (hk : PySem.W.keepIn X.K (.ref f) = true) (hb : Binds X.K fd ps []) (ha : JA X W L0 O (a :: es) m)
    (hdb : (x == ("__debug__" : Str)) = false := by decide) (he : starEach (a :: es) X.env = (false, eval a X.env) :: starEach es X.env := by rfl) (hpl : (backTo pos (starEach es X.env)).any (·.1) = false := by rfl) :
    JE X W L0 O (.Call (.Name x p) (a :: es) [] pos) (eN (callN ps.length F) m) := ⟨fun pins s σ H Q I h => by
  obtain ⟨ρ, Γ, S, e, c, g⟩ := h
  refine wpAny_Call_Name_kw (ld_glob I hg hm ?_ hdb)
  refine PySem.W.callWith_K (h₀ := X.base) I.ok.mod.kin hk (thn (ha.run pos pins s σ H (fun vs H1 => spF ⟨X.K, none, X.base, X.mg⟩ ps.length F vs H1 Q fun c od H' => W c od σ H') I ⟨ρ, Γ, S, e, c, GoalG.bind g fun ds S1 vs ρ1 H1 s1 c1 r1 g1 => ?_⟩) fun us s1 ⟨vs, H1, I1, r, q⟩ => ⟨I1.kIn, ?_⟩) he hpl
  · obtain ⟨hn, g2⟩ := of_ifR g1
    rw [kx_calm hcalm] at r1 c1 g2
    exact ⟨ρ1, LO L0 O σ, S1, ds, r1, c1, of_decide_eq_true hn, g2⟩
  · have hl : us.length = ps.length := by rw [← r.length]; exact G.len _ _ _ _ q
    have hb' := hb s1 us I1.kIn (by simpa using hl)
    rw [List.append_nil] at hb'
    exact run_G (args := ⟨us, []⟩) G hr gd hb' (passAt tk σ) I1 r q⟩

end
/-! ### a borrowed list -/
section
mutual
def noLst : D → Bool
  | .lst _ => false
  | .dic _ => false
  | .tup ds => noLsts ds
  | .frz ds => noLsts ds
  | .exc _ _ => false
  | .clo _ _ => false
  | _ => true
def noLsts : List D → Bool
  | [] => true
  | d :: ds => noLst d && noLsts ds
end
def noLstF : List (Str × D) → Bool
  | [] => true
  | (_, d) :: ds => noLst d && noLstF ds
def noLstC : Cell → Bool
  | .lst ds => noLsts ds
  | .ins _ fs => noLstF fs
end
section
variable {K : KX} {ρ : List Addr} {L L' : Addr → Prop} {H H' : Hp} {S : Sto}
mutual
theorem noLst_any : ∀ (d : D) (v : V), noLst d = true → Rep K ρ L H d v → Rep K ρ L' H d v
  | .non, _, _, h => by unfold Rep at h ⊢; exact h
  | .bl _, _, _, h => by unfold Rep at h ⊢; exact h
  | .int _, _, _, h => by unfold Rep at h ⊢; exact h
  | .str _, _, _, h => by unfold Rep at h ⊢; exact h
  | .fn _, _, _, h => by unfold Rep at h ⊢; exact h
  | .ty _, _, _, h => by unfold Rep at h ⊢; exact h
  | .ref _, _, _, h => by unfold Rep at h ⊢; exact h
  | .lst _, _, n, _ => by unfold noLst at n; cases n
  | .dic _, _, n, _ => by unfold noLst at n; cases n
  | .exc _ _, _, n, _ => by unfold noLst at n; cases n
  | .clo _ _, _, n, _ => by unfold noLst at n; cases n
  | .frz ds, v, n, h => by
    unfold Rep at h ⊢
    unfold noLst at n
    obtain ⟨a, vs, e, q, r⟩ := h
    exact ⟨a, vs, e, q, noLsts_any ds vs n r⟩
  | .tup ds, v, n, h => by
    unfold Rep at h ⊢
    unfold noLst at n
    obtain ⟨a, vs, e, q, r⟩ := h
    exact ⟨a, vs, e, q, noLsts_any ds vs n r⟩
theorem noLsts_any : ∀ (ds : List D) (vs : List V), noLsts ds = true → Reps K ρ L H ds vs → Reps K ρ L' H ds vs
  | [], _, _, h => by unfold Reps at h ⊢; exact h
  | d :: ds, _, n, h => by
    unfold Reps at h ⊢
    unfold noLsts at n
    obtain ⟨n1, n2⟩ := Bool.and_eq_true_iff.mp n
    obtain ⟨v, r, e, q, z⟩ := h
    exact ⟨v, r, e, noLst_any d v n1 q, noLsts_any ds r n2 z⟩
end
theorem noLstF_any : ∀ (ds : List (Str × D)) (vs : List (Str × V)), noLstF ds = true → RepF K ρ L H ds vs → RepF K ρ L' H ds vs
  | [], _, _, h => by unfold RepF at h ⊢; exact h
  | (k, d) :: ds, _, n, h => by
    unfold RepF at h ⊢
    unfold noLstF at n
    obtain ⟨n1, n2⟩ := Bool.and_eq_true_iff.mp n
    obtain ⟨v, r, e, q, z⟩ := h
    exact ⟨v, r, e, noLst_any d v n1 q, noLstF_any ds r n2 z⟩
theorem CellOk.any {a : Addr} {c : Cell} (n : noLstC c = true) (h : CellOk K ρ L H a c) : CellOk K ρ L' H a c := by
  cases c with
  | lst ds => obtain ⟨vs, e, r⟩ := h; exact ⟨vs, e, noLsts_any ds vs n r⟩
  | ins c fs => obtain ⟨dx, vs, e, r⟩ := h; exact ⟨dx, vs, e, noLstF_any fs vs n r⟩
/-- the list in a slot is lent: what comes back holds no list -/
def eLend (m : EM) : EM := fun Γ S => match m Γ S with
  | .val d S1 => ifR (noLst d && S1.all noLstC) (.val d S1)
  | _ => .stuck
theorem Cells.more {ρ' : List Addr} {S' : Sto} (c0 : Cells K ρ L H S) (s : Step ρ ρ' H H') (c : Cells K ρ' L' H' S') (n : S'.all noLstC = true) : Cells K ρ' L H' S' := by
  refine ⟨c.len, c.nd, fun i a x h1 h2 => (c.at_ i a x h1 h2).any (List.all_eq_true.mp n x (List.mem_of_getElem? h2)), fun a h => s.some_ a (c0.trk a h), fun a h z => ?_, c.tab, c.tbb⟩
  rcases s.new a h with q | q
  · exact c0.apart a q z
  · exact c0.trk a z q
theorem je_lend {X : Cx} {W : WX} {L0 : Addr → Prop} {O O' : List Nat} {e : Expr} {m : EM} (h : JE X W L0 O' e m) (sub : ∀ i ∈ O', i ∈ O) : JE X W L0 O e (eLend m) := PE.imp h fun σ H Q hq => by
  obtain ⟨ρ, Γ, S, e, c, g⟩ := hq
  have w := LO.mono (L0 := L0) (σ := σ) sub
  refine ⟨ρ, Γ, S, e.demote sub, c.weak w, ?_⟩
  unfold eLend at g
  cases q : m Γ S with
  | stuck => rw [q] at g; exact g
  | exn x S' => rw [q] at g; exact g.elim
  | val d S' =>
    rw [q] at g
    obtain ⟨hn, g⟩ := of_ifR g
    obtain ⟨n1, n2⟩ := Bool.and_eq_true_iff.mp hn
    exact fun v ρ' H' s c' r => g v ρ' H' s (c.more s c' n2) (noLst_any d v n1 r)
end
end Pv
namespace Pv
open PySem PySem.Spec PyProof.Rows L2
variable [Tf]

/-! ### statements -/
inductive SR where
  | stuck | nx (Γ : Env') (S : Sto) | rt (d : D) (S : Sto) | bk (Γ : Env') (S : Sto) | ct (Γ : Env') (S : Sto) | xn (x : Exn) (Γ : Env') (S : Sto)
abbrev SM := Env' → Sto → SR
/-- what a statement may change: the lists that its frame owns -/
abbrev Mn (L0 L : Addr → Prop) : Addr → Prop := fun a => L a ∧ ¬ L0 a
/-- Ends with the slots' lists kept apart: O behind, Ob at a break and a continue; L: what was kept off ahead -/
def GoalS (K : KX) (ρ : List Addr) (L0 L : Addr → Prop) (O Ob : List Nat) (H : Hp) (r : SR) (D : Ends) (W : WX) : Prop := match r with
  | .stuck => False
  | .nx Γ S => ∀ σ' ρ' H', StepM (Mn L0 L) ρ ρ' H H' → EnvOk K ρ' L0 O σ' Γ H' → Cells K ρ' (LO L0 O σ') H' S → (∀ a, LO L0 O σ' a → L a ∨ H a = none) → D.nx σ' H'
  | .bk Γ S => ∀ σ' ρ' H', StepM (Mn L0 L) ρ ρ' H H' → EnvOk K ρ' L0 Ob σ' Γ H' → Cells K ρ' (LO L0 Ob σ') H' S → (∀ a, LO L0 Ob σ' a → L a ∨ H a = none) → D.bk σ' H'
  | .ct Γ S => ∀ σ' ρ' H', StepM (Mn L0 L) ρ ρ' H H' → EnvOk K ρ' L0 Ob σ' Γ H' → Cells K ρ' (LO L0 Ob σ') H' S → (∀ a, LO L0 Ob σ' a → L a ∨ H a = none) → D.ct σ' H'
  | .rt d S => ∀ v ρ' H', StepM (Mn L0 L) ρ ρ' H H' → Cells K ρ' L0 H' S → Rep K ρ' L0 H' d v → D.rt v H'
  | .xn x Γ S => ∀ c od σ' ρ' H', StepM (Mn L0 L) ρ ρ' H H' → EnvOk K ρ' L0 [] σ' Γ H' → Cells K ρ' (LO L0 [] σ') H' S → XRep K ρ' (LO L0 [] σ') H' x c od → W c od σ' H'
def tS (K : KX) (W : WX) (L0 : Addr → Prop) (O O' Ob : List Nat) (m : SM) : TS := fun D σ H => ∃ (ρ : List Addr) (Γ : Env') (S : Sto), EnvOk K ρ L0 O σ Γ H ∧ Cells K ρ (LO L0 O σ) H S ∧ GoalS K ρ L0 (LO L0 O σ) O' Ob H (m Γ S) D W
abbrev JS (X : Cx) (W : WX) (L0 : Addr → Prop) (O O' Ob : List Nat) (st : Stmt) (m : SM) : Prop := PS X st (tS X.kx W L0 O O' Ob m)
abbrev JB (X : Cx) (W : WX) (L0 : Addr → Prop) (O O' Ob : List Nat) (st : List Stmt) (m : SM) : Prop := PSs X st (tS X.kx W L0 O O' Ob m)
theorem PS.imp {X : Cx} {e : Stmt} {t t' : TS} (h : PS X e t) (i : ∀ D σ H, t' D σ H → t D σ H) : PS X e t' := ⟨fun pins s σ H Q I hq => h.run pins s σ H Q I (i Q σ H hq)⟩
theorem PSs.imp {X : Cx} {e : List Stmt} {t t' : TS} (h : PSs X e t) (i : ∀ D σ H, t' D σ H → t D σ H) : PSs X e t' := ⟨fun pins s σ H Q I hq => h.run pins s σ H Q I (i Q σ H hq)⟩
section
variable {K : KX} {ρ ρ' : List Addr} {L0 L L' : Addr → Prop} {O O' Ob : List Nat} {H H' : Hp} {S : Sto} {W : WX} {σ : L2.St} {Γ : Env'}
theorem rest_none {M : Addr → Prop} (s : StepM M ρ ρ' H H') {a : Addr} (e : H' a = none) : H a = none := by
  cases q : H a with
  | none => rfl
  | some o => exact absurd e (s.some_ a (by rw [q]; exact fun z => nomatch z))
theorem Mn.trans (w : ∀ a, L' a → L a ∨ H a = none) : ∀ a, Mn L0 L' a → Mn L0 L a ∨ H a = none := fun a z => (w a z.1).imp (fun y => ⟨y, z.2⟩) id
theorem GoalS.step {r : SR} {D : Ends} (s : StepM (Mn L0 L) ρ ρ' H H') (w : ∀ a, L' a → L a ∨ H a = none) (g : GoalS K ρ L0 L O Ob H r D W) : GoalS K ρ' L0 L' O Ob H' r D W := by
  have z : ∀ {σ' : L2.St} {O1 : List Nat}, (∀ a, LO L0 O1 σ' a → L' a ∨ H' a = none) → ∀ a, LO L0 O1 σ' a → L a ∨ H a = none := fun h a q => (h a q).elim (w a) fun e => .inr (rest_none s e)
  cases r with
  | stuck => exact g
  | nx Γ S => exact fun σ' ρ2 H2 t e c n => g σ' ρ2 H2 (s.transM t (Mn.trans w)) e c (z n)
  | bk Γ S => exact fun σ' ρ2 H2 t e c n => g σ' ρ2 H2 (s.transM t (Mn.trans w)) e c (z n)
  | ct Γ S => exact fun σ' ρ2 H2 t e c n => g σ' ρ2 H2 (s.transM t (Mn.trans w)) e c (z n)
  | rt d S => exact fun v ρ2 H2 t c r => g v ρ2 H2 (s.transM t (Mn.trans w)) c r
  | xn x Γ S => exact fun c od σ' ρ2 H2 t e cs r => g c od σ' ρ2 H2 (s.transM t (Mn.trans w)) e cs r
/-- an expression's end, then the rest of the statement -/
def thenS {α : Type} (r : R α) (Γ : Env') (f : α → Sto → SR) : SR := match r with
  | .stuck => .stuck
  | .exn x S => .xn x Γ S
  | .val d S => f d S
theorem LO.nil_weak {O : List Nat} : ∀ a, LO L0 [] σ a → LO L0 O σ a := LO.mono (by intro i h; cases h)
theorem XRep.weak (w : ∀ a, L' a → L a) {x : Exn} {c : Value} {od : Option Addr} (h : XRep K ρ L H x c od) : XRep K ρ L' H x c od := ⟨h.1, h.2.imp id fun ⟨d, vs, e1, e2, e3, e5, e4⟩ => ⟨d, vs, e1, e2, e3, fun z => e5 (w d z), RepF.weak w _ _ e4⟩⟩
theorem GoalS.bind {α β : Type} {rp : List Addr → Hp → α → β → Prop} {r : R α} {f : α → Sto → SR} {D : Ends} (e : EnvOk K ρ L0 O σ Γ H) (g : GoalS K ρ L0 (LO L0 O σ) O' Ob H (thenS r Γ f) D W) {Q1 : β → Hp → Prop}
    (h : ∀ d S v ρ' H', Step ρ ρ' H H' → Cells K ρ' (LO L0 O σ) H' S → rp ρ' H' d v → GoalS K ρ' L0 (LO L0 O σ) O' Ob H' (f d S) D W → Q1 v H') :
    GoalG rp K ρ (LO L0 O σ) H r Q1 fun c od H' => W c od σ H' := by
  cases r with
  | stuck => exact g
  | exn x S => exact fun c od ρ' H' s cs r => g c od σ ρ' H' (StepM.of s) ((e.step s).demote (by intro i h; cases h)) (cs.weak LO.nil_weak) (XRep.weak LO.nil_weak r)
  | val d S => exact fun v ρ' H' s c r => h d S v ρ' H' s c r (GoalS.step (StepM.of s) (fun a z => .inl z) g)
variable {X : Cx} {pos : Pos} {e : Expr} {m : EM}

/-! blocks -/
def sNil : SM := fun Γ S => .nx Γ S
def sSeq (m n : SM) : SM := fun Γ S => match m Γ S with
  | .nx Γ1 S1 => n Γ1 S1
  | r => r
theorem jb_nil (sub : ∀ i ∈ O', i ∈ O := by simp) : JB X W L0 O O' Ob [] sNil := PSs.imp pss_nil fun D σ H ⟨ρ, Γ, S, e, c, g⟩ =>
  g σ ρ H StepM.refl (e.demote sub) (c.weak (LO.mono sub)) fun a z => .inl (LO.mono sub a z)
theorem tS_seq {m n : SM} {O1 O2 : List Nat} {t u : TS} (ht : ∀ D σ H, tS K W L0 O O1 Ob m D σ H → t D σ H) (hu : ∀ D σ H, tS K W L0 O1 O2 Ob n D σ H → u D σ H) (D : Ends) (σ : L2.St) (H : Hp) (h : tS K W L0 O O2 Ob (sSeq m n) D σ H) : tSeq t u D σ H := by
  obtain ⟨ρ, Γ, S, e, c, g⟩ := h
  refine ht _ σ H ⟨ρ, Γ, S, e, c, ?_⟩
  unfold sSeq at g
  cases q : m Γ S with
  | nx Γ1 S1 =>
    rw [q] at g
    exact fun σ' ρ' H' s e' c' w => hu _ σ' H' ⟨ρ', Γ1, S1, e', c', GoalS.step s w g⟩
  | stuck => rw [q] at g; exact g
  | bk Γ1 S1 => rw [q] at g; exact g
  | ct Γ1 S1 => rw [q] at g; exact g
  | rt d S1 => rw [q] at g; exact g
  | xn x Γ1 S1 => rw [q] at g; exact g
theorem jb_cons {st : Stmt} {rest : List Stmt} {m n : SM} {O1 O2 : List Nat} (h1 : JS X W L0 O O1 Ob st m) (h2 : JB X W L0 O1 O2 Ob rest n) : JB X W L0 O O2 Ob (st :: rest) (sSeq m n) :=
  PSs.imp (pss_cons h1 h2) fun D σ H h => tS_seq (fun _ _ _ h => h) (fun _ _ _ h => h) D σ H h
theorem jb_one {st : Stmt} {m : SM} (h1 : JS X W L0 O O' Ob st m) : JB X W L0 O O' Ob [st] m := pss_one h1
def sRet (m : EM) : SM := fun Γ S => thenS (m Γ S) Γ fun d S1 => .rt d S1
/-- return: nothing need be kept apart any more -/
theorem js_ret (h : JE X W L0 [] e m) : JS X W L0 O O' Ob (.Return (some e) pos) (sRet m) := PS.imp (ps_ret h) fun D σ H hq => by
  obtain ⟨ρ, Γ, S, e, c, g⟩ := hq
  have sub : ∀ i ∈ ([] : List Nat), i ∈ O := by intro i h; cases h
  have e0 := e.demote sub
  refine ⟨ρ, Γ, S, e0, c.weak LO.nil_weak, ?_⟩
  have g2 := GoalS.step (L' := LO L0 [] σ) StepM.refl (fun a z => .inl (LO.nil_weak a z)) g
  refine GoalS.bind e0 g2 fun d S1 v ρ' H' s c' r g1 => ?_
  have w : ∀ a, L0 a → LO L0 [] σ a := fun a z => .inl z
  exact g1 v ρ' H' StepM.refl (c'.weak w) (Rep.weak w d v r)
def sRetN : SM := fun _ S => .rt .non S
theorem js_retN : JS X W L0 O O' Ob (.Return none pos) sRetN := PS.imp ps_retN fun D σ H ⟨ρ, Γ, S, e, c, g⟩ => g .non ρ H StepM.refl (c.weak fun a z => .inl z) rep_non
def sDrop (m : EM) : SM := fun Γ S => thenS (m Γ S) Γ fun _ S1 => .nx Γ S1
theorem js_expr (h : JE X W L0 O e m) (hs : swapsWith e none pos.line X.env = pure false := by rfl) : JS X W L0 O O Ob (.Expr e pos) (sDrop m) := PS.imp (ps_expr h hs) fun D σ H hq => by
  obtain ⟨ρ, Γ, S, e, c, g⟩ := hq
  refine ⟨ρ, Γ, S, e, c, GoalS.bind e g fun d S1 v ρ' H' s c' r g1 => ?_⟩
  exact g1 σ ρ' H' StepM.refl (e.step s) c' fun a z => .inl z
theorem js_pass : JS X W L0 O O Ob (.Pass pos) sNil := PS.imp ps_pass fun D σ H ⟨ρ, Γ, S, e, c, g⟩ => g σ ρ H StepM.refl e c fun a z => .inl z
def sBreak : SM := fun Γ S => .bk Γ S
def sCont : SM := fun Γ S => .ct Γ S
theorem js_break (sub : ∀ i ∈ Ob, i ∈ O := by simp) : JS X W L0 O O' Ob (.Break pos) sBreak := PS.imp ps_break fun D σ H ⟨ρ, Γ, S, e, c, g⟩ => g σ ρ H StepM.refl (e.demote sub) (c.weak (LO.mono sub)) fun a z => .inl (LO.mono sub a z)
theorem js_cont (sub : ∀ i ∈ Ob, i ∈ O := by simp) : JS X W L0 O O' Ob (.Continue pos) sCont := PS.imp ps_continue fun D σ H ⟨ρ, Γ, S, e, c, g⟩ => g σ ρ H StepM.refl (e.demote sub) (c.weak (LO.mono sub)) fun a z => .inl (LO.mono sub a z)
def sIf (c : BM) (m n : SM) : SM := fun Γ S => thenS (c Γ S) Γ fun b S1 => if b then m Γ S1 else n Γ S1
theorem js_if {c : Expr} {a b : List Stmt} {mc : BM} {m n : SM} (hc : JT X W L0 O c mc) (ha : JB X W L0 O O' Ob a m) (hb : JB X W L0 O O' Ob b n) : JS X W L0 O O' Ob (.If c a b pos) (sIf mc m n) := PS.imp (ps_if hc ha hb) fun D σ H hq => by
  obtain ⟨ρ, Γ, S, e, c, g⟩ := hq
  refine ⟨ρ, Γ, S, e, c, GoalS.bind e g fun d S1 v ρ' H' s c' r g1 => ?_⟩
  subst r
  cases v with
  | true => exact ⟨ρ', Γ, S1, e.step s, c', g1⟩
  | false => exact ⟨ρ', Γ, S1, e.step s, c', g1⟩
/-- fewer lists owned behind -/
theorem JB.less {st : List Stmt} {m : SM} {O2 : List Nat} (h : JB X W L0 O O' Ob st m) (sub : ∀ i ∈ O2, i ∈ O') : JB X W L0 O O2 Ob st m := PSs.imp h fun D σ H hq => by
  obtain ⟨ρ, Γ, S, e, c, g⟩ := hq
  refine ⟨ρ, Γ, S, e, c, ?_⟩
  cases q : m Γ S with
  | nx Γ1 S1 =>
    rw [q] at g
    exact fun σ' ρ' H' s e' c' w => g σ' ρ' H' s (e'.demote sub) (c'.weak (LO.mono sub)) fun a z => w a (LO.mono sub a z)
  | stuck => rw [q] at g; exact g
  | bk Γ1 S1 => rw [q] at g; exact g
  | ct Γ1 S1 => rw [q] at g; exact g
  | rt d S1 => rw [q] at g; exact g
  | xn x Γ1 S1 => rw [q] at g; exact g
theorem JS.less {st : Stmt} {m : SM} {O2 : List Nat} (h : JS X W L0 O O' Ob st m) (sub : ∀ i ∈ O2, i ∈ O') : JS X W L0 O O2 Ob st m := PS.imp h fun D σ H hq => by
  obtain ⟨ρ, Γ, S, e, c, g⟩ := hq
  refine ⟨ρ, Γ, S, e, c, ?_⟩
  cases q : m Γ S with
  | nx Γ1 S1 =>
    rw [q] at g
    exact fun σ' ρ' H' s e' c' w => g σ' ρ' H' s (e'.demote sub) (c'.weak (LO.mono sub)) fun a z => w a (LO.mono sub a z)
  | stuck => rw [q] at g; exact g
  | bk Γ1 S1 => rw [q] at g; exact g
  | ct Γ1 S1 => rw [q] at g; exact g
  | rt d S1 => rw [q] at g; exact g
  | xn x Γ1 S1 => rw [q] at g; exact g
theorem JS.more {st : Stmt} {m : SM} {O2 : List Nat} (h : JS X W L0 O O' Ob st m) (sub : ∀ i ∈ O, i ∈ O2) : JS X W L0 O2 O' Ob st m := PS.imp h fun D σ H hq => by
  obtain ⟨ρ, Γ, S, e, c, g⟩ := hq
  exact ⟨ρ, Γ, S, e.demote sub, c.weak (LO.mono sub), GoalS.step StepM.refl (fun a z => .inl (LO.mono sub a z)) g⟩

/-! a name -/
theorem LO.set {i : Nat} {v : Option V} (hi : i ∉ O) : LO L0 O (σ.set i v) = LO L0 O σ := by
  funext a
  refine propext ⟨fun h => h.imp id fun ⟨j, hj, e⟩ => ⟨j, hj, ?_⟩, fun h => h.imp id fun ⟨j, hj, e⟩ => ⟨j, hj, ?_⟩⟩
  · have z : i ≠ j := fun z => hi (z ▸ hj)
    rwa [List.getElem?_set_ne z] at e
  · have z : i ≠ j := fun z => hi (z ▸ hj)
    rwa [List.getElem?_set_ne z]
theorem EnvOk.set {i : Nat} {d : D} {v : V} (e : EnvOk K ρ L0 O σ Γ H) (hi : i ∉ O) (r : Rep K ρ (LO L0 O σ) H d v) : EnvOk K ρ L0 O (σ.set i (some v)) (Γ.set i (some d)) H := by
  refine ⟨fun j d' h n => ?_, fun j hj => ?_, fun j hj k hk a h1 h2 => ?_, by rw [List.length_set, List.length_set]; exact e.len⟩
  · rw [LO.set hi]
    by_cases z : i = j
    · subst z
      have hl : i < Γ.length := by
        have := List.getElem?_eq_some_iff.mp h
        obtain ⟨q, _⟩ := this
        rwa [List.length_set] at q
      rw [List.getElem?_set_self hl] at h
      cases h
      exact ⟨v, by rw [List.getElem?_set_self (by rw [← e.len]; exact hl)], r⟩
    · rw [List.getElem?_set_ne z] at h
      obtain ⟨u, q, r2⟩ := e.slot j d' h n
      exact ⟨u, by rw [List.getElem?_set_ne z]; exact q, r2⟩
  · have z : i ≠ j := fun z => hi (z ▸ hj)
    obtain ⟨a, vs, ds, q1, q2, q3, q4, q5, q6⟩ := e.own j hj
    exact ⟨a, vs, ds, by rw [List.getElem?_set_ne z]; exact q1, by rw [List.getElem?_set_ne z]; exact q2, q3, q4, q5, by rw [LO.set hi]; exact q6⟩
  · have z1 : i ≠ j := fun z => hi (z ▸ hj)
    have z2 : i ≠ k := fun z => hi (z ▸ hk)
    rw [List.getElem?_set_ne z1] at h1
    rw [List.getElem?_set_ne z2] at h2
    exact e.inj j hj k hk a h1 h2
def sSet (i : Nat) (m : EM) : SM := fun Γ S => thenS (m Γ S) Γ fun d S1 => .nx (Γ.set i (some d)) S1
theorem js_set {i : Nat} {x : Str} {pos' : Pos} (hN : X.N.Nodup) (hi : X.N[i]? = some x) (hx : Loc X.env.scope x) (ho : i ∉ O) (h : JE X W L0 O e m) (hs : swapsWith e (some (.Name x pos')) pos.line X.env = pure false := by rfl)
    (hf : X.fn x = true ∨ X.env.scope.names.lookup x = some .local := by first | exact .inl rfl | exact .inr rfl | assumption) :
    JS X W L0 O O Ob (.Assign [.Name x pos'] e pos) (sSet i m) := PS.imp (ps_set hN hi hx h hs hf) fun D σ H hq => by
  obtain ⟨ρ, Γ, S, e, c, g⟩ := hq
  refine ⟨ρ, Γ, S, e, c, GoalS.bind e g fun d S1 v ρ' H' s c' r g1 => ?_⟩
  exact g1 (σ.set i (some v)) ρ' H' StepM.refl ((e.step s).set ho r) (by rw [LO.set ho]; exact c') fun a z => .inl (by rwa [LO.set ho] at z)
end
end Pv
namespace Pv
open PySem PySem.Spec PyProof.Rows L2
variable [Tf]

/-! ### targets -/
abbrev GM := D → Env' → Sto → R Env'
/-- the same but for some slots -/
def Alike (gs : List Nat) (σ σ' : L2.St) : Prop := σ'.length = σ.length ∧ ∀ j, j ∉ gs → σ'[j]? = σ[j]?
theorem Alike.refl {gs : List Nat} {σ : L2.St} : Alike gs σ σ := ⟨rfl, fun _ _ => rfl⟩
theorem Alike.trans {gs : List Nat} {σ σ1 σ2 : L2.St} (a : Alike gs σ σ1) (b : Alike gs σ1 σ2) : Alike gs σ σ2 := ⟨b.1.trans a.1, fun j h => (b.2 j h).trans (a.2 j h)⟩
theorem Alike.mono {gs hs : List Nat} {σ σ' : L2.St} (a : Alike gs σ σ') (h : ∀ j ∈ gs, j ∈ hs) : Alike hs σ σ' := ⟨a.1, fun j n => a.2 j fun z => n (h j z)⟩
theorem Alike.wiped {gs : List Nat} {σ σ' : L2.St} (a : Alike gs σ σ') (vs : List Nat) (h : ∀ j ∈ gs, j ∈ vs) : wipe σ' vs = wipe σ vs := by
  refine List.ext_getElem? fun j => ?_
  by_cases hj : j ∈ vs
  · have key : ∀ (τ : L2.St) (vs : List Nat), j ∈ vs → (wipe τ vs)[j]? = if j < τ.length then some none else none := by
      intro τ vs
      induction vs with
      | nil => intro h; cases h
      | cons v vs ih =>
        intro hj
        show ((wipe τ vs).set v none)[j]? = _
        by_cases z : v = j
        · subst z
          by_cases hl : v < τ.length
          · rw [List.getElem?_set_self (by rw [wipe_length]; exact hl), if_pos hl]
          · rw [List.getElem?_eq_none (by rw [List.length_set, wipe_length]; omega), if_neg hl]
        · rw [List.getElem?_set_ne z]
          rcases List.mem_cons.mp hj with e | e
          · exact absurd e.symm z
          · exact ih e
    rw [key σ' vs hj, key σ vs hj, a.1]
  · have key : ∀ (τ : L2.St) (vs : List Nat), j ∉ vs → (wipe τ vs)[j]? = τ[j]? := by
      intro τ vs
      induction vs with
      | nil => intro _; rfl
      | cons v vs ih =>
        intro hn
        show ((wipe τ vs).set v none)[j]? = _
        rw [List.getElem?_set_ne (fun z => hn (by rw [z]; exact List.mem_cons_self))]
        exact ih fun z => hn (List.mem_cons_of_mem _ z)
    rw [key σ' vs hj, key σ vs hj, a.2 j fun z => hj (h j z)]
/-- what a target may change: nothing beside the cells (st), or the lists that the frame owns, too -/
abbrev Ms (st : Bool) (L0 L : Addr → Prop) : Addr → Prop := fun a => st = false ∧ Mn L0 L a
def GoalT (st : Bool) (K : KX) (ρ : List Addr) (L0 : Addr → Prop) (O : List Nat) (gs : List Nat) (σ : L2.St) (H : Hp) (r : R Env') (Q : L2.St → Hp → Prop) : Prop := match r with
  | .val Γ S => ∀ σ' ρ' H', StepM (Ms st L0 (LO L0 O σ)) ρ ρ' H H' → EnvOk K ρ' L0 O σ' Γ H' → LO L0 O σ' = LO L0 O σ → Cells K ρ' (LO L0 O σ') H' S → Alike gs σ σ' → Q σ' H'
  | _ => False
def tG (st : Bool) (K : KX) (L0 : Addr → Prop) (O gs : List Nat) (m : GM) : TG := fun v σ H Q => ∃ (ρ : List Addr) (Γ : Env') (S : Sto) (d : D), EnvOk K ρ L0 O σ Γ H ∧ Cells K ρ (LO L0 O σ) H S ∧ Rep K ρ (LO L0 O σ) H d v ∧ GoalT st K ρ L0 O gs σ H (m d Γ S) Q
abbrev GMs := List D → Env' → Sto → R Env'
def tGs (st : Bool) (K : KX) (L0 : Addr → Prop) (O gs : List Nat) (m : GMs) : TGs := fun v σ H Q => ∃ (ρ : List Addr) (Γ : Env') (S : Sto) (d : List D), EnvOk K ρ L0 O σ Γ H ∧ Cells K ρ (LO L0 O σ) H S ∧ Reps K ρ (LO L0 O σ) H d v ∧ GoalT st K ρ L0 O gs σ H (m d Γ S) Q
abbrev JG (st : Bool) (X : Cx) (L0 : Addr → Prop) (O gs : List Nat) (e : Expr) (m : GM) : Prop := PG X e (tG st X.kx L0 O gs m)
abbrev JGs (st : Bool) (X : Cx) (L0 : Addr → Prop) (O gs : List Nat) (es : List Expr) (m : GMs) : Prop := PGs X es (tGs st X.kx L0 O gs m)
theorem PG.imp {X : Cx} {e : Expr} {t t' : TG} (h : PG X e t) (i : ∀ v σ H Q, t' v σ H Q → t v σ H Q) : PG X e t' := ⟨fun pins s σ H v u Q I r hq => h.run pins s σ H v u Q I r (i v σ H Q hq)⟩
theorem PG.or {X : Cx} {e : Expr} {t t' : TG} (h : PG X e t) (h' : PG X e t') : PG X e (fun v σ H Q => t v σ H Q ∨ t' v σ H Q) := ⟨fun pins s σ H v u Q I r hq => hq.elim (h.run pins s σ H v u Q I r) (h'.run pins s σ H v u Q I r)⟩
theorem PGs.imp {X : Cx} {e : List Expr} {t t' : TGs} (h : PGs X e t) (i : ∀ v σ H Q, t' v σ H Q → t v σ H Q) : PGs X e t' := ⟨fun pins s σ H v u Q I r hq => h.run pins s σ H v u Q I r (i v σ H Q hq)⟩
def gSet (i : Nat) : GM := fun d Γ S => .val (Γ.set i (some d)) S
def gNilM : GMs := fun ds Γ S => match ds with
  | [] => .val Γ S
  | _ => .stuck
def gConsM (m : GM) (n : GMs) : GMs := fun ds Γ S => match ds with
  | [] => .stuck
  | d :: r => (m d Γ S).bind fun Γ1 S1 => n r Γ1 S1
/-- a, b = a tuple, a list of n -/
def gSeq (n : Nat) (m : GMs) : GM := fun d Γ S => match d with
  | .tup ds => ifR (decide (ds.length = n)) (m ds Γ S)
  | .lst ds => ifR (decide (ds.length = n)) (m ds Γ S)
  | _ => .stuck
section
variable {X : Cx} {K : KX} {ρ ρ' : List Addr} {L0 L L' : Addr → Prop} {O O' Ob : List Nat} {H H' : Hp} {S : Sto} {W : WX} {σ : L2.St} {Γ : Env'} {pos : Pos} {e : Expr} {m : EM} {gs hs' : List Nat} {st : Bool}
theorem StepM.mono {M M' : Addr → Prop} (s : StepM M ρ ρ' H H') (w : ∀ a, M a → M' a) : StepM M' ρ ρ' H H' := ⟨s.pre, s.new, fun a o h n m ht => s.keepM a o h n (fun z => m (w a z)) ht, s.tups, s.frzs, s.codes, s.some_⟩
theorem StepM.ofMs (s : StepM (Ms st L0 L) ρ ρ' H H') : StepM (Mn L0 L) ρ ρ' H H' := s.mono fun _ z => z.2
theorem GoalT.bind {gs1 : List Nat} {r : R Env'} {f : Env' → Sto → R Env'} {Q : L2.St → Hp → Prop} {Q1 : L2.St → Hp → Prop} (g : GoalT st K ρ L0 O gs σ H (r.bind f) Q) (hgs : ∀ j ∈ gs1, j ∈ gs)
    (h : ∀ Γ S σ' ρ' H', StepM (Ms st L0 (LO L0 O σ)) ρ ρ' H H' → EnvOk K ρ' L0 O σ' Γ H' → LO L0 O σ' = LO L0 O σ → Cells K ρ' (LO L0 O σ') H' S → GoalT st K ρ' L0 O gs σ' H' (f Γ S) Q → Q1 σ' H') : GoalT st K ρ L0 O gs1 σ H r Q1 := by
  cases r with
  | stuck => exact g
  | exn x S => exact g
  | val Γ S =>
    intro σ' ρ' H' s e l c al
    refine h Γ S σ' ρ' H' s e l c ?_
    have g' : GoalT st K ρ L0 O gs σ H (f Γ S) Q := g
    cases q : f Γ S with
    | stuck => rw [q] at g'; exact g'
    | exn x S => rw [q] at g'; exact g'
    | val Γ2 S2 =>
      rw [q] at g'
      exact fun σ2 ρ2 H2 s2 e2 l2 c2 al2 => g' σ2 ρ2 H2 (s.trans (l ▸ s2)) e2 (l2.trans l) c2 ((al.mono hgs).trans al2)
theorem GoalT.more {gs1 : List Nat} {r : R Env'} {Q : L2.St → Hp → Prop} (g : GoalT st K ρ L0 O gs σ H r Q) (hgs : ∀ j ∈ gs1, j ∈ gs) : GoalT st K ρ L0 O gs1 σ H r Q := by
  cases r with
  | stuck => exact g
  | exn x S => exact g
  | val Γ S => exact fun σ' ρ' H' s e l c al => g σ' ρ' H' s e l c (al.mono hgs)
theorem jg_name {i : Nat} {x : Str} (hN : X.N.Nodup) (hi : X.N[i]? = some x) (hx : Loc X.env.scope x) (ho : i ∉ O) (hf : X.fn x = true ∨ X.env.scope.names.lookup x = some .local := by first | exact .inl rfl | exact .inr rfl | assumption) : JG st X L0 O [i] (.Name x pos) (gSet i) :=
  PG.imp (pg_name hN hi hx hf) fun v σ H Q ⟨ρ, Γ, S, d, e, c, r, g⟩ => g _ ρ H StepM.refl (e.set ho r) (LO.set ho) (by rw [LO.set ho]; exact c) ⟨by rw [List.length_set], fun j hj => by rw [List.getElem?_set_ne (fun z => hj (by rw [z]; exact List.mem_singleton.mpr rfl))]⟩
theorem jgs_nil : JGs st X L0 O [] [] gNilM := PGs.imp pgs_nil fun v σ H Q ⟨ρ, Γ, S, d, e, c, r, g⟩ => by
  cases d with
  | nil =>
    unfold Reps at r
    exact ⟨r, g _ ρ H StepM.refl e rfl c .refl⟩
  | cons x xs => exact g.elim
theorem jgs_cons {e : Expr} {es : List Expr} {m : GM} {n : GMs} (h1 : JG st X L0 O gs e m) (h2 : JGs st X L0 O hs' es n) (hs : (assignEach (e :: es) X.env).map (·.2) = assign e X.env :: (assignEach es X.env).map (·.2) := by rfl) : JGs st X L0 O (gs ++ hs') (e :: es) (gConsM m n) := PGs.imp (pgs_cons h1 h2 hs) fun v σ H Q ⟨ρ, Γ, S, d, e, c, r, g⟩ => by
  cases d with
  | nil => exact g.elim
  | cons x xs =>
    unfold Reps at r
    obtain ⟨u, us, rfl, r1, r2⟩ := r
    refine ⟨u, us, rfl, ρ, Γ, S, x, e, c, r1, GoalT.bind g (fun j h => List.mem_append_left _ h) fun Γ1 S1 σ1 ρ1 H1 s1 e1 l1 c1 g1 => ?_⟩
    exact ⟨ρ1, Γ1, S1, xs, e1, c1, by rw [l1]; exact Reps.stepM s1 (fun a z => z.2.1) xs us r2, g1.more fun j h => List.mem_append_right _ h⟩
theorem jg_seq {es : List Expr} {k : Nat} {m : GMs} {n : Nat} (hc : X.calm = true) (h : JGs st X L0 O gs es m) (hn : (assignEach es X.env).length = n := by rfl) (hst : (assignEach es X.env).findIdx? (·.1) = none := by rfl) : JG st X L0 O gs (.Tuple es k pos) (gSeq n m) :=
  PG.imp (PG.or (pg_tup hc h hn hst) (pg_lst hc h hn hst)) fun v σ H Q ⟨ρ, Γ, S, d, e, c, r, g⟩ => by
    unfold gSeq at g
    split at g
    · rename_i ds
      obtain ⟨a, vs, rfl, q, r2⟩ := r.tup_inv
      unfold ifR at g
      split at g
      · rename_i hd
        exact .inl ⟨a, vs, rfl, q, by rw [← r2.length]; exact of_decide_eq_true hd, ρ, Γ, S, ds, e, c, r2, g⟩
      · exact g.elim
    · rename_i ds
      obtain ⟨a, vs, rfl, q, _, _, r2⟩ := r.lst_inv
      unfold ifR at g
      split at g
      · rename_i hd
        exact .inr ⟨a, vs, rfl, SqL.of q, by rw [← r2.length]; exact of_decide_eq_true hd, ρ, Γ, S, ds, e, c, r2, g⟩
      · exact g.elim
    · exact g.elim
def sAsg (m : EM) (g : GM) : SM := fun Γ S => thenS (m Γ S) Γ fun d S1 => match g d Γ S1 with
  | .val Γ2 S2 => .nx Γ2 S2
  | _ => .stuck
theorem js_asg {tg : Expr} {gm : GM} (h : JE X W L0 O e m) (hg : JG st X L0 O gs tg gm) (hs : swapsWithSole [tg] e pos.line X.env = pure false := by rfl) (hw : swappedStores [tg] e X.env = pure none := by rfl)
    (h1 : (assignEach [tg] X.env).map (·.2) = [assign tg X.env] := by rfl) : JS X W L0 O O Ob (.Assign [tg] e pos) (sAsg m gm) := PS.imp (ps_asg h hg hs hw h1) fun D σ H hq => by
  obtain ⟨ρ, Γ, S, e, c, g⟩ := hq
  refine ⟨ρ, Γ, S, e, c, GoalS.bind e g fun d S1 v ρ' H' s c' r g1 => ?_⟩
  refine ⟨ρ', Γ, S1, d, e.step s, c', r, ?_⟩
  cases q : gm d Γ S1 with
  | stuck => rw [q] at g1; exact g1
  | exn x S => rw [q] at g1; exact g1
  | val Γ2 S2 =>
    rw [q] at g1
    exact fun σ2 ρ2 H2 s2 e2 l2 c2 _ => g1 σ2 ρ2 H2 s2.ofMs e2 c2 fun a z => .inl (by rw [l2] at z; exact z)
/-- a, b = x, y (plain locals): from the left reckoned, then stored -/
def sPar (i j : Nat) (m : LM) : SM := fun Γ S => thenS (m Γ S) Γ fun ds S1 => match ds with
  | [x, y] => .nx ((Γ.set i (some x)).set j (some y)) S1
  | _ => .stuck
theorem js_par {i j : Nat} {x y : Str} {a b : Expr} {ma : LM} {px py pt : Pos} {kt k2 pt2} (hc : X.calm = true) (hN : X.N.Nodup) (hi : X.N[i]? = some x) (hj : X.N[j]? = some y) (hij : i ≠ j)
    (hx : X.env.scope.names.lookup x = some .local) (hy : X.env.scope.names.lookup y = some .local) (hoi : i ∉ O) (hoj : j ∉ O) (ha : JA X W L0 O [a, b] ma)
    (hw : swappedStores [.Tuple [.Name x px, .Name y py] kt pt] (.Tuple [a, b] k2 pt2) X.env = pure (some [x, y]))
    (hs : swapsWithSole [.Tuple [.Name x px, .Name y py] kt pt] (.Tuple [a, b] k2 pt2) pos.line X.env = pure false := by rfl) :
    JS X W L0 O O Ob (.Assign [.Tuple [.Name x px, .Name y py] kt pt] (.Tuple [a, b] k2 pt2) pos) (sPar i j ma) := PS.imp (ps_par hc hN hi hj hij hx hy ha hw hs) fun D σ H hq => by
  obtain ⟨ρ, Γ, S, e, c, g⟩ := hq
  refine ⟨ρ, Γ, S, e, c, GoalS.bind e g fun ds S1 vs ρ' H' s c' r g1 => ?_⟩
  split at g1
  · rename_i d1 d2
    unfold Reps at r
    obtain ⟨v1, r1, rfl, q1, r⟩ := r
    unfold Reps at r
    obtain ⟨v2, r2, rfl, q2, r⟩ := r
    unfold Reps at r
    subst r
    refine ⟨v1, v2, rfl, ?_⟩
    have e1 := ((e.step s).set hoi q1)
    have e2 := e1.set (i := j) (d := d2) (v := v2) hoj (by rw [LO.set hoi]; exact q2)
    exact g1 _ ρ' H' StepM.refl e2 (by rw [LO.set hoj, LO.set hoi]; exact c') fun a z => .inl (by rwa [LO.set hoj, LO.set hoi] at z)
  · exact g1.elim

/-! ### what is walked -/
/-- J walks the data ds -/
def Src (K : KX) (ρ : List Addr) (L : Addr → Prop) (J : It) (ds : List D) (H : Hp) : Prop := ∃ (G : Hp → Prop) (Y : Nat → Hp → V → Hp → Prop), Walk J ds.length G Y ∧ (∀ M ρ2 H2, StepM M ρ ρ2 H H2 → (∀ a, M a → L a) → G H2) ∧
  ∀ i M ρ2 H2 x H3 L2 d, StepM M ρ ρ2 H H2 → (∀ a, M a → L a) → (∀ a, L2 a → L a ∨ H a = none) → (∀ a, L2 a → H2 a ≠ none) → Y i H2 x H3 → ds[i]? = some d → (H3 = H2 ∨ ∃ p o, H2 p = none ∧ H3 = upd H2 p o) ∧ Rep K ρ2 L2 H3 d x
abbrev GoalI (K : KX) (ρ : List Addr) (L : Addr → Prop) (H : Hp) (r : R (List D)) (Q : It → Hp → Prop) (QX : XK) : Prop := GoalG (fun ρ' H' ds J => Src K ρ' L J ds H') K ρ L H r Q QX
def tI (K : KX) (W : WX) (L0 : Addr → Prop) (O : List Nat) (m : LM) : TI := fun σ H R => ∃ (ρ : List Addr) (Γ : Env') (S : Sto), EnvOk K ρ L0 O σ Γ H ∧ Cells K ρ (LO L0 O σ) H S ∧ GoalI K ρ (LO L0 O σ) H (m Γ S) R fun c od H' => W c od σ H'
abbrev JI (X : Cx) (W : WX) (L0 : Addr → Prop) (O : List Nat) (tg e : Expr) (m : LM) : Prop := PI X tg e (tI X.kx W L0 O m)
theorem PI.imp {X : Cx} {tg e : Expr} {t t' : TI} (h : PI X tg e t) (i : ∀ σ H R, t' σ H R → t σ H R) : PI X tg e t' := ⟨fun pins s σ H R I hq => h.run pins s σ H R I (i σ H R hq)⟩
mutual
theorem Rep.more (w : ∀ a, L' a → L a ∨ H a = none) : ∀ (d : D) (v : V), Rep K ρ L H d v → Rep K ρ L' H d v
  | .non, _, h => by unfold Rep at h ⊢; exact h
  | .bl _, _, h => by unfold Rep at h ⊢; exact h
  | .int _, _, h => by unfold Rep at h ⊢; exact h
  | .str _, _, h => by unfold Rep at h ⊢; exact h
  | .fn _, _, h => by unfold Rep at h ⊢; exact h
  | .ty _, _, h => by unfold Rep at h ⊢; exact h
  | .ref _, _, h => by unfold Rep at h ⊢; exact h
  | .lst ds, v, h => by
    unfold Rep at h ⊢
    obtain ⟨a, vs, e, q, q2, q3, r⟩ := h
    exact ⟨a, vs, e, q, q2, fun z => (w a z).elim q3 fun z => by (rw [q] at z; cases z), Reps.more w ds vs r⟩
  | .dic ds, v, h => by
    unfold Rep at h ⊢
    obtain ⟨a, vs, e, q, q2, q3, r⟩ := h
    exact ⟨a, vs, e, q, q2, fun z => (w a z).elim q3 fun z => by (rw [q] at z; cases z), RepK.more w ds vs r⟩
  | .frz ds, v, h => by
    unfold Rep at h ⊢
    obtain ⟨a, vs, e, q, r⟩ := h
    exact ⟨a, vs, e, q, Reps.more w ds vs r⟩
  | .tup ds, v, h => by
    unfold Rep at h ⊢
    obtain ⟨a, vs, e, q, r⟩ := h
    exact ⟨a, vs, e, q, Reps.more w ds vs r⟩
  | .exc c fs, v, h => by
    unfold Rep at h ⊢
    obtain ⟨a, cls, od, e1, e2, e3, q⟩ := h
    exact ⟨a, cls, od, e1, e2, e3, q.imp id fun ⟨d, vs, q1, q2, q3, q4, q5⟩ => ⟨d, vs, q1, q2, q3, fun z => (w d z).elim q4 fun z => by (rw [q2] at z; cases z), RepF.more w fs vs q5⟩⟩
  | .clo q ds, v, h => by
    unfold Rep at h ⊢
    obtain ⟨f, c, vs, e, k, q1, r⟩ := h
    exact ⟨f, c, vs, e, k, q1, Reps.more w ds vs r⟩
theorem Reps.more (w : ∀ a, L' a → L a ∨ H a = none) : ∀ (ds : List D) (vs : List V), Reps K ρ L H ds vs → Reps K ρ L' H ds vs
  | [], _, h => by unfold Reps at h ⊢; exact h
  | d :: ds, _, h => by
    unfold Reps at h ⊢
    obtain ⟨v, r, e, q, z⟩ := h
    exact ⟨v, r, e, Rep.more w d v q, Reps.more w ds r z⟩
theorem RepK.more (w : ∀ a, L' a → L a ∨ H a = none) : ∀ (ds : List (Key × D)) (vs : List (Key × V)), RepK K ρ L H ds vs → RepK K ρ L' H ds vs
  | [], _, h => by unfold RepK at h ⊢; exact h
  | (k, d) :: ds, _, h => by
    unfold RepK at h ⊢
    obtain ⟨v, r, e, q, z⟩ := h
    exact ⟨v, r, e, Rep.more w d v q, RepK.more w ds r z⟩
theorem RepF.more (w : ∀ a, L' a → L a ∨ H a = none) : ∀ (ds : List (Str × D)) (vs : List (Str × V)), RepF K ρ L H ds vs → RepF K ρ L' H ds vs
  | [], _, h => by unfold RepF at h ⊢; exact h
  | (k, d) :: ds, _, h => by
    unfold RepF at h ⊢
    obtain ⟨v, r, e, q, z⟩ := h
    exact ⟨v, r, e, Rep.more w d v q, RepF.more w ds r z⟩
end
/-- a walk that yields the i-th of vs, the heap as it was -/
theorem Src.at {J : It} {ds : List D} {vs : List V} {G : Hp → Prop} (w : Walk J vs.length G (YAt vs)) (hG : ∀ M ρ2 H2, StepM M ρ ρ2 H H2 → (∀ a, M a → L a) → G H2) (r : Reps K ρ L H ds vs) : Src K ρ L J ds H := by
  refine ⟨G, YAt vs, by rw [r.length]; exact w, hG, fun i M ρ2 H2 x H3 L2 d s hM w2 _ y hd => ?_⟩
  obtain ⟨rfl, hx⟩ := y
  obtain ⟨u, hu, ru⟩ := Reps.get r hd
  rw [hx] at hu
  cases hu
  have rr : Rep K ρ (fun a => L a ∨ L2 a) H d x := Rep.more (fun a z => z.elim .inl (w2 a)) _ _ ru
  exact ⟨.inl rfl, Rep.weak (fun a z => .inr z) _ _ (Rep.stepM s (fun a z => .inl (hM a z)) _ _ rr)⟩
def iSeq (m : EM) : LM := fun Γ S => (m Γ S).bind fun d S1 => match d.items with
  | some ds => .val ds S1
  | none => .stuck
theorem sql_step {M : Addr → Prop} {a : Addr} {xs : List V} (s : StepM M ρ ρ' H H') (h : H a = some (.lst xs)) (n : a ∉ ρ) (hm : ¬ M a) : SqL K.fr H' a xs := SqL.of (s.keepM a _ h n hm fun _ z => by cases z)
theorem frz_step {M : Addr → Prop} {a : Addr} {vs : List V} (s : StepM M ρ ρ' H H') (h : (∃ o, H a = some (.frz o (.lst vs))) ∨ KL K.fr a vs) : SqL K.fr H' a vs := by
  rcases h with ⟨o, h⟩ | h
  · exact .inl (.inr ⟨o, s.frzs a o _ h⟩)
  · exact .inr h
/-- over a list or a tuple -/
theorem ji_seq {tg : Expr} (hl : JE X W L0 O e m) : JI X W L0 O tg e (iSeq m) := ⟨fun pins s σ H R I h => by
  obtain ⟨ρ, Γ, S, e, c, g⟩ := h
  unfold iSeq at g
  cases q : m Γ S with
  | stuck => rw [q] at g; exact g.elim
  | exn x S' =>
    rw [q] at g
    exact (pi_list hl).run pins s σ H R I ⟨ρ, Γ, S, e, c, by rw [q]; exact g⟩
  | val d S' =>
    rw [q] at g
    cases d with
    | lst ds =>
      have g3 : GoalI X.kx ρ (LO L0 O σ) H (.val ds S') R fun c od H' => W c od σ H' := g
      refine (pi_list hl).run pins s σ H R I ⟨ρ, Γ, S, e, c, ?_⟩
      rw [q]
      intro v ρ' H' st c' r
      obtain ⟨a, vs, rfl, h1, h2, h3, r⟩ := r.lst_inv
      exact ⟨a, rfl, ⟨vs, SqL.of h1⟩, g3 _ ρ' H' st c' (Src.at (walk_list (xs := vs)) (fun M ρ2 H2 s2 hM => sql_step (K := X.kx) s2 h1 h2 fun z => h3 (hM a z)) r)⟩
    | frz ds =>
      have g3 : GoalI X.kx ρ (LO L0 O σ) H (.val ds S') R fun c od H' => W c od σ H' := g
      refine (pi_list hl).run pins s σ H R I ⟨ρ, Γ, S, e, c, ?_⟩
      rw [q]
      intro v ρ' H' st c' r
      obtain ⟨a, vs, rfl, h1, r⟩ := r.frz_inv
      exact ⟨a, rfl, ⟨vs, sql_frz h1⟩, g3 _ ρ' H' st c' (Src.at (walk_list (xs := vs)) (fun M ρ2 H2 s2 _ => frz_step (K := X.kx) s2 h1) r)⟩
    | tup ds =>
      have g3 : GoalI X.kx ρ (LO L0 O σ) H (.val ds S') R fun c od H' => W c od σ H' := g
      refine (pi_tup hl).run pins s σ H R I ⟨ρ, Γ, S, e, c, ?_⟩
      rw [q]
      intro v ρ' H' st c' r
      obtain ⟨a, vs, rfl, h1, r⟩ := r.tup_inv
      exact ⟨a, rfl, ⟨vs, h1⟩, g3 _ ρ' H' st c' (Src.at (walk_tup (xs := vs)) (fun M ρ2 H2 s2 _ => SqT.step (K := X.kx) s2 h1) r)⟩
    | _ => exact g.elim⟩
/-- the ints from lo on -/
def rangeD (lo : Int) (n : Nat) : List D := (List.range n).map fun (i : Nat) => D.int (lo + (i : Int))
def iRange1 (m : LM) : LM := fun Γ S => (m Γ S).bind fun ds S1 => match ds with
  | [.int j] => ifR (decide (-(2 ^ 62) ≤ j ∧ j < 2 ^ 62)) (.val (rangeD 0 j.toNat) S1)
  | _ => .stuck
def iRange2 (m : LM) : LM := fun Γ S => (m Γ S).bind fun ds S1 => match ds with
  | [.int i, .int j] => ifR (decide (-(2 ^ 62) ≤ i ∧ i < 2 ^ 62 ∧ -(2 ^ 62) ≤ j ∧ j < 2 ^ 62)) (.val (rangeD i (j - i).toNat) S1)
  | _ => .stuck
theorem src_range {lo : Int} {n : Nat} : Src K ρ L (Itr lo n) (rangeD lo n) H := by
  refine ⟨fun _ => True, YFn fun i => .int (lo + i), ?_, fun _ _ _ _ _ => trivial, fun i M ρ2 H2 x H3 L2 d s hM w2 _ y hd => ?_⟩
  · have : (rangeD lo n).length = n := by unfold rangeD; simp
    rw [this]
    exact walk_range
  · obtain ⟨rfl, rfl⟩ := y
    refine ⟨.inl rfl, ?_⟩
    unfold rangeD at hd
    rw [List.getElem?_map] at hd
    obtain ⟨k, hk, rfl⟩ := Option.map_eq_some_iff.mp hd
    rw [List.getElem?_range (by
      have := (List.getElem?_eq_some_iff.mp hk).1
      simpa using this)] at hk
    cases hk
    exact rep_int
theorem Reps.one_inv {d : D} {vs : List V} (r : Reps K ρ L H [d] vs) : ∃ v, vs = [v] ∧ Rep K ρ L H d v := by
  unfold Reps at r
  obtain ⟨v, r2, rfl, q, z⟩ := r
  unfold Reps at z
  subst z
  exact ⟨v, rfl, q⟩
theorem Reps.two_inv {d e : D} {vs : List V} (r : Reps K ρ L H [d, e] vs) : ∃ v w, vs = [v, w] ∧ Rep K ρ L H d v ∧ Rep K ρ L H e w := by
  unfold Reps at r
  obtain ⟨v, r2, rfl, q, z⟩ := r
  obtain ⟨w, rfl, q2⟩ := z.one_inv
  exact ⟨v, w, rfl, q, q2⟩
theorem ji_range1 {tg a : Expr} {p : Pos} {ml : LM} (hg : Gl X "range") (hm : X.mg "range" = none) (ha : JA X W L0 O [a] ml) (hs : starEach [a] X.env = [(false, eval a X.env)] := by rfl) : JI X W L0 O tg (.Call (.Name "range" p) [a] [] pos) (iRange1 ml) :=
  PI.imp (pi_range1 hg hm ha hs) fun σ H R h => by
    obtain ⟨ρ, Γ, S, e, c, g⟩ := h
    refine ⟨ρ, Γ, S, e, c, GoalG.bind g fun ds S1 vs ρ' H' s c' r g1 => ?_⟩
    split at g1
    · rename_i j
      obtain ⟨h, g2⟩ := of_ifR g1
      obtain ⟨v, rfl, q⟩ := r.one_inv
      rw [q.int_inv]
      obtain ⟨h1, h2⟩ := of_decide_eq_true h
      exact ⟨j, rfl, h1, h2, g2 _ ρ' H' .refl c' src_range⟩
    · exact g1.elim
theorem ji_range2 {tg a b : Expr} {p : Pos} {ml : LM} (hg : Gl X "range") (hm : X.mg "range" = none) (ha : JA X W L0 O [a, b] ml) (hs : starEach [a, b] X.env = [(false, eval a X.env), (false, eval b X.env)] := by rfl) (hs2 : starEach [b] X.env = [(false, eval b X.env)] := by rfl) : JI X W L0 O tg (.Call (.Name "range" p) [a, b] [] pos) (iRange2 ml) :=
  PI.imp (pi_range2 hg hm ha hs hs2) fun σ H R h => by
    obtain ⟨ρ, Γ, S, e, c, g⟩ := h
    refine ⟨ρ, Γ, S, e, c, GoalG.bind g fun ds S1 vs ρ' H' s c' r g1 => ?_⟩
    split at g1
    · rename_i i j
      obtain ⟨h, g2⟩ := of_ifR g1
      obtain ⟨v, w, rfl, q, q2⟩ := r.two_inv
      rw [q.int_inv, q2.int_inv]
      exact ⟨i, j, rfl, of_decide_eq_true h, g2 _ ρ' H' .refl c' src_range⟩
    · exact g1.elim

/-! ### for -/
def forGo (gm : GM) (m : SM) : List D → Env' → Sto → SR
  | [], Γ, S => .nx Γ S
  | d :: ds, Γ, S => match gm d Γ S with
    | .val Γ1 S1 => (match m Γ1 S1 with
      | .nx Γ2 S2 => forGo gm m ds Γ2 S2
      | .ct Γ2 S2 => forGo gm m ds Γ2 S2
      | .bk Γ2 S2 => .nx Γ2 S2
      | .rt d S2 => .rt d S2
      | .xn x Γ2 S2 => .xn x Γ2 S2
      | .stuck => .stuck)
    | _ => .stuck
def sFor (ml : LM) (gm : GM) (m : SM) : SM := fun Γ S => thenS (ml Γ S) Γ fun ds S1 => forGo gm m ds Γ S1
theorem js_for {tg iter : Expr} {body : List Stmt} {ml : LM} {gm : GM} {m : SM} (hp : PassesOwn (model X.prog X.w) X.A X.env X.xe) (hc : X.calm = true) (hi : JI X W L0 O tg iter ml) (hg : JG st X L0 O gs tg gm) (hb : JB X W L0 O O O body m)
    (hs : ∀ x, foldedSetIterable iter X.env x = pure x := by intro _; rfl) : JS X W L0 O O Ob (.For tg iter body [] pos) (sFor ml gm m) := PS.imp (ps_for hp hc hi hg hb hs) fun D σ H hq => by
  obtain ⟨ρ, Γ, S, e, c, g⟩ := hq
  refine ⟨ρ, Γ, S, e, c, GoalS.bind e g fun ds S1 J ρ1 H1 s1 c1 src g1 => ?_⟩
  obtain ⟨G, Y, w, hG, hY⟩ := src
  refine for_it w (fun i σ' H' => ∃ ρ2 Γ2 S2, StepM (Mn L0 (LO L0 O σ)) ρ1 ρ2 H1 H' ∧ EnvOk X.kx ρ2 L0 O σ' Γ2 H' ∧ Cells X.kx ρ2 (LO L0 O σ') H' S2 ∧ (∀ a, LO L0 O σ' a → LO L0 O σ a ∨ H1 a = none) ∧
    GoalS X.kx ρ2 L0 (LO L0 O σ') O Ob H' (forGo gm m (ds.drop i) Γ2 S2) D W) ⟨ρ1, Γ, S1, StepM.refl, e.step s1, c1, fun a z => .inl z, g1⟩ (fun i σ' H' _ ⟨ρ2, _, _, s2, _⟩ => hG _ ρ2 H' s2 fun a z => z.1) ?_ ?_
  · rintro i x σ' H' H3 hi ⟨ρ2, Γ2, S2, s2, e2, c2, w2, g2⟩ y
    obtain ⟨d, hd⟩ : ∃ d, ds[i]? = some d := ⟨ds[i], List.getElem?_eq_getElem hi⟩
    obtain ⟨hH, hr⟩ := hY i _ ρ2 H' x H3 (LO L0 O σ') d s2 (fun a z => z.1) w2 c2.trk y hd
    have st3 : Step ρ2 ρ2 H' H3 := by
      rcases hH with rfl | ⟨p, o, hp, rfl⟩
      · exact .refl
      · exact Step.laid hp
    have c3 : Cells X.kx ρ2 (LO L0 O σ') H3 S2 := by
      rcases hH with rfl | ⟨p, o, hp, rfl⟩
      · exact c2
      · exact c2.laid hp
    have e3 := e2.step st3
    have dr : ds.drop i = d :: ds.drop (i + 1) := by
      rw [List.drop_eq_getElem_cons hi]
      rw [List.getElem?_eq_getElem hi] at hd
      cases hd
      rfl
    rw [dr] at g2
    have g3 : GoalS X.kx ρ2 L0 (LO L0 O σ') O Ob H3 (forGo gm m (d :: ds.drop (i + 1)) Γ2 S2) D W := GoalS.step (StepM.of st3) (fun a z => .inl z) g2
    refine ⟨ρ2, Γ2, S2, d, e3, c3, hr, ?_⟩
    unfold forGo at g3
    cases q : gm d Γ2 S2 with
    | stuck => rw [q] at g3; exact g3
    | exn x S => rw [q] at g3; exact g3
    | val Γ4 S4 =>
      rw [q] at g3
      dsimp only at g3
      intro σ4 ρ4 H4 s4' e4 l4 c4 _
      have s4 := s4'.ofMs
      refine ⟨ρ4, Γ4, S4, e4, c4, ?_⟩
      have w4 : ∀ a, LO L0 O σ4 a → LO L0 O σ' a ∨ H3 a = none := fun a z => .inl (by rw [l4] at z; exact z)
      have s24 : StepM (Mn L0 (LO L0 O σ)) ρ1 ρ4 H1 H4 := (s2.trans (StepM.of st3)).transM s4 (Mn.trans w2)
      have again : ∀ {Γ5 : Env'} {S5 : Sto}, GoalS X.kx ρ2 L0 (LO L0 O σ') O Ob H3 (forGo gm m (ds.drop (i + 1)) Γ5 S5) D W → ∀ σ5 ρ5 H5, StepM (Mn L0 (LO L0 O σ4)) ρ4 ρ5 H4 H5 → EnvOk X.kx ρ5 L0 O σ5 Γ5 H5 → Cells X.kx ρ5 (LO L0 O σ5) H5 S5 → (∀ a, LO L0 O σ5 a → LO L0 O σ4 a ∨ H4 a = none) →
          ∃ ρ2 Γ2 S2, StepM (Mn L0 (LO L0 O σ)) ρ1 ρ2 H1 H5 ∧ EnvOk X.kx ρ2 L0 O σ5 Γ2 H5 ∧ Cells X.kx ρ2 (LO L0 O σ5) H5 S2 ∧ (∀ a, LO L0 O σ5 a → LO L0 O σ a ∨ H1 a = none) ∧ GoalS X.kx ρ2 L0 (LO L0 O σ5) O Ob H5 (forGo gm m (ds.drop (i + 1)) Γ2 S2) D W :=
        fun {Γ5 S5} g5 σ5 ρ5 H5 s5 e5 c5 w5 => by
          have s45 : StepM (Mn L0 (LO L0 O σ')) ρ2 ρ5 H3 H5 := s4.trans (l4 ▸ s5)
          refine ⟨ρ5, Γ5, S5, s24.transM s5 (fun a z => Mn.trans w2 a (l4 ▸ z)), e5, c5, fun a z => ?_, GoalS.step s45 (fun a z => ?_) g5⟩
          · rcases w5 a z with q | q
            · rw [l4] at q; exact w2 a q
            · exact .inr (rest_none s24 q)
          · rcases w5 a z with q | q
            · rw [l4] at q; exact .inl q
            · exact .inr (rest_none s4 q)
      cases q5 : m Γ4 S4 with
      | stuck => rw [q5] at g3; exact g3
      | nx Γ5 S5 => rw [q5] at g3; exact again g3
      | ct Γ5 S5 => rw [q5] at g3; exact again g3
      | bk Γ5 S5 =>
        rw [q5] at g3
        exact fun σ5 ρ5 H5 s5 e5 c5 w5 => g3 σ5 ρ5 H5 (s4.trans (l4 ▸ s5)) e5 c5 fun a z => (w5 a z).elim (fun q => by rw [l4] at q; exact .inl q) fun q => .inr (rest_none s4 q)
      | rt d5 S5 => rw [q5] at g3; exact fun v ρ5 H5 s5 c5 r5 => g3 v ρ5 H5 (s4.trans (l4 ▸ s5)) c5 r5
      | xn x5 Γ5 S5 => rw [q5] at g3; exact fun cc od σ5 ρ5 H5 s5 e5 c5 r5 => g3 cc od σ5 ρ5 H5 (s4.trans (l4 ▸ s5)) e5 c5 r5
  · rintro σ' H' ⟨ρ2, Γ2, S2, s2, e2, c2, w2, g2⟩
    rw [List.drop_length] at g2
    exact g2 σ' ρ2 H' StepM.refl e2 c2 fun a z => .inl z
end
end Pv
namespace Pv
open PySem PySem.Spec PyProof.Rows L2
variable [Tf]

/-! ### a list that is new -/
def GoalF (K : KX) (ρ : List Addr) (L : Addr → Prop) (H : Hp) (r : R (List D)) (Q : VK) (QX : XK) : Prop := match r with
  | .val ds S' => ∀ p vs ρ' H', Step ρ ρ' H H' → H p = none → H' p = some (.lst vs) → p ∉ ρ' → ¬ L p → Cells K ρ' (fun a => L a ∨ a = p) H' S' → Reps K ρ' (fun a => L a ∨ a = p) H' ds vs → Q (.ref p) H'
  | .exn x S' => ∀ c od ρ' H', Step ρ ρ' H H' → Cells K ρ' L H' S' → XRep K ρ' L H' x c od → QX c od H'
  | .stuck => False
def tF (K : KX) (W : WX) (L0 : Addr → Prop) (O : List Nat) (m : LM) : TE := fun σ H Q => ∃ (ρ : List Addr) (Γ : Env') (S : Sto), EnvOk K ρ L0 O σ Γ H ∧ Cells K ρ (LO L0 O σ) H S ∧
  GoalF K ρ (LO L0 O σ) H (m Γ S) Q fun c od H' => W c od σ H'
abbrev JF (X : Cx) (W : WX) (L0 : Addr → Prop) (O : List Nat) (e : Expr) (m : LM) : Prop := PE X e (tF X.kx W L0 O m)
def eLst (m : LM) : EM := fun Γ S => (m Γ S).bind fun ds S1 => .val (.lst ds) S1
section
variable {X : Cx} {K : KX} {ρ ρ' : List Addr} {L0 L L' : Addr → Prop} {O O' Ob : List Nat} {H H' : Hp} {S : Sto} {W : WX} {σ : L2.St} {Γ : Env'} {pos : Pos} {e : Expr} {m : LM} {gs : List Nat}
theorem GoalF.step {r : R (List D)} {Q : VK} {QX : XK} (s : Step ρ ρ' H H') (g : GoalF K ρ L H r Q QX) : GoalF K ρ' L H' r Q QX := by
  cases r with
  | stuck => exact g
  | exn x S => exact fun c od ρ2 H2 t cs r => g c od ρ2 H2 (s.trans t) cs r
  | val d S => exact fun p vs ρ2 H2 t n h1 h2 h3 c r => g p vs ρ2 H2 (s.trans t) (rest_none s n) h1 h2 h3 c r
theorem GoalF.bind {α β : Type} {rp : List Addr → Hp → α → β → Prop} {r : R α} {f : α → Sto → R (List D)} {Q : VK} {QX : XK} (g : GoalF K ρ L H (r.bind f) Q QX) {Q1 : β → Hp → Prop}
    (h : ∀ d S v ρ' H', Step ρ ρ' H H' → Cells K ρ' L H' S → rp ρ' H' d v → GoalF K ρ' L H' (f d S) Q QX → Q1 v H') : GoalG rp K ρ L H r Q1 QX := by
  cases r with
  | stuck => exact g
  | exn x S => exact g
  | val d S => exact fun v ρ' H' s c rp => h d S v ρ' H' s c rp (GoalF.step s g)
theorem of_ifRF {b : Bool} {r : R (List D)} {Q : VK} {QX : XK} (g : GoalF K ρ L H (ifR b r) Q QX) : b = true ∧ GoalF K ρ L H r Q QX := by
  unfold ifR at g
  cases b with
  | true => exact ⟨rfl, by simpa using g⟩
  | false => exact (by simpa [GoalF] using g)
/-- a new list may be taken as any value -/
theorem JF.je (h : JF X W L0 O e m) : JE X W L0 O e (eLst m) := PE.imp h fun σ H Q ⟨ρ, Γ, S, e, c, g⟩ => by
  refine ⟨ρ, Γ, S, e, c, ?_⟩
  unfold eLst at g
  cases q : m Γ S with
  | stuck => rw [q] at g; exact g
  | exn x S => rw [q] at g; exact g
  | val ds S =>
    rw [q] at g
    intro p vs ρ' H' s n h1 h2 h3 c' r
    refine g _ ρ' H' s (c'.weak fun a z => .inl z) ?_
    unfold Rep
    exact ⟨p, vs, rfl, h1, h2, h3, Reps.weak (fun a z => .inl z) ds vs r⟩
/-- the cells keep off a new place -/
theorem Cells.moreNew {p : Addr} (c : Cells K ρ L H S) (hp : H p = none) : ∀ (i : Nat) (a : Addr) (x : Cell), ρ[i]? = some a → S[i]? = some x → CellOk K ρ (fun a => L a ∨ a = p) H a x := fun i a x h1 h2 => by
  have w : ∀ a, (L a ∨ a = p) → L a ∨ H a = none := fun a z => z.imp id fun (y : a = p) => y ▸ hp
  have q := c.at_ i a x h1 h2
  cases x with
  | lst ds => obtain ⟨vs, e, r⟩ := q; exact ⟨vs, e, Reps.more w ds vs r⟩
  | ins k fs =>
    obtain ⟨dx, vs, e, r⟩ := q
    exact ⟨dx, vs, e, RepF.more w fs vs r⟩
theorem Cells.newList {p : Addr} {vs : List V} (c : Cells K ρ L H S) (hp : H p = none) : Cells K ρ (fun a => L a ∨ a = p) (upd H p (.lst vs)) S := by
  refine ⟨c.len, c.nd, fun i a x h1 h2 => (c.moreNew hp i a x h1 h2).laid hp, fun a h => ?_, fun a h z => ?_, c.tab.laid hp, c.tbb⟩
  · rcases h with h | h
    · exact (Step.laid (ρ := ρ) hp).some_ a (c.trk a h)
    · rw [h, upd_same]; exact fun z => nomatch z
  · rcases z with z | z
    · exact c.apart a h z
    · exact (c.off hp).1 (z ▸ h)
/-- a new list is laid -/
theorem GoalF.lst {ds : List D} {vs : List V} {p : Addr} {Q : VK} {QX : XK} (g : GoalF K ρ L H (.val ds S) Q QX) (c : Cells K ρ L H S) (r : Reps K ρ L H ds vs) (hp : H p = none) : Q (.ref p) (upd H p (.lst vs)) := by
  have s : Step ρ ρ H (upd H p (.lst vs)) := Step.laid hp
  have w : ∀ a, (L a ∨ a = p) → L a ∨ H a = none := fun a z => z.imp id fun (y : a = p) => y ▸ hp
  exact g p vs ρ _ s hp upd_same (c.off hp).1 (c.off hp).2 (c.newList hp) (Reps.step s ds vs (Reps.more w ds vs r))
/-- [a, b, ..] -/
def fLst (m : LM) : LM := fun Γ S => (m Γ S).bind fun ds S1 => ifR (decide (ds.length ≤ sizeLine)) (.val ds S1)
theorem jf_lst {es : List Expr} (h : JA X W L0 O es m) : JF X W L0 O (.List es pos) (fLst m) := PE.imp (pe_lst h) fun σ H Q ⟨ρ, Γ, S, e, c, g⟩ =>
  ⟨ρ, Γ, S, e, c, GoalF.bind g fun ds S1 vs ρ1 H1 s1 c1 r1 g1 => by
    obtain ⟨hl, g2⟩ := of_ifRF g1
    exact ⟨by rw [← r1.length]; exact of_decide_eq_true hl, fun p hp => GoalF.lst g2 c1 r1 hp⟩⟩
/-- a list, made by a call of one thing or more -/
def PrimF (K : KX) (f : List D → Sto → R (List D)) (r : List V → Hp → VK → Prop) : Prop := ∀ (ρ : List Addr) (L : Addr → Prop) (H : Hp) (S : Sto) (ds : List D) (vs : List V) (Q : VK) (QX : XK), Reps K ρ L H ds vs → Cells K ρ L H S → GoalF K ρ L H (f ds S) Q QX → r vs H Q
def fN (f : List D → Sto → R (List D)) (m : LM) : LM := fun Γ S => (m Γ S).bind f
theorem tF_N {f : List D → Sto → R (List D)} {m : LM} {r : List V → Hp → VK → Prop} (hf : PrimF X.kx f r) (σ : L2.St) (H : Hp) (Q : VK) (h : tF X.kx W L0 O (fN f m) σ H Q) : tA X.kx W L0 O m σ H fun vs H1 => r vs H1 Q := by
  obtain ⟨ρ, Γ, S, e, c, g⟩ := h
  refine ⟨ρ, Γ, S, e, c, GoalF.bind g fun ds S1 vs ρ1 H1 s1 c1 r1 g1 => ?_⟩
  exact hf ρ1 _ H1 S1 ds vs Q _ r1 c1 g1
theorem jf_callB {id : String} {x : Str} {a : Expr} {es : List Expr} {m : LM} {f : List D → Sto → R (List D)} {r : List V → Hp → VK → Prop} {p : Pos} (hc : CallR X (.builtin id) r) (hf : PrimF X.kx f r) (hg : Gl X x) (hm : X.mg x = none) (hv : bootBuiltins x = some (.builtin id)) (ha : JA X W L0 O (a :: es) m)
    (hn : x ≠ "__name__" := by decide) (hdb : (x == ("__debug__" : Str)) = false := by decide) (he : starEach (a :: es) X.env = (false, eval a X.env) :: starEach es X.env := by rfl) (hpl : (backTo pos (starEach es X.env)).any (·.1) = false := by rfl) :
    JF X W L0 O (.Call (.Name x p) (a :: es) [] pos) (fN f m) := PE.imp (pe_callB hc hg hm hv ha hn hdb he hpl) fun σ H Q h => tF_N hf σ H Q h
theorem jf_callTy {T : String} {x : Str} {a : Expr} {es : List Expr} {m : LM} {f : List D → Sto → R (List D)} {r : List V → Hp → VK → Prop} {p : Pos} (hc : CallR X (.type T) r) (hf : PrimF X.kx f r) (hg : Gl X x) (hm : X.mg x = none) (hv : bootBuiltins x = some (.type T)) (ha : JA X W L0 O (a :: es) m)
    (hn : x ≠ "__name__" := by decide) (hdb : (x == ("__debug__" : Str)) = false := by decide) (he : starEach (a :: es) X.env = (false, eval a X.env) :: starEach es X.env := by rfl) (hpl : (backTo pos (starEach es X.env)).any (·.1) = false := by rfl) :
    JF X W L0 O (.Call (.Name x p) (a :: es) [] pos) (fN f m) := PE.imp (pe_callTy hc hg hm hv ha hn hdb he hpl) fun σ H Q h => tF_N hf σ H Q h

/-! ### a slot that owns its list -/
theorem LO.own {i : Nat} {p : Addr} (hi : i ∉ O) (hl : i < σ.length) (hO : ∀ j, j ∈ O' ↔ j = i ∨ j ∈ O) : LO L0 O' (σ.set i (some (.ref p))) = fun a => LO L0 O σ a ∨ a = p := by
  funext a
  refine propext ⟨fun h => ?_, fun h => ?_⟩
  · rcases h with h | ⟨j, hj, e⟩
    · exact .inl (.inl h)
    · rcases (hO j).mp hj with rfl | hj
      · rw [List.getElem?_set_self hl] at e
        cases e
        exact .inr rfl
      · have z : i ≠ j := fun z => hi (z ▸ hj)
        rw [List.getElem?_set_ne z] at e
        exact .inl (.inr ⟨j, hj, e⟩)
  · rcases h with (h | ⟨j, hj, e⟩) | h
    · exact .inl h
    · have z : i ≠ j := fun z => hi (z ▸ hj)
      exact .inr ⟨j, (hO j).mpr (.inr hj), by rw [List.getElem?_set_ne z]; exact e⟩
    · exact .inr ⟨i, (hO i).mpr (.inl rfl), by rw [List.getElem?_set_self hl, h]⟩
theorem EnvOk.own' {i : Nat} {p : Addr} {vs : List V} {ds : List D} (e : EnvOk K ρ L0 O σ Γ H) (s : Step ρ ρ' H H') (hi : i ∉ O) (hl : i < σ.length) (hO : ∀ j, j ∈ O' ↔ j = i ∨ j ∈ O) (hp : H p = none) (hp' : H' p = some (.lst vs)) (hn : p ∉ ρ') (hL : ¬ LO L0 O σ p)
    (r : Reps K ρ' (fun a => LO L0 O σ a ∨ a = p) H' ds vs) : EnvOk K ρ' L0 O' (σ.set i (some (.ref p))) (Γ.set i (some (.lst ds))) H' := by
  have w : ∀ a, (LO L0 O σ a ∨ a = p) → LO L0 O σ a ∨ H a = none := fun a z => z.imp id fun (y : a = p) => y ▸ hp
  have eL := LO.own (L0 := L0) (p := p) hi hl hO
  refine ⟨fun j d h n => ?_, fun j hj => ?_, fun j hj k hk a h1 h2 => ?_, by rw [List.length_set, List.length_set]; exact e.len⟩
  · have z : i ≠ j := fun z => n ((hO j).mpr (.inl z.symm))
    rw [List.getElem?_set_ne z] at h
    obtain ⟨v, q, q2⟩ := e.slot j d h fun z => n ((hO j).mpr (.inr z))
    refine ⟨v, by rw [List.getElem?_set_ne z]; exact q, ?_⟩
    rw [eL]
    exact Rep.step s d v (Rep.more w d v q2)
  · rw [eL]
    rcases (hO j).mp hj with rfl | hj
    · refine ⟨p, vs, ds, List.getElem?_set_self hl, List.getElem?_set_self (by rw [e.len]; exact hl), hp', hn, fun z => hL (.inl z), r⟩
    · have z : i ≠ j := fun z => hi (z ▸ hj)
      obtain ⟨a, us, es, q1, q2, q3, q4, q5, q6⟩ := e.own j hj
      have z4 := (Rd.step (u := .lst us) s (.inl q3) q4).2
      exact ⟨a, us, es, by rw [List.getElem?_set_ne z]; exact q1, by rw [List.getElem?_set_ne z]; exact q2, s.keep a _ q3 q4, z4, q5, Reps.step s es us (Reps.more w es us q6)⟩
  · rcases (hO j).mp hj with rfl | hj
    · rcases (hO k).mp hk with rfl | hk
      · rfl
      · have z : j ≠ k := fun z => hi (z ▸ hk)
        rw [List.getElem?_set_self hl] at h1
        rw [List.getElem?_set_ne z] at h2
        cases h1
        exact absurd (.inr ⟨k, hk, h2⟩) hL
    · have z : i ≠ j := fun z => hi (z ▸ hj)
      rw [List.getElem?_set_ne z] at h1
      rcases (hO k).mp hk with rfl | hk
      · rw [List.getElem?_set_self hl] at h2
        cases h2
        exact absurd (.inr ⟨j, hj, h1⟩) hL
      · have z2 : i ≠ k := fun z => hi (z ▸ hk)
        rw [List.getElem?_set_ne z2] at h2
        exact e.inj j hj k hk a h1 h2
def sOwn (i : Nat) (m : LM) : SM := fun Γ S => thenS (m Γ S) Γ fun ds S1 => .nx (Γ.set i (some (.lst ds))) S1
/-- x = a new list, which x owns from now on -/
theorem js_own {i : Nat} {x : Str} {pos' : Pos} (hN : X.N.Nodup) (hi : X.N[i]? = some x) (hx : Loc X.env.scope x) (ho : i ∉ O) (hO : ∀ j, j ∈ O' ↔ j = i ∨ j ∈ O) (h : JF X W L0 O e m) (hs : swapsWith e (some (.Name x pos')) pos.line X.env = pure false := by rfl)
    (hf : X.fn x = true ∨ X.env.scope.names.lookup x = some .local := by first | exact .inl rfl | exact .inr rfl | assumption) :
    JS X W L0 O O' Ob (.Assign [.Name x pos'] e pos) (sOwn i m) := ⟨fun pins s σ H D I hq => (ps_set hN hi hx h hs hf).run pins s σ H D I (by
  have hil : i < σ.length := by
    rw [I.len]
    exact (List.getElem?_eq_some_iff.mp hi).1
  obtain ⟨ρ, Γ, S, e, c, g⟩ := hq
  refine ⟨ρ, Γ, S, e, c, ?_⟩
  unfold sOwn at g
  cases q : m Γ S with
  | stuck => rw [q] at g; exact g
  | exn x S1 =>
    rw [q] at g
    exact fun c od ρ' H' s cs r => g c od σ ρ' H' (StepM.of s) ((e.step s).demote (by intro i h; cases h)) (cs.weak LO.nil_weak) (XRep.weak LO.nil_weak r)
  | val ds S1 =>
    rw [q] at g
    intro p vs ρ' H' s n h1 h2 h3 c' r
    have eL := LO.own (L0 := L0) (p := p) ho hil hO
    refine g (σ.set i (some (.ref p))) ρ' H' (StepM.of s) (e.own' s ho hil hO n h1 h2 h3 r) (by rw [eL]; exact c') fun a z => ?_
    rw [eL] at z
    exact z.imp id fun (y : a = p) => y ▸ n)⟩
mutual
theorem Rep.off {a : Addr} {o : HO} (ha : a ∈ ρ ∨ L a) (hm : ∃ vs, H a = some (.lst vs)) : ∀ (d : D) (v : V), Rep K ρ L H d v → Rep K ρ L (upd H a o) d v
  | .non, _, h => by unfold Rep at h ⊢; exact h
  | .bl _, _, h => by unfold Rep at h ⊢; exact h
  | .int _, _, h => by unfold Rep at h ⊢; exact h
  | .str _, _, h => by unfold Rep at h ⊢; exact h
  | .fn _, _, h => by unfold Rep at h ⊢; exact h
  | .ty _, _, h => by unfold Rep at h ⊢; exact h
  | .ref _, _, h => by unfold Rep at h ⊢; exact h
  | .lst ds, v, h => by
    unfold Rep at h ⊢
    obtain ⟨b, vs, e, q, q2, q3, r⟩ := h
    exact ⟨b, vs, e, by rw [upd_ne (fun (z : b = a) => ha.elim (fun y => q2 (z ▸ y)) fun y => q3 (z ▸ y))]; exact q, q2, q3, Reps.off ha hm ds vs r⟩
  | .dic ds, v, h => by
    unfold Rep at h ⊢
    obtain ⟨b, vs, e, q, q2, q3, r⟩ := h
    exact ⟨b, vs, e, by rw [upd_ne (fun (z : b = a) => ha.elim (fun y => q2 (z ▸ y)) fun y => q3 (z ▸ y))]; exact q, q2, q3, RepK.off ha hm ds vs r⟩
  | .frz ds, v, h => by
    unfold Rep at h ⊢
    obtain ⟨b, vs, e, q, r⟩ := h
    refine ⟨b, vs, e, q.imp (fun ⟨u, q⟩ => ⟨u, ?_⟩) id, Reps.off ha hm ds vs r⟩
    obtain ⟨us, hm⟩ := hm
    rw [upd_ne (fun z => by (rw [z, hm] at q; cases q))]
    exact q
  | .tup ds, v, h => by
    unfold Rep at h ⊢
    obtain ⟨b, vs, e, q, r⟩ := h
    refine ⟨b, vs, e, ?_, Reps.off ha hm ds vs r⟩
    obtain ⟨us, hm⟩ := hm
    rcases q with (q | ⟨u, q⟩) | q
    · exact .inl (.inl (by rw [upd_ne (fun z => by (rw [z, hm] at q; cases q))]; exact q))
    · exact .inl (.inr ⟨u, by rw [upd_ne (fun z => by (rw [z, hm] at q; cases q))]; exact q⟩)
    · exact .inr q
  | .exc c fs, v, h => by
    unfold Rep at h ⊢
    obtain ⟨b, cls, od, e1, e2, e3, q⟩ := h
    exact ⟨b, cls, od, e1, e2, e3, q.imp id fun ⟨d, vs, q1, q2, q3, q4, q5⟩ => ⟨d, vs, q1, by rw [upd_ne (fun (z : d = a) => ha.elim (fun y => q3 (z ▸ y)) fun y => q4 (z ▸ y))]; exact q2, q3, q4, RepF.off ha hm fs vs q5⟩⟩
  | .clo q ds, v, h => by
    unfold Rep at h ⊢
    obtain ⟨f, c, vs, e, k, q1, r⟩ := h
    obtain ⟨us, hm'⟩ := id hm
    exact ⟨f, c, vs, e, k, by rw [upd_ne (code_ne hm' q1)]; exact q1, Reps.off ha hm ds vs r⟩
theorem Reps.off {a : Addr} {o : HO} (ha : a ∈ ρ ∨ L a) (hm : ∃ vs, H a = some (.lst vs)) : ∀ (ds : List D) (vs : List V), Reps K ρ L H ds vs → Reps K ρ L (upd H a o) ds vs
  | [], _, h => by unfold Reps at h ⊢; exact h
  | d :: ds, _, h => by
    unfold Reps at h ⊢
    obtain ⟨v, r, e, q, z⟩ := h
    exact ⟨v, r, e, Rep.off ha hm d v q, Reps.off ha hm ds r z⟩
theorem RepK.off {a : Addr} {o : HO} (ha : a ∈ ρ ∨ L a) (hm : ∃ vs, H a = some (.lst vs)) : ∀ (ds : List (Key × D)) (vs : List (Key × V)), RepK K ρ L H ds vs → RepK K ρ L (upd H a o) ds vs
  | [], _, h => by unfold RepK at h ⊢; exact h
  | (k, d) :: ds, _, h => by
    unfold RepK at h ⊢
    obtain ⟨v, r, e, q, z⟩ := h
    exact ⟨v, r, e, Rep.off ha hm d v q, RepK.off ha hm ds r z⟩
theorem RepF.off {a : Addr} {o : HO} (ha : a ∈ ρ ∨ L a) (hm : ∃ vs, H a = some (.lst vs)) : ∀ (ds : List (Str × D)) (vs : List (Str × V)), RepF K ρ L H ds vs → RepF K ρ L (upd H a o) ds vs
  | [], _, h => by unfold RepF at h ⊢; exact h
  | (k, d) :: ds, _, h => by
    unfold RepF at h ⊢
    obtain ⟨v, r, e, q, z⟩ := h
    exact ⟨v, r, e, Rep.off ha hm d v q, RepF.off ha hm ds r z⟩
end
theorem Cells.off_upd {a : Addr} {us : List V} (c : Cells K ρ L H S) (ha : L a) (hm : ∃ vs, H a = some (.lst vs)) : Cells K ρ L (upd H a (.lst us)) S := by
  refine ⟨c.len, c.nd, fun i b x h1 h2 => ?_, fun b h => ?_, c.apart, by obtain ⟨_, hm⟩ := hm; exact c.tab.upd hm, c.tbb⟩
  · have hb : b ≠ a := fun z => c.apart b (List.mem_of_getElem? h1) (z ▸ ha)
    have q := c.at_ i b x h1 h2
    cases x with
    | lst ds => obtain ⟨vs, e, r⟩ := q; exact ⟨vs, by rw [upd_ne hb]; exact e, Reps.off (.inr ha) hm ds vs r⟩
    | ins k fs => obtain ⟨dx, vs, e, r⟩ := q; exact ⟨dx, vs, by rw [upd_ne hb]; exact e, RepF.off (.inr ha) hm fs vs r⟩
  · by_cases z : b = a
    · rw [z, upd_same]; exact fun z => nomatch z
    · rw [upd_ne z]; exact c.trk b h
/-- the list that the slot i owns is changed -/
theorem EnvOk.upd_own {i : Nat} {a : Addr} {vs us : List V} {ds es : List D} (e : EnvOk K ρ L0 O σ Γ H) (hi : i ∈ O) (h1 : σ[i]? = some (some (.ref a))) (h2 : Γ[i]? = some (some (.lst ds))) (h3 : H a = some (.lst vs)) (r : Reps K ρ (LO L0 O σ) H es us) :
    EnvOk K ρ L0 O σ (Γ.set i (some (.lst es))) (upd H a (.lst us)) := by
  have ha : LO L0 O σ a := .inr ⟨i, hi, h1⟩
  have hl : i < Γ.length := (List.getElem?_eq_some_iff.mp h2).1
  refine ⟨fun j d h n => ?_, fun j hj => ?_, e.inj, by rw [List.length_set]; exact e.len⟩
  · have z : i ≠ j := fun z => n (z ▸ hi)
    rw [List.getElem?_set_ne z] at h
    obtain ⟨v, q, q2⟩ := e.slot j d h n
    exact ⟨v, q, Rep.off (.inr ha) ⟨_, h3⟩ d v q2⟩
  · by_cases z : i = j
    · subst z
      obtain ⟨b, ws, fs, q1, q2, q3, q4, q5, q6⟩ := e.own i hi
      rw [h1] at q1
      cases q1
      exact ⟨a, us, es, h1, List.getElem?_set_self hl, upd_same, q4, q5, Reps.off (.inr ha) ⟨_, h3⟩ es us r⟩
    · obtain ⟨b, ws, fs, q1, q2, q3, q4, q5, q6⟩ := e.own j hj
      have hb : b ≠ a := fun y => z (e.inj i hi j hj a h1 (y ▸ q1))
      exact ⟨b, ws, fs, q1, by rw [List.getElem?_set_ne z]; exact q2, by rw [upd_ne hb]; exact q3, q4, q5, Reps.off (.inr ha) ⟨_, h3⟩ fs ws q6⟩
/-- the step by which an owned list is changed -/
theorem StepM.ofUpd {a : Addr} {vs us : List V} {M : Addr → Prop} (hM : M a) (h : H a = some (.lst vs)) : StepM M ρ ρ H (upd H a (.lst us)) := by
  refine ⟨List.prefix_refl _, fun _ h => .inl h, fun q u e _ n _ => ?_, fun q xs e => ?_, fun q u z e => ?_, fun q c x e => by rw [upd_ne (code_ne h e)]; exact e, fun q e => ?_⟩
  · rw [upd_ne (fun (z : q = a) => n (z ▸ hM))]; exact e
  · rw [upd_ne (fun (z : q = a) => by (rw [z, h] at e; cases e))]; exact e
  · rw [upd_ne (fun (z : q = a) => by (rw [z, h] at e; cases e))]; exact e
  · by_cases z : q = a
    · rw [z, upd_same]; exact fun y => nomatch y
    · rw [upd_ne z]; exact e
end
end Pv
namespace Pv
open PySem PySem.Spec PyProof.Rows L2
variable [Tf]
section
variable {X : Cx} {K : KX} {ρ ρ' : List Addr} {L0 L L' : Addr → Prop} {O O' Ob : List Nat} {H H' : Hp} {S : Sto} {W : WX} {σ : L2.St} {Γ : Env'} {pos : Pos} {e a b : Expr} {m ma mb : EM} {gs : List Nat} {st : Bool}

/-! ### items -/
def ixD : P2 := fun x y S => match y with
  | .int k => (match x with
    | .tup ds => (match atI ds k with | some d => .val d S | none => .stuck)
    | .lst ds => (match atI ds k with | some d => .val d S | none => .stuck)
    | .frz ds => (match atI ds k with | some d => .val d S | none => .stuck)
    | .ref r => (match S[r]? with
      | some (.lst ds) => (match atI ds k with | some d => .val d S | none => .stuck)
      | _ => .stuck)
    | .str z => ifR (decide (z.length ≤ sizeLine)) (match atI z.cps.toList k with | some c => .val (.str ⟨#[c]⟩) S | none => .stuck)
    | _ => .stuck)
  | _ => .stuck
theorem Reps.atI {ds : List D} {vs : List V} {k : Int} {d : D} (r : Reps K ρ L H ds vs) (h : atI ds k = some d) : ∃ v, L2.atI vs k = some v ∧ Rep K ρ L H d v := by
  unfold L2.atI at h ⊢
  rw [← r.length]
  obtain ⟨j, e1, e2⟩ := Option.bind_eq_some_iff.mp h
  obtain ⟨v, e3, r3⟩ := Reps.get r e2
  exact ⟨v, by rw [e1]; exact e3, r3⟩
theorem Cells.get (c : Cells K ρ L H S) {r : Nat} {x : Cell} (h : S[r]? = some x) : ∃ a, ρ[r]? = some a ∧ CellOk K ρ L H a x := by
  have hl : r < ρ.length := by rw [c.len]; exact (List.getElem?_eq_some_iff.mp h).1
  exact ⟨ρ[r], List.getElem?_eq_getElem hl, c.at_ r _ x (List.getElem?_eq_getElem hl) h⟩
theorem prim_ix : Prim2 K ixD (rIx K.fr) := by
  intro ρ L H S x y v u Q QX rx ry c g
  unfold ixD at g
  split at g
  · rename_i k
    rw [ry.int_inv]
    split at g
    · rename_i ds
      obtain ⟨a, vs, rfl, q, r⟩ := rx.tup_inv
      split at g
      · rename_i d hd
        obtain ⟨w, e1, r1⟩ := r.atI hd
        exact .inr (.inl ⟨a, vs, k, w, rfl, rfl, q, e1, GoalG.val g c r1⟩)
      · exact g.elim
    · rename_i ds
      obtain ⟨a, vs, rfl, q, _, _, r⟩ := rx.lst_inv
      split at g
      · rename_i d hd
        obtain ⟨w, e1, r1⟩ := r.atI hd
        exact .inl ⟨a, vs, k, w, rfl, rfl, SqL.of q, e1, GoalG.val g c r1⟩
      · exact g.elim
    · rename_i ds
      obtain ⟨a, vs, rfl, q, r⟩ := rx.frz_inv
      split at g
      · rename_i d hd
        obtain ⟨w, e1, r1⟩ := r.atI hd
        exact .inl ⟨a, vs, k, w, rfl, rfl, sql_frz q, e1, GoalG.val g c r1⟩
      · exact g.elim
    · rename_i r
      split at g
      · rename_i ds hs
        obtain ⟨a, e0, vs, q, r0⟩ := c.get hs
        unfold Rep at rx
        obtain ⟨a', e0', rfl⟩ := rx
        rw [e0] at e0'
        cases e0'
        split at g
        · rename_i d hd
          obtain ⟨w, e1, r1⟩ := r0.atI hd
          exact .inl ⟨a, vs, k, w, rfl, rfl, SqL.of q, e1, GoalG.val g c r1⟩
        · exact g.elim
      · exact g.elim
    · rename_i z
      obtain ⟨h, g⟩ := of_ifR g
      rw [rx.str_inv]
      split at g
      · rename_i ch hd
        exact .inr (.inr ⟨z, k, ch, rfl, rfl, of_decide_eq_true h, hd, GoalG.val g c rep_str⟩)
      · exact g.elim
    · exact g.elim
  · exact g.elim
theorem je_ix (ha : JE X W L0 O a ma) (hb : JE X W L0 O b mb) (hs : PlainIx b := by intro _ _; rfl) : JE X W L0 O (.Subscript a b pos) (eBin ixD ma mb) := PE.imp (pe_ix ix_seq ha hb hs) fun σ H Q h => tE_bin prim_ix σ H Q h

/-! ### a cell is changed -/
theorem Step.cell {p : Addr} {vs : List V} {o : HO} (hp : p ∈ ρ) (h : H p = some (.lst vs)) : Step ρ ρ H (upd H p o) := by
  refine ⟨List.prefix_refl _, fun _ h => .inl h, fun q u e n _ _ => ?_, fun q xs e => ?_, fun q u z e => ?_, fun q c x e => by rw [upd_ne (code_ne h e)]; exact e, fun q e => ?_⟩
  · rw [upd_ne (fun (z : q = p) => n (z ▸ hp))]; exact e
  · rw [upd_ne (fun (z : q = p) => by (rw [z, h] at e; cases e))]; exact e
  · rw [upd_ne (fun (z : q = p) => by (rw [z, h] at e; cases e))]; exact e
  · by_cases z : q = p
    · rw [z, upd_same]; exact fun y => nomatch y
    · rw [upd_ne z]; exact e
theorem Cells.upd {r : Nat} {p : Addr} {vs us : List V} {es : List D} (c : Cells K ρ L H S) (h1 : ρ[r]? = some p) (h2 : H p = some (.lst vs)) (re : Reps K ρ L H es us) : Cells K ρ L (upd H p (.lst us)) (S.set r (.lst es)) := by
  have hp : p ∈ ρ := List.mem_of_getElem? h1
  refine ⟨by rw [List.length_set]; exact c.len, c.nd, fun i a x q1 q2 => ?_, fun a h => (Step.cell (ρ := ρ) hp h2).some_ a (c.trk a h), c.apart, c.tab.upd h2, c.tbb⟩
  by_cases z : r = i
  · subst z
    rw [h1] at q1
    cases q1
    have hl : r < S.length := by
      have := (List.getElem?_eq_some_iff.mp q2).1
      rwa [List.length_set] at this
    rw [List.getElem?_set_self hl] at q2
    cases q2
    exact ⟨us, upd_same, Reps.off (.inl hp) ⟨_, h2⟩ es us re⟩
  · rw [List.getElem?_set_ne z] at q2
    have hi := (List.getElem?_eq_some_iff.mp q1).1
    have hr := (List.getElem?_eq_some_iff.mp h1).1
    have ne : a ≠ p := fun y => by
      rw [List.getElem?_eq_getElem hi] at q1
      rw [List.getElem?_eq_getElem hr] at h1
      have e1 := Option.some.inj q1
      have e2 := Option.some.inj h1
      exact z ((List.getElem_inj c.nd).mp (by rw [e1, e2, y])).symm
    have q := c.at_ i a x q1 q2
    cases x with
    | lst ds => obtain ⟨ws, e, r⟩ := q; exact ⟨ws, by rw [upd_ne ne]; exact e, Reps.off (.inl hp) ⟨_, h2⟩ ds ws r⟩
    | ins k fs => obtain ⟨dx, ws, e, r⟩ := q; exact ⟨dx, ws, by rw [upd_ne ne]; exact e, RepF.off (.inl hp) ⟨_, h2⟩ fs ws r⟩
/-- o[k] = the thing, o a cell -/
def gCell (mo mi : EM) : GM := fun d Γ S => (mo Γ S).bind fun o S1 => (mi Γ S1).bind fun k S2 => match o, k with
  | .ref r, .int j => (match S2[r]? with
    | some (.lst ds) => (match ixN ds.length j with
      | some n => .val Γ (S2.set r (.lst (ds.set n d)))
      | none => .stuck)
    | _ => .stuck)
  | _, _ => .stuck
theorem jg_cell {o i : Expr} {mo mi : EM} {W : WX} (ho : JE X W L0 O o mo) (hi : JE X W L0 O i mi)
    (ha : ∀ v, assign (.Subscript o i pos) X.env v = (do
      let ov ← holding [v] (eval o X.env)
      let iv ← holding [v, ov] (eval i X.env)
      standAt pos
      holding [v, ov, iv] (setItem ov iv v)
      release [v, ov, iv] []) := by intro _; rfl) : JG st X L0 O [] (.Subscript o i pos) (gCell mo mi) := PG.imp (pg_sub ho hi set_list ha) fun v σ H Q ⟨ρ, Γ, S, d, e, c, r, g⟩ => by
  unfold gCell at g
  refine ⟨ρ, Γ, S, e, c, ?_⟩
  cases q : mo Γ S with
  | stuck => rw [q] at g; exact g
  | exn x S1 => rw [q] at g; exact g.elim
  | val od S1 =>
    rw [q] at g
    intro ov ρ1 H1 s1 c1 r1
    refine ⟨ρ1, Γ, S1, e.step s1, c1, ?_⟩
    rw [R.bind_val] at g
    cases q2 : mi Γ S1 with
    | stuck => rw [q2] at g; exact g
    | exn x S1 => rw [q2] at g; exact g.elim
    | val kd S2 =>
      rw [q2, R.bind_val] at g
      have g1 := g
      clear g
      intro iv ρ2 H2 s2 c2 r2
      split at g1
      · rename_i rr j
        split at g1
        · rename_i ds hs
          split at g1
          · rename_i n hn
            have rr1 := Rep.step s2 _ _ r1
            unfold Rep at rr1
            obtain ⟨p, hp, rfl⟩ := rr1
            rw [r2.int_inv]
            obtain ⟨p', hp', vs, hH, rv⟩ := c2.get hs
            rw [hp] at hp'
            cases hp'
            have hpm : p ∈ ρ2 := List.mem_of_getElem? hp
            have rd := Rep.step s2 _ _ (Rep.step s1 _ _ r)
            refine ⟨p, vs, j, n, rfl, rfl, hH, by rw [← rv.length]; exact hn, ?_⟩
            have st1 : Step ρ2 ρ2 H2 (L2.upd H2 p (.lst (vs.set n v))) := Step.cell hpm hH
            have e2 := (e.step s1).step s2
            exact g1 σ ρ2 _ (StepM.of ((s1.trans s2).trans st1)) (e2.step st1) rfl (c2.upd hp hH (rv.set n rd)) .refl
          · exact g1.elim
        · exact g1.elim
      · exact g1.elim
/-! ### an owned list is changed -/
def gOwn (i : Nat) (mi : EM) : GM := fun d Γ S => (mi Γ S).bind fun k S2 => match Γ[i]?, k with
  | some (some (.lst ds)), .int j => (match ixN ds.length j with
    | some n => .val (Γ.set i (some (.lst (ds.set n d)))) S2
    | none => .stuck)
  | _, _ => .stuck
theorem jg_own {i : Nat} {x : Str} {ix : Expr} {mi : EM} {W : WX} {p1 : Pos} (hN : X.N[i]? = some x) (hv : Vis X.env.scope x) (hio : i ∈ O) (hi : JE X W L0 O ix mi)
    (ha : ∀ v, assign (.Subscript (.Name x p1) ix pos) X.env v = (do
      let ov ← holding [v] (eval (.Name x p1) X.env)
      let iv ← holding [v, ov] (eval ix X.env)
      standAt pos
      holding [v, ov, iv] (setItem ov iv v)
      release [v, ov, iv] []) := by intro _; rfl) (hd : (x == ("__debug__" : Str)) = false := by decide) (hcd : (x == ("__classdict__" : Str)) = false := by decide) : JG false X L0 O [] (.Subscript (.Name x p1) ix pos) (gOwn i mi) := PG.imp (pg_sub (pe_var hN hv hd hcd) hi set_list ha) fun v σ H Q ⟨ρ, Γ, S, d, e, c, r, g⟩ => by
  obtain ⟨p, vs, ds0, q1, q2, q3, q4, q5, q6⟩ := e.own i hio
  refine ⟨_, q1, ρ, Γ, S, e, c, ?_⟩
  unfold gOwn at g
  cases q : mi Γ S with
  | stuck => rw [q] at g; exact g
  | exn x S1 => rw [q] at g; exact g.elim
  | val kd S1 =>
    rw [q, R.bind_val, q2] at g
    intro iv ρ1 H1 s1 c1 r1
    split at g
    · rename_i ds j e1
      cases Option.some.inj (Option.some.inj e1)
      split at g
      · rename_i n hn
        rw [r1.int_inv]
        have hH1 := s1.keep p _ q3 q4
        have rv := Reps.step s1 _ _ q6
        have rd := Rep.step s1 _ _ r
        refine ⟨p, vs, j, n, rfl, rfl, hH1, by rw [← rv.length]; exact hn, ?_⟩
        have hL : LO L0 O σ p := .inr ⟨i, hio, q1⟩
        exact g σ ρ1 _ ((StepM.of s1).trans (StepM.ofUpd ⟨rfl, hL, q5⟩ hH1)) ((e.step s1).upd_own hio q1 q2 hH1 (rv.set n rd)) rfl (c1.off_upd hL ⟨_, hH1⟩) .refl
      · exact g.elim
    · exact g.elim
/-- x.append(e), x a slot that owns its list -/
def sAppend (i : Nat) (m : EM) : SM := fun Γ S => thenS (m Γ S) Γ fun d S1 => match Γ[i]? with
  | some (some (.lst ds)) => if ds.length < sizeLine then .nx (Γ.set i (some (.lst (ds ++ [d])))) S1 else .stuck
  | _ => .stuck
theorem js_append {i : Nat} {x : Str} {p1 apos cpos : Pos} (hN : X.N[i]? = some x) (hv : Vis X.env.scope x) (hio : i ∈ O) (h : JE X W L0 O e m) (hd : (x == ("__debug__" : Str)) = false := by decide) (hcd : (x == ("__classdict__" : Str)) = false := by decide)
    (hs1 : starEach [e] X.env = (false, eval e X.env) :: starEach [] X.env := by rfl)
    (hbase : attributeBase (.Name x p1) "append" X.env (eval (.Name x p1) X.env) = eval (.Name x p1) X.env := by rfl)
    (hfew : ((backTo cpos (starEach [e] X.env)).all (fun x => !x.1) && (backToKw cpos (keywordEach [] X.env)).all (fun x => x.1.isSome)
      && decide ([e].length + ([] : List Keyword).length + (if ([] : List Keyword).isEmpty then 0 else 1) < 30)) = true := by rfl)
    (hline : (apos.endLine == cpos.line) = true := by rfl) (hplain : (backTo cpos (starEach [] X.env)).any (·.1) = false := by rfl)
    (hs : swapsWith (.Call (.Attribute (.Name x p1) "append" apos) [e] [] cpos) none pos.line X.env = pure false := by rfl) :
    JS X W L0 O O Ob (.Expr (.Call (.Attribute (.Name x p1) "append" apos) [e] [] cpos) pos) (sAppend i m) :=
  PS.imp (ps_expr (pe_bm PySem.F.plainAttrs_list PySem.F.slot_list_append PySem.F.type_list_append mt_append (pe_var hN hv hd hcd) (pa_cons h pa_nil hs1) hbase hfew hline hs1 hplain) hs) fun D σ H hq => by
    obtain ⟨ρ, Γ, S, e, c, g⟩ := hq
    obtain ⟨p, vs, ds0, q1, q2, q3, q4, q5, q6⟩ := e.own i hio
    refine ⟨_, q1, .inl ⟨rfl, vs, SqL.of q3⟩, ρ, Γ, S, e, c, GoalS.bind e g fun d S1 v ρ1 H1 s1 c1 r1 g1 => ?_⟩
    rw [q2] at g1
    dsimp only at g1
    split at g1
    · rename_i hl
      have hH1 := s1.keep p _ q3 q4
      have rv := Reps.step s1 _ _ q6
      have hL : LO L0 O σ p := .inr ⟨i, hio, q1⟩
      refine ⟨p, vs, v, rfl, rfl, hH1, by rw [← rv.length]; exact hl, ?_⟩
      exact g1 σ ρ1 _ (StepM.ofUpd ⟨hL, q5⟩ hH1) ((e.step s1).upd_own hio q1 q2 hH1 (rv.append (Reps.cons r1 Reps.nil))) (c1.off_upd hL ⟨_, hH1⟩) fun a z => .inl z
    · exact g1.elim
end
end Pv
namespace Pv
open PySem PySem.Spec PyProof.Rows L2
variable [Tf]

/-! ### a list comprehension -/
abbrev Wf : WX := fun _ _ _ _ => False
def wipeD (Γ : Env') : List Nat → Env'
  | [] => Γ
  | v :: vs => (wipeD Γ vs).set v none
/-- the tests of a clause -/
def tPTs (X : Cx) (W : WX) (L0 : Addr → Prop) (O : List Nat) (ifs : List Expr) (m : BM) : Prop := PTs X ifs (tT X.kx W L0 O m)
def bTrue : BM := fun _ S => .val true S
def compGo (gm : GM) (c : BM) (m : EM) (Γ : Env') : List D → Sto → R (List D)
  | [], S => .val [] S
  | d :: ds, S => match gm d Γ S with
    | .val Γ1 S1 => (match c Γ1 S1 with
      | .val true S2 => (match m Γ1 S2 with
        | .val y S3 => (compGo gm c m Γ ds S3).bind fun ys S4 => .val (y :: ys) S4
        | _ => .stuck)
      | .val false S2 => compGo gm c m Γ ds S2
      | _ => .stuck)
    | _ => .stuck
def fComp (ml : LM) (gm : GM) (c : BM) (m : EM) (own : List Nat) : LM := fun Γ S => (ml Γ S).bind fun ds S1 => (compGo gm c m (wipeD Γ own) ds S1).bind fun ys S2 => ifR (decide (ys.length ≤ sizeLine)) (.val ys S2)
section
variable {X : Cx} {K : KX} {ρ ρ' : List Addr} {L0 L L' : Addr → Prop} {O O' Ob : List Nat} {H H' : Hp} {S : Sto} {W : WX} {σ : L2.St} {Γ : Env'} {pos : Pos} {gs : List Nat}
theorem wipeD_length : ∀ vs : List Nat, (wipeD Γ vs).length = Γ.length
  | [] => rfl
  | v :: vs => by
    show ((wipeD Γ vs).set v none).length = _
    rw [List.length_set, wipeD_length vs]
theorem wipe_get {σ : L2.St} {i : Nat} : ∀ {vs : List Nat}, i ∉ vs → (wipe σ vs)[i]? = σ[i]?
  | [], _ => rfl
  | v :: vs, h => by
    show ((wipe σ vs).set v none)[i]? = _
    rw [List.getElem?_set_ne (fun (z : v = i) => h (by rw [z]; exact List.mem_cons_self))]
    exact wipe_get fun z => h (List.mem_cons_of_mem _ z)
theorem wipeD_get {i : Nat} {d : D} : ∀ {vs : List Nat}, (wipeD Γ vs)[i]? = some (some d) → Γ[i]? = some (some d) ∧ i ∉ vs
  | [], h => ⟨h, by simp⟩
  | v :: vs, h => by
    have h' : ((wipeD Γ vs).set v none)[i]? = some (some d) := h
    by_cases z : v = i
    · subst z
      by_cases hl : v < (wipeD Γ vs).length
      · rw [List.getElem?_set_self hl] at h'; cases h'
      · rw [List.getElem?_eq_none (by rw [List.length_set]; omega)] at h'; cases h'
    · rw [List.getElem?_set_ne z] at h'
      obtain ⟨h1, h2⟩ := wipeD_get h'
      exact ⟨h1, fun y => (List.mem_cons.mp y).elim (fun y => z y.symm) h2⟩
theorem wipeD_get' {i : Nat} : ∀ {vs : List Nat}, i ∉ vs → (wipeD Γ vs)[i]? = Γ[i]?
  | [], _ => rfl
  | v :: vs, h => by
    show ((wipeD Γ vs).set v none)[i]? = _
    rw [List.getElem?_set_ne (fun (z : v = i) => h (by rw [z]; exact List.mem_cons_self))]
    exact wipeD_get' fun z => h (List.mem_cons_of_mem _ z)
theorem LO.wipe {vs : List Nat} (hv : ∀ i ∈ O, i ∉ vs) : LO L0 O (wipe σ vs) = LO L0 O σ := by
  funext a
  refine propext ⟨fun h => h.imp id fun ⟨j, hj, e⟩ => ⟨j, hj, ?_⟩, fun h => h.imp id fun ⟨j, hj, e⟩ => ⟨j, hj, ?_⟩⟩
  · rwa [wipe_get (hv j hj)] at e
  · rwa [wipe_get (hv j hj)]
theorem EnvOk.wipe {vs : List Nat} (hv : ∀ i ∈ O, i ∉ vs) (e : EnvOk K ρ L0 O σ Γ H) : EnvOk K ρ L0 O (wipe σ vs) (wipeD Γ vs) H := by
  refine ⟨fun i d h n => ?_, fun i hi => ?_, fun i hi j hj a h1 h2 => ?_, by rw [wipeD_length, wipe_length]; exact e.len⟩
  · obtain ⟨h1, h2⟩ := wipeD_get h
    obtain ⟨v, q, r⟩ := e.slot i d h1 n
    exact ⟨v, by rw [wipe_get h2]; exact q, by rw [LO.wipe hv]; exact r⟩
  · obtain ⟨a, ws, ds, q1, q2, q3, q4, q5, q6⟩ := e.own i hi
    exact ⟨a, ws, ds, by rw [wipe_get (hv i hi)]; exact q1, by rw [wipeD_get' (hv i hi)]; exact q2, q3, q4, q5, by rw [LO.wipe hv]; exact q6⟩
  · rw [wipe_get (hv i hi)] at h1
    rw [wipe_get (hv j hj)] at h2
    exact e.inj i hi j hj a h1 h2
/-- a frame beside a list that is being made at p -/
theorem EnvOk.beside {p : Addr} (e : EnvOk K ρ L0 O σ Γ H) (hp : H p = none) : EnvOk K ρ (fun a => L0 a ∨ a = p) O σ Γ H := by
  have w : ∀ a, LO (fun a => L0 a ∨ a = p) O σ a → LO L0 O σ a ∨ H a = none := fun a z => by
    rcases z with (z | z) | z
    · exact .inl (.inl z)
    · exact .inr (z ▸ hp)
    · exact .inl (.inr z)
  refine ⟨fun i d h n => ?_, fun i hi => ?_, e.inj, e.len⟩
  · obtain ⟨v, q, r⟩ := e.slot i d h n
    exact ⟨v, q, Rep.more w d v r⟩
  · obtain ⟨a, ws, ds, q1, q2, q3, q4, q5, q6⟩ := e.own i hi
    refine ⟨a, ws, ds, q1, q2, q3, q4, fun z => z.elim q5 fun z => ?_, Reps.more w ds ws q6⟩
    rw [z, hp] at q3
    cases q3
theorem LO.beside {p : Addr} : LO (fun a => L0 a ∨ a = p) O σ = fun a => LO L0 O σ a ∨ a = p := by
  funext a
  exact propext ⟨fun z => z.elim (fun z => z.elim (fun z => .inl (.inl z)) .inr) fun z => .inl (.inr z), fun z => z.elim (fun z => z.elim (fun z => .inl (.inl z)) .inr) fun z => .inl (.inr z)⟩
theorem compGo_len {gm : GM} {c : BM} {m : EM} : ∀ {ds : List D} {S S' : Sto} {ys : List D}, compGo gm c m Γ ds S = .val ys S' → ys.length ≤ ds.length := by
  intro ds
  induction ds with
  | nil => intro S S' ys h; unfold compGo at h; cases h; exact Nat.le_refl _
  | cons d ds ih =>
    intro S S' ys h
    unfold compGo at h
    split at h
    · split at h
      · split at h
        · rename_i y S3 _
          cases q : compGo gm c m Γ ds S3 with
          | stuck => rw [q] at h; cases h
          | exn x S => rw [q] at h; cases h
          | val zs S4 =>
            rw [q] at h
            cases h
            exact Nat.succ_le_succ (ih q)
        · cases h
      · exact Nat.le_succ_of_le (ih h)
      · cases h
    · cases h
theorem compGo_noexn {gm : GM} {c : BM} {m : EM} : ∀ {ds : List D} {S S' : Sto} {x : Exn}, compGo gm c m Γ ds S = .exn x S' → False := by
  intro ds
  induction ds with
  | nil => intro S S' x h; unfold compGo at h; cases h
  | cons d ds ih =>
    intro S S' x h
    unfold compGo at h
    split at h
    · split at h
      · split at h
        · rename_i y S3 _
          cases q : compGo gm c m Γ ds S3 with
          | stuck => rw [q] at h; cases h
          | exn x S => exact ih q
          | val zs S4 => rw [q] at h; cases h
        · cases h
      · exact ih h
      · cases h
    · cases h
theorem tF_comp {wi : TI} {g : TG} {tt : TT} {te : TE} {ml : LM} {gm : GM} {c : BM} {m : EM} {own : List Nat} (hi : ∀ σ H R, tI X.kx W L0 O ml σ H R → wi σ H R)
    (hg : ∀ (L0 : Addr → Prop) v σ H Q, tG true X.kx L0 O gs gm v σ H Q → g v σ H Q) (ht : ∀ (L0 : Addr → Prop) σ H Q, tT X.kx Wf L0 O c σ H Q → tt σ H Q) (he : ∀ (L0 : Addr → Prop) σ H Q, tE X.kx Wf L0 O m σ H Q → te σ H Q)
    (hgs : ∀ j ∈ gs, j ∈ own) (hv : ∀ i ∈ O, i ∉ own) (σ : L2.St) (H : Hp) (Q : VK) (h : tF X.kx W L0 O (fComp ml gm c m own) σ H Q) : tLc wi g tt te own σ H Q := by
  obtain ⟨ρ, Γ, S, e, c0, gl⟩ := h
  refine hi σ H _ ⟨ρ, Γ, S, e, c0, GoalF.bind gl fun ds S1 J ρ1 H1 s1 c1 src g1 => ?_⟩
  obtain ⟨G, Y, w, hG, hY⟩ := src
  intro Dn hDn
  have e1 := (e.step s1).beside hDn |>.wipe hv
  have eLw : LO (fun a => L0 a ∨ a = Dn) O (L2.wipe σ own) = fun a => LO L0 O σ a ∨ a = Dn := by rw [LO.wipe hv, LO.beside]
  refine lc_it w (fun i H' => ∃ (ρ2 : List Addr) (S2 : Sto) (acc : List D) (vs : List V), Step ρ1 ρ2 H1 H' ∧ Cells X.kx ρ2 (fun a => LO L0 O σ a ∨ a = Dn) H' S2 ∧ H' Dn = some (.lst vs) ∧ Dn ∉ ρ2 ∧ Reps X.kx ρ2 (fun a => LO L0 O σ a ∨ a = Dn) H' acc vs ∧
    GoalF X.kx ρ1 (LO L0 O σ) H1 ((compGo gm c m (wipeD Γ own) (ds.drop i) S2).bind fun ys S' => ifR (decide ((acc ++ ys).length ≤ sizeLine)) (.val (acc ++ ys) S')) Q fun c od H' => W c od σ H')
    ⟨ρ1, S1, [], [], Step.laid hDn, c1.newList hDn, upd_same, (c1.off hDn).1, Reps.nil, g1⟩ (fun i H' _ ⟨ρ2, _, _, _, s2, _⟩ => hG _ ρ2 H' s2 fun a z => z.elim) ?_ ?_
  · rintro i x H' H3 hil ⟨ρ2, S2, acc, vs, s2, c2, hD2, hn2, ra, g2⟩ y
    obtain ⟨d, hd⟩ : ∃ d, ds[i]? = some d := ⟨ds[i], List.getElem?_eq_getElem hil⟩
    obtain ⟨hH, hr⟩ := hY i _ ρ2 H' x H3 (fun a => LO L0 O σ a ∨ a = Dn) d s2 (fun a z => z.elim) (fun a z => z.imp id fun (q : a = Dn) => q ▸ hDn) c2.trk y hd
    have st3 : Step ρ2 ρ2 H' H3 := by
      rcases hH with rfl | ⟨p, o, hp, rfl⟩
      · exact .refl
      · exact Step.laid hp
    have c3 : Cells X.kx ρ2 (fun a => LO L0 O σ a ∨ a = Dn) H3 S2 := by
      rcases hH with rfl | ⟨p, o, hp, rfl⟩
      · exact c2
      · exact c2.laid hp
    have hD3 : H3 Dn = some (.lst vs) := st3.keep Dn _ hD2 hn2
    have ra3 := Reps.step st3 _ _ ra
    have e3 := (e1.step s2).step st3
    have dr : ds.drop i = d :: ds.drop (i + 1) := by
      rw [List.drop_eq_getElem_cons hil]
      rw [List.getElem?_eq_getElem hil] at hd
      cases hd
      rfl
    rw [dr] at g2
    refine hg _ x _ H3 _ ⟨ρ2, wipeD Γ own, S2, d, e3, by rw [eLw]; exact c3, by rw [eLw]; exact hr, ?_⟩
    unfold compGo at g2
    cases q4 : gm d (wipeD Γ own) S2 with
    | stuck => rw [q4] at g2; exact g2
    | exn x S => rw [q4] at g2; exact g2
    | val Γ4 S4 =>
      rw [q4] at g2
      dsimp only at g2
      intro σ4 ρ4 H4 s4 e4 l4 c4 al
      have s4 : Step ρ2 ρ4 H3 H4 := s4.mono fun a z => nomatch z.1
      refine ⟨(al.wiped own hgs).trans ?_, ?_⟩
      · refine List.ext_getElem? fun j => ?_
        by_cases hj : j ∈ own
        · have key : ∀ (τ : L2.St) (vs : List Nat), j ∈ vs → (L2.wipe τ vs)[j]? = if j < τ.length then some none else none := by
            intro τ vs
            induction vs with
            | nil => intro h; cases h
            | cons v vs ih =>
              intro hj
              show ((L2.wipe τ vs).set v none)[j]? = _
              by_cases z : v = j
              · subst z
                by_cases hl : v < τ.length
                · rw [List.getElem?_set_self (by rw [wipe_length]; exact hl), if_pos hl]
                · rw [List.getElem?_eq_none (by rw [List.length_set, wipe_length]; omega), if_neg hl]
              · rw [List.getElem?_set_ne z]
                rcases List.mem_cons.mp hj with e | e
                · exact absurd e.symm z
                · exact ih e
          rw [key _ own hj, key _ own hj, wipe_length]
        · rw [wipe_get hj]
      have eL4 : LO (fun a => L0 a ∨ a = Dn) O σ4 = fun a => LO L0 O σ a ∨ a = Dn := by rw [l4, eLw]
      refine ht _ σ4 H4 _ ⟨ρ4, Γ4, S4, e4, c4, ?_⟩
      have hD4 : H4 Dn = some (.lst vs) := s4.keep Dn _ hD3 hn2
      have hn4 : Dn ∉ ρ4 := s4.offρ (by rw [hD3]; exact fun z => nomatch z) hn2
      have ra4 := Reps.step s4 _ _ ra3
      have s14 : Step ρ1 ρ4 H1 H4 := (s2.trans st3).trans s4
      cases q5 : c Γ4 S4 with
      | stuck => rw [q5] at g2; exact g2
      | exn x S => rw [q5] at g2; exact g2.elim
      | val b S5 =>
        rw [q5] at g2
        intro b' ρ5 H5 s5 c5 eb
        subst eb
        have hD5 : H5 Dn = some (.lst vs) := s5.keep Dn _ hD4 hn4
        have hn5 : Dn ∉ ρ5 := s5.offρ (by rw [hD4]; exact fun z => nomatch z) hn4
        have ra5 := Reps.step s5 _ _ ra4
        cases b' with
        | false =>
          rw [if_neg Bool.false_ne_true]
          exact ⟨ρ5, S5, acc, vs, s14.trans s5, eL4 ▸ c5, hD5, hn5, ra5, g2⟩
        | true =>
          rw [if_pos rfl]
          refine he _ σ4 H5 _ ⟨ρ5, Γ4, S5, e4.step s5, c5, ?_⟩
          dsimp only at g2
          cases q6 : m Γ4 S5 with
          | stuck => rw [q6] at g2; exact g2
          | exn x S => rw [q6] at g2; exact g2.elim
          | val yv S6 =>
            rw [q6] at g2
            dsimp only at g2
            intro v ρ6 H6 s6 c6 r6
            have hD6 : H6 Dn = some (.lst vs) := s6.keep Dn _ hD5 hn5
            have hn6 : Dn ∉ ρ6 := s6.offρ (by rw [hD5]; exact fun z => nomatch z) hn5
            have ra6 := Reps.step s6 _ _ ra5
            rw [eL4] at r6 c6
            have hL6 : (fun a => LO L0 O σ a ∨ a = Dn) Dn := .inr rfl
            have g3 : GoalF X.kx ρ1 (LO L0 O σ) H1 ((compGo gm c m (wipeD Γ own) (ds.drop (i + 1)) S6).bind fun ys S' => ifR (decide (((acc ++ [yv]) ++ ys).length ≤ sizeLine)) (.val ((acc ++ [yv]) ++ ys) S')) Q fun c od H' => W c od σ H' := by
              cases q7 : compGo gm c m (wipeD Γ own) (ds.drop (i + 1)) S6 with
              | stuck => rw [q7] at g2; exact g2
              | exn x S => rw [q7] at g2; exact g2
              | val ys S7 =>
                rw [q7] at g2
                simp only [R.bind_val, List.append_assoc, List.singleton_append] at g2 ⊢
                exact g2
            have hacc : acc.length < sizeLine := by
              cases q7 : compGo gm c m (wipeD Γ own) (ds.drop (i + 1)) S6 with
              | stuck => rw [q7] at g3; exact g3.elim
              | exn x S => exact (compGo_noexn q7).elim
              | val ys S7 =>
                rw [q7, R.bind_val] at g3
                have := of_decide_eq_true (of_ifRF g3).1
                rw [List.length_append, List.length_append, List.length_singleton] at this
                omega
            refine ⟨vs, hD6, by rw [← ra6.length]; exact hacc, ρ6, S6, acc ++ [yv], vs ++ [v], ?_, c6.off_upd hL6 ⟨_, hD6⟩, upd_same, hn6, Reps.off (.inr hL6) ⟨_, hD6⟩ _ _ (ra6.append (Reps.cons r6 Reps.nil)), g3⟩
            have t := (s14.trans s5).trans s6
            have t2 : StepM (fun a => a = Dn) ρ6 ρ6 H6 (L2.upd H6 Dn (.lst (vs ++ [v]))) := StepM.ofUpd rfl hD6
            have t3 : StepM (fun _ => False) ρ1 ρ6 H1 (L2.upd H6 Dn (.lst (vs ++ [v]))) := t.transM t2 fun a z => .inr (z ▸ hDn)
            exact t3
  · rintro H' ⟨ρ2, S2, acc, vs, s2, c2, hD2, hn2, ra, g2⟩
    rw [List.drop_length] at g2
    unfold compGo at g2
    rw [R.bind_val, List.append_nil] at g2
    exact (of_ifRF g2).2 Dn vs ρ2 H' s2 hDn hD2 hn2 (c1.off hDn).2 c2 ra
theorem jpts_nil : PTs X [] (tT X.kx W L0 O bTrue) := by
  refine ⟨fun pins s σ H Q I h => ?_⟩
  obtain ⟨ρ, Γ, S, e, c, g⟩ := h
  exact pts_nil.run pins s σ H Q I (GoalG.val g c rfl)
theorem jpts_one {t : Expr} {c : BM} (h : JT X W L0 O t c) : PTs X [t] (tT X.kx W L0 O c) := pts_one h
theorem kx_blk {s : Shared} {H : Hp} {scope : Scope} {ce : Env} {fp : List Addr} (hc : X.calm = true) : (X.blk s H scope ce fp).kx = X.kx := by rw [kx_calm hc]; exact kx_calm hc
/-- [elt for tg in iter if ..] -/
theorem jf_comp {elt tg iter : Expr} {ifs : List Expr} {scope : Scope} {ml : LM} {gm : GM} {c : BM} {m : EM} {own : List (Str × Nat)} (hc : X.calm = true) (hN : X.N.Nodup) (hi : JI X W L0 O tg iter ml) (ok : BlkOk X.N X.env.scope scope own)
    (hg : ∀ (L0 : Addr → Prop) (s : Shared) (H : Hp) (C : Addr) (cl : List (Str × Addr)) (fp : List Addr), JG true (X.blk s H scope (compEnvC scope cl C X.env) fp) L0 O gs tg gm)
    (ht : ∀ (L0 : Addr → Prop) (s : Shared) (H : Hp) (C : Addr) (cl : List (Str × Addr)) (fp : List Addr), PTs (X.blk s H scope (compEnvC scope cl C X.env) fp) ifs (tT (X.blk s H scope (compEnvC scope cl C X.env) fp).kx Wf L0 O c))
    (he : ∀ (L0 : Addr → Prop) (s : Shared) (H : Hp) (C : Addr) (cl : List (Str × Addr)) (fp : List Addr), JE (X.blk s H scope (compEnvC scope cl C X.env) fp) Wf L0 O elt m)
    (hgs : ∀ j ∈ gs, j ∈ own.map (·.2)) (hv : ∀ i ∈ O, i ∉ own.map (·.2)) (hs : ∀ x, foldedSetIterable iter X.env x = pure x := by intro _; rfl) :
    JF X W L0 O (.ListComp elt [⟨tg, iter, ifs, 0⟩] scope pos) (fComp ml gm c m (own.map (·.2))) := by
  have H1 : PE X (.ListComp elt [⟨tg, iter, ifs, 0⟩] scope pos) (tLc (tI X.kx W L0 O ml) (fun v σ H Q => ∃ L0, tG true X.kx L0 O gs gm v σ H Q) (fun σ H Q => ∃ L0, tT X.kx Wf L0 O c σ H Q) (fun σ H Q => ∃ L0, tE X.kx Wf L0 O m σ H Q) (own.map (·.2))) :=
    pe_lc hc hN hi ok (fun s H C cl fp => ⟨fun pins s' σ H' v u Q I r ⟨L1, h⟩ => (hg L1 s H C cl fp).run pins s' σ H' v u Q I r (by rw [kx_blk hc]; exact h)⟩) (fun s H C cl fp => ⟨fun pins s' σ H' Q I ⟨L1, h⟩ => (ht L1 s H C cl fp).run pins s' σ H' Q I (by rw [kx_blk hc]; exact h)⟩)
      (fun s H C cl fp => ⟨fun pins s' σ H' Q I ⟨L1, h⟩ => (he L1 s H C cl fp).run pins s' σ H' Q I (by rw [kx_blk hc]; exact h)⟩) hs
  exact PE.imp H1 fun σ H Q h => tF_comp (fun _ _ _ h => h) (fun L1 _ _ _ _ h => ⟨L1, h⟩) (fun L1 _ _ _ h => ⟨L1, h⟩) (fun L1 _ _ _ h => ⟨L1, h⟩) hgs hv σ H Q h
/-- y = [elt for ..], y a local -/
theorem js_setLc {i : Nat} {y : Str} {py spos : Pos} {elt tg iter : Expr} {ifs : List Expr} {scope : Scope} {ml : LM} {gm : GM} {c : BM} {m : EM} {own : List (Str × Nat)} (hc : X.calm = true) (hN : X.N.Nodup) (hy : X.N[i]? = some y) (hyl : X.env.scope.names.lookup y = some .local) (ho : i ∉ O)
    (hsw : swapsWith (.ListComp elt [⟨tg, iter, ifs, 0⟩] scope pos) (some (.Name y py)) spos.line X.env = pure true) (hi : JI X W L0 O tg iter ml) (ok : BlkOk X.N X.env.scope scope own)
    (hg : ∀ (L0 : Addr → Prop) (s : Shared) (H : Hp) (C : Addr) (cl : List (Str × Addr)) (fp : List Addr), JG true (X.blk s H scope (compEnvC scope cl C X.env) fp) L0 O gs tg gm)
    (ht : ∀ (L0 : Addr → Prop) (s : Shared) (H : Hp) (C : Addr) (cl : List (Str × Addr)) (fp : List Addr), PTs (X.blk s H scope (compEnvC scope cl C X.env) fp) ifs (tT (X.blk s H scope (compEnvC scope cl C X.env) fp).kx Wf L0 O c))
    (he : ∀ (L0 : Addr → Prop) (s : Shared) (H : Hp) (C : Addr) (cl : List (Str × Addr)) (fp : List Addr), JE (X.blk s H scope (compEnvC scope cl C X.env) fp) Wf L0 O elt m)
    (hgs : ∀ j ∈ gs, j ∈ own.map (·.2)) (hv : ∀ i ∈ O, i ∉ own.map (·.2)) (hs : ∀ x, foldedSetIterable iter X.env x = pure x := by intro _; rfl) :
    JS X W L0 O O Ob (.Assign [.Name y py] (.ListComp elt [⟨tg, iter, ifs, 0⟩] scope pos) spos) (sSet i (eLst (fComp ml gm c m (own.map (·.2))))) := by
  have H1 : PS X (.Assign [.Name y py] (.ListComp elt [⟨tg, iter, ifs, 0⟩] scope pos) spos) (tAsg (tLc (tI X.kx W L0 O ml) (fun v σ H Q => ∃ L0, tG true X.kx L0 O gs gm v σ H Q) (fun σ H Q => ∃ L0, tT X.kx Wf L0 O c σ H Q) (fun σ H Q => ∃ L0, tE X.kx Wf L0 O m σ H Q) (own.map (·.2))) (gName i)) :=
    ps_setLc hc hN hy hyl hsw hi ok (fun s H C cl fp => ⟨fun pins s' σ H' v u Q I r ⟨L1, h⟩ => (hg L1 s H C cl fp).run pins s' σ H' v u Q I r (by rw [kx_blk hc]; exact h)⟩) (fun s H C cl fp => ⟨fun pins s' σ H' Q I ⟨L1, h⟩ => (ht L1 s H C cl fp).run pins s' σ H' Q I (by rw [kx_blk hc]; exact h)⟩)
      (fun s H C cl fp => ⟨fun pins s' σ H' Q I ⟨L1, h⟩ => (he L1 s H C cl fp).run pins s' σ H' Q I (by rw [kx_blk hc]; exact h)⟩) hs
  refine PS.imp H1 fun D σ H hq => ?_
  obtain ⟨ρ, Γ, S, e, c0, g⟩ := hq
  refine tF_comp (L0 := L0) (W := W) (fun _ _ _ h => h) (fun L1 _ _ _ _ h => ⟨L1, h⟩) (fun L1 _ _ _ h => ⟨L1, h⟩) (fun L1 _ _ _ h => ⟨L1, h⟩) hgs hv σ H _ ⟨ρ, Γ, S, e, c0, ?_⟩
  unfold sSet eLst at g
  cases q : fComp ml gm c m (own.map (·.2)) Γ S with
  | stuck => rw [q] at g; exact g
  | exn x S1 =>
    rw [q] at g
    exact fun c od ρ' H' s cs r => g c od σ ρ' H' (StepM.of s) ((e.step s).demote (by intro i h; cases h)) (cs.weak LO.nil_weak) (XRep.weak LO.nil_weak r)
  | val ds S1 =>
    rw [q] at g
    intro p vs ρ' H' s n h1 h2 h3 c' r
    have rp : Rep X.kx ρ' (LO L0 O σ) H' (.lst ds) (.ref p) := by
      unfold Rep
      exact ⟨p, vs, rfl, h1, h2, h3, Reps.weak (fun a z => .inl z) ds vs r⟩
    exact g (σ.set i (some (.ref p))) ρ' H' (StepM.of s) ((e.step s).set ho rp) (by rw [LO.set ho]; exact c'.weak fun a z => .inl z) fun a z => .inl (by rwa [LO.set ho] at z)
end
end Pv
namespace Pv
open PySem PySem.Spec PyProof.Rows L2
variable [Tf]
/-! ### a def -/
def startD (n : Nat) (ds : List D) : Env' := ds.map some ++ List.replicate (n - ds.length) none
def endS : SR → R D
  | .nx _ S => .val .non S
  | .rt d S => .val d S
  | .xn x _ S => .exn x S
  | _ => .stuck
/-- what a def with n names and this body does -/
def defM (n : Nat) (m : SM) : PN := fun ds S => endS (m (startD n ds) S)
section
variable {P : Program} {w : World} {K : PySem.W.Frag} {mg : Str → Option Value} {base : Heap} {x qual : Str} {params : Arguments} {body : List Stmt} {scope : Scope} {f : Addr} {fd : FuncData}
theorem startD_len {n : Nat} {ds : List D} (h : ds.length ≤ n) : (startD n ds).length = n := by
  unfold startD
  rw [List.length_append, List.length_map, List.length_replicate]
  omega
theorem env_start {K : KX} {ρ : List Addr} {L0 : Addr → Prop} {H : Hp} {ds : List D} {vs : List V} {N : List Str} (r : Reps K ρ L0 H ds vs) : EnvOk K ρ L0 [] (start N vs) (startD N.length ds) H := by
  refine ⟨fun i d h n => ?_, fun i h => (by cases h), fun i h => (by cases h), ?_⟩
  · unfold startD at h
    by_cases hl : i < ds.length
    · rw [List.getElem?_append_left (by rw [List.length_map]; exact hl), List.getElem?_map] at h
      obtain ⟨d', h1, h2⟩ := Option.map_eq_some_iff.mp h
      cases h2
      obtain ⟨v, e, q⟩ := Reps.get r h1
      refine ⟨v, ?_, Rep.weak (fun a z => z.elim id fun ⟨j, hj, _⟩ => by cases hj) d v q⟩
      unfold L2.start
      rw [List.getElem?_append_left (by rw [List.length_map, ← r.length]; exact hl), List.getElem?_map, e]
      rfl
    · rw [List.getElem?_append_right (by rw [List.length_map]; omega)] at h
      have := List.mem_of_getElem? h
      rw [List.mem_replicate] at this
      cases this.2
  · unfold startD L2.start
    simp only [List.length_append, List.length_map, List.length_replicate, r.length]
/-- a def, by its body, where no repr is under way -/
theorem fnG_of {CX : CXT} {k : Nat} {oc : Value} {od : Option Addr} {dV kV doc pm cdv ct : Value} {an : Option Addr} {osl : Array (Option Value)} {N ps : List Str} {sp : Sp}
    (lk : K.lookup f = some ⟨oc, od, .func (PySem.W.fnOf x qual params body scope dV kV doc pm an cdv ct), osl⟩) (hcd : PySem.W.codeIn K cdv qual = true) (S : FnScope N ps scope) (len : ∀ vs H Q E, sp vs H Q E → vs.length = ps.length)
    (hbody : ∀ (A : Around) (outer : List Env) (s : Shared) (H : Hp) (vs : List V) (Q : VK) (E : XK), Room k (A.deeper (envOfC qual scope s.heap.objs.size f cdv)) → (A.deeper (envOfC qual scope s.heap.objs.size f cdv)).guards = some [] → sp vs H Q E →
      ∃ t, PSs (cxOf CX P w K mg base N qual scope f cdv A outer s H E) body t ∧ t { nx := fun _ H' => Q .non H', rt := Q } (start N vs) H) :
    FnG P w K mg base CX (k + 1) f (PySem.W.fnOf x qual params body scope dV kV doc pm an cdv ct) ps sp := by
  refine ⟨len, fun A outer s H args us vs Q E hr gd e0 hb r hsp => ?_⟩
  have KX : K.In s.heap := e0.mod.kin.keeps fun b o e => (e0.bs b o e).1
  have lim : s.heap.NoLimit := e0.mod.nolimit.keeps fun b o e => (e0.bs b o e).1
  have hkind : ∀ y ∈ ps.zip us, scope.names.lookup y.1 = some .local ∨ (scope.names.lookup y.1 = some .cell ∧ ((cellsFrom (s.heap.objs.size + 1) scope.names []).lookup y.1).isSome = true) := fun ⟨n, v⟩ hy => by
    rcases S.par n (List.of_mem_zip hy).1 with q | q
    · exact .inl q
    · exact .inr ⟨q, PySem.W.cellsFrom_some _ _ _ (.inl q)⟩
  refine codeAny_call_function hr.depth (KX _ _ lk) rfl S.co S.gen rfl (PySem.W.codeRec_of KX hcd) (hb _ _ _ _ ?_)
  refine wpAny_newFunctionEnv_cells S.kind hkind fun env he s1 z => ?_
  subst he
  refine ⟨lim.keeps z.toInCall.keep, codeAny_func ?_⟩
  obtain ⟨t, ht, hq⟩ := hbody A outer s H vs Q E (hr.deeper _) gd hsp
  have I : Inv (cxOf CX P w K mg base N qual scope f cdv A outer s H E) [] (start N vs) H s1 := inv_start S hr.hd e0 (len _ _ _ _ hsp) r z
  refine wpAny_mono (ht.run [] s1 (start N vs) H _ I hq) (fun fl s' hs => ?_) fun e s' hs => hs
  cases fl with
  | ret u =>
    obtain ⟨v, σ', H', J, rv, q⟩ := hs
    exact ⟨v, H', J.os, J.bare, J.base, J.hok, rv, q⟩
  | next =>
    obtain ⟨σ', H', J, q⟩ := hs
    exact ⟨.non, H', J.os, J.bare, J.base, J.hok, rfl, q⟩
  | brk =>
    obtain ⟨_, _, _, q⟩ := hs
    exact q.elim
  | cont =>
    obtain ⟨_, _, _, q⟩ := hs
    exact q.elim
theorem def_ok {N ps : List Str} {k : Nat} {m : SM} (F : FunD K x qual params body scope [] [] f fd) (S : FnScope N ps scope)
    (hb : ∀ (cdv : Value), (∃ (oc : Value) (od : Option Addr) (fd : FuncData) (osl : Array (Option Value)), K.lookup f = some ⟨oc, od, .func fd, osl⟩ ∧ fd.code = cdv ∧ PySem.W.codeIn K cdv qual = true) → ∀ (A : Around) (outer : List Env) (s : Shared) (H : Hp) (E : XK) (L0 : Addr → Prop), Room k (A.deeper (envOfC qual scope s.heap.objs.size f cdv)) → (A.deeper (envOfC qual scope s.heap.objs.size f cdv)).guards = some [] →
      JB (cxOf (L2.CX P w) P w K mg base N qual scope f cdv A outer s H E) (fun c d _ H' => E c d H') L0 [] [] [] body m) :
    FnG P w K mg base (L2.CX P w) (k + 1) f fd ps (spF ⟨K, none, base, mg⟩ ps.length (defM N.length m)) := by
  obtain ⟨oc, od, dV, kV, doc, pm, an, cdv, ct, osl, rfl, lk, hcd, _, _⟩ := F.ex
  refine fnG_of lk hcd S (fun vs H Q E ⟨ρ, L, S0, ds, r, c, hn, g⟩ => by rw [← r.length]; exact hn) fun A outer s H vs Q E hr gd h => ?_
  obtain ⟨ρ, L, S0, ds, r, c, hn, g⟩ := h
  refine ⟨_, hb cdv ⟨oc, od, _, osl, lk, rfl, hcd⟩ A outer s H E L hr gd, ρ, startD N.length ds, S0, env_start r, ?_, ?_⟩
  · exact c.weak fun a z => z.elim id fun ⟨j, hj, _⟩ => by cases hj
  · have e : ∀ a, ¬ Mn L (LO L [] (start N vs)) a := fun a z => z.1.elim z.2 fun ⟨j, hj, _⟩ => by cases hj
    have st : ∀ {ρ' : List Addr} {H' : Hp}, StepM (Mn L (LO L [] (start N vs))) ρ ρ' H H' → Step ρ ρ' H H' := fun s => s.mono fun a z => e a z
    have lo : ∀ {σ' : L2.St}, ∀ a, L a → LO L [] σ' a := fun a z => .inl z
    unfold defM at g
    cases q : m (startD N.length ds) S0 with
    | stuck => rw [q] at g; exact g
    | nx Γ1 S1 => rw [q] at g; exact fun σ' ρ' H' s _ c' _ => g .non ρ' H' (st s) (c'.weak lo) rep_non
    | rt d S1 => rw [q] at g; exact fun v ρ' H' s c' r' => g v ρ' H' (st s) c' r'
    | bk Γ1 S1 => rw [q] at g; exact g.elim
    | ct Γ1 S1 => rw [q] at g; exact g.elim
    | xn x Γ1 S1 => rw [q] at g; exact fun c d σ' ρ' H' s _ c' r' => g c d ρ' H' (st s) (c'.weak lo) (XRep.weak lo r')
end
end Pv
namespace Pv
open PySem PySem.Spec PyProof.Rows L2
variable [Tf]
theorem CallR.or {X : Cx} {f : Value} {r r' : List V → Hp → VK → Prop} (h : CallR X f r) (h' : CallR X f r') : CallR X f (fun xs H Q => r xs H Q ∨ r' xs H Q) := fun pins s σ H xs us Q I rx q => q.elim (h pins s σ H xs us Q I rx) (h' pins s σ H xs us Q I rx)
section
variable {X : Cx} {K : KX} {ρ ρ' : List Addr} {L0 L L' : Addr → Prop} {O O' Ob : List Nat} {H H' : Hp} {S : Sto} {W : WX} {σ : L2.St} {Γ : Env'} {pos : Pos} {e a b : Expr} {m ma mb : EM} {gs : List Nat}
/-! ### len -/
def lenN : PN := fun ds S => match ds with
  | [.str z] => ifR (decide (z.length ≤ sizeLine)) (.val (.int z.length) S)
  | [.tup xs] => .val (.int xs.length) S
  | [.lst xs] => .val (.int xs.length) S
  | [.frz xs] => .val (.int xs.length) S
  | [.ref r] => (match S[r]? with
    | some (.lst xs) => .val (.int xs.length) S
    | _ => .stuck)
  | _ => .stuck
theorem prim_len : PrimN K lenN (fun xs H Q => ∃ x n, xs = [x] ∧ LenV K.fr x H n ∧ Q (.int n) H) := by
  intro ρ L H S ds vs Q QX r c g
  unfold lenN at g
  split at g
  · rename_i z
    obtain ⟨v, rfl, q⟩ := r.one_inv
    obtain ⟨h, g⟩ := of_ifR g
    rw [q.str_inv]
    exact ⟨_, z.length, rfl, ⟨of_decide_eq_true h, rfl⟩, GoalG.val g c rep_int⟩
  · rename_i xs
    obtain ⟨v, rfl, q⟩ := r.one_inv
    obtain ⟨a, us, rfl, h, r2⟩ := q.tup_inv
    refine ⟨_, us.length, rfl, .inr ⟨us, h, rfl⟩, GoalG.val g c ?_⟩
    rw [r2.length]; exact rep_int
  · rename_i xs
    obtain ⟨v, rfl, q⟩ := r.one_inv
    obtain ⟨a, us, rfl, h, _, _, r2⟩ := q.lst_inv
    refine ⟨_, us.length, rfl, .inl ⟨us, SqL.of h, rfl⟩, GoalG.val g c ?_⟩
    rw [r2.length]; exact rep_int
  · rename_i xs
    obtain ⟨v, rfl, q⟩ := r.one_inv
    obtain ⟨a, us, rfl, h, r2⟩ := q.frz_inv
    refine ⟨_, us.length, rfl, .inl ⟨us, sql_frz h, rfl⟩, GoalG.val g c ?_⟩
    rw [r2.length]; exact rep_int
  · rename_i i
    obtain ⟨v, rfl, q⟩ := r.one_inv
    unfold Rep at q
    obtain ⟨a, ha, rfl⟩ := q
    split at g
    · rename_i xs hs
      obtain ⟨a', ha', us, h, r2⟩ := c.get hs
      rw [ha] at ha'
      cases ha'
      refine ⟨_, us.length, rfl, .inl ⟨us, SqL.of h, rfl⟩, GoalG.val g c ?_⟩
      rw [r2.length]; exact rep_int
    · exact g.elim
  · exact g.elim
/-! ### int -/
def intN : PN := fun ds S => match ds with
  | [.int i] => .val (.int i) S
  | [.bl b] => .val (.int (if b then 1 else 0)) S
  | [.str a] => (match PySem.intText? a with
    | some n => ifR (decide (a.length ≤ 640)) (.val (.int n) S)
    | none => .stuck)
  | _ => .stuck
def rIntN : List V → Hp → VK → Prop := fun xs H Q => ((∃ i, xs = [.int i] ∧ Q (.int i) H) ∨ ∃ k, xs = [.bl k] ∧ Q (.int (if k then 1 else 0)) H) ∨ (∃ a n, xs = [.str a] ∧ PySem.intText? a = some n ∧ a.length ≤ 640 ∧ Q (.int n) H)
theorem call_intN : CallR X (.type "int") rIntN := CallR.or call_int1 call_int_str
theorem prim_intN : PrimN K intN rIntN := by
  intro ρ L H S ds vs Q QX r c g
  unfold intN at g
  split at g
  · obtain ⟨v, rfl, q⟩ := r.one_inv
    rw [q.int_inv]
    exact .inl (.inl ⟨_, rfl, GoalG.val g c rep_int⟩)
  · obtain ⟨v, rfl, q⟩ := r.one_inv
    rw [q.bl_inv]
    exact .inl (.inr ⟨_, rfl, GoalG.val g c rep_int⟩)
  · obtain ⟨v, rfl, q⟩ := r.one_inv
    rw [q.str_inv]
    split at g
    · rename_i n hn
      obtain ⟨h, g⟩ := of_ifR g
      exact .inr ⟨_, n, rfl, hn, of_decide_eq_true h, GoalG.val g c rep_int⟩
    · exact g.elim
  · exact g.elim
/-! ### abs, max, min, divmod, str -/
def absN : PN := fun ds S => match ds with
  | [.int i] => .val (.int (if i < 0 then -i else i)) S
  | _ => .stuck
theorem prim_abs : PrimN K absN (fun xs H Q => ∃ i, xs = [.int i] ∧ Q (.int (if i < 0 then -i else i)) H) := by
  intro ρ L H S ds vs Q QX r c g
  unfold absN at g
  split at g
  · obtain ⟨v, rfl, q⟩ := r.one_inv
    rw [q.int_inv]
    exact ⟨_, rfl, GoalG.val g c rep_int⟩
  · exact g.elim
def int2N (f : Int → Int → D) (C : Int → Int → Bool) : PN := fun ds S => match ds with
  | [.int i, .int j] => ifR (C i j) (.val (f i j) S)
  | _ => .stuck
def max2N : PN := int2N (fun i j => .int (if j > i then j else i)) fun _ _ => true
def min2N : PN := int2N (fun i j => .int (if j < i then j else i)) fun _ _ => true
theorem prim_max2 : PrimN K max2N (fun xs H Q => ∃ i j, xs = [.int i, .int j] ∧ Q (.int (if j > i then j else i)) H) := by
  intro ρ L H S ds vs Q QX r c g
  unfold max2N int2N at g
  split at g
  · obtain ⟨v, w, rfl, q, q2⟩ := r.two_inv
    rw [q.int_inv, q2.int_inv]
    exact ⟨_, _, rfl, GoalG.val (of_ifR g).2 c rep_int⟩
  · exact g.elim
theorem prim_min2 : PrimN K min2N (fun xs H Q => ∃ i j, xs = [.int i, .int j] ∧ Q (.int (if j < i then j else i)) H) := by
  intro ρ L H S ds vs Q QX r c g
  unfold min2N int2N at g
  split at g
  · obtain ⟨v, w, rfl, q, q2⟩ := r.two_inv
    rw [q.int_inv, q2.int_inv]
    exact ⟨_, _, rfl, GoalG.val (of_ifR g).2 c rep_int⟩
  · exact g.elim
def divmodN : PN := int2N (fun i j => .tup [.int (i / j), .int (i % j)]) fun i j => decide (0 < j ∧ j < 1073741824)
theorem prim_divmod : PrimN K divmodN (fun xs H Q => ∃ i j, xs = [.int i, .int j] ∧ CDiv i j ∧ ∀ p, H p = none → Q (.ref p) (upd H p (.tup [.int (i / j), .int (i % j)]))) := by
  intro ρ L H S ds vs Q QX r c g
  unfold divmodN int2N at g
  split at g
  · rename_i i j
    obtain ⟨v, w, rfl, q, q2⟩ := r.two_inv
    rw [q.int_inv, q2.int_inv]
    obtain ⟨h, g⟩ := of_ifR g
    have h' : 0 < j ∧ j < 1073741824 := of_decide_eq_true h
    exact ⟨_, _, rfl, h', fun p hp => Goal.tup g c (Reps.cons rep_int (Reps.cons rep_int Reps.nil)) hp⟩
  · exact g.elim
def strN : PN := fun ds S => match ds with
  | [.int i] => ifR (decide (i.natAbs.log2 < 1920)) (.val (.str (toString i)) S)
  | [.str a] => .val (.str a) S
  | _ => .stuck
def rStrN : List V → Hp → VK → Prop := fun xs H Q => (∃ i, xs = [.int i] ∧ i.natAbs.log2 < 1920 ∧ Q (.str (toString i)) H) ∨ ∃ a, xs = [.str a] ∧ Q (.str a) H
theorem call_strN : CallR X (.type "str") rStrN := CallR.or call_str_int SkE.call_str_str
theorem prim_strN : PrimN K strN rStrN := by
  intro ρ L H S ds vs Q QX r c g
  unfold strN at g
  split at g
  · obtain ⟨v, rfl, q⟩ := r.one_inv
    rw [q.int_inv]
    obtain ⟨h, g⟩ := of_ifR g
    exact .inl ⟨_, rfl, of_decide_eq_true h, GoalG.val g c rep_str⟩
  · obtain ⟨v, rfl, q⟩ := r.one_inv
    rw [q.str_inv]
    exact .inr ⟨_, rfl, GoalG.val g c rep_str⟩
  · exact g.elim
/-! ### list, tuple -/
def listF : List D → Sto → R (List D) := fun ds S => match ds with
  | [d] => (match d.items with
    | some xs => .val xs S
    | none => .stuck)
  | _ => .stuck
theorem prim_list : PrimF K listF (fun xs H Q => ∃ p ys, xs = [.ref p] ∧ (SqL K.fr H p ys ∨ SqT K.fr H p ys) ∧ ∀ l, H l = none → Q (.ref l) (upd H l (.lst ys))) := by
  intro ρ L H S ds vs Q QX r c g
  unfold listF at g
  split at g
  · rename_i d
    obtain ⟨v, rfl, q⟩ := r.one_inv
    split at g
    · rename_i xs hx
      obtain ⟨a, us, rfl, h, r2⟩ := q.seq hx
      exact ⟨a, us, rfl, h, fun l hl => GoalF.lst g c r2 hl⟩
    · exact g.elim
  · exact g.elim
def tupleN : PN := fun ds S => match ds with
  | [.tup xs] => .val (.tup xs) S
  | [.lst xs] => .val (.tup xs) S
  | [.frz xs] => .val (.tup xs) S
  | _ => .stuck
theorem prim_tuple : PrimN K tupleN (fun xs H Q => ∃ p ys, xs = [.ref p] ∧ ((SqL K.fr H p ys ∧ ∀ l, H l = none → Q (.ref l) (upd H l (.tup ys))) ∨ (SqT K.fr H p ys ∧ Q (.ref p) H))) := by
  intro ρ L H S ds vs Q QX r c g
  unfold tupleN at g
  split at g
  · obtain ⟨v, rfl, q⟩ := r.one_inv
    have q' := q
    obtain ⟨a, us, rfl, h, r2⟩ := q.tup_inv
    exact ⟨a, us, rfl, .inr ⟨h, GoalG.val g c q'⟩⟩
  · obtain ⟨v, rfl, q⟩ := r.one_inv
    obtain ⟨a, us, rfl, h, _, _, r2⟩ := q.lst_inv
    exact ⟨a, us, rfl, .inl ⟨SqL.of h, fun l hl => Goal.tup g c r2 hl⟩⟩
  · obtain ⟨v, rfl, q⟩ := r.one_inv
    obtain ⟨a, us, rfl, h, r2⟩ := q.frz_inv
    exact ⟨a, us, rfl, .inl ⟨sql_frz h, fun l hl => Goal.tup g c r2 hl⟩⟩
  · exact g.elim
/-! ### isinstance of a built-in class -/
def kind : D → String
  | .non => "NoneType"
  | .bl _ => "bool"
  | .int _ => "int"
  | .str _ => "str"
  | .tup _ => "tuple"
  | .lst _ => "list"
  | .frz _ => "list"
  | .dic _ => "dict"
  | _ => ""
def isiN : PN := fun ds S => match ds with
  | [d, .ty T] => (match kind d with
    | "" => .stuck
    | k => (match kitB k T with
      | some b => .val (.bl b) S
      | none => .stuck))
  | _ => .stuck
theorem Rep.tyx {d : D} {v : V} (r : Rep K ρ L H d v) (h : kind d ≠ "") : TyX K.fr H v (.type (kind d)) := by
  cases d with
  | non => rw [r.non_inv]; exact .base .non
  | bl b => rw [r.bl_inv]; exact .base (.bl b)
  | int b => rw [r.int_inv]; exact .base (.int b)
  | str b => rw [r.str_inv]; exact .base (.str b)
  | tup xs =>
    obtain ⟨a, us, rfl, q, _⟩ := r.tup_inv
    rcases q with (q | ⟨o, q⟩) | ⟨o, its, n, q, q2, _⟩
    · exact .base (.tup q)
    · exact .fTuple q
    · exact .kTuple q q2
  | lst xs =>
    obtain ⟨a, us, rfl, q, _⟩ := r.lst_inv
    exact .base (.lst q)
  | frz xs =>
    obtain ⟨a, us, rfl, q, _⟩ := r.frz_inv
    rcases q with ⟨o, q⟩ | ⟨o, its, n, q, q2, _⟩
    · exact .base (.frz q)
    · exact .kList q q2
  | dic xs =>
    unfold Rep at r
    obtain ⟨a, us, rfl, q, _⟩ := r
    exact .base (.dK q)
  | fn _ => exact absurd rfl h
  | ty _ => exact absurd rfl h
  | ref _ => exact absurd rfl h
  | exc _ _ => exact absurd rfl h
  | clo _ _ => exact absurd rfl h
theorem prim_isi : PrimN K isiN (rIsi K.fr) := by
  intro ρ L H S ds vs Q QX r c g
  unfold isiN at g
  split at g
  · rename_i d T
    obtain ⟨v, w, rfl, q, q2⟩ := r.two_inv
    split at g
    · exact g.elim
    · rename_i k hk
      split at g
      · rename_i bb hb
        refine ⟨v, w, .type (kind d), .type T, bb, rfl, ?_, q.tyx hk, kit_ty hb, GoalG.val g c rep_bl⟩
        unfold Rep at q2
        subst q2
        first
          | exact .ty _
          | exact rfl
          | constructor
      · exact g.elim
  · exact g.elim
/-- a built-in class, named -/
theorem je_ty {x : Str} {T : String} {p : Pos} (hg : Gl X x) (hm : X.mg x = none) (hv : bootBuiltins x = some (.type T)) (hn : x ≠ "__name__" := by decide) (hd : (x == ("__debug__" : Str)) = false := by decide) : JE X W L0 O (.Name x p) (eC (.ty T)) := by
  refine je_const (v := .ty T) (pe_bltn hg hm hv rfl hn hd) fun _ _ _ => ?_
  unfold Rep; rfl
/-! ### all, any, sum -/
def allBl : List D → Option (List Bool)
  | [] => some []
  | .bl b :: ds => (allBl ds).map (b :: ·)
  | _ => none
def allInt : List D → Option (List Int)
  | [] => some []
  | .int b :: ds => (allInt ds).map (b :: ·)
  | _ => none
def allStr : List D → Option (List Str)
  | [] => some []
  | .str b :: ds => (allStr ds).map (b :: ·)
  | _ => none
theorem Reps.bls : ∀ {ds : List D} {vs : List V} {bs : List Bool}, Reps K ρ L H ds vs → allBl ds = some bs → vs = bs.map V.bl
  | [], vs, bs, r, e => by unfold Reps at r; cases e; exact r
  | d :: ds, vs, bs, r, e => by
    unfold Reps at r
    obtain ⟨v, us, rfl, q, z⟩ := r
    cases d with
    | bl b =>
      obtain ⟨cs, e1, rfl⟩ := Option.map_eq_some_iff.mp (show (allBl ds).map (b :: ·) = some bs from e)
      rw [q.bl_inv, Reps.bls z e1]; rfl
    | _ => cases e
theorem Reps.ints : ∀ {ds : List D} {vs : List V} {bs : List Int}, Reps K ρ L H ds vs → allInt ds = some bs → vs = bs.map V.int
  | [], vs, bs, r, e => by unfold Reps at r; cases e; exact r
  | d :: ds, vs, bs, r, e => by
    unfold Reps at r
    obtain ⟨v, us, rfl, q, z⟩ := r
    cases d with
    | int b =>
      obtain ⟨cs, e1, rfl⟩ := Option.map_eq_some_iff.mp (show (allInt ds).map (b :: ·) = some bs from e)
      rw [q.int_inv, Reps.ints z e1]; rfl
    | _ => cases e
theorem Reps.strs : ∀ {ds : List D} {vs : List V} {bs : List Str}, Reps K ρ L H ds vs → allStr ds = some bs → vs = bs.map V.str
  | [], vs, bs, r, e => by unfold Reps at r; cases e; exact r
  | d :: ds, vs, bs, r, e => by
    unfold Reps at r
    obtain ⟨v, us, rfl, q, z⟩ := r
    cases d with
    | str b =>
      obtain ⟨cs, e1, rfl⟩ := Option.map_eq_some_iff.mp (show (allStr ds).map (b :: ·) = some bs from e)
      rw [q.str_inv, Reps.strs z e1]; rfl
    | _ => cases e
def lstIn {α : Type} (f : List D → Option α) (k : α → Sto → R D) : PN := fun ds S => match ds with
  | [.lst xs] => (match f xs with | some a => k a S | none => .stuck)
  | [.frz xs] => (match f xs with | some a => k a S | none => .stuck)
  | _ => .stuck
theorem prim_lstIn {α : Type} {f : List D → Option α} {k : α → Sto → R D} {r : List V → Hp → VK → Prop} {gv : α → List V} (hf : ∀ {ρ L H ds vs a}, Reps K ρ L H ds vs → f ds = some a → vs = gv a)
    (hk : ∀ (ρ : List Addr) (L : Addr → Prop) (H : Hp) (S : Sto) (a : α) (p : Addr) (Q : VK) (QX : XK), SqL K.fr H p (gv a) → Cells K ρ L H S → Goal K ρ L H (k a S) Q QX → r [.ref p] H Q) : PrimN K (lstIn f k) r := by
  intro ρ L H S ds vs Q QX rr c g
  unfold lstIn at g
  split at g
  · obtain ⟨v, rfl, q⟩ := rr.one_inv
    obtain ⟨a, us, rfl, h, _, _, r2⟩ := q.lst_inv
    split at g
    · rename_i b hb
      exact hk ρ L H S b a Q QX (by rw [← hf r2 hb]; exact SqL.of h) c g
    · exact g.elim
  · obtain ⟨v, rfl, q⟩ := rr.one_inv
    obtain ⟨a, us, rfl, h, r2⟩ := q.frz_inv
    split at g
    · rename_i b hb
      exact hk ρ L H S b a Q QX (by rw [← hf r2 hb]; exact sql_frz h) c g
    · exact g.elim
  · exact g.elim
def allN : PN := lstIn allBl fun bs S => .val (.bl (bs.all id)) S
def anyN : PN := lstIn allBl fun bs S => .val (.bl (bs.any id)) S
def sumN : PN := lstIn allInt fun bs S => .val (.int bs.sum) S
theorem prim_all : PrimN K allN (rAll K.fr) := prim_lstIn (gv := fun bs => bs.map V.bl) (fun r e => r.bls e) fun ρ L H S bs p Q QX h c g => ⟨p, bs, rfl, h, GoalG.val g c rep_bl⟩
theorem prim_any : PrimN K anyN (rAny K.fr) := prim_lstIn (gv := fun bs => bs.map V.bl) (fun r e => r.bls e) fun ρ L H S bs p Q QX h c g => ⟨p, bs, rfl, h, GoalG.val g c rep_bl⟩
theorem prim_sum : PrimN K sumN (rSum K.fr) := prim_lstIn (gv := fun bs => bs.map V.int) (fun r e => r.ints e) fun ρ L H S bs p Q QX h c g => ⟨p, bs, rfl, h, GoalG.val g c rep_int⟩
/-! ### a text's methods -/
def strM1 (f : P2) (mo ma : EM) : EM := fun Γ S => (mo Γ S).bind fun x S1 => match x with
  | .str _ => (ma Γ S1).bind fun y S2 => f x y S2
  | _ => .stuck
theorem tE_m1 {f : P2} {mo ma : EM} {r : V → List V → Hp → VK → Prop} (hf : ∀ (ρ : List Addr) (L : Addr → Prop) (H : Hp) (S : Sto) (a : Str) (y : D) (u : V) (Q : VK) (QX : XK), Rep X.kx ρ L H y u → Cells X.kx ρ L H S → Goal X.kx ρ L H (f (.str a) y S) Q QX → r (.str a) [u] H Q)
    (σ : L2.St) (H : Hp) (Q : VK) (h : tE X.kx W L0 O (strM1 f mo ma) σ H Q) : tM1 r (tE X.kx W L0 O mo) (tE X.kx W L0 O ma) σ H Q := by
  obtain ⟨ρ, Γ, S, e, c, g⟩ := h
  refine ⟨ρ, Γ, S, e, c, GoalG.bind g fun x S1 v ρ1 H1 s1 c1 r1 g1 => ?_⟩
  split at g1
  · rw [r1.str_inv]
    refine ⟨⟨_, rfl⟩, ρ1, Γ, S1, e.step s1, c1, GoalG.bind g1 fun y S2 u ρ2 H2 s2 c2 r2 g2 => ?_⟩
    exact hf ρ2 _ H2 S2 _ y u Q _ r2 c2 g2
  · exact g1.elim
def joinD : P2 := fun x y S => match x, y.items with
  | .str a, some xs => (match allStr xs with
    | some ys => ifR (decide ((ys.map (·.length)).sum + ys.length * a.length ≤ 16777216)) (.val (.str (Txt.join a ys)) S)
    | none => .stuck)
  | _, _ => .stuck
theorem je_join {o : Expr} {apos : Pos} (ho : JE X W L0 O o ma) (he : JE X W L0 O e mb)
    (hs : starEach [e] X.env = [(false, eval e X.env)] := by rfl) (hbase : attributeBase o "join" X.env (eval o X.env) = eval o X.env := by rfl) (hline : (apos.endLine == pos.line) = true := by rfl) :
    JE X W L0 O (.Call (.Attribute o "join" apos) [e] [] pos) (strM1 joinD ma mb) :=
  PE.imp (pe_m1 PySem.F.slot_str_join PySem.F.type_str_join mt_join ho he hs hbase hline) fun σ H Q h => tE_m1 (fun ρ L H S a y u Q QX ry c g => by
    unfold joinD at g
    split at g
    · rename_i xs e1 e2
      cases e1
      obtain ⟨p, us, rfl, h1, r1⟩ := ry.seq e2
      split at g
      · rename_i ys hy
        obtain ⟨h2, g⟩ := of_ifR g
        have := r1.strs hy
        subst this
        exact ⟨_, p, ys, rfl, rfl, h1, of_decide_eq_true h2, GoalG.val g c rep_str⟩
      · exact g.elim
    · exact g.elim) σ H Q h
def fSplit (mo ma : EM) : LM := fun Γ S => (mo Γ S).bind fun x S1 => match x with
  | .str a => (ma Γ S1).bind fun y S2 => (match y with
    | .str b => ifR (!(b.length == 0) && decide (a.length + 2 ≤ sizeLine)) (.val ((Txt.split a b).map D.str) S2)
    | _ => .stuck)
  | _ => .stuck
theorem reps_strs : ∀ {ys : List Str}, Reps K ρ L H (ys.map D.str) (ys.map V.str)
  | [] => Reps.nil
  | _ :: _ => Reps.cons rep_str reps_strs
theorem jf_split {o : Expr} {apos : Pos} (ho : JE X W L0 O o ma) (he : JE X W L0 O e mb)
    (hs : starEach [e] X.env = [(false, eval e X.env)] := by rfl) (hbase : attributeBase o "split" X.env (eval o X.env) = eval o X.env := by rfl) (hline : (apos.endLine == pos.line) = true := by rfl) :
    JF X W L0 O (.Call (.Attribute o "split" apos) [e] [] pos) (fSplit ma mb) :=
  PE.imp (pe_m1 PySem.F.slot_str_split PySem.F.type_str_split mt_split ho he hs hbase hline) fun σ H Q h => by
    obtain ⟨ρ, Γ, S, e, c, g⟩ := h
    refine ⟨ρ, Γ, S, e, c, GoalF.bind g fun x S1 v ρ1 H1 s1 c1 r1 g1 => ?_⟩
    split at g1
    · rename_i a
      rw [r1.str_inv]
      refine ⟨⟨_, rfl⟩, ρ1, Γ, S1, e.step s1, c1, GoalF.bind g1 fun y S2 u ρ2 H2 s2 c2 r2 g2 => ?_⟩
      split at g2
      · rename_i b
        rw [r2.str_inv]
        obtain ⟨h, g3⟩ := of_ifRF g2
        obtain ⟨h1, h2⟩ := Bool.and_eq_true_iff.mp h
        exact ⟨a, b, rfl, rfl, by simpa using h1, of_decide_eq_true h2, fun p hp => GoalF.lst g3 c2 reps_strs hp⟩
      · exact g2.elim
    · exact g1.elim
end
end Pv
namespace Pv
open PySem PySem.Spec PyProof.Rows L2
variable [Tf]
/-! ### an own error class with a field -/
/-- __init__(self, f): self.f = f -/
def spInit (K : PySem.W.Frag) (f : Str) : Sp := fun vs H Q _ => ∃ (a C : Addr) (v : V), vs = [.ref a, v] ∧ OexC K C ∧ PySem.W.findIn K (.ref C) f = some none ∧ H a = some (exo a C none) ∧
  ∀ dx, H dx = none → dx ≠ a → Q .non (upd (upd H dx (exd dx [(f, v)])) a (exo a C (some dx)))
section
variable {P : Program} {w : World} {K : PySem.W.Frag} {mg : Str → Option Value} {base : Heap}
theorem init_ok {x qual : Str} {params : Arguments} {scope : Scope} {fI : Addr} {fd : FuncData} {f : Str} {p1 p2 p3 p4 : Pos} (F : FunD K x qual params [.Assign [.Attribute (.Name "self" p1) f p2] (.Name f p3) p4] scope [] [] fI fd) (S : FnScope ["self", f] ["self", f] scope)
    (hs : ∀ {cdv : Value} {s : Shared}, swapsWith (.Name f p3) (some (.Attribute (.Name "self" p1) f p2)) p4.line (envOfC qual scope s.heap.objs.size fI cdv) = pure false) (hv1 : scope.names.lookup (PySem.Str.ofString "self") = some NameKind.local) (hv2 : scope.names.lookup f = some NameKind.local) (hd : (f == ("__debug__" : Str)) = false) (hcd : (f == ("__classdict__" : Str)) = false) :
    FnOk P w K mg base (L2.CX P w) 1 fI fd ["self", f] (spInit K f) := by
  refine F.ok S (fun vs H Q E ⟨a, C, v, e, _⟩ => by rw [e]; rfl) fun cdv A outer s H vs Q E hr h => ?_
  obtain ⟨a, C, v, rfl, T, hno, ha, q⟩ := h
  refine ⟨_, pss_one (ps_ost (pe_var (i := 0) rfl (.inl hv1)) (pe_var (i := 1) rfl (.inl hv2) hd hcd) hs), ?_⟩
  refine ⟨v, rfl, .ref a, rfl, a, C, rfl, T, hno, .inl ⟨ha, fun dx n ne => q dx n ne⟩⟩
end
/-- what is known of the error class x with the field f -/
structure ErrC (X : Cx) (x f : Str) (k : Nat) : Prop where
  glo : X.mg x = some (.ref (He.ga X.K x))
  oex : OexC X.K (He.ga X.K x)
  no : PySem.W.findIn X.K (.ref (He.ga X.K x)) f = some none
  ini : ∃ (fI : Addr) (fd : FuncData), PySem.W.findIn X.K (.ref (He.ga X.K x)) "__init__" = some (some (.ref fI)) ∧ PySem.W.typeIn X.K (.ref fI) = some (.type "function") ∧ FnOk X.prog X.w X.K X.mg X.base (L2.CX X.prog X.w) k fI fd ["self", f] (spInit X.K f) ∧ Binds X.K fd ["self", f] []
section
variable {X : Cx} {K : KX} {ρ ρ' : List Addr} {L0 L L' : Addr → Prop} {O O' Ob : List Nat} {H H' : Hp} {S : Sto} {W : WX} {σ : L2.St} {Γ : Env'} {pos : Pos} {e a b : Expr} {m ma mb : EM} {gs : List Nat}
def sRaise (x f : Str) (m : EM) : SM := fun Γ S => thenS (m Γ S) Γ fun d S1 => .xn ⟨x, [(f, d)]⟩ Γ S1
theorem js_raise {x f : Str} {k : Nat} {p cp : Pos} (C : ErrC X x f k) (hc : X.calm = true) (tk : Takes X W) (hr : Room (k + 1) X.A) (h : JE X W L0 O e m) (hg : Gl X x) (hdb : (x == ("__debug__" : Str)) = false := by decide)
    (hs : starEach [e] X.env = (false, eval e X.env) :: starEach [] X.env := by rfl) (hpl : (backTo cp (starEach [] X.env)).any (·.1) = false := by rfl) : JS X W L0 O O' Ob (.Raise (some (.Call (.Name x p) [e] [] cp)) none pos) (sRaise x f m) := by
  obtain ⟨fI, fd, i1, i2, G, hb⟩ := C.ini
  refine PS.imp (ps_raise hc tk (pmk_oex (CX := L2.CX X.prog X.w) C.oex i1 i2 G hr hb .nil (fun pins σ H s e s' I c => by
    obtain ⟨_, _, _, _, _, _, _, _, _, _, _, _, z⟩ := c
    exact z.elim) hg C.glo (pa_cons h pa_nil hs) hdb hs hpl)) fun D σ H hq => ?_
  obtain ⟨ρ, Γ, S, e, c, g⟩ := hq
  refine ⟨ρ, Γ, S, e, c, GoalS.bind e g fun d S1 v ρ1 H1 s1 c1 r1 g1 => ?_⟩
  refine ⟨by simp, fun a ha => ?_⟩
  refine ⟨a, He.ga X.K x, v, rfl, C.oex, C.no, upd_same, fun dx hdx ne => ⟨rfl, dx, [(f, v)], upd_same, ?_, ?_, ?_⟩⟩
  · rw [upd_ne ne, upd_same]
  · rw [upd_ne ne] at hdx
    exact hdx
  · have hd1 : H1 dx = none := by rw [upd_ne ne] at hdx; exact hdx
    have eH : upd (del (upd (upd (upd H1 a (exo a (He.ga X.K x) none)) dx (exd dx [(f, v)])) a (exo a (He.ga X.K x) (some dx))) a) dx (.xd [(f, v)]) = upd H1 dx (.xd [(f, v)]) := by
      funext b
      by_cases z : b = dx
      · rw [z, upd_same, upd_same]
      · rw [upd_ne z, upd_ne z]
        by_cases y : b = a
        · rw [y, del_same, ha]
        · rw [del_ne y, upd_ne y, upd_ne z, upd_ne y]
    rw [eH]
    have st : Step ρ1 ρ1 H1 (upd H1 dx (.xd [(f, v)])) := Step.laid hd1
    have e2 := ((e.step s1).step st).demote (O' := []) (by intro i h; cases h)
    refine g1 _ _ σ ρ1 _ (StepM.of st) e2 ((c1.laid hd1).weak LO.nil_weak) ⟨rfl, .inr ⟨dx, _, rfl, upd_same, (c1.off hd1).1, fun z => (c1.off hd1).2 (LO.nil_weak _ z), ?_⟩⟩
    unfold RepF
    exact ⟨v, [], rfl, Rep.weak LO.nil_weak _ _ (Rep.step st _ _ r1), by unfold RepF; rfl⟩
/-! ### try: .. except X as n: (a suite that hands back) -/
mutual
def noExc : D → Bool
  | .exc _ _ => false
  | .clo _ _ => false
  | .tup ds => noExcs ds
  | .lst ds => noExcs ds
  | .frz ds => noExcs ds
  | .dic kvs => noExcK kvs
  | _ => true
def noExcs : List D → Bool
  | [] => true
  | d :: ds => noExc d && noExcs ds
def noExcK : List (Key × D) → Bool
  | [] => true
  | (_, d) :: ds => noExc d && noExcK ds
end
def noExcF : List (Str × D) → Bool
  | [] => true
  | (_, d) :: ds => noExc d && noExcF ds
def noExcC : Cell → Bool
  | .lst ds => noExcs ds
  | .ins _ fs => noExcF fs
mutual
theorem Rep.noExc {x x' : Option (Addr × Value × Option Addr)} {F : PySem.W.Frag} {B B' : Heap} {M : Str → Option Value} : ∀ (d : D) (v : V), Pv.noExc d = true → Rep ⟨F, x, B, M⟩ ρ L H d v → Rep ⟨F, x', B', M⟩ ρ L H d v
  | .non, _, _, h => by unfold Rep at h ⊢; exact h
  | .bl _, _, _, h => by unfold Rep at h ⊢; exact h
  | .int _, _, _, h => by unfold Rep at h ⊢; exact h
  | .str _, _, _, h => by unfold Rep at h ⊢; exact h
  | .fn _, _, _, h => by unfold Rep at h ⊢; exact h
  | .ty _, _, _, h => by unfold Rep at h ⊢; exact h
  | .ref _, _, _, h => by unfold Rep at h ⊢; exact h
  | .exc _ _, _, n, _ => by unfold Pv.noExc at n; cases n
  | .clo _ _, _, n, _ => by unfold Pv.noExc at n; cases n
  | .lst ds, v, n, h => by
    unfold Pv.noExc at n
    unfold Rep at h ⊢
    obtain ⟨b, vs, e, q, q2, q3, r⟩ := h
    exact ⟨b, vs, e, q, q2, q3, Reps.noExc ds vs n r⟩
  | .dic ds, v, n, h => by
    unfold Pv.noExc at n
    unfold Rep at h ⊢
    obtain ⟨b, vs, e, q, q2, q3, r⟩ := h
    exact ⟨b, vs, e, q, q2, q3, RepK.noExc ds vs n r⟩
  | .frz ds, v, n, h => by
    unfold Pv.noExc at n
    unfold Rep at h ⊢
    obtain ⟨b, vs, e, q, r⟩ := h
    exact ⟨b, vs, e, q, Reps.noExc ds vs n r⟩
  | .tup ds, v, n, h => by
    unfold Pv.noExc at n
    unfold Rep at h ⊢
    obtain ⟨b, vs, e, q, r⟩ := h
    exact ⟨b, vs, e, q, Reps.noExc ds vs n r⟩
theorem Reps.noExc {x x' : Option (Addr × Value × Option Addr)} {F : PySem.W.Frag} {B B' : Heap} {M : Str → Option Value} : ∀ (ds : List D) (vs : List V), noExcs ds = true → Reps ⟨F, x, B, M⟩ ρ L H ds vs → Reps ⟨F, x', B', M⟩ ρ L H ds vs
  | [], _, _, h => by unfold Reps at h ⊢; exact h
  | d :: ds, _, n, h => by
    unfold noExcs at n
    obtain ⟨n1, n2⟩ := Bool.and_eq_true_iff.mp n
    unfold Reps at h ⊢
    obtain ⟨v, r, e, q, z⟩ := h
    exact ⟨v, r, e, Rep.noExc d v n1 q, Reps.noExc ds r n2 z⟩
theorem RepK.noExc {x x' : Option (Addr × Value × Option Addr)} {F : PySem.W.Frag} {B B' : Heap} {M : Str → Option Value} : ∀ (ds : List (Key × D)) (vs : List (Key × V)), noExcK ds = true → RepK ⟨F, x, B, M⟩ ρ L H ds vs → RepK ⟨F, x', B', M⟩ ρ L H ds vs
  | [], _, _, h => by unfold RepK at h ⊢; exact h
  | (k, d) :: ds, _, n, h => by
    unfold noExcK at n
    obtain ⟨n1, n2⟩ := Bool.and_eq_true_iff.mp n
    unfold RepK at h ⊢
    obtain ⟨v, r, e, q, z⟩ := h
    exact ⟨v, r, e, Rep.noExc d v n1 q, RepK.noExc ds r n2 z⟩
end
theorem RepF.noExc {x x' : Option (Addr × Value × Option Addr)} {F : PySem.W.Frag} {B B' : Heap} {M : Str → Option Value} : ∀ (ds : List (Str × D)) (vs : List (Str × V)), noExcF ds = true → RepF ⟨F, x, B, M⟩ ρ L H ds vs → RepF ⟨F, x', B', M⟩ ρ L H ds vs
  | [], _, _, h => by unfold RepF at h ⊢; exact h
  | (k, d) :: ds, _, n, h => by
    unfold noExcF at n
    obtain ⟨n1, n2⟩ := Bool.and_eq_true_iff.mp n
    unfold RepF at h ⊢
    obtain ⟨v, r, e, q, z⟩ := h
    exact ⟨v, r, e, Rep.noExc d v n1 q, RepF.noExc ds r n2 z⟩
theorem Cells.noExc {x x' : Option (Addr × Value × Option Addr)} {F : PySem.W.Frag} {B B' : Heap} {M : Str → Option Value} (c : Cells ⟨F, x, B, M⟩ ρ L H S) (n : S.all noExcC = true) (tb : TabsB ⟨F, x', B', M⟩) : Cells ⟨F, x', B', M⟩ ρ L H S := by
  refine ⟨c.len, c.nd, fun i a y h1 h2 => ?_, c.trk, c.apart, c.tab, tb⟩
  have q := c.at_ i a y h1 h2
  have n1 := List.all_eq_true.mp n y (List.mem_of_getElem? h2)
  cases y with
  | lst ds => obtain ⟨vs, e, r⟩ := q; exact ⟨vs, e, Reps.noExc ds vs n1 r⟩
  | ins k fs => obtain ⟨dx, vs, e, r⟩ := q; exact ⟨dx, vs, e, RepF.noExc fs vs n1 r⟩
/- into a suite: nothing holds an exception yet; what stands fast may be more -/
theorem CloAt.grow {K K' : KX} {l : LamD} {f c : Addr} {vs : List V} (g : ∀ a o, K.base.get? a = some o → K'.base.get? a = some o) (h : CloAt K l f c vs) : CloAt K' l f c vs := by
  obtain ⟨cl, pm, ctv, h1, h2⟩ := h
  have cg : ∀ {a : Addr} {v : Option Value}, K.base.IsCell a v → K'.base.IsCell a v := fun ⟨o, e1, e2⟩ => ⟨o, g _ _ e1, e2⟩
  refine ⟨cl, pm, ctv, g _ _ h1, h2.len, fun y a e => ⟨rfl, let ⟨v, z⟩ := (h2.all y a e).2; ⟨v, cg z⟩⟩, h2.inj, fun i y e => ?_⟩
  obtain ⟨a, e1, e2⟩ := h2.has i y e
  exact ⟨a, e1, fun v ev => let ⟨u, r, z⟩ := e2 v ev; ⟨u, r, cg z⟩⟩
mutual
theorem Rep.into {x' : Option (Addr × Value × Option Addr)} {F : PySem.W.Frag} {B B' : Heap} {M : Str → Option Value} (hB : ∀ a o, B.get? a = some o → B'.get? a = some o) : ∀ (d : D) (v : V), Rep ⟨F, none, B, M⟩ ρ L H d v → Rep ⟨F, x', B', M⟩ ρ L H d v
  | .non, _, h => by unfold Rep at h ⊢; exact h
  | .bl _, _, h => by unfold Rep at h ⊢; exact h
  | .int _, _, h => by unfold Rep at h ⊢; exact h
  | .str _, _, h => by unfold Rep at h ⊢; exact h
  | .fn _, _, h => by unfold Rep at h ⊢; exact h
  | .ty _, _, h => by unfold Rep at h ⊢; exact h
  | .ref _, _, h => by unfold Rep at h ⊢; exact h
  | .exc _ _, _, h => by
    unfold Rep at h
    obtain ⟨_, _, _, e, _⟩ := h
    cases e
  | .lst ds, v, h => by
    unfold Rep at h ⊢
    obtain ⟨b, vs, e, q, q2, q3, r⟩ := h
    exact ⟨b, vs, e, q, q2, q3, Reps.into hB ds vs r⟩
  | .dic ds, v, h => by
    unfold Rep at h ⊢
    obtain ⟨b, vs, e, q, q2, q3, r⟩ := h
    exact ⟨b, vs, e, q, q2, q3, RepK.into hB ds vs r⟩
  | .frz ds, v, h => by
    unfold Rep at h ⊢
    obtain ⟨b, vs, e, q, r⟩ := h
    exact ⟨b, vs, e, q, Reps.into hB ds vs r⟩
  | .tup ds, v, h => by
    unfold Rep at h ⊢
    obtain ⟨b, vs, e, q, r⟩ := h
    exact ⟨b, vs, e, q, Reps.into hB ds vs r⟩
  | .clo q ds, v, h => by
    unfold Rep at h ⊢
    obtain ⟨f, c, vs, e, k, q1, r⟩ := h
    exact ⟨f, c, vs, e, CloAt.grow (K := ⟨F, none, B, M⟩) (K' := ⟨F, x', B', M⟩) hB k, q1, Reps.into hB ds vs r⟩
theorem Reps.into {x' : Option (Addr × Value × Option Addr)} {F : PySem.W.Frag} {B B' : Heap} {M : Str → Option Value} (hB : ∀ a o, B.get? a = some o → B'.get? a = some o) : ∀ (ds : List D) (vs : List V), Reps ⟨F, none, B, M⟩ ρ L H ds vs → Reps ⟨F, x', B', M⟩ ρ L H ds vs
  | [], _, h => by unfold Reps at h ⊢; exact h
  | d :: ds, _, h => by
    unfold Reps at h ⊢
    obtain ⟨v, r, e, q, z⟩ := h
    exact ⟨v, r, e, Rep.into hB d v q, Reps.into hB ds r z⟩
theorem RepK.into {x' : Option (Addr × Value × Option Addr)} {F : PySem.W.Frag} {B B' : Heap} {M : Str → Option Value} (hB : ∀ a o, B.get? a = some o → B'.get? a = some o) : ∀ (ds : List (Key × D)) (vs : List (Key × V)), RepK ⟨F, none, B, M⟩ ρ L H ds vs → RepK ⟨F, x', B', M⟩ ρ L H ds vs
  | [], _, h => by unfold RepK at h ⊢; exact h
  | (k, d) :: ds, _, h => by
    unfold RepK at h ⊢
    obtain ⟨v, r, e, q, z⟩ := h
    exact ⟨v, r, e, Rep.into hB d v q, RepK.into hB ds r z⟩
end
theorem RepF.into {x' : Option (Addr × Value × Option Addr)} {F : PySem.W.Frag} {B B' : Heap} {M : Str → Option Value} (hB : ∀ a o, B.get? a = some o → B'.get? a = some o) : ∀ (ds : List (Str × D)) (vs : List (Str × V)), RepF ⟨F, none, B, M⟩ ρ L H ds vs → RepF ⟨F, x', B', M⟩ ρ L H ds vs
  | [], _, h => by unfold RepF at h ⊢; exact h
  | (k, d) :: ds, _, h => by
    unfold RepF at h ⊢
    obtain ⟨v, r, e, q, z⟩ := h
    exact ⟨v, r, e, Rep.into hB d v q, RepF.into hB ds r z⟩
theorem TabsB.grow {K K' : KX} (h : TabsB K) (hB : ∀ a o, K.base.get? a = some o → K'.base.get? a = some o) (h1 : K'.fr = K.fr := by rfl) (h2 : K'.mg = K.mg := by rfl) : TabsB K' := fun p hp => by
  obtain ⟨a, b, c⟩ := h p hp
  rw [h1, h2]
  exact ⟨a.keeps hB, b.keeps hB, c⟩
theorem Cells.into {x' : Option (Addr × Value × Option Addr)} {F : PySem.W.Frag} {B B' : Heap} {M : Str → Option Value} (hB : ∀ a o, B.get? a = some o → B'.get? a = some o) (c : Cells ⟨F, none, B, M⟩ ρ L H S) : Cells ⟨F, x', B', M⟩ ρ L H S := by
  refine ⟨c.len, c.nd, fun i a y h1 h2 => ?_, c.trk, c.apart, c.tab, c.tbb.grow hB⟩
  have q := c.at_ i a y h1 h2
  cases y with
  | lst ds => obtain ⟨vs, e, r⟩ := q; exact ⟨vs, e, Reps.into hB ds vs r⟩
  | ins k fs => obtain ⟨dx, vs, e, r⟩ := q; exact ⟨dx, vs, e, RepF.into hB fs vs r⟩
theorem EnvOk.into {x' : Option (Addr × Value × Option Addr)} {F : PySem.W.Frag} {B B' : Heap} {M : Str → Option Value} (hB : ∀ a o, B.get? a = some o → B'.get? a = some o) (e : EnvOk ⟨F, none, B, M⟩ ρ L0 [] σ Γ H) : EnvOk ⟨F, x', B', M⟩ ρ L0 [] σ Γ H :=
  ⟨fun i d h n => let ⟨v, q, r⟩ := e.slot i d h n; ⟨v, q, Rep.into hB d v r⟩, (fun i h => by cases h), e.inj, e.len⟩
/-- the clause takes it: the suite must hand back -/
def sSuite (ms : SM) (Γ : Env') (S : Sto) : SR := match ms Γ S with
  | .rt d S2 => if noExc d && S2.all noExcC then .rt d S2 else .stuck
  | _ => .stuck
def sTryAs (mb : SM) (isSub : Str → Option Bool) (i : Nat) (ms : SM) : SM := fun Γ S => match mb Γ S with
  | .xn x Γ1 S1 => (match isSub x.cls with
    | some true => sSuite ms (Γ1.set i (some (.exc x.cls x.args))) S1
    | some false => .xn x Γ1 S1
    | none => .stuck)
  | r => r
theorem suite_goal {ms : SM} {D : Ends} {F : PySem.W.Frag} {B : Heap} {M : Str → Option Value} {x' : Option (Addr × Value × Option Addr)} {nx bk ct : L2.St → Hp → Prop} (g : GoalS ⟨F, none, B, M⟩ ρ L0 L O Ob H (sSuite ms Γ S) D W) : GoalS ⟨F, x', B, M⟩ ρ L0 L [] [] H (ms Γ S) { nx := nx, rt := D.rt, bk := bk, ct := ct } Wf := by
  unfold sSuite at g
  cases q : ms Γ S with
  | rt d S2 =>
    rw [q] at g
    dsimp only at g
    split at g
    · rename_i hn
      obtain ⟨n1, n2⟩ := Bool.and_eq_true_iff.mp hn
      exact fun v ρ' H' s c r => g v ρ' H' s (c.noExc n2 c.tbb) (Rep.noExc d v n1 r)
    · exact g.elim
  | stuck => rw [q] at g; exact g
  | nx _ _ => rw [q] at g; exact g.elim
  | bk _ _ => rw [q] at g; exact g.elim
  | ct _ _ => rw [q] at g; exact g.elim
  | xn _ _ _ => rw [q] at g; exact g.elim
theorem js_tryAs {x n : Str} {cv : Value} {i : Nat} {body suite : List Stmt} {b₀ : Stmt} {np pos' : Pos} {mb ms : SM} {isSub : Str → Option Bool} (hcalm : X.calm = true) (hs : X.stack = X.env :: X.outer) (hf : X.env.frame = some X.env.locals) (hN : X.N.Nodup) (hi : X.N[i]? = some n) (hln : X.env.kindOf n = some .local) (hc : Names X x cv) (tk : Takes X W)
    (hsub : ∀ c b, isSub c = some b → PySem.W.exmOne X.K (.ref (He.ga X.K c)) cv = some b)
    (hb : ∀ (W' : WX) (pn : List (Addr × Obj)) (xe : Value → Shared → Prop), Takes (X.tr pn xe) W' → PassesOwn (model X.prog X.w) X.A X.env xe → JB (X.tr pn xe) W' L0 O O' Ob body mb)
    (hsu : ∀ (a : Addr) (oe : Obj) (pn : List (Addr × Obj)), (∃ vs, oe.data = .fields vs) → JB (X.suite a ((a, oe) :: pn)) Wf L0 [] [] [] (b₀ :: suite) ms) :
    JS X W L0 O O' Ob (.Try body [.ExceptHandler (some (.Name x np)) (some n) (b₀ :: suite) pos'] [] [] pos) (sTryAs mb isSub i ms) := by
  have kt : ∀ pn xe, (X.tr pn xe).kx = ⟨X.K, none, X.base, X.mg⟩ := fun pn xe => kx_calm (X := X.tr pn xe) hcalm
  refine PS.imp (ps_try_as (tb := fun W' => tS ⟨X.K, none, X.base, X.mg⟩ W' L0 O O' Ob mb) (ts := fun a cls d => tS ⟨X.K, some (a, cls, d), X.base, X.mg⟩ Wf L0 [] [] [] ms) hs hf hN hi hln hc tk (fun W' pn xe t p => by
      have z := hb W' pn xe t p
      rw [show JB (X.tr pn xe) W' L0 O O' Ob body mb = PSs (X.tr pn xe) body (tS (X.tr pn xe).kx W' L0 O O' Ob mb) from rfl, kt] at z
      exact z) (fun a oe cls d pn hz hd => by
      have z := hsu a oe pn hd
      obtain ⟨h1, h2⟩ := hz
      subst h1 h2
      exact z)) fun D σ H hq => ?_
  obtain ⟨ρ, Γ, S, e, c, g⟩ := hq
  rw [kx_calm hcalm] at e c g
  refine ⟨ρ, Γ, S, e, c, ?_⟩
  unfold sTryAs at g
  cases q : mb Γ S with
  | stuck => rw [q] at g; exact g
  | nx Γ1 S1 => rw [q] at g; exact g
  | bk Γ1 S1 => rw [q] at g; exact g
  | ct Γ1 S1 => rw [q] at g; exact g
  | rt d S1 => rw [q] at g; exact g
  | xn x Γ1 S1 =>
    rw [q] at g
    dsimp only at g
    intro cls od σ' ρ' H' st e' c' xr
    obtain ⟨hcls, hargs⟩ := xr
    cases qb : isSub x.cls with
    | none => rw [qb] at g; exact g.elim
    | some bb =>
      rw [qb] at g
      refine ⟨bb, by rw [hcls]; exact hsub _ _ qb, fun hbt a ha => ?_, fun hbf => ?_⟩
      · subst hbt
        dsimp only at g
        have g2 := GoalS.step (L' := LO L0 [] σ') st (fun a z => z.elim (fun y => .inl (.inl y)) fun ⟨j, hj, _⟩ => by cases hj) g
        have hno : i ∉ ([] : List Nat) := fun z => by cases z
        have r1 : Rep ⟨X.K, some (a, cls, od), X.base, X.mg⟩ ρ' (LO L0 [] σ') H' (.exc x.cls x.args) (.ref a) := by
          unfold Rep
          refine ⟨a, cls, od, rfl, rfl, hcls, ?_⟩
          exact hargs.imp id fun ⟨d, vs, q1, q2, q3, q4, q5⟩ => ⟨d, vs, q1, q2, q3, q4, RepF.into (fun _ _ z => z) _ _ q5⟩
        have e2 := (EnvOk.into (x' := some (a, cls, od)) (fun _ _ z => z) e').set hno r1
        refine ⟨ρ', _, S1, e2, by rw [LO.set hno]; exact c'.into (fun _ _ z => z), ?_⟩
        rw [LO.set hno]
        exact suite_goal g2
      · subst hbf
        exact g cls od σ' ρ' H' st e' c' ⟨hcls, hargs⟩
/-! ### in the suite: its fields, its class -/
theorem kx_suite {a : Addr} {oe : Obj} {pn : List (Addr × Obj)} : (X.suite a ((a, oe) :: pn)).kx = ⟨X.K, some (a, oe.cls, oe.dict), X.base, X.mg⟩ := rfl
def eXf (m : EM) (f : Str) (tab : Str → Bool) : EM := fun Γ S => (m Γ S).bind fun d S1 => match d with
  | .exc c fs => (match fs.lookup f with
    | some v => ifR (tab c) (.val v S1)
    | none => .stuck)
  | _ => .stuck
theorem RepF.look {f : Str} {d : D} : ∀ {fs : List (Str × D)} {vs : List (Str × V)}, RepF K ρ L H fs vs → fs.lookup f = some d → ∃ v, vs.lookup f = some v ∧ Rep K ρ L H d v
  | [], _, _, e => by cases e
  | (k, d') :: fs, vs, h, e => by
    unfold RepF at h
    obtain ⟨v, r, rfl, q, z⟩ := h
    rw [List.lookup_cons] at e
    cases hk : f == k with
    | true =>
      rw [hk] at e
      cases e
      exact ⟨v, by rw [List.lookup_cons, hk], q⟩
    | false =>
      rw [hk] at e
      obtain ⟨u, e2, r2⟩ := RepF.look z e
      exact ⟨u, by rw [List.lookup_cons, hk]; exact e2, r2⟩
theorem je_xf {a : Addr} {oe : Obj} {pn : List (Addr × Obj)} {f : Str} {tab : Str → Bool} (hf : ∃ vs, oe.data = .fields vs) (ht : ∀ c, tab c = true → XfC X.K (He.ga X.K c) ∧ PySem.W.findIn X.K (.ref (He.ga X.K c)) f = some none)
    (he : JE (X.suite a ((a, oe) :: pn)) W L0 O e m) (hb : attributeBase e f X.env (eval e X.env) = eval e X.env := by rfl) : JE (X.suite a ((a, oe) :: pn)) W L0 O (.Attribute e f pos) (eXf m f tab) := ⟨fun pins s σ H Q I h => by
  obtain ⟨ρ, Γ, S, ev, c, g⟩ := h
  unfold eXf at g
  cases hm : m Γ S with
  | stuck => rw [hm] at g; exact g.elim
  | exn x S1 =>
    rw [hm] at g
    have h0 := he.run pins s σ H (fun _ _ => False) I ⟨ρ, Γ, S, ev, c, by rw [hm]; exact g⟩
    exact attr_of hb (thn h0 fun u s1 ⟨_, _, _, _, z⟩ => z.elim)
  | val d S1 =>
    rw [hm, R.bind_val] at g
    split at g
    · rename_i cc fs
      split at g
      · rename_i dv hl
        obtain ⟨ht', g2⟩ := of_ifR g
        obtain ⟨T, hno⟩ := ht cc ht'
        refine (pe_xf (X := X) (C := He.ga X.K cc) (cls := oe.cls) (d := oe.dict) T hno ⟨rfl, rfl⟩ hf he hb).run pins s σ H Q I ⟨ρ, Γ, S, ev, c, ?_⟩
        rw [hm]
        intro v ρ1 H1 s1 c1 r1
        have r1' := r1
        rw [kx_suite] at r1'
        unfold Rep at r1'
        obtain ⟨a', cls', od', e1, e2, e3, q⟩ := r1'
        cases e1
        rcases q with q | ⟨dd, vs, q1, q2, q3, q4, q5⟩
        · obtain ⟨q, _⟩ := q
          subst q
          cases hl
        · obtain ⟨u, hu, ru⟩ := RepF.look q5 hl
          exact ⟨e2, e3, dd, vs, u, q1, q2, hu, g2 _ ρ1 H1 s1 c1 (by rw [kx_suite]; exact ru)⟩
      · exact g.elim
    · exact g.elim⟩
end
end Pv
namespace Pv
open PySem PySem.Spec PyProof.Rows L2
variable [Tf]
section
variable {X : Cx} {K : KX} {ρ ρ' : List Addr} {L0 L L' : Addr → Prop} {O O' Ob : List Nat} {H H' : Hp} {S : Sto} {W : WX} {σ : L2.St} {Γ : Env'} {pos p2 : Pos} {e a b : Expr} {m ma mb : EM} {gs : List Nat}
/-! ### names of the module -/
theorem je_glob {x : Str} {d : D} {v : V} {u : Value} (hg : Gl X x) (hm : X.mg x = some u) (r : RelV v u) (hd : ∀ ρ L H, Rep X.kx ρ L H d v) (hn : (x == ("__debug__" : Str)) = false := by decide) : JE X W L0 O (.Name x pos) (eC d) :=
  je_const (pe_glob hg hm r hn) hd
theorem je_fn {x : Str} {f : Addr} (hg : Gl X x) (hm : X.mg x = some (.ref f)) (hf : f = He.ga X.K x) (hn : (x == ("__debug__" : Str)) = false := by decide) : JE X W L0 O (.Name x pos) (eC (.fn x)) :=
  je_glob (v := .ref f) hg hm rfl (fun _ _ _ => by unfold Rep; show V.ref f = V.ref (He.ga X.K x); rw [hf]) hn
/-! ### {} -/
theorem je_dict0 : JE X W L0 O (.Dict [] [] pos) (eC (.dic [])) := PE.imp pe_dnewK fun σ H Q ⟨ρ, Γ, S, e, c, g⟩ p hp => by
  refine g _ ρ _ (Step.laid hp) (c.laid hp) ?_
  unfold Rep
  exact ⟨p, [], rfl, upd_same, (c.off hp).1, (c.off hp).2, by unfold RepK; rfl⟩
/-! ### slices -/
abbrev OM := Env' → Sto → R (Option Int)
def tOo (K : KX) (W : WX) (L0 : Addr → Prop) (O : List Nat) (m : OM) : TO := fun σ H Q => ∃ (ρ : List Addr) (Γ : Env') (S : Sto), EnvOk K ρ L0 O σ Γ H ∧ Cells K ρ (LO L0 O σ) H S ∧
  GoalG (fun _ _ (d v : Option Int) => v = d) K ρ (LO L0 O σ) H (m Γ S) Q fun c od H' => W c od σ H'
abbrev JO (X : Cx) (W : WX) (L0 : Addr → Prop) (O : List Nat) (e : Option Expr) (m : OM) : Prop := PO X e (tOo X.kx W L0 O m)
theorem PO.imp {e : Option Expr} {t t' : TO} (h : PO X e t) (i : ∀ σ H Q, t' σ H Q → t σ H Q) : PO X e t' := ⟨fun pins s σ H Q I hq => h.run pins s σ H Q I (i σ H Q hq)⟩
def oNone : OM := fun _ S => .val none S
def oSome (m : EM) : OM := fun Γ S => (m Γ S).bind fun d S1 => match d with
  | .int i => .val (some i) S1
  | _ => .stuck
theorem jo_none : JO X W L0 O none oNone := PO.imp po_none fun σ H Q ⟨ρ, Γ, S, e, c, g⟩ => GoalG.val g c rfl
theorem jo_some (h : JE X W L0 O e m) : JO X W L0 O (some e) (oSome m) := PO.imp (po_some h) fun σ H Q hq => by
  obtain ⟨ρ, Γ, S, e, c, g⟩ := hq
  refine ⟨ρ, Γ, S, e, c, GoalG.bind g fun d S1 v ρ1 H1 s1 c1 r1 g1 => ?_⟩
  split at g1
  · exact ⟨_, r1.int_inv, GoalG.val g1 c1 rfl⟩
  · exact g1.elim
def cutD {α : Type} (xs : List α) (lo hi : Option Int) : List α := (xs.drop (HT.sIx xs.length 0 lo)).take (HT.sIx xs.length xs.length hi - HT.sIx xs.length 0 lo)
theorem Reps.cut {ds : List D} {vs : List V} (r : Reps K ρ L H ds vs) (lo hi : Option Int) : Reps K ρ L H (cutD ds lo hi) (cutV vs lo hi) := by
  unfold cutD cutV
  rw [r.length]
  exact (r.drop _).take _
def sliceD (d : D) (lo hi : Option Int) (S : Sto) : R D := match d with
  | .str z => ifR (decide (z.length ≤ sizeLine)) (.val (.str (cutS z lo hi)) S)
  | .tup ds => .val (.tup (cutD ds lo hi)) S
  | .lst ds => .val (.lst (cutD ds lo hi)) S
  | .frz ds => .val (.lst (cutD ds lo hi)) S
  | _ => .stuck
def rSlD (K : PySem.W.Frag) : V → Option Int → Option Int → Hp → VK → Prop := fun x lo hi H Q => (rSlA K x lo hi H Q ∨ rSlL K x lo hi H Q) ∨ rSlS x lo hi H Q
theorem sl_D : SlR X (rSlD X.K) := SlR.or (SlR.or sl_tupA sl_list) sl_str
theorem cutD_whole {α : Type} {xs : List α} {lo hi : Option Int} (h1 : HT.sIx xs.length 0 lo = 0) (h2 : HT.sIx xs.length xs.length hi = xs.length) : cutD xs lo hi = xs := by
  unfold cutD
  rw [h1, h2, List.drop_zero, Nat.sub_zero, List.take_length]
theorem prim_slice {d : D} {v : V} {lo hi : Option Int} {Q : VK} {QX : XK} (r : Rep K ρ L H d v) (c : Cells K ρ L H S) (g : Goal K ρ L H (sliceD d lo hi S) Q QX) : rSlD K.fr v lo hi H Q := by
  unfold sliceD at g
  split at g
  · obtain ⟨hz, g⟩ := of_ifR g
    exact .inr ⟨_, r.str_inv, of_decide_eq_true hz, GoalG.val g c rep_str⟩
  · obtain ⟨a, vs, rfl, q, r2⟩ := id r.tup_inv
    refine .inl (.inl ⟨a, vs, rfl, q, fun hw => ?_, fun hw p hp => Goal.tup g c (r2.cut lo hi) hp⟩)
    rw [← r2.length] at hw
    rw [cutD_whole hw.1 hw.2] at g
    exact GoalG.val g c r
  · obtain ⟨a, vs, rfl, q, _, _, r2⟩ := r.lst_inv
    exact .inl (.inr ⟨a, vs, rfl, SqL.of q, fun p hp => Goal.lst g c (r2.cut lo hi) hp⟩)
  · obtain ⟨a, vs, rfl, q, r2⟩ := r.frz_inv
    exact .inl (.inr ⟨a, vs, rfl, sql_frz q, fun p hp => Goal.lst g c (r2.cut lo hi) hp⟩)
  · exact g.elim
def eSl (m : EM) (l h : OM) : EM := fun Γ S => (m Γ S).bind fun d S1 => (l Γ S1).bind fun lo S2 => (h Γ S2).bind fun hi S3 => sliceD d lo hi S3
theorem je_slice {lo hi : Option Expr} {ml mh : OM} (he : JE X W L0 O e m) (hl : JO X W L0 O lo ml) (hu : JO X W L0 O hi mh) : JE X W L0 O (.Subscript e (.Slice lo hi none p2) pos) (eSl m ml mh) := PE.imp (pe_slice sl_D he hl hu) fun σ H Q h => by
  obtain ⟨ρ, Γ, S, e, c, g⟩ := h
  refine ⟨ρ, Γ, S, e, c, GoalG.bind g fun d S1 v ρ1 H1 s1 c1 r1 g1 => ?_⟩
  refine ⟨ρ1, Γ, S1, e.step s1, c1, GoalG.bind g1 fun l S2 v2 ρ2 H2 s2 c2 r2 g2 => ?_⟩
  subst r2
  refine ⟨ρ2, Γ, S2, (e.step s1).step s2, c2, GoalG.bind g2 fun l3 S3 v3 ρ3 H3 s3 c3 r3 g3 => ?_⟩
  subst r3
  exact prim_slice (Rep.step s3 _ _ (Rep.step s2 _ _ r1)) c3 g3
/-! ### what is walked: texts too -/
def signsD (z : Str) : List D := z.cps.toList.map fun c => .str ⟨#[c]⟩
def D.its : D → Option (List D)
  | .str z => some (signsD z)
  | d => d.items
def iIt (m : EM) : LM := fun Γ S => (m Γ S).bind fun d S1 => match d.its with
  | some ds => .val ds S1
  | none => .stuck
theorem src_str {z : Str} : Src K ρ L (Its z) (signsD z) H := by
  have hl : (signsD z).length = z.cps.size := by unfold signsD; simp
  refine ⟨fun _ => True, fun i H v H' => H' = H ∧ ∃ c, z.cps[i]? = some c ∧ v = .str ⟨#[c]⟩, by rw [hl]; exact walk_str, fun _ _ _ _ _ => trivial, fun i M ρ2 H2 x H3 L2 d s hM w2 _ y hd => ?_⟩
  obtain ⟨rfl, c, hc, rfl⟩ := y
  refine ⟨.inl rfl, ?_⟩
  unfold signsD at hd
  rw [List.getElem?_map] at hd
  obtain ⟨k, hk, rfl⟩ := Option.map_eq_some_iff.mp hd
  have : z.cps[i]? = some k := by simpa using hk
  rw [hc] at this
  cases this
  exact rep_str
theorem ji_it {tg : Expr} (hl : JE X W L0 O e m) : JI X W L0 O tg e (iIt m) := ⟨fun pins s σ H R I h => by
  obtain ⟨ρ, Γ, S, ev, c, g⟩ := h
  unfold iIt at g
  have other : ∀ (g : GoalI X.kx ρ (LO L0 O σ) H (iSeq m Γ S) R fun c od H' => W c od σ H'), wpAny (model X.prog X.w) X.A (eval e X.env) (fun v s1 => wpAny (model X.prog X.w) X.A (pyIter v) (PIE X pins σ tg R) X.xe s1) X.xe s :=
    fun g => (ji_seq hl).run pins s σ H R I ⟨ρ, Γ, S, ev, c, g⟩
  cases q : m Γ S with
  | stuck => rw [q] at g; exact g.elim
  | exn x S' => exact other (by unfold iSeq; rw [q] at g ⊢; exact g)
  | val d S' =>
    cases d with
    | str z =>
      rw [q] at g
      have g3 : GoalI X.kx ρ (LO L0 O σ) H (.val (signsD z) S') R fun c od H' => W c od σ H' := g
      refine (pi_str hl).run pins s σ H R I ⟨ρ, Γ, S, ev, c, ?_⟩
      rw [q]
      intro v ρ' H' st c' r
      exact ⟨z, r.str_inv, g3 _ ρ' H' st c' src_str⟩
    | _ => exact other (by unfold iSeq; rw [q] at g ⊢; exact g)⟩
/-! ### in: one sign in a text, a flat thing among flat things -/
def D.flat : D → Option V
  | .non => some .non
  | .bl b => some (.bl b)
  | .int i => some (.int i)
  | .str x => some (.str x)
  | _ => none
def flats : List D → Option (List V)
  | [] => some []
  | d :: ds => match d.flat, flats ds with
    | some v, some vs => some (v :: vs)
    | _, _ => none
theorem Rep.flat_inv {d : D} {v w : V} (h : d.flat = some w) (r : Rep K ρ L H d v) : v = w ∧ flatV w = true := by
  cases d with
  | non => cases h; exact ⟨r.non_inv, rfl⟩
  | bl b => cases h; exact ⟨r.bl_inv, rfl⟩
  | int i => cases h; exact ⟨r.int_inv, rfl⟩
  | str x => cases h; exact ⟨r.str_inv, rfl⟩
  | _ => cases h
theorem Reps.flat_inv : ∀ {ds : List D} {vs ws : List V}, flats ds = some ws → Reps K ρ L H ds vs → vs = ws ∧ ws.all flatV = true
  | [], vs, ws, h, r => by
    cases h
    unfold Reps at r
    exact ⟨r, rfl⟩
  | d :: ds, vs, ws, h, r => by
    unfold flats at h
    split at h
    · rename_i w us h1 h2
      cases h
      unfold Reps at r
      obtain ⟨v, r', e, q, z⟩ := r
      obtain ⟨e1, f1⟩ := Rep.flat_inv h1 q
      obtain ⟨e2, f2⟩ := Reps.flat_inv h2 z
      exact ⟨by rw [e, e1, e2], by rw [List.all_cons, f1, f2]; rfl⟩
    · cases h
def inD (neg : Bool) : P2 := fun x y S => match x, y with
  | .str a, .str z => (match a.cps.toList with
    | [c] => .val (.bl (if neg then !decide (c ∈ z.cps.toList) else decide (c ∈ z.cps.toList))) S
    | _ => .stuck)
  | x, y => match x.flat, y.items with
    | some v, some ds => (match flats ds with
      | some vs => .val (.bl (if neg then !inV v vs else inV v vs)) S
      | none => .stuck)
    | _, _ => .stuck
def rInS (neg : Bool) : R2 := fun x y H Q => ∃ (c : Nat) (z : Str), x = .str ⟨#[c]⟩ ∧ y = .str z ∧ Q (.bl (if neg then !decide (c ∈ z.cps.toList) else decide (c ∈ z.cps.toList))) H
def rInX (K : PySem.W.Frag) (neg : Bool) : R2 := fun x y H Q => rInS neg x y H Q ∨ rIn K neg x y H Q
theorem op_inX : OpR X (compareOp .In) (rInX X.K false) := OpR.or op_in_sign op_in_seq
theorem op_notInX : OpR X (compareOp .NotIn) (rInX X.K true) := OpR.or op_notIn_sign op_notIn_seq
theorem prim_in {neg : Bool} : Prim2 K (inD neg) (rInX K.fr neg) := by
  intro ρ L H S x y v u Q QX rx ry c g
  unfold inD at g
  split at g
  · rename_i a z
    split at g
    · rename_i k hk
      have ea : a = ⟨#[k]⟩ := by
        obtain ⟨cps⟩ := a
        congr 1
        exact Array.toList_inj.mp hk
      rw [rx.str_inv, ry.str_inv, ea]
      exact .inl ⟨k, z, rfl, rfl, GoalG.val g c rep_bl⟩
    · exact g.elim
  · split at g
    · rename_i w ds e1 e2
      split at g
      · rename_i ws e3
        obtain ⟨p, us, rfl, h1, r1⟩ := ry.seq e2
        obtain ⟨rfl, f1⟩ := Rep.flat_inv e1 rx
        obtain ⟨rfl, f2⟩ := Reps.flat_inv e3 r1
        exact .inr ⟨p, us, rfl, h1, f1, f2, GoalG.val g c rep_bl⟩
      · exact g.elim
    · exact g.elim
/-! ### f'..' -/
def eFmt (m : EM) : EM := fun Γ S => (m Γ S).bind fun d S1 => match d with
  | .str y => ifR (decide (y.length ≤ sizeLine)) (.val (.str y) S1)
  | .int i => ifR (decide (i.natAbs.log2 < 1920)) (.val (.str (toString i)) S1)
  | _ => .stuck
theorem je_fmt (h : JE X W L0 O e m) : JE X W L0 O (.FormattedValue e (-1) none pos) (eFmt m) := PE.imp (pe_fmt h) fun σ H Q hq => by
  obtain ⟨ρ, Γ, S, e, c, g⟩ := hq
  refine ⟨ρ, Γ, S, e, c, GoalG.bind g fun d S1 v ρ1 H1 s1 c1 r1 g1 => ?_⟩
  split at g1
  · obtain ⟨h, g2⟩ := of_ifR g1
    exact .inl ⟨_, r1.str_inv, of_decide_eq_true h, GoalG.val g2 c1 rep_str⟩
  · obtain ⟨h, g2⟩ := of_ifR g1
    exact .inr ⟨_, r1.int_inv, of_decide_eq_true h, GoalG.val g2 c1 rep_str⟩
  · exact g1.elim
inductive JJ (X : Cx) (W : WX) (L0 : Addr → Prop) (O : List Nat) : List Expr → List EM → Prop where
  | nil : JJ X W L0 O [] []
  | cons {e : Expr} {m : EM} {es : List Expr} {ms : List EM} (h : JE X W L0 O e m) (r : JJ X W L0 O es ms) : JJ X W L0 O (e :: es) (m :: ms)
def jsGo : List EM → Str → EM
  | [], acc => fun _ S => .val (.str acc) S
  | m :: ms, acc => fun Γ S => (m Γ S).bind fun d S1 => match d with
    | .str y => ifR (decide ((acc ++ y).length ≤ sizeLine)) (jsGo ms (acc ++ y) Γ S1)
    | _ => .stuck
theorem JJ.pj {es : List Expr} {ms : List EM} (h : JJ X W L0 O es ms) : PJ X es (ms.map (tE X.kx W L0 O)) := by
  induction h with
  | nil => exact .nil
  | cons h r ih => exact .cons h ih
theorem tJs_of {Q : Str → Hp → Prop} : ∀ (ms : List EM) (acc : Str) (σ : L2.St) (H : Hp) (ρ : List Addr) (S : Sto), EnvOk X.kx ρ L0 O σ Γ H → Cells X.kx ρ (LO L0 O σ) H S → Goal X.kx ρ (LO L0 O σ) H (jsGo ms acc Γ S) (fun v H1 => ∃ out, v = .str out ∧ Q out H1) (fun c od H' => W c od σ H') →
    tJs (ms.map (tE X.kx W L0 O)) acc σ H Q
  | [], acc, σ, H, ρ, S, e, c, g => by
    obtain ⟨out, h, q⟩ := GoalG.val g c rep_str
    cases h
    exact q
  | m :: ms, acc, σ, H, ρ, S, e, c, g => by
    refine ⟨ρ, Γ, S, e, c, GoalG.bind g fun d S1 v ρ1 H1 s1 c1 r1 g1 => ?_⟩
    split at g1
    · obtain ⟨h, g2⟩ := of_ifR g1
      exact ⟨_, r1.str_inv, of_decide_eq_true h, tJs_of ms _ σ H1 ρ1 S1 (e.step s1) c1 g2⟩
    · exact g1.elim
theorem je_fstr {v1 v2 : Expr} {rest : List Expr} {ms : List EM} (h : JJ X W L0 O (v1 :: v2 :: rest) ms) : JE X W L0 O (.JoinedStr (v1 :: v2 :: rest) pos) (jsGo ms Str.empty) := PE.imp (pe_joined h.pj) fun σ H Q hq => by
  obtain ⟨ρ, Γ, S, e, c, g⟩ := hq
  refine tJs_of ms _ σ H ρ S e c ?_
  cases q : jsGo ms Str.empty Γ S with
  | stuck => rw [q] at g; exact g
  | exn x S => rw [q] at g; exact g
  | val d S1 =>
    rw [q] at g
    have isS : ∀ (ms : List EM) (acc : Str) (S : Sto) (d : D) (S1 : Sto), jsGo ms acc Γ S = .val d S1 → ∃ y, d = .str y := by
      intro ms
      induction ms with
      | nil => intro acc S d S1 h; cases h; exact ⟨_, rfl⟩
      | cons m ms ih =>
        intro acc S d S1 h
        unfold jsGo at h
        cases hm : m Γ S with
        | stuck => rw [hm] at h; cases h
        | exn x S => rw [hm] at h; cases h
        | val d2 S2 =>
          rw [hm, R.bind_val] at h
          split at h
          · unfold ifR at h
            split at h
            · exact ih _ _ _ _ h
            · cases h
          · cases h
    obtain ⟨y, rfl⟩ := isS ms _ _ _ _ q
    exact fun v ρ' H' s c' r => ⟨y, r.str_inv, by have z := g v ρ' H' s c' r; rwa [r.str_inv] at z⟩
end
end Pv
namespace Pv
open PySem PySem.Spec PyProof.Rows L2
variable [Tf]
section
variable {X : Cx} {K : KX} {ρ ρ' : List Addr} {L0 L L' : Addr → Prop} {O O' Ob : List Nat} {H H' : Hp} {S : Sto} {W : WX} {σ : L2.St} {Γ : Env'} {pos p2 : Pos} {e a b : Expr} {m ma mb : EM} {gs : List Nat}
/-! ### a def held in a local -/
/-- the def named x does F with n arguments -/
structure FnAt (X : Cx) (x : Str) (n : Nat) (F : PN) : Prop where
  ex : ∃ (k : Nat) (fd : FuncData) (ps : List Str), FnG X.prog X.w X.K X.mg X.base (L2.CX X.prog X.w) k (He.ga X.K x) fd ps (spF ⟨X.K, none, X.base, X.mg⟩ ps.length F) ∧ Room k X.A ∧ PySem.W.keepIn X.K (.ref (He.ga X.K x)) = true ∧ Binds X.K fd ps [] ∧ ps.length = n
def eCallV (i : Nat) (tab : Str → Option (Nat × PN)) (n : LM) : EM := fun Γ S => match Γ[i]? with
  | some (some (.fn x)) => (match tab x with
    | some nF => (n Γ S).bind (callN nF.1 nF.2)
    | none => .stuck)
  | _ => .stuck
theorem je_callV {i : Nat} {x : Str} {es : List Expr} {n : LM} {p : Pos} {tab : Str → Option (Nat × PN)} (hcalm : X.calm = true) (tk : Takes X W) (gd : X.A.guards = some []) (hN : X.N[i]? = some x) (hv : Vis X.env.scope x) (hi : i ∉ O)
    (ht : ∀ y nF, tab y = some nF → FnAt X y nF.1 nF.2) (ha : JA X W L0 O (a :: es) n)
    (hdb : (x == ("__debug__" : Str)) = false := by decide) (hcd : (x == ("__classdict__" : Str)) = false := by decide) (he : starEach (a :: es) X.env = (false, eval a X.env) :: starEach es X.env := by rfl) (hpl : (backTo pos (starEach es X.env)).any (·.1) = false := by rfl) :
    JE X W L0 O (.Call (.Name x p) (a :: es) [] pos) (eCallV i tab n) := ⟨fun pins s σ H Q I h => by
  obtain ⟨ρ, Γ, S, e, c, g⟩ := h
  unfold eCallV at g
  split at g
  · rename_i y hy
    split at g
    · rename_i nF hF
      obtain ⟨k, fd, ps, G, hr, hk, hb, hn⟩ := (ht y nF hF).ex
      obtain ⟨v, hs, r⟩ := e.slot i _ hy hi
      have ev : v = .ref (He.ga X.K y) := by
        unfold Rep at r
        exact r
      subst ev
      refine wpAny_Call_Name_kw (thn ((pe_var (pos := p) hN hv hdb hcd).run pins s σ H (fun v H1 => v = .ref (He.ga X.K y) ∧ H1 = H) I ⟨_, hs, rfl, rfl⟩) fun u s1 ⟨v, H1, I1, r1, q1⟩ => ?_)
      obtain ⟨rfl, rfl⟩ := q1
      cases r1
      refine PySem.W.callWith_K (h₀ := X.base) I.ok.mod.kin hk (thn (ha.run pos pins s1 σ _ (fun vs H1 => spF ⟨X.K, none, X.base, X.mg⟩ ps.length nF.2 vs H1 Q fun c od H' => W c od σ H') I1 ⟨ρ, Γ, S, e, c, GoalG.bind g fun ds S1 vs ρ1 H1 s1 c1 r1 g1 => ?_⟩) fun us s1 ⟨vs, H1, I1, r, q⟩ => ⟨I1.kIn, ?_⟩) he hpl
      · obtain ⟨hn2, g2⟩ := of_ifR g1
        rw [kx_calm hcalm] at r1 c1 g2
        exact ⟨ρ1, LO L0 O σ, S1, ds, r1, c1, by rw [of_decide_eq_true hn2, hn], g2⟩
      · have hl : us.length = ps.length := by rw [← r.length]; exact G.len _ _ _ _ q
        have hb' := hb s1 us I1.kIn (by simpa using hl)
        rw [List.append_nil] at hb'
        exact run_G (args := ⟨us, []⟩) G hr gd hb' (passAt tk σ) I1 r q
    · exact g.elim
  · exact g.elim⟩
/-! ### f(k = v, ..): every argument by its name, in the parameters' order -/
abbrev JK (X : Cx) (W : WX) (L0 : Addr → Prop) (O : List Nat) (es : List Keyword) (m : LM) : Prop := PK X es (tA X.kx W L0 O m)
theorem PK.imp {es : List Keyword} {t t' : TA} (h : PK X es t) (i : ∀ σ H Q, t' σ H Q → t σ H Q) : PK X es t' := ⟨fun pos pins s σ H Q I hq => h.run pos pins s σ H Q I (i σ H Q hq)⟩
theorem jk_nil : JK X W L0 O [] aNil := PK.imp pk_nil fun σ H Q ⟨ρ, Γ, S, e, c, g⟩ => GoalG.val g c Reps.nil
theorem jk_cons {nm : Option Str} {kp : Pos} {es : List Keyword} {n : LM} (ha : JE X W L0 O a ma) (hr : JK X W L0 O es n) : JK X W L0 O (⟨nm, a, kp⟩ :: es) (aCons ma n) := PK.imp (pk_cons ha hr) fun σ H Q h => by
  obtain ⟨ρ, Γ, S, e, c, g⟩ := h
  refine ⟨ρ, Γ, S, e, c, GoalG.bind g fun d S1 v ρ1 H1 s1 c1 r1 g1 => ?_⟩
  refine ⟨ρ1, Γ, S1, e.step s1, c1, GoalG.bind g1 fun ds S2 vs ρ2 H2 s2 c2 r2 g2 => ?_⟩
  exact GoalG.val g2 c2 (Reps.cons (Rep.step s2 d v r1) r2)
/-- all parameters by their names -/
def KBindsAll (K : PySem.W.Frag) (fd : FuncData) (ps ks : List Str) : Prop := ∀ (s : Shared) (ws : List Value), K.In s.heap → ws.length = ps.length → BindsTo s fd ⟨[], ks.zip ws⟩ (ps.zip ws)
theorem je_callK {k : Nat} {f : Addr} {fd : FuncData} {ps ks : List Str} {x : Str} {kws : List Keyword} {m : LM} {F : PN} {p : Pos} (G : FnG X.prog X.w X.K X.mg X.base (L2.CX X.prog X.w) k f fd ps (spF ⟨X.K, none, X.base, X.mg⟩ ps.length F)) (hcalm : X.calm = true) (tk : Takes X W) (hr : Room k X.A) (gd : X.A.guards = some [])
    (hg : Gl X x) (hm : X.mg x = some (.ref f)) (hk : PySem.W.keepIn X.K (.ref f) = true) (hb : KBindsAll X.K fd ps ks) (hkw : JK X W L0 O kws m)
    (hall : (backToKw pos (keywordEach kws X.env)).all (·.1.isSome) = true := by rfl) (hks : (backToKw pos (keywordEach kws X.env)).filterMap (·.1) = ks := by rfl)
    (hdb : (x == ("__debug__" : Str)) = false := by decide) (hpl : ((backTo pos (starEach [] X.env)).any (·.1) || (backToKw pos (keywordEach kws X.env)).any (·.1.isNone)) = false := by rfl) :
    JE X W L0 O (.Call (.Name x p) [] kws pos) (eN (callN ps.length F) m) := ⟨fun pins s σ H Q I h => by
  obtain ⟨ρ, Γ, S, e, c, g⟩ := h
  refine wpAny_Call_Name_kw (ld_glob I hg hm ?_ hdb)
  refine PySem.W.callWith_KW0 (h₀ := X.base) I.ok.mod.kin hk hall (thn (hkw.run pos pins s σ H (fun vs H1 => spF ⟨X.K, none, X.base, X.mg⟩ ps.length F vs H1 Q fun c od H' => W c od σ H') I ⟨ρ, Γ, S, e, c, GoalG.bind g fun ds S1 vs ρ1 H1 s1 c1 r1 g1 => ?_⟩) fun us s1 ⟨vs, H1, I1, r, q⟩ => ⟨I1.kIn, ?_⟩) hpl
  · obtain ⟨hn, g2⟩ := of_ifR g1
    rw [kx_calm hcalm] at r1 c1 g2
    exact ⟨ρ1, LO L0 O σ, S1, ds, r1, c1, of_decide_eq_true hn, g2⟩
  · have hl : us.length = ps.length := by rw [← r.length]; exact G.len _ _ _ _ q
    rw [hks]
    exact run_G (args := ⟨[], ks.zip us⟩) G hr gd (hb s1 us I1.kIn hl) (passAt tk σ) I1 r q⟩
/-- all parameters by their names, the last one first -/
def KBindsRev (K : PySem.W.Frag) (fd : FuncData) (ps : List Str) : Prop := ∀ (s : Shared) (ws : List Value), K.In s.heap → ws.length = ps.length → BindsTo s fd ⟨[], ps.reverse.zip ws⟩ (ps.zip ws.reverse)
theorem vals_app {vs ws : List V} {us zs : List Value} (h : Vals vs us) (g : Vals ws zs) : Vals (vs ++ ws) (us ++ zs) := by
  induction h with
  | nil => exact g
  | cons a b ih => exact .cons a ih
theorem vals_rev {vs : List V} {us : List Value} (h : Vals vs us) : Vals vs.reverse us.reverse := by
  induction h with
  | nil => exact .nil
  | cons a b ih =>
    rw [List.reverse_cons, List.reverse_cons]
    exact vals_app ih (.cons a .nil)
theorem je_callKR {k : Nat} {f : Addr} {fd : FuncData} {ps : List Str} {x : Str} {kws : List Keyword} {m : LM} {F : PN} {p : Pos} (G : FnG X.prog X.w X.K X.mg X.base (L2.CX X.prog X.w) k f fd ps (spF ⟨X.K, none, X.base, X.mg⟩ ps.length F)) (hcalm : X.calm = true) (tk : Takes X W) (hr : Room k X.A) (gd : X.A.guards = some [])
    (hg : Gl X x) (hm : X.mg x = some (.ref f)) (hk : PySem.W.keepIn X.K (.ref f) = true) (hb : KBindsRev X.K fd ps) (hkw : JK X W L0 O kws m)
    (hall : (backToKw pos (keywordEach kws X.env)).all (·.1.isSome) = true := by rfl) (hks : (backToKw pos (keywordEach kws X.env)).filterMap (·.1) = ps.reverse := by rfl)
    (hdb : (x == ("__debug__" : Str)) = false := by decide) (hpl : ((backTo pos (starEach [] X.env)).any (·.1) || (backToKw pos (keywordEach kws X.env)).any (·.1.isNone)) = false := by rfl) :
    JE X W L0 O (.Call (.Name x p) [] kws pos) (eN (fun ds => callN ps.length F ds.reverse) m) := ⟨fun pins s σ H Q I h => by
  obtain ⟨ρ, Γ, S, e, c, g⟩ := h
  refine wpAny_Call_Name_kw (ld_glob I hg hm ?_ hdb)
  refine PySem.W.callWith_KW0 (h₀ := X.base) I.ok.mod.kin hk hall (thn (hkw.run pos pins s σ H (fun vs H1 => spF ⟨X.K, none, X.base, X.mg⟩ ps.length F vs.reverse H1 Q fun c od H' => W c od σ H') I ⟨ρ, Γ, S, e, c, GoalG.bind g fun ds S1 vs ρ1 H1 s1 c1 r1 g1 => ?_⟩) fun us s1 ⟨vs, H1, I1, r, q⟩ => ⟨I1.kIn, ?_⟩) hpl
  · obtain ⟨hn, g2⟩ := of_ifR g1
    rw [kx_calm hcalm] at r1 c1 g2
    exact ⟨ρ1, LO L0 O σ, S1, ds.reverse, r1.rev, c1, of_decide_eq_true hn, g2⟩
  · have rr := vals_rev r
    have hl : us.length = ps.length := by rw [← List.length_reverse, ← rr.length]; exact G.len _ _ _ _ q
    rw [hks]
    exact run_G (args := ⟨[], ps.reverse.zip us⟩) G hr gd (hb s1 us I1.kIn hl) (passAt tk σ) I1 rr q⟩
end
end Pv
namespace Pv
open PySem PySem.Spec PyProof.Rows L2
variable [Tf]
theorem meets_enum1 {v : Value} {o : Obj} {H : Heap → Prop} (B : Begins v o H) :
    Meets (Builtin.«enumerate.__new__» ⟨[.type "enumerate", v], []⟩) (fun _ R s => H s.heap ∧
      R (.ok (.ret (.ref (s.heap.push o).objs.size))) { s with heap := (s.heap.push o).push { cls := .type "enumerate", data := .fields #[.none, .bool false, .ref s.heap.objs.size, rawInt 0, .none, .none] } }) :=
  .of_wp fun prog w A R s h => by
    obtain ⟨hp, g, d, tk, os⟩ := s; obtain ⟨h1, h⟩ := h
    have hsub := sub_enumerate
    have q1 : ∀ {A' : Around} {E : Value → Shared → Prop} {Q : Value → Shared → Prop}, Q (.ref hp.objs.size) ⟨hp.push o, g, d, tk, os⟩ → wpAny (model prog w) A' (pyIter v) Q E ⟨hp, g, d, tk, os⟩ :=
      fun q => B.iter prog w _ _ ⟨hp, g, d, tk, os⟩ _ h1 q
    wp_walk using q1
    refine wpAny_stack_any fun st => wpAny_pure ?_
    split
    · rename_i c _ _ _ _ _
      cases (c == Value.type "enumerate")
      · wp_walk using q1
        exact ⟨_, rfl, h⟩
      · wp_walk using q1
        exact ⟨_, rfl, h⟩
    · wp_walk using q1
      exact ⟨_, rfl, h⟩
section
variable {prog : Program} {w : World} {A : Around} {E : Value → Shared → Prop} {s : Shared}
theorem enum_begins1 {v : Value} {o : Obj} {H : Heap → Prop} {Q : Value → Shared → Prop} (B : Begins v o H) (h1 : H s.heap)
    (h : ∀ h', IsEnum h' (s.heap.objs.size + 1) s.heap.objs.size 0 .none → h'.get? s.heap.objs.size = some o → h'.objs.size = s.heap.objs.size + 2 →
      (∀ b o, s.heap.get? b = some o → h'.get? b = some o) → Q (.ref (s.heap.objs.size + 1)) { s with heap := h' }) :
    wpAny (model prog w) A (call (.type "enumerate") [v]) Q E s := by
  refine callType_new F.called_enumerate (by decide) (F.typeCall_enumerate_1 _) (F.newCall_enumerate_1 _) (fun obj => F.args_object_init_2 obj _) F.entry_enumerate_new
    (meets_enum1 B) ⟨h1, ?_⟩
  have hz : (s.heap.push o).objs.size = s.heap.objs.size + 1 := Heap.size_push ..
  show _ ∧ _
  rw [hz]
  have he : IsEnum ((s.heap.push o).push { cls := .type "enumerate", data := .fields #[.none, .bool false, .ref s.heap.objs.size, rawInt 0, .none, .none] }) (s.heap.objs.size + 1) s.heap.objs.size 0 .none := by
    have := Heap.get?_push_size (s.heap.push o) (o := { cls := .type "enumerate", data := .fields #[.none, .bool false, .ref s.heap.objs.size, rawInt 0, .none, .none] }) rfl
    rw [hz] at this; exact this
  exact ⟨⟨_, he, rfl⟩, h _ he (Heap.get?_push_of_some _ (Heap.get?_push_size _ B.free)) (by rw [Heap.size_push, hz]) fun b o x => Heap.get?_push_of_some _ (Heap.get?_push_of_some _ x)⟩
end
/-- enumerate of the tuple at a -/
def Iet (K : PySem.W.Frag) (a : Addr) (vs : List V) : It :=
  ⟨fun i H => SqT K H a vs ∧ i < vs.length, fun i H v H' => ∃ T x, v = .ref T ∧ H T = none ∧ H' = upd H T (.tup [.int (i : Nat), x]) ∧ vs[i]? = some x, fun i H => SqT K H a vs ∧ i = vs.length⟩
theorem turn_enumT {P : Program} {w : World} {K : PySem.W.Frag} {elts : List Expr} {kk : Nat} {tpos : Pos} (a e it : Addr) (vs : List V) :
    Turn P w K (.Tuple elts kk tpos) (Iet K a vs) [e, it] e (fun i h => (∃ old, IsEnum h e it ((i : Nat) : Int) old) ∧ h.IsTupleIter it a i ∧ e ≠ it ∧ e ≠ a ∧ it ≠ a) where
  mem := by simp
  obj := fun i h st b hb => by
    obtain ⟨⟨old, he⟩, ⟨o, ho, hc, hd⟩, _⟩ := st
    have e' : b = e ∨ b = it := by simpa using hb
    rcases e' with z | z
    · rw [z]; exact ⟨_, he, fun v q => nomatch q⟩
    · rw [z]; exact ⟨o, ho, fun v q => by rw [hd] at q; cases q⟩
  keep := fun i h h' st k => let ⟨⟨old, he⟩, hi, hne⟩ := st; ⟨⟨old, k e (by simp) _ he⟩, hi.at fun o q => k it (by simp) o q, hne⟩
  item := by
    intro X hP hw hK hc i pins s σ H E I hf st hg
    subst hP hw hK
    obtain ⟨⟨old, he⟩, hit, hne, hea, hia⟩ := st
    obtain ⟨hq, hi⟩ := hg
    obtain ⟨its, rv, p, hz⟩ := I.tuple hq
    have hl := rv.length
    have hel : e < s.heap.objs.size := Heap.lt_size he
    have hil : it < s.heap.objs.size := by obtain ⟨_, q, _⟩ := hit; exact Heap.lt_size q
    have hh : X.A.in1.handled = none := I.ok.hd hc
    have D := Draws.tuple (prog := X.prog) (w := X.w) (A := X.A.in1) hh it a (Ne.symm hia) its.toArray
    have pt : s.heap.IsTuple a its.toArray := p
    refine wpAny_pyNext_enum_itemD D he ⟨hit, pt⟩ (by rw [List.size_toArray]; omega) hne (by simp [hne, hea]) fun u h' tk hP ho hs' hT hsz hk => ?_
    obtain ⟨hit', _⟩ := hs'
    obtain ⟨x, hx⟩ : ∃ x, vs[i]? = some x := ⟨vs[i], List.getElem?_eq_getElem hi⟩
    obtain ⟨u', hu', ru⟩ := rv.get hx
    have eu : u = u' := by
      have : its.toArray[i]? = some u := hP
      rw [List.getElem?_toArray, hu'] at this
      exact (Option.some.inj this).symm
    subst eu
    refine ⟨_, rfl, wpAny_letOwnedTupleGo_enum (s := { s with heap := h', toks := tk + 1 }) ho fun h'' he' sb => ?_⟩
    have hT2 : h''.get? s.heap.objs.size = some { cls := .type "tuple", data := .seq #[.int i tk, u] } := (sb.2 _ (Nat.ne_of_gt hel)).trans hT
    have new : ObjOk X.prog X.w (upd H s.heap.objs.size (.tup [.int (i : Nat), x])) h'' s.heap.objs.size (.tup [.int (i : Nat), x]) :=
      ⟨by show 2 ≤ sizeLine; decide, [.int i tk, u], .cons ⟨_, rfl⟩ (.cons ru .nil), ⟨_, hT2, rfl, _, rfl⟩⟩
    have I1 : Inv X pins σ (upd H s.heap.objs.size (.tup [.int (i : Nat), x])) { s with heap := h'', toks := tk + 1 } :=
      I.turnedNew (ch := [e, it]) (fun b ob hb q => (sb.2 b (fun z => hb (by simp [z]))).trans (hk b ob (fun z => hb (by simp [z])) (fun z => hb (by simp [z])) q)) hf (Nat.le_refl _) new
    refine ⟨.ref s.heap.objs.size, _, I1, rfl, ⟨_, x, rfl, I.hok.fresh (Nat.le_refl _), rfl, hx⟩, ⟨⟨u, ?_⟩, hit'.at fun o q => (sb.2 it (Ne.symm hne)).trans q, hne, hea, hia⟩, fun b hb => ?_⟩
    · have e1 : ((i + 1 : Nat) : Int) = (i : Int) + 1 := by omega
      rw [e1]; exact he'
    · have hb' : b < s.heap.objs.size := by
        have e' : b = e ∨ b = it := by simpa using hb
        rcases e' with z | z
        · rw [z]; exact hel
        · rw [z]; exact hil
      rw [upd_ne (Nat.ne_of_lt hb')]
      exact (hf b hb).1
  done := by
    intro X hP hw hK hc i pins s σ H E I hf st hg
    subst hP hw hK
    obtain ⟨⟨old, he⟩, hit, hne, hea, hia⟩ := st
    obtain ⟨hq, hi⟩ := hg
    obtain ⟨its, rv, p, hz⟩ := I.tuple hq
    obtain ⟨f0, f1, f2, f3, f4, f5⟩ := hf it (by simp)
    have hl := rv.length
    have hh : X.A.in1.handled = none := I.ok.hd hc
    have D := Draws.tuple (prog := X.prog) (w := X.w) (A := X.A.in1) hh it a (Ne.symm hia) its.toArray
    have pt : s.heap.IsTuple a its.toArray := p
    have ei : its.toArray.size = i := by rw [List.size_toArray]; omega
    exact wpAny_pyNext_enum_endD D (i := i) he (by rw [ei]; exact ⟨hit, pt⟩) fun h' eb => ⟨rfl, I.turned (t' := s.toks) (fun b o hb q => eb b o hb q) f0 f1 f3 f4 f5⟩
  self := fun A i s Q E st h => let ⟨⟨_, he⟩, _⟩ := st; wpAny_pyIter_enum he h
def iEnumT (K : PySem.W.Frag) (ta : TA) : TI := fun σ H R => ta σ H fun vs H1 => ∃ a xs, vs = [.ref a] ∧ ((SqL K H1 a xs ∧ R (Ite K a) H1) ∨ (SqT K H1 a xs ∧ R (Iet K a xs) H1))
theorem pi_enumT {X : Cx} {e : Expr} {ta : TA} {p pos tpos : Pos} {elts : List Expr} {kk : Nat} (hg : Gl X "enumerate") (hm : X.mg "enumerate" = none) (ha : PA X [e] ta) (hs : starEach [e] X.env = [(false, eval e X.env)] := by rfl) :
    PI X (.Tuple elts kk tpos) (.Call (.Name "enumerate" p) [e] [] pos) (iEnumT X.K ta) := by
  refine ⟨fun pins s σ H R I h => ?_⟩
  refine Call_ (ld_blt I hg hm boot_enumerate (PyProof.Rows.callWith_type1 (thn (ha.run pos pins s σ H _ I h) fun us s1 ⟨vs, H1, I1, r1, q1⟩ => ?_) hs rfl))
  obtain ⟨a, xs, ex, q⟩ := q1
  subst ex
  cases r1 with
  | cons r rr =>
    cases rr
    cases r
    have fp : ∀ b ∈ [s1.heap.objs.size + 1, s1.heap.objs.size], s1.heap.objs.size ≤ b := fun b hb => by
      have e' : b = s1.heap.objs.size + 1 ∨ b = s1.heap.objs.size := by simpa using hb
      rcases e' with z | z
      · rw [z]; exact Nat.le_add_right _ _
      · rw [z]; exact Nat.le_refl _
    rcases q with ⟨hq, q⟩ | ⟨hq, q⟩
    · obtain ⟨its, rv, p', hz⟩ := I1.list hq
      refine call_enumerate_list p'.isList fun h' he hit hsz hk => wpAny_pyIter_enum he ?_
      have I2 : Inv X pins σ H1 { s1 with heap := h' } := I1.kept (t' := s1.toks) hk
      exact ⟨s1.heap.objs.size + 1, [s1.heap.objs.size + 1, s1.heap.objs.size], _, _, H1, rfl, I2, turn_enum a (s1.heap.objs.size + 1) s1.heap.objs.size, ⟨⟨.none, he⟩, hit, Nat.succ_ne_self _⟩, fun b hb => I1.fpOk (fp b hb) (I1.hok.fresh (fp b hb)), q⟩
    · obtain ⟨its, rv, p', hz⟩ := I1.tuple hq
      have pt : s1.heap.IsTuple a its.toArray := p'
      have hal : a < s1.heap.objs.size := p'.lt
      refine enum_begins1 (begins_tuple a its.toArray) pt fun h' he hit hsz hk => wpAny_pyIter_enum he ?_
      have I2 : Inv X pins σ H1 { s1 with heap := h' } := I1.kept (t' := s1.toks) hk
      have hit2 : h'.IsTupleIter s1.heap.objs.size a 0 := ⟨_, hit, rfl, rfl⟩
      exact ⟨s1.heap.objs.size + 1, [s1.heap.objs.size + 1, s1.heap.objs.size], _, _, H1, rfl, I2, turn_enumT a (s1.heap.objs.size + 1) s1.heap.objs.size xs, ⟨⟨.none, he⟩, hit2, Nat.succ_ne_self _, (by have z : a < s1.heap.objs.size := hal; exact Nat.ne_of_gt (Nat.lt_succ_of_lt z)), (by have z : a < s1.heap.objs.size := hal; exact Nat.ne_of_gt z)⟩, fun b hb => I1.fpOk (fp b hb) (I1.hok.fresh (fp b hb)), q⟩
theorem walk_enumT {K : PySem.W.Frag} {a : Addr} {vs : List V} : Walk (Iet K a vs) vs.length (fun H => SqT K H a vs) (YPair (fun i => some (.int (i : Nat))) (fun i => vs[i]?)) := by
  refine ⟨fun i _ hi q => ⟨q, hi⟩, fun _ q => ⟨q, rfl⟩, fun i H v H' _ q y => ?_⟩
  obtain ⟨T, x, h1, h2, h3, h4⟩ := y
  exact ⟨T, .int (i : Nat), x, h1, h2, h3, rfl, h4⟩
section
variable {X : Cx} {K : KX} {ρ ρ' : List Addr} {L0 L L' : Addr → Prop} {O O' Ob : List Nat} {H H' : Hp} {S : Sto} {W : WX} {σ : L2.St} {Γ : Env'} {pos p2 : Pos} {e a b : Expr} {m ma mb : EM} {gs : List Nat}
def enumGo : Nat → List D → List D
  | _, [] => []
  | i, d :: ds => .tup [.int i, d] :: enumGo (i + 1) ds
theorem enumGo_len : ∀ {ds : List D} {i : Nat}, (enumGo i ds).length = ds.length
  | [], _ => rfl
  | d :: ds, i => by unfold enumGo; rw [List.length_cons, List.length_cons, enumGo_len]
theorem enumGo_get : ∀ {ds : List D} {i j : Nat} {x : D}, (enumGo i ds)[j]? = some x → ∃ d, ds[j]? = some d ∧ x = .tup [.int ((i + j : Nat) : Int), d]
  | [], _, _, _, h => by unfold enumGo at h; cases h
  | d :: ds, i, 0, x, h => by unfold enumGo at h; cases h; exact ⟨d, rfl, rfl⟩
  | d :: ds, i, j + 1, x, h => by
    unfold enumGo at h
    obtain ⟨d', h1, h2⟩ := enumGo_get (ds := ds) (i := i + 1) (j := j) (by simpa using h)
    exact ⟨d', by simpa using h1, by rw [h2]; congr 3; omega⟩
def iEnum' (n : LM) : LM := fun Γ S => (n Γ S).bind fun ds S1 => match ds with
  | [d] => (match d.items with
    | some xs => .val (enumGo 0 xs) S1
    | none => .stuck)
  | _ => .stuck
theorem Src.pairs {J : It} {ds : List D} {vs : List V} {G : Hp → Prop} (w : Walk J vs.length G (YPair (fun i => some (.int (i : Nat))) (fun i => vs[i]?))) (hG : ∀ M ρ2 H2, StepM M ρ ρ2 H H2 → (∀ a, M a → L a) → G H2) (r : Reps K ρ L H ds vs) : Src K ρ L J (enumGo 0 ds) H := by
  refine ⟨G, _, by rw [enumGo_len, r.length]; exact w, hG, fun i M ρ2 H2 x H3 L2 d s hM w2 _ y hd => ?_⟩
  obtain ⟨T, x1, x2, rfl, hT, rfl, h1, h2⟩ := y
  cases h1
  refine ⟨.inr ⟨T, _, hT, rfl⟩, ?_⟩
  obtain ⟨d', hd', rfl⟩ := enumGo_get hd
  obtain ⟨u, hu, ru⟩ := Reps.get r hd'
  replace h2 : vs[i]? = some x2 := h2
  rw [hu] at h2
  cases h2
  have rr : Rep K ρ (fun a => L a ∨ L2 a) H d' x2 := Rep.more (fun a z => z.elim .inl (w2 a)) _ _ ru
  have r3 := Rep.weak (L' := L2) (fun a z => .inr z) _ _ (Rep.stepM s (fun a z => .inl (hM a z)) _ _ rr)
  have st : Step ρ2 ρ2 H2 (upd H2 T (.tup [.int (i : Nat), x2])) := Step.laid hT
  unfold Rep
  refine ⟨T, _, rfl, SqT.of upd_same, Reps.cons ?_ (Reps.cons (Rep.step st _ _ r3) Reps.nil)⟩
  rw [Nat.zero_add]
  exact rep_int
theorem ji_enum {elts : List Expr} {kk : Nat} {tpos p : Pos} {n : LM} (hg : Gl X "enumerate") (hm : X.mg "enumerate" = none) (ha : JA X W L0 O [e] n) (hs : starEach [e] X.env = [(false, eval e X.env)] := by rfl) : JI X W L0 O (.Tuple elts kk tpos) (.Call (.Name "enumerate" p) [e] [] pos) (iEnum' n) :=
  PI.imp (pi_enumT hg hm ha hs) fun σ H R h => by
    obtain ⟨ρ, Γ, S, e, c, g⟩ := h
    refine ⟨ρ, Γ, S, e, c, GoalG.bind g fun ds S1 vs ρ' H' s c' r g1 => ?_⟩
    split at g1
    · rename_i d
      obtain ⟨v, rfl, q⟩ := r.one_inv
      split at g1
      · rename_i xs hx
        cases d with
        | lst ys =>
          cases hx
          obtain ⟨a, us, rfl, h1, h2, h3, r2⟩ := q.lst_inv
          exact ⟨a, us, rfl, .inl ⟨SqL.of h1, g1 _ ρ' H' .refl c' (Src.pairs walk_enum (fun M ρ2 H2 s2 hM => sql_step (K := X.kx) s2 h1 h2 fun z => h3 (hM a z)) r2)⟩⟩
        | frz ys =>
          cases hx
          obtain ⟨a, us, rfl, h1, r2⟩ := q.frz_inv
          exact ⟨a, us, rfl, .inl ⟨sql_frz h1, g1 _ ρ' H' .refl c' (Src.pairs walk_enum (fun M ρ2 H2 s2 _ => frz_step (K := X.kx) s2 h1) r2)⟩⟩
        | tup ys =>
          cases hx
          obtain ⟨a, us, rfl, h1, r2⟩ := q.tup_inv
          exact ⟨a, us, rfl, .inr ⟨h1, g1 _ ρ' H' .refl c' (Src.pairs walk_enumT (fun M ρ2 H2 s2 _ => SqT.step (K := X.kx) s2 h1) r2)⟩⟩
        | _ => cases hx
      · exact g1.elim
    · exact g1.elim
end
end Pv
namespace Pv
open PySem PySem.Spec PyProof.Rows L2
variable [Tf]
section
variable {X : Cx} {K : KX} {ρ ρ' : List Addr} {L0 L L' : Addr → Prop} {O O' Ob : List Nat} {H H' : Hp} {S : Sto} {W : WX} {σ : L2.St} {Γ : Env'} {pos p2 : Pos} {e a b : Expr} {m ma mb : EM} {gs : List Nat}
/-! ### isinstance(e, C), e the exception of the suite -/
def rIsX (K : PySem.W.Frag) (a : Addr) (cls : Value) (od : Option Addr) : List V → Hp → VK → Prop := fun xs H Q => ∃ (c : V) (cv : Value) (b : Bool) (D : Addr), xs = [.ref a, c] ∧ cls = .ref D ∧ ExcC K D ∧ (od = none ∨ ∃ dd vs, od = some dd ∧ H dd = some (.xd vs)) ∧ (∀ u, RelV c u → u = cv) ∧ PySem.W.kitOne K (.ref D) cv = some b ∧ Q (.bl b) H
theorem call_isX {at_ : Addr} {oe : Obj} {pn : List (Addr × Obj)} (hf : ∃ vs, oe.data = .fields vs) : CallR (X.suite at_ ((at_, oe) :: pn)) (.builtin "isinstance") (rIsX X.K at_ oe.cls oe.dict) := by
  intro pins s σ H xs us Q I r h
  obtain ⟨c, cv, b, D, rfl, hcl, C, hod, hcv, e, q⟩ := h
  cases r with
  | cons rx rr =>
    cases rr with
    | cons rt rr =>
      cases rr
      cases rx
      have ec := hcv _ rt
      subst ec
      obtain ⟨hget, _⟩ := I.pin (at_, oe) (List.mem_append.mpr (.inl List.mem_cons_self))
      obtain ⟨vs, hv⟩ := hf
      obtain ⟨cd, hcd, _⟩ := PySem.W.any_some C.hd
      have hc0 : (PySem.W.clsIn X.K D).isSome = true := by rw [hcd]; rfl
      have nc : PySem.W.notCls oe = true := by unfold PySem.W.notCls; rw [hv] <;> rfl
      rcases hod with ho | ⟨dd, fs, ho, hx⟩
      · have J : PySem.W.InstAt s.heap at_ oe D none := ⟨hget, hcl, nc, by rw [ho]; trivial⟩
        exact PySem.W.kia_one (PySem.W.kitx_exc hc0 C.hg C.hk C.hs C.ha C.hn C.ht C.hm) I.kIn J e (fun z => nomatch z) fun tk => ⟨.bl b, H, I.kept (t' := tk) fun _ _ z => z, rfl, q⟩
      · have hx' : ObjOk X.prog X.w H s.heap dd (.xd fs) := I.hok dd _ hx
        obtain ⟨mA, hns, hr⟩ := hx'
        obtain ⟨od, hg, hl⟩ := lookIn_ns hns
        have J : PySem.W.InstAt s.heap at_ oe D (some od) := ⟨hget, hcl, nc, by rw [ho]; exact hg⟩
        exact PySem.W.kia_one (PySem.W.kitx_exc hc0 C.hg C.hk C.hs C.ha C.hn C.ht C.hm) I.kIn J e (fun z => nomatch z) fun tk => ⟨.bl b, H, I.kept (t' := tk) fun _ _ z => z, rfl, q⟩
def eIsX (m : EM) (tab : Str → Option Bool) : EM := fun Γ S => (m Γ S).bind fun d S1 => match d with
  | .exc c _ => (match tab c with
    | some b => .val (.bl b) S1
    | none => .stuck)
  | _ => .stuck
/-- c: an own class (.fn) or a built-in one (.ty), written as a name -/
theorem je_isX {at_ : Addr} {oe : Obj} {pn : List (Addr × Obj)} {ce : Expr} {dc : D} {vc : V} {cv : Value} {tab : Str → Option Bool} {p : Pos} (hf : ∃ vs, oe.data = .fields vs) (he : JE (X.suite at_ ((at_, oe) :: pn)) W L0 O e m) (hc : JE (X.suite at_ ((at_, oe) :: pn)) W L0 O ce (eC dc))
    (hd : ∀ ρ L H v, Rep (X.suite at_ ((at_, oe) :: pn)).kx ρ L H dc v → v = vc) (hcv : ∀ u, RelV vc u → u = cv)
    (ht : ∀ c b, tab c = some b → ExcC X.K (He.ga X.K c) ∧ PySem.W.kitOne X.K (.ref (He.ga X.K c)) cv = some b) (hg : Gl (X.suite at_ ((at_, oe) :: pn)) "isinstance") (hm : X.mg "isinstance" = none)
    (hs1 : starEach [e, ce] X.env = (false, eval e X.env) :: starEach [ce] X.env := by rfl) (hs2 : starEach [ce] X.env = (false, eval ce X.env) :: starEach [] X.env := by rfl) (hpl : (backTo pos (starEach [ce] X.env)).any (·.1) = false := by rfl) :
    JE (X.suite at_ ((at_, oe) :: pn)) W L0 O (.Call (.Name "isinstance" p) [e, ce] [] pos) (eIsX m tab) := by
  have ja : JA (X.suite at_ ((at_, oe) :: pn)) W L0 O [e, ce] (aCons m (aCons (eC dc) aNil)) := ja_cons he (ja_cons hc ja_nil hs2) hs1
  have H1 : PE (X.suite at_ ((at_, oe) :: pn)) (.Call (.Name "isinstance" p) [e, ce] [] pos) _ := pe_callB (call_isX (X := X) (pn := pn) hf) hg hm (by rfl) ja (by decide) (by decide) hs1 hpl
  refine PE.imp H1 fun σ H Q h => ?_
  obtain ⟨ρ, Γ, S, ev, c, g⟩ := h
  refine ⟨ρ, Γ, S, ev, c, ?_⟩
  unfold eIsX at g
  unfold aCons
  cases hmm : m Γ S with
  | stuck => rw [hmm] at g; exact g
  | exn x S1 => rw [hmm] at g; exact g
  | val d S1 =>
    rw [hmm, R.bind_val] at g
    rw [R.bind_val]
    split at g
    · rename_i cc fs
      split at g
      · rename_i bb hb
        obtain ⟨C, hk⟩ := ht _ _ hb
        intro vs ρ' H' st c' r
        obtain ⟨v, w, rfl, r1, r2⟩ := r.two_inv
        have e2 := hd _ _ _ _ r2
        subst e2
        have r1' := r1
        rw [kx_suite] at r1'
        unfold Rep at r1'
        obtain ⟨a', cls', od', e1, e2, e3, q⟩ := r1'
        cases e1
        refine ⟨_, cv, bb, _, by rw [e2], e3, C, ?_, hcv, hk, g _ ρ' H' st c' rep_bl⟩
        rcases q with ⟨_, q⟩ | ⟨dd, vs, q1, q2, _⟩
        · exact .inl q
        · exact .inr ⟨dd, vs, q1, q2⟩
      · exact g.elim
    · exact g.elim
/-! ### repr -/
def reprN : PN := fun ds S => match ds with
  | [d] => (match d.py with
    | some p => ifR (p.showable && decide (p.hasDict = false) && decide (p.depth ≤ 64) && decide (p.shown.length ≤ sizeLine)) (.val (.str p.shown) S)
    | none => .stuck)
  | _ => .stuck
def rRepr (K : PySem.W.Frag) : List V → Hp → VK → Prop := fun xs H Q => ∃ v p, xs = [v] ∧ Dp K H v p ∧ p.showable = true ∧ p.hasDict = false ∧ p.depth ≤ 64 ∧ p.shown.length ≤ sizeLine ∧ Q (.str p.shown) H
theorem call_repr (gd : X.A.guards = some []) (hu : X.A.units + 70 < cLine) : CallR X (.builtin "repr") (rRepr X.K) := by
  intro pins s σ H xs us Q I r h
  obtain ⟨v, p, rfl, hd, h1, h2, h3, h4, q⟩ := h
  cases r with
  | cons rx rr =>
    cases rr
    rename_i u
    obtain ⟨as, rd⟩ := Dp.reads I p v u hd rx
    have fin : ∀ (h' : Heap) (t' tk : Tok), (∀ b o, s.heap.get? b = some o → h'.get? b = some o) → EP X pins σ Q (.str p.shown t') { s with heap := h', toks := tk } := fun h' t' tk hk => ⟨.str p.shown, H, I.kept hk, ⟨_, rfl⟩, q⟩
    have key : ∀ (a : Addr), u = .ref a → wpAny (model X.prog X.w) X.A (call (.builtin "repr") [u]) (EP X pins σ Q) X.xe s := fun a e => by
      subst e
      exact repr_of_reads' rd h1 (PyData.noDict_hsm h2) gd (by omega) (fun _ _ e => e) (fun h' t' tk hk => fin h' t' tk hk) h4
    cases rd with
    | none => exact PySem.P.repr_of_none (fin s.heap _ _ fun _ _ e => e)
    | bool b => exact PySem.P.repr_of_bool (fin s.heap _ _ fun _ _ e => e)
    | int i t => exact PySem.P.repr_of_int (by simpa [PyData.showable] using h1) (fin s.heap _ _ fun _ _ e => e)
    | str x t => exact PySem.P.repr_of_str (fin s.heap _ _ fun _ _ e => e) h4
    | list => exact key _ rfl
    | tuple => exact key _ rfl
    | dict => exact key _ rfl
theorem prim_repr : PrimN K reprN (rRepr K.fr) := by
  intro ρ L H S ds vs Q QX r c g
  unfold reprN at g
  split at g
  · obtain ⟨v, rfl, q⟩ := r.one_inv
    split at g
    · rename_i p hp
      obtain ⟨h, g⟩ := of_ifR g
      simp only [Bool.and_eq_true, decide_eq_true_eq] at h
      obtain ⟨⟨⟨h1, h2⟩, h3⟩, h4⟩ := h
      exact ⟨v, p, rfl, Rep.dp _ _ _ q hp, h1, h2, h3, h4, GoalG.val g c rep_str⟩
    · exact g.elim
  · exact g.elim
end
end Pv
namespace Pv
open PySem PySem.Spec PyProof.Rows L2
variable [Tf]
section
variable {X : Cx} {K : KX} {ρ ρ' : List Addr} {L0 L L' : Addr → Prop} {O O' Ob : List Nat} {H H' : Hp} {S : Sto} {W : WX} {σ : L2.St} {Γ : Env'} {pos p2 p3 p4 : Pos} {e a b : Expr} {m ma mb : EM} {gs : List Nat}
def negM (m : EM) : EM := fun Γ S => (m Γ S).bind fun d S1 => match d with
  | .int i => .val (.int (-i)) S1
  | _ => .stuck
theorem je_neg (h : JE X W L0 O e m) : JE X W L0 O (.UnaryOp .USub e pos) (negM m) := PE.imp (pe_un un_neg h) fun σ H Q hq => by
  obtain ⟨ρ, Γ, S, e, c, g⟩ := hq
  refine ⟨ρ, Γ, S, e, c, GoalG.bind g fun d S1 v ρ1 H1 s1 c1 r1 g1 => ?_⟩
  split at g1
  · exact ⟨_, r1.int_inv, GoalG.val g1 c1 rep_int⟩
  · exact g1.elim
/-- z[::-1] -/
def revS (z : Str) : Str := ⟨((Builtin.Str.strSliceIndices none none (-1) z.length).filterMap (z.cps[·]?)).toArray⟩
theorem revS_le (z : Str) : (revS z).length ≤ z.length := by
  show (List.filterMap _ (Builtin.Str.strSliceIndices none none (-1) z.length)).toArray.size ≤ z.length
  rw [List.size_toArray]
  exact Nat.le_trans (List.length_filterMap_le _ _) (sliceIndicesBy_le _ _ _ (by decide) z.length)
def eRev (m : EM) : EM := fun Γ S => (m Γ S).bind fun d S1 => match d with
  | .str z => ifR (decide (z.length ≤ sizeLine)) (.val (.str (revS z)) S1)
  | .lst ds => .val (.lst ds.reverse) S1
  | .tup ds => .val (.tup ds.reverse) S1
  | _ => .stuck
/-! a tuple, from behind -/
theorem filterMap_some {α β : Type} {f : α → Option β} {g : α → β} : ∀ {l : List α}, (∀ m ∈ l, f m = some (g m)) → l.filterMap f = l.map g
  | [], _ => rfl
  | a :: l, h => by
    rw [List.filterMap_cons, h a List.mem_cons_self, List.map_cons, filterMap_some fun m hm => h m (List.mem_cons_of_mem _ hm)]
theorem rev_pick (xs : Array Value) : ((List.range xs.size).filterMap fun (m : Nat) => xs[(((xs.size : Int) - 1) + (m : Int) * (-1)).toNat]?).toArray = xs.toList.reverse.toArray := by
  congr 1
  refine List.ext_getElem? fun i => ?_
  have hf : (List.range xs.size).filterMap (fun (m : Nat) => xs[(((xs.size : Int) - 1) + (m : Int) * (-1)).toNat]?) = (List.range xs.size).map fun m => xs.toList.reverse.getD m .none := by
    refine filterMap_some fun m hm => ?_
    rw [List.mem_range] at hm
    have e : (((xs.size : Int) - 1) + (m : Int) * (-1)).toNat = xs.size - 1 - m := by omega
    rw [e, Array.getElem?_eq_getElem (by omega), List.getD_eq_getElem?_getD, List.getElem?_reverse (by rw [Array.length_toList]; exact hm), Array.length_toList, Array.getElem?_toList, Array.getElem?_eq_getElem (by omega)]
    rfl
  rw [hf, List.getElem?_map]
  by_cases h : i < xs.size
  · rw [List.getElem?_range h]
    show some (xs.toList.reverse.getD i .none) = _
    have hl : i < xs.toList.reverse.length := by rw [List.length_reverse, Array.length_toList]; exact h
    rw [List.getElem?_eq_getElem hl, List.getD_eq_getElem?_getD, List.getElem?_eq_getElem hl]
    rfl
  · rw [List.getElem?_eq_none (by rw [List.length_range]; omega), List.getElem?_eq_none (by rw [List.length_reverse, Array.length_toList]; omega)]
    rfl
theorem rev_places (n : Nat) : Builtin.Slice.slicePlaces ((n : Int) - 1) (-1) (-1) = n := by
  unfold Builtin.Slice.slicePlaces
  rw [if_neg (by decide)]
  split
  · rw [show (-(-1) : Int) = 1 from rfl, Int.ediv_one]
    omega
  · show (0 : Int).toNat = n
    have : n = 0 := by omega
    rw [this]
    rfl
section
variable {prog : Program} {w : World} {A : Around} {E : Value → Shared → Prop} {s : Shared}
theorem rev_applied {sl : Addr} {vl vu vs : Value} {n : Nat} {Q : Int × Int × Nat → Shared → Prop} (hs : s.heap.IsSliceOf sl vl vu vs) (pl : IsPart vl none) (pu : IsPart vu none) (ps : IsPart vs (some (-1)))
    (h : Q ((n : Int) - 1, -1, n) s) : wpAny (model prog w) A (Builtin.Slice.sliceApplied (.ref sl) (pure (n : Int))) Q E s := by
  obtain ⟨os, hos, hcs, hds⟩ := id hs
  unfold Builtin.Slice.sliceApplied Builtin.Slice.sliceFields
  refine wpAny_bind (wpAny_bind (wpAny_field hos hds (x := vl) rfl (wpAny_bind (wpAny_field hos hds (x := vu) rfl (wpAny_bind (wpAny_field hos hds (x := vs) rfl (wpAny_pure ?_)))))))
  refine wpAny_bind (HT.slicePart_ ps ?_)
  show wpAny _ _ (if ((-1 : Int) == 0) = true then _ else _) _ _ s
  rw [if_neg (by decide)]
  refine wpAny_bind (HT.slicePart_ pl (wpAny_bind (HT.slicePart_ pu (wpAny_bind (wpAny_pure ?_)))))
  show wpAny _ _ (pure ((n : Int) - 1, (-1 : Int), Builtin.Slice.slicePlaces ((n : Int) - 1) (-1) (-1))) _ _ s
  rw [rev_places]
  exact wpAny_pure h
open HT in
theorem getItem_tuple_rev {t sl : Addr} {items : Array Value} {vl vu vs : Value} {Q : Value → Shared → Prop} (ht : IsTup s.heap t items) (hs : s.heap.IsSliceOf sl vl vu vs) (pl : IsPart vl none) (pu : IsPart vu none) (ps : IsPart vs (some (-1)))
    (h : Q (.ref s.heap.objs.size) { s with heap := s.heap.push { cls := .type "tuple", data := .seq items.toList.reverse.toArray } })
    (hsz : items.size ≤ sizeLine) : wpAny (model prog w) A (getItem (.ref t) (.ref sl)) Q E s := by
  have htake : sizeOk (.seq items.toList.reverse.toArray) := by
    show items.toList.reverse.toArray.size ≤ sizeLine
    rw [List.size_toArray, List.length_reverse, Array.length_toList]
    omega
  obtain ⟨os, hos, hcs, hds⟩ := id hs
  have hTs : s.TypeIs (.ref sl) "slice" := ⟨os, hos, hcs⟩
  unfold getItem
  try with_reducible refine wpAny_holding ?_
  first | refine wpAny_bind (wpAny_pure ?_) | skip
  refine wpAny_bind (wpAny_sequenceKey ht.typeIs (by decide) ?_)
  refine wpAny_bind (wpAny_callSpecial?_slot (name := Str.ofString "__getitem__") ht.typeIs PyProof.Rows.slot_tuple_getitem
    (wpAny_call_entry PyProof.Rows.slot_tuple_getitem ht.typeIs entry_tuple_getitem ?_ (args_tuple_getitem _ _)))
  show wpAny _ _ (Builtin.Tuple.tupleItemsOf (.ref t) >>= _) _ _ s
  refine wpAny_bind (tupleItemsOf_ ht ?_)
  refine wpAny_bind (wpAny_typeOf hTs ?_)
  rw [if_pos (by decide)]
  refine wpAny_bind (rev_applied hs pl pu ps ?_)
  have hno : ¬ ((((items.size : Int) - 1) == 0 && (-1 : Int) == 1 && items.size == items.size) = true) := by
    intro q
    rw [Bool.and_eq_true, Bool.and_eq_true] at q
    exact absurd (eq_of_beq q.1.2) (by decide)
  show wpAny _ _ (if (((items.size : Int) - 1) == 0 && (-1 : Int) == 1 && items.size == items.size) = true then _ else _) _ _ s
  rw [if_neg hno, rev_pick]
  first
    | exact wpAny_bind (m := Builtin.Tuple.tupleExact _) (wpAny_newObj_type (wpAny_pure ⟨_, rfl, wpAny_pure h⟩) htake)
    | exact wpAny_bind (m := Builtin.Tuple.tupleExact _) (wpAny_newObj_type (wpAny_bind (wpAny_pure (wpAny_pure ⟨_, rfl, wpAny_pure h⟩))) htake)
    | exact wpAny_bind (wpAny_bind (m := Builtin.Tuple.tupleExact _) (wpAny_newObj_type (wpAny_pure (wpAny_pure ⟨_, rfl, wpAny_pure h⟩)) htake))
    | exact wpAny_bind (wpAny_bind (m := Builtin.Tuple.tupleExact _) (wpAny_newObj_type (wpAny_pure ⟨_, rfl, wpAny_pure h⟩) htake))
end
def rRev (K : PySem.W.Frag) (v : V) (H : Hp) (Q : VK) : Prop := (∃ z, v = .str z ∧ z.length ≤ sizeLine ∧ Q (.str (revS z)) H) ∨ (∃ a xs, v = .ref a ∧ SqL K H a xs ∧ ∀ p, H p = none → Q (.ref p) (upd H p (.lst xs.reverse))) ∨
  (∃ a xs, v = .ref a ∧ SqT K H a xs ∧ ∀ p, H p = none → Q (.ref p) (upd H p (.tup xs.reverse)))
theorem je_revS {j : Nat} (he : JE X W L0 O e m) : JE X W L0 O (.Subscript e (.Slice none none (some (.UnaryOp .USub (.Constant (.int 1) j p4) p3)) p2) pos) (eRev m) := ⟨fun pins s σ H Q I h => by
  obtain ⟨ρ, Γ, S, ev, c, g⟩ := h
  refine Subscript_ (thn (he.run pins s σ H (fun v H1 => rRev X.K v H1 Q) I ⟨ρ, Γ, S, ev, c, GoalG.bind g fun d S1 v ρ1 H1 s1 c1 r1 g1 => ?_⟩) fun v s1 ⟨x, H1, I1, r1, hr⟩ => ?_)
  · split at g1
    · obtain ⟨hz, g2⟩ := of_ifR g1
      exact .inl ⟨_, r1.str_inv, of_decide_eq_true hz, GoalG.val g2 c1 rep_str⟩
    · obtain ⟨a, vs, rfl, q, _, _, r2⟩ := r1.lst_inv
      exact .inr (.inl ⟨a, vs, rfl, SqL.of q, fun p hp => Goal.lst g1 c1 r2.rev hp⟩)
    · obtain ⟨a, vs, rfl, q, r2⟩ := r1.tup_inv
      exact .inr (.inr ⟨a, vs, rfl, q, fun p hp => Goal.tup g1 c1 r2.rev hp⟩)
    · exact g1.elim
  · rcases hr with ⟨z, q0, hz, q1⟩ | ⟨a, xs, q0, hx, q⟩ | ⟨a, xs, q0, hx, q⟩
    · subst q0
      obtain ⟨tz, rfl⟩ := r1
      refine wpAny_Slice ?_
      rw [evalPart_none]
      refine wpAny_pure (wpAny_pure ?_)
      have pst : PO X (some (.UnaryOp .USub (.Constant (.int 1) j p4) p3)) (tPart (tUn (rU fun i => .int (-i)) (tC (.int 1)))) := po_some (pe_un un_neg pe_int)
      refine thn (pst.run pins s1 σ H1 (fun o H2 => o = some (-1) ∧ H2 = H1) I1 ⟨1, rfl, -1, rfl, rfl, rfl⟩) fun vs s3 ⟨u, H3, I3, pu, q3⟩ => ?_
      obtain ⟨rfl, rfl⟩ := q3
      cases pu with
      | int i t =>
        have I4 : Inv X pins σ H3 { s3 with heap := s3.heap.push { cls := .type "slice", data := .fields #[.none, .none, .int (-1) t] } } := I3.kept (t' := s3.toks) fun b ob q => Heap.get?_push_of_some _ q
        show wpAny (model X.prog X.w) X.A (subscriptTail e (.Slice none none (some (.UnaryOp .USub (.Constant (.int 1) j p4) p3)) p2) (.str z tz) (.ref s3.heap.objs.size)) (EP X pins σ Q) X.xe { s3 with heap := s3.heap.push { cls := .type "slice", data := .fields #[.none, .none, .int (-1) t] } }
        refine tail_any (ops := [.ref s3.heap.objs.size, .str z tz]) (typeIs_str _ _ _) F.slot_str_getitem.lookup ?_ (by with_unfolding_all rfl)
        refine wpAny_getItem_str_slice (l := none) (u := none) (st := some (-1, t)) ⟨_, Heap.get?_push_size _ rfl, rfl, rfl⟩ rfl ?_
        show Made.post (.str (revS z)) _ _
        exact ⟨Nat.le_trans (revS_le z) hz, .str (revS z), H3, I4.tok _, ⟨_, rfl⟩, q1⟩
    all_goals
      subst q0
      cases r1
      have hst : PO X (some (.UnaryOp .USub (.Constant (.int 1) j p4) p3)) (tPart (tUn (rU fun i => .int (-i)) (tC (.int 1)))) := po_some (pe_un un_neg pe_int)
      refine wpAny_Slice (thn (po_none.run pins s1 σ H1 (fun o H2 => o = none ∧ H2 = H1) I1 ⟨rfl, rfl⟩) fun vl s2 ⟨l, H2, I2, pl, el, e2⟩ => ?_)
      subst el e2
      refine thn (po_none.run pins s2 σ H2 (fun o H3 => o = none ∧ H3 = H2) I2 ⟨rfl, rfl⟩) fun vu s3 ⟨u, H3, I3, pu, eu, e3⟩ => ?_
      subst eu e3
      refine thn (hst.run pins s3 σ H3 (fun o H4 => o = some (-1) ∧ H4 = H3) I3 ⟨1, rfl, -1, rfl, rfl, rfl⟩) fun vs s4 ⟨o, H4, I4, ps, eo, e4⟩ => ?_
      subst eo e4
      have I5 : Inv X pins σ H4 { s4 with heap := s4.heap.push { cls := .type "slice", data := .fields #[vl, vu, vs] } } := I4.kept (t' := s4.toks) fun b ob q => Heap.get?_push_of_some _ q
    · obtain ⟨its, r, ht, hz⟩ := I5.list hx
      have hlen := r.length
      show wpAny (model X.prog X.w) X.A (subscriptTail e (.Slice none none (some (.UnaryOp .USub (.Constant (.int 1) j p4) p3)) p2) (.ref a) (.ref s4.heap.objs.size)) (EP X pins σ Q) X.xe { s4 with heap := s4.heap.push { cls := .type "slice", data := .fields #[vl, vu, vs] } }
      refine tail_any (ops := [.ref a, .ref s4.heap.objs.size]) ht.isList.typeIs (PySem.slot_list_getitem.lookup) ?_ (by with_unfolding_all rfl)
      refine wpAny_getItem_list_slice ht.isList (Heap.IsSliceOf.new _ vl vu vs) pl pu ps (by decide) ?_ (by rw [List.size_toArray]; omega)
      rw [PySem.W.krv_pick]
      refine ⟨.ref _, _, I5.laid (t' := s4.toks) (o := .lst xs.reverse) (fun b ob q => Heap.get?_push_of_some _ q) (Nat.le_refl _) ?_, rfl, q _ (I5.hok.fresh (Nat.le_refl _))⟩
      exact ⟨by rw [List.length_reverse]; exact hz, _, 0, r.reverse, Heap.get?_push_size _ rfl⟩
    · obtain ⟨its, r, ht, hz⟩ := I5.tuple hx
      have hlen := r.length
      show wpAny (model X.prog X.w) X.A (subscriptTail e (.Slice none none (some (.UnaryOp .USub (.Constant (.int 1) j p4) p3)) p2) (.ref a) (.ref s4.heap.objs.size)) (EP X pins σ Q) X.xe { s4 with heap := s4.heap.push { cls := .type "slice", data := .fields #[vl, vu, vs] } }
      refine tail_any (ops := [.ref a, .ref s4.heap.objs.size]) ht.typeIs (PyProof.Rows.slot_tuple_getitem.lookup) ?_ (by with_unfolding_all rfl)
      refine getItem_tuple_rev ht (Heap.IsSliceOf.new _ vl vu vs) pl pu ps ?_ (by rw [List.size_toArray]; omega)
      refine ⟨.ref _, _, I5.laid (t' := s4.toks) (o := .tup xs.reverse) (fun b ob q => Heap.get?_push_of_some _ q) (Nat.le_refl _) ?_, rfl, q _ (I5.hok.fresh (Nat.le_refl _))⟩
      exact ⟨by rw [List.length_reverse]; exact hz, _, r.reverse, IsTup.new _ _⟩⟩
/-! ### text.replace('..', '..') in a display, behind an item that gives a token out -/
def tokE (X : Cx) (e : Expr) : Prop := ∀ (s : Shared) (Q : Value → Shared → Prop), wpAny (model X.prog X.w) X.A (eval e X.env) Q X.xe s → wpAny (model X.prog X.w) X.A (eval e X.env) (fun v s1 => 1 ≤ s1.toks ∧ Q v s1) X.xe s
abbrev JAT (X : Cx) (W : WX) (L0 : Addr → Prop) (O : List Nat) (es : List Expr) (m : LM) : Prop := PAT X es (tA X.kx W L0 O m)
abbrev JET (X : Cx) (W : WX) (L0 : Addr → Prop) (O : List Nat) (e : Expr) (m : EM) : Prop := PET X e (tE X.kx W L0 O m)
theorem JE.t (h : JE X W L0 O e m) : JET X W L0 O e m := CwR.PET.of h
theorem JA.t {es : List Expr} {n : LM} (h : JA X W L0 O es n) : JAT X W L0 O es n := fun pos pins s σ H Q _ I q => h.run pos pins s σ H Q I q
theorem jat_cons {es : List Expr} {n : LM} (ha : JET X W L0 O a ma) (hr : JAT X W L0 O es n) (hs : starEach (a :: es) X.env = (false, eval a X.env) :: starEach es X.env := by rfl) : JAT X W L0 O (a :: es) (aCons ma n) := by
  intro pos pins s σ H Q h0 I h
  refine pat_cons ha hr hs pos pins s σ H Q h0 I ?_
  obtain ⟨ρ, Γ, S, e, c, g⟩ := h
  refine ⟨ρ, Γ, S, e, c, GoalG.bind g fun d S1 v ρ1 H1 s1 c1 r1 g1 => ?_⟩
  refine ⟨ρ1, Γ, S1, e.step s1, c1, GoalG.bind g1 fun ds S2 vs ρ2 H2 s2 c2 r2 g2 => ?_⟩
  exact GoalG.val g2 c2 (Reps.cons (Rep.step s2 d v r1) r2)
/-- a + 'lit' gives a token out: the items behind may ask for one -/
theorem ja_consT {es : List Expr} {n : LM} {x : Str} {j : Nat} {f : P2} {r : R2} {op : Operator} (ho : OpR X (binaryOp op) r) (hf : Prim2 X.kx f r) (ha : JE X W L0 O a ma) (hr : JAT X W L0 O es n)
    (hs : starEach (.BinOp a op (.Constant (.str x) j p2) p3 :: es) X.env = (false, eval (.BinOp a op (.Constant (.str x) j p2) p3) X.env) :: starEach es X.env := by rfl) : JA X W L0 O (.BinOp a op (.Constant (.str x) j p2) p3 :: es) (aCons (eBin f ma (eC (.str x))) n) := ⟨fun pos pins s σ H Q I h => by
  obtain ⟨ρ, Γ, S, ev, c, g⟩ := h
  rw [hs]
  show wpAny _ _ (spliced ((false, eval (.BinOp a op (.Constant (.str x) j p2) p3) X.env) :: backTo pos (starEach es X.env))) _ _ s
  refine Calls.spliced_cons (wpAny_BinOp (thn (ha.run pins s σ H (fun v H1 => r v (.str x) H1 fun z H2 => tA X.kx W L0 O n σ H2 fun us H3 => Q (z :: us) H3) I ⟨ρ, Γ, S, ev, c, ?_⟩) fun v s1 ⟨y, H1, I1, r1, q1⟩ => Calls.Constant_str (wpAny_mono (PySem.wpAny_toks (ho pins { s1 with toks := s1.toks + 1 } σ H1 y (.str x) v (.str x s1.toks) _ (I1.tok _) r1 ⟨_, rfl⟩ q1)) (fun z s2 q => ?_) fun _ _ z => z.2)))
  · have g' : GoalL X.kx ρ (LO L0 O σ) H ((ma Γ S).bind fun d S1 => (f d (.str x) S1).bind fun y S2 => (n Γ S2).bind fun ds S3 => .val (y :: ds) S3) Q fun c od H' => W c od σ H' := by
      have eq : aCons (eBin f ma (eC (.str x))) n Γ S = (ma Γ S).bind fun d S1 => (f d (.str x) S1).bind fun y S2 => (n Γ S2).bind fun ds S3 => .val (y :: ds) S3 := by
        unfold aCons eBin eC
        cases ma Γ S with
        | stuck => rfl
        | exn x S => rfl
        | val d S1 => rfl
      rw [eq] at g
      exact g
    refine GoalG.bind g' fun d S1 v ρ1 H1 s1 c1 r1 g1 => ?_
    refine hf ρ1 _ H1 S1 d (.str x) v (.str x) _ _ r1 rep_str c1 (GoalG.bind g1 fun y S2 u ρ2 H2 s2 c2 r2 g2 => ?_)
    refine ⟨ρ2, Γ, S2, (ev.step s1).step s2, c2, GoalG.bind g2 fun ds S3 vs ρ3 H3 s3 c3 r3 g3 => ?_⟩
    exact GoalG.val g3 c3 (Reps.cons (Rep.step s3 _ _ r2) r3)
  · obtain ⟨hk, zv, H2, I2, r2, q2⟩ := q
    have h1 : 1 ≤ s2.toks := Nat.le_trans (Nat.le_add_left 1 s1.toks) hk
    exact thn (hr pos pins s2 σ H2 _ h1 I2 q2) fun us s3 ⟨xs, H3, I3, r3, q3⟩ => ⟨zv :: xs, H3, I3, .cons r2 r3, q3⟩⟩
def eRepl (m : EM) (y z : Str) : EM := fun Γ S => (m Γ S).bind fun d S1 => match d with
  | .str x => ifR (decide (x.length + (x.length + 1) * z.length ≤ 16777216)) (.val (.str (Txt.replace x y z)) S1)
  | _ => .stuck
theorem jet_repl {o : Expr} {y z : Str} {j k : Nat} {c0 c1 apos : Pos} (ho : JE X W L0 O o m) (hyz : (y == z) = false := by decide)
    (hst : starEach [.Constant (.str y) j c0, .Constant (.str z) k c1] X.env = [(false, eval (.Constant (.str y) j c0) X.env), (false, eval (.Constant (.str z) k c1) X.env)] := by rfl)
    (hbase : attributeBase o "replace" X.env (eval o X.env) = eval o X.env := by rfl) (hline : (apos.endLine == pos.line) = true := by rfl) :
    JET X W L0 O (.Call (.Attribute o "replace" apos) [.Constant (.str y) j c0, .Constant (.str z) k c1] [] pos) (eRepl m y z) := by
  intro pins s σ H Q h0 I h
  obtain ⟨ρ, Γ, S, e, c, g⟩ := h
  refine CwR.pet_replC ho hyz hst hbase hline pins s σ H Q h0 I ⟨ρ, Γ, S, e, c, GoalG.bind g fun d S1 v ρ1 H1 s1 c1 r1 g1 => ?_⟩
  split at g1
  · obtain ⟨hz, g2⟩ := of_ifR g1
    exact ⟨_, r1.str_inv, of_decide_eq_true hz, GoalG.val g2 c1 rep_str⟩
  · exact g1.elim
end
end Pv
namespace Pv
open PySem PySem.Spec PyProof.Rows L2
variable [Tf]
/-! ### facts that a head can look at -/
def oexB (K : PySem.W.Frag) (C : Addr) : Bool := (match K.lookup C with
    | some ⟨.type "type", _, .cls cd, sl⟩ => (match cd.mro, sl.toList with
      | .ref C' :: bm, [_, _, _, _, some (.builtin n), _] => decide (C' = C) && (decide (n = "ValueError.__new__") && (cd.hasDict && (!cd.hasDel && PySem.HandSPX.refsVE bm)))
      | _, _ => false)
    | _ => false) &&
  (decide (PySem.W.findIn K (.ref C) "__setattr__" = some (some (.builtin "object.__setattr__"))) && (decide (PySem.W.subIn K (.ref C) (.type "BaseException") = some true) && (decide (PySem.W.typeIn K (.ref C) = some (.type "type")) && PySem.W.keepIn K (.ref C))))
theorem oex_of {K : PySem.W.Frag} {C : Addr} (h : oexB K C = true) : OexC K C := by
  unfold oexB at h
  obtain ⟨h1, h⟩ := Bool.and_eq_true_iff.mp h
  obtain ⟨h2, h⟩ := Bool.and_eq_true_iff.mp h
  obtain ⟨h3, h⟩ := Bool.and_eq_true_iff.mp h
  obtain ⟨h4, h5⟩ := Bool.and_eq_true_iff.mp h
  refine ⟨?_, of_decide_eq_true h2, of_decide_eq_true h3, of_decide_eq_true h4, h5⟩
  split at h1
  · rename_i dd cd sl e
    obtain ⟨nm, bs, mr, N, q, hdct, sn, sub, ab, col, hdel⟩ := cd
    dsimp only at h1
    split at h1
    · rename_i _ _ C' bm k0 k1 k2 k3 n k5 e2
      simp only [Bool.and_eq_true, decide_eq_true_eq, Bool.not_eq_true'] at h1
      obtain ⟨rfl, rfl, rfl, rfl, h6⟩ := h1
      have e3 : sl = #[k0, k1, k2, k3, some (.builtin "ValueError.__new__"), k5] := Array.toList_inj.mp (by rw [e2])
      refine ⟨nm, q, N, bs, bm, sn, sub, ab, col, dd, k0, k1, k2, k3, k5, ?_, h6⟩
      rw [e, e3]
    · cases h1
  · cases h1
def excB (K : PySem.W.Frag) (D : Addr) : Bool := decide (PySem.W.findIn K (.ref D) "__getattribute__" = some (some (.builtin "BaseException.__getattribute__"))) && (decide (PySem.W.findIn K (.ref D) "__getattr__" = some none) &&
  (decide (PySem.W.subIn K (.ref D) (.type "BaseException") = some true) && (PySem.W.hasDictIn K D && (decide (PySem.W.findIn K (.ref D) "__class__" = some (some (.builtin "object.__class__"))) && (decide (PySem.W.specialIn K (.builtin "object.__class__") "__get__" = some (some (.builtin "getset_descriptor.__get__"))) &&
  (decide (PySem.W.takesIn K (.builtin "object.__class__") = some true) && decide (PySem.W.mroIn K D (.type "object") = some true)))))))
theorem exc_of {K : PySem.W.Frag} {D : Addr} (h : excB K D = true) : ExcC K D := by
  unfold excB at h
  simp only [Bool.and_eq_true, decide_eq_true_eq] at h
  obtain ⟨h1, h2, h3, h4, h5, h6, h7, h8⟩ := h
  exact ⟨h1, h2, h3, h4, h5, h6, h7, h8⟩
/-- an error class x with an __init__ of its own that sets f -/
def errB (K : PySem.W.Frag) (x f : Str) : Bool := oexB K (He.ga K x) && (excB K (He.ga K x) && (decide (PySem.W.findIn K (.ref (He.ga K x)) f = some none) &&
  (decide (PySem.W.findIn K (.ref (He.ga K x)) "__init__" = some (some (.ref (He.ma K (He.ga K x) "__init__")))) && decide (PySem.W.typeIn K (.ref (He.ma K (He.ga K x) "__init__")) = some (.type "function")))))
def exmB (K : PySem.W.Frag) (x y : Str) (b : Bool) : Bool := decide (PySem.W.exmOne K (.ref (He.ga K x)) (.ref (He.ga K y)) = some b)
def kitB' (K : PySem.W.Frag) (x : Str) (c : Value) (b : Bool) : Bool := decide (PySem.W.kitOne K (.ref (He.ga K x)) c = some b)
/-! ### a place in a body -/
structure In (X : Cx) (W : WX) (k : Nat) : Prop where
  calm : X.calm = true
  tk : Takes X W
  hr : Room k X.A
  gd : X.A.guards = some []
  own : PassesOwn (model X.prog X.w) X.A X.env X.xe
theorem In.units {X : Cx} {W : WX} {k : Nat} (i : In X W k) : X.A.units + 64 < cLine := by have := i.hr.un; omega
theorem In.units70 {X : Cx} {W : WX} {k : Nat} (i : In X W k) : X.A.units + 70 < cLine := by have := i.hr.un; omega
theorem In.blk {X : Cx} {W : WX} {k : Nat} (i : In X W k) {s : Shared} {H : Hp} {scope : Scope} {ce : Env} {fp : List Addr} : In (X.blk s H scope ce fp) Wf k :=
  ⟨i.calm, fun _ _ ⟨_, _, _, _, _, _, _, _, _, _, _, _, _, _, _, _, w⟩ => w.elim, i.hr, i.gd, PassesOwn.never⟩
theorem In.tr {X : Cx} {W W' : WX} {k : Nat} (i : In X W k) {pn : List (Addr × Obj)} {xe : Value → Shared → Prop} (t : Takes (X.tr pn xe) W') (p : PassesOwn (model X.prog X.w) X.A X.env xe) : In (X.tr pn xe) W' k := ⟨i.calm, t, i.hr, i.gd, p⟩
section
variable {P : Program} {w : World} {K : PySem.W.Frag} {mg : Str → Option Value} {base : Heap}
/-- the def named x, at the level k, with the parameters ps, does F -/
structure FnD (P : Program) (w : World) (K : PySem.W.Frag) (mg : Str → Option Value) (base : Heap) (k : Nat) (x : Str) (ps : List Str) (F : PN) : Prop where
  gl : mg x = some (.ref (He.ga K x))
  ex : ∃ fd : FuncData, FnG P w K mg base (L2.CX P w) k (He.ga K x) fd ps (spF ⟨K, none, base, mg⟩ ps.length F) ∧ PySem.W.keepIn K (.ref (He.ga K x)) = true ∧ Binds K fd ps [] ∧ KBindsAll K fd ps ps ∧ KBindsRev K fd ps ∧ ∃ (oc : Value) (od : Option Addr) (osl : Array (Option Value)), K.lookup (He.ga K x) = some ⟨oc, od, .func fd, osl⟩
theorem In.top {N : List Str} {qual : Str} {scope : Scope} {f : Addr} {cdv : Value} {A : Around} {outer : List Env} {s : Shared} {H : Hp} {E : XK} {k : Nat} (hr : Room k (A.deeper (envOfC qual scope s.heap.objs.size f cdv))) (gd : (A.deeper (envOfC qual scope s.heap.objs.size f cdv)).guards = some []) :
    In (cxOf (L2.CX P w) P w K mg base N qual scope f cdv A outer s H E) (fun c d _ H' => E c d H') k :=
  ⟨rfl, takes_of (X := cxOf (L2.CX P w) P w K mg base N qual scope f cdv A outer s H E) rfl rfl rfl rfl, hr, gd, passes_of (X := cxOf (L2.CX P w) P w K mg base N qual scope f cdv A outer s H E) rfl⟩
theorem fnD_of {x nm qual : Str} {params : Arguments} {body : List Stmt} {scope : Scope} {N ps : List Str} {k : Nat} {m : SM} (gl : mg x = some (.ref (He.ga K x))) (hF : ∃ fd, FunD K nm qual params body scope [] [] (He.ga K x) fd) (S : FnScope N ps scope)
    (hb : ∀ (kV doc pm : Value) (an : Option Addr) (cdv ct : Value) (us : List Value), us.length = ps.length → bindArgs (PySem.W.fnOf nm qual params body scope .none kV doc pm an cdv ct) ⟨us, []⟩ = pure (ps.zip us))
    (hk : ∀ (kV doc pm : Value) (an : Option Addr) (cdv ct : Value) (us : List Value), us.length = ps.length → bindArgs (PySem.W.fnOf nm qual params body scope .none kV doc pm an cdv ct) ⟨[], ps.zip us⟩ = pure (ps.zip us))
    (hkr : ∀ (kV doc pm : Value) (an : Option Addr) (cdv ct : Value) (us : List Value), us.length = ps.length → bindArgs (PySem.W.fnOf nm qual params body scope .none kV doc pm an cdv ct) ⟨[], ps.reverse.zip us⟩ = pure (ps.zip us.reverse))
    (h : ∀ (cdv : Value), cdv = .ref (He.cT K (x, none)).1 → ∀ (A : Around) (outer : List Env) (s : Shared) (H : Hp) (E : XK) (L0 : Addr → Prop), In (cxOf (L2.CX P w) P w K mg base N qual scope (He.ga K x) cdv A outer s H E) (fun c d _ H' => E c d H') k →
      JB (cxOf (L2.CX P w) P w K mg base N qual scope (He.ga K x) cdv A outer s H E) (fun c d _ H' => E c d H') L0 [] [] [] body m) : FnD P w K mg base (k + 1) x ps (defM N.length m) := by
  obtain ⟨fd, F⟩ := hF
  refine ⟨gl, fd, def_ok F S (fun cdv hc A outer s H E L0 hr gd => h cdv (by
    obtain ⟨oc, od, fd', osl, lk, e1, e2⟩ := hc
    obtain ⟨c, rfl⟩ := He.codeIn_ref e2
    show Value.ref c = .ref (He.codeOf K (x, none))
    rw [He.codeOf_eq (p := (x, none)) lk e1]) A outer s H E L0 (In.top hr gd)), F.kp, F.bindsN hb, ?_, ?_, ?_⟩
  rotate_left
  rotate_left
  · obtain ⟨oc, od, dV, kV, doc, pm, an, cdv, ct, osl, e, lk, _⟩ := F.ex
    exact ⟨oc, od, osl, lk⟩
  all_goals
    obtain ⟨oc, od, dV, kV, doc, pm, an, cdv, ct, osl, rfl, lk, hcd, hD, hK⟩ := F.ex
    rcases hD with ⟨_, rfl⟩ | ⟨e, _⟩
    · first
        | exact fun s us _ hl => .of_eq (hk kV doc pm an cdv ct us hl)
        | exact fun s us _ hl => .of_eq (hkr kV doc pm an cdv ct us hl)
    · exact absurd rfl e
end
end Pv
namespace Pv
open PySem PySem.Spec PyProof.Rows L2
variable [Tf]
section
variable {X : Cx} {K : KX} {ρ ρ' : List Addr} {L0 L L' : Addr → Prop} {O O' Ob : List Nat} {H H' : Hp} {S : Sto} {W : WX} {σ : L2.St} {Γ : Env'} {pos p2 p3 p4 : Pos} {e a b : Expr} {m ma mb : EM} {gs : List Nat}
/- a new list becomes a cell -/
theorem off_app {p a : Addr} (q2 : a ∉ ρ) (q3 : ¬ (L a ∨ a = p)) : a ∉ ρ ++ [p] := fun z => (List.mem_append.mp z).elim q2 fun y => q3 (.inr (List.mem_singleton.mp y))
mutual
theorem Rep.addCell {p : Addr} : ∀ (d : D) (v : V), Rep K ρ (fun a => L a ∨ a = p) H d v → Rep K (ρ ++ [p]) L H d v
  | .non, _, h => by unfold Rep at h ⊢; exact h
  | .bl _, _, h => by unfold Rep at h ⊢; exact h
  | .int _, _, h => by unfold Rep at h ⊢; exact h
  | .str _, _, h => by unfold Rep at h ⊢; exact h
  | .fn _, _, h => by unfold Rep at h ⊢; exact h
  | .ty _, _, h => by unfold Rep at h ⊢; exact h
  | .ref i, _, h => by
    unfold Rep at h ⊢
    obtain ⟨a, e, q⟩ := h
    exact ⟨a, by rw [List.getElem?_append_left (List.getElem?_eq_some_iff.mp e).1]; exact e, q⟩
  | .lst ds, v, h => by
    unfold Rep at h ⊢
    obtain ⟨b, vs, e, q, q2, q3, r⟩ := h
    exact ⟨b, vs, e, q, off_app q2 q3, fun z => q3 (.inl z), Reps.addCell ds vs r⟩
  | .dic ds, v, h => by
    unfold Rep at h ⊢
    obtain ⟨b, vs, e, q, q2, q3, r⟩ := h
    exact ⟨b, vs, e, q, off_app q2 q3, fun z => q3 (.inl z), RepK.addCell ds vs r⟩
  | .frz ds, v, h => by
    unfold Rep at h ⊢
    obtain ⟨b, vs, e, q, r⟩ := h
    exact ⟨b, vs, e, q, Reps.addCell ds vs r⟩
  | .tup ds, v, h => by
    unfold Rep at h ⊢
    obtain ⟨b, vs, e, q, r⟩ := h
    exact ⟨b, vs, e, q, Reps.addCell ds vs r⟩
  | .exc c fs, v, h => by
    unfold Rep at h ⊢
    obtain ⟨b, cls, od, e1, e2, e3, q⟩ := h
    exact ⟨b, cls, od, e1, e2, e3, q.imp id fun ⟨d, vs, q1, q2, q3, q4, q5⟩ => ⟨d, vs, q1, q2, off_app q3 q4, fun z => q4 (.inl z), RepF.addCell fs vs q5⟩⟩
  | .clo q ds, v, h => by
    unfold Rep at h ⊢
    obtain ⟨f, c, vs, e, k, q1, r⟩ := h
    exact ⟨f, c, vs, e, k, q1, Reps.addCell ds vs r⟩
theorem Reps.addCell {p : Addr} : ∀ (ds : List D) (vs : List V), Reps K ρ (fun a => L a ∨ a = p) H ds vs → Reps K (ρ ++ [p]) L H ds vs
  | [], _, h => by unfold Reps at h ⊢; exact h
  | d :: ds, _, h => by
    unfold Reps at h ⊢
    obtain ⟨v, r, e, q, z⟩ := h
    exact ⟨v, r, e, Rep.addCell d v q, Reps.addCell ds r z⟩
theorem RepK.addCell {p : Addr} : ∀ (ds : List (Key × D)) (vs : List (Key × V)), RepK K ρ (fun a => L a ∨ a = p) H ds vs → RepK K (ρ ++ [p]) L H ds vs
  | [], _, h => by unfold RepK at h ⊢; exact h
  | (k, d) :: ds, _, h => by
    unfold RepK at h ⊢
    obtain ⟨v, r, e, q, z⟩ := h
    exact ⟨v, r, e, Rep.addCell d v q, RepK.addCell ds r z⟩
theorem RepF.addCell {p : Addr} : ∀ (ds : List (Str × D)) (vs : List (Str × V)), RepF K ρ (fun a => L a ∨ a = p) H ds vs → RepF K (ρ ++ [p]) L H ds vs
  | [], _, h => by unfold RepF at h ⊢; exact h
  | (k, d) :: ds, _, h => by
    unfold RepF at h ⊢
    obtain ⟨v, r, e, q, z⟩ := h
    exact ⟨v, r, e, Rep.addCell d v q, RepF.addCell ds r z⟩
end
theorem CellOk.addCell {p a : Addr} {c : Cell} (h : CellOk K ρ (fun a => L a ∨ a = p) H a c) : CellOk K (ρ ++ [p]) L H a c := by
  cases c with
  | lst ds => obtain ⟨vs, e, r⟩ := h; exact ⟨vs, e, Reps.addCell ds vs r⟩
  | ins c fs => obtain ⟨dx, vs, e, r⟩ := h; exact ⟨dx, vs, e, RepF.addCell fs vs r⟩
theorem Cells.addCell {p : Addr} {ds : List D} {vs : List V} (c : Cells K ρ (fun a => L a ∨ a = p) H S) (hn : p ∉ ρ) (hL : ¬ L p) (h : H p = some (.lst vs)) (r : Reps K ρ (fun a => L a ∨ a = p) H ds vs) : Cells K (ρ ++ [p]) L H (S ++ [.lst ds]) := by
  refine ⟨by rw [List.length_append, List.length_append, c.len]; rfl, ?_, fun i a x h1 h2 => ?_, fun a z => c.trk a (.inl z), fun a z y => ?_, c.tab, c.tbb⟩
  · rw [List.nodup_append]
    exact ⟨c.nd, by simp, fun a ha b hb => by rw [List.mem_singleton.mp hb]; exact fun z => hn (z ▸ ha)⟩
  · by_cases hi : i < ρ.length
    · rw [List.getElem?_append_left hi] at h1
      rw [List.getElem?_append_left (by rw [← c.len]; exact hi)] at h2
      exact (c.at_ i a x h1 h2).addCell
    · rw [List.getElem?_append_right (by omega)] at h1
      rw [List.getElem?_append_right (by rw [← c.len]; omega)] at h2
      have hz : i - ρ.length = 0 := by
        have := (List.getElem?_eq_some_iff.mp h1).1
        simp at this
        omega
      rw [hz] at h1
      rw [← c.len, hz] at h2
      cases h1
      cases h2
      exact ⟨vs, h, Reps.addCell ds vs r⟩
  · rcases List.mem_append.mp z with q | q
    · exact c.apart a q (.inl y)
    · exact hL (List.mem_singleton.mp q ▸ y)
def eCell (m : LM) : EM := fun Γ S => (m Γ S).bind fun ds S1 => .val (.ref S1.length) (S1 ++ [.lst ds])
theorem JF.cell {m : LM} (h : JF X W L0 O e m) : JE X W L0 O e (eCell m) := PE.imp h fun σ H Q ⟨ρ, Γ, S, e, c, g⟩ => by
  refine ⟨ρ, Γ, S, e, c, ?_⟩
  unfold eCell at g
  cases q : m Γ S with
  | stuck => rw [q] at g; exact g
  | exn x S => rw [q] at g; exact g
  | val ds S =>
    rw [q, R.bind_val] at g
    intro p vs ρ' H' s n h1 h2 h3 c' r
    have st : Step ρ (ρ' ++ [p]) H H' := ⟨s.pre.trans (List.prefix_append _ _), fun a ha => (List.mem_append.mp ha).elim (s.new a) fun z => .inr (List.mem_singleton.mp z ▸ n), s.keepM, s.tups, s.frzs, s.codes, s.some_⟩
    refine g _ _ H' st (c'.addCell h2 h3 h1 r) ?_
    unfold Rep
    exact ⟨p, by rw [← c'.len, List.getElem?_append_right (Nat.le_refl _), Nat.sub_self]; rfl, rfl⟩
/-! ### the rules, in short -/
theorem FnD.at {k j : Nat} {x : Str} {ps : List Str} {F : PN} {n : Nat} (D : FnD X.prog X.w X.K X.mg X.base k x ps F) (i : In X W j) (h : k ≤ j) (hn : ps.length = n := by rfl) : FnAt X x n F := by
  obtain ⟨fd, G, kp, b, _⟩ := D.ex
  exact ⟨k, fd, ps, G, i.hr.mono h, kp, b, hn⟩
theorem call_ {k j : Nat} {x : Str} {ps : List Str} {F : PN} {es : List Expr} {n : LM} {p : Pos} (D : FnD X.prog X.w X.K X.mg X.base k x ps F) (i : In X W j) (ha : JA X W L0 O (a :: es) n) (h : k ≤ j := by decide) (hg : Gl X x := by rfl)
    (hdb : (x == ("__debug__" : Str)) = false := by decide) (he : starEach (a :: es) X.env = (false, eval a X.env) :: starEach es X.env := by rfl) (hpl : (backTo pos (starEach es X.env)).any (·.1) = false := by rfl) :
    JE X W L0 O (.Call (.Name x p) (a :: es) [] pos) (eN (callN ps.length F) n) := by
  obtain ⟨fd, G, kp, b, _⟩ := D.ex
  exact je_call G i.calm i.tk (i.hr.mono h) i.gd hg D.gl kp b ha hdb he hpl
theorem callK_ {k j : Nat} {x : Str} {ps : List Str} {F : PN} {kws : List Keyword} {n : LM} {p : Pos} (D : FnD X.prog X.w X.K X.mg X.base k x ps F) (i : In X W j) (ha : JK X W L0 O kws n) (h : k ≤ j := by decide) (hg : Gl X x := by rfl)
    (hall : (backToKw pos (keywordEach kws X.env)).all (·.1.isSome) = true := by rfl) (hks : (backToKw pos (keywordEach kws X.env)).filterMap (·.1) = ps := by rfl)
    (hdb : (x == ("__debug__" : Str)) = false := by decide) (hpl : ((backTo pos (starEach [] X.env)).any (·.1) || (backToKw pos (keywordEach kws X.env)).any (·.1.isNone)) = false := by rfl) :
    JE X W L0 O (.Call (.Name x p) [] kws pos) (eN (callN ps.length F) n) := by
  obtain ⟨fd, G, kp, _, b, _⟩ := D.ex
  exact je_callK G i.calm i.tk (i.hr.mono h) i.gd hg D.gl kp b ha hall hks hdb hpl
theorem callKR_ {k j : Nat} {x : Str} {ps : List Str} {F : PN} {kws : List Keyword} {n : LM} {p : Pos} (D : FnD X.prog X.w X.K X.mg X.base k x ps F) (i : In X W j) (ha : JK X W L0 O kws n) (h : k ≤ j := by decide) (hg : Gl X x := by rfl)
    (hall : (backToKw pos (keywordEach kws X.env)).all (·.1.isSome) = true := by rfl) (hks : (backToKw pos (keywordEach kws X.env)).filterMap (·.1) = ps.reverse := by rfl)
    (hdb : (x == ("__debug__" : Str)) = false := by decide) (hpl : ((backTo pos (starEach [] X.env)).any (·.1) || (backToKw pos (keywordEach kws X.env)).any (·.1.isNone)) = false := by rfl) :
    JE X W L0 O (.Call (.Name x p) [] kws pos) (eN (fun ds => callN ps.length F ds.reverse) n) := by
  obtain ⟨fd, G, kp, _, _, b, _⟩ := D.ex
  exact je_callKR G i.calm i.tk (i.hr.mono h) i.gd hg D.gl kp b ha hall hks hdb hpl
theorem v_ (i : Nat) {x : Str} (hN : X.N[i]? = some x := by rfl) (hv : Vis X.env.scope x := by first | exact .inl rfl | exact .inr (.inl rfl) | exact .inr (.inr rfl)) (hi : i ∉ O := by decide) (hd : (x == ("__debug__" : Str)) = false := by decide) (hcd : (x == ("__classdict__" : Str)) = false := by decide) :
    JE X W L0 O (.Name x pos) (eVar i) := je_var hN hv hi hd hcd
theorem callV_ (i : Nat) {j : Nat} {x : Str} {es : List Expr} {n : LM} {p : Pos} {tab : Str → Option (Nat × PN)} (I : In X W j) (ht : ∀ y nF, tab y = some nF → FnAt X y nF.1 nF.2) (ha : JA X W L0 O (a :: es) n)
    (hN : X.N[i]? = some x := by rfl) (hv : Vis X.env.scope x := by first | exact .inl rfl | exact .inr (.inl rfl) | exact .inr (.inr rfl)) (hi : i ∉ O := by decide)
    (hdb : (x == ("__debug__" : Str)) = false := by decide) (hcd : (x == ("__classdict__" : Str)) = false := by decide) (he : starEach (a :: es) X.env = (false, eval a X.env) :: starEach es X.env := by rfl) (hpl : (backTo pos (starEach es X.env)).any (·.1) = false := by rfl) :
    JE X W L0 O (.Call (.Name x p) (a :: es) [] pos) (eCallV i tab n) := je_callV I.calm I.tk I.gd hN hv hi ht ha hdb hcd he hpl
theorem str_ {x z : Str} {p : Pos} (hm : ∃ t, X.mg x = some (.str z t)) (hg : Gl X x := by rfl) (hn : (x == ("__debug__" : Str)) = false := by decide) : JE X W L0 O (.Name x p) (eC (.str z)) := by
  obtain ⟨t, h⟩ := hm
  exact je_glob (v := .str z) hg h ⟨t, rfl⟩ (fun _ _ _ => rep_str) hn
theorem int_ {x : Str} {z : Int} {p : Pos} (hm : ∃ t, X.mg x = some (.int z t)) (hg : Gl X x := by rfl) (hn : (x == ("__debug__" : Str)) = false := by decide) : JE X W L0 O (.Name x p) (eC (.int z)) := by
  obtain ⟨t, h⟩ := hm
  exact je_glob (v := .int z) hg h ⟨t, rfl⟩ (fun _ _ _ => rep_int) hn
theorem fn_ {x : Str} {p : Pos} (hm : X.mg x = some (.ref (He.ga X.K x))) (hg : Gl X x := by rfl) (hn : (x == ("__debug__" : Str)) = false := by decide) : JE X W L0 O (.Name x p) (eC (.fn x)) := je_fn hg hm rfl hn
theorem ty_ {x : Str} {T : String} {p : Pos} (hm : X.mg x = none) (hv : bootBuiltins x = some (.type T) := by rfl) (hg : Gl X x := by rfl) (hn : x ≠ "__name__" := by decide) (hd : (x == ("__debug__" : Str)) = false := by decide) : JE X W L0 O (.Name x p) (eC (.ty T)) := je_ty hg hm hv hn hd
theorem bi_ {id : String} {x : Str} {es : List Expr} {n : LM} {f : PN} {r : List V → Hp → VK → Prop} {p : Pos} (hc : CallR X (.builtin id) r) (hf : PrimN X.kx f r) (hm : X.mg x = none) (ha : JA X W L0 O (a :: es) n) (hv : bootBuiltins x = some (.builtin id) := by rfl) (hg : Gl X x := by rfl)
    (hn : x ≠ "__name__" := by decide) (hdb : (x == ("__debug__" : Str)) = false := by decide) (he : starEach (a :: es) X.env = (false, eval a X.env) :: starEach es X.env := by rfl) (hpl : (backTo pos (starEach es X.env)).any (·.1) = false := by rfl) :
    JE X W L0 O (.Call (.Name x p) (a :: es) [] pos) (eN f n) := je_callB hc hf hg hm hv ha hn hdb he hpl
theorem bt_ {T : String} {x : Str} {es : List Expr} {n : LM} {f : PN} {r : List V → Hp → VK → Prop} {p : Pos} (hc : CallR X (.type T) r) (hf : PrimN X.kx f r) (hm : X.mg x = none) (ha : JA X W L0 O (a :: es) n) (hv : bootBuiltins x = some (.type T) := by rfl) (hg : Gl X x := by rfl)
    (hn : x ≠ "__name__" := by decide) (hdb : (x == ("__debug__" : Str)) = false := by decide) (he : starEach (a :: es) X.env = (false, eval a X.env) :: starEach es X.env := by rfl) (hpl : (backTo pos (starEach es X.env)).any (·.1) = false := by rfl) :
    JE X W L0 O (.Call (.Name x p) (a :: es) [] pos) (eN f n) := je_callTy hc hf hg hm hv ha hn hdb he hpl
theorem bl_ {T : String} {x : Str} {es : List Expr} {n : LM} {f : List D → Sto → R (List D)} {r : List V → Hp → VK → Prop} {p : Pos} (hc : CallR X (.type T) r) (hf : PrimF X.kx f r) (hm : X.mg x = none) (ha : JA X W L0 O (a :: es) n) (hv : bootBuiltins x = some (.type T) := by rfl) (hg : Gl X x := by rfl)
    (hn : x ≠ "__name__" := by decide) (hdb : (x == ("__debug__" : Str)) = false := by decide) (he : starEach (a :: es) X.env = (false, eval a X.env) :: starEach es X.env := by rfl) (hpl : (backTo pos (starEach es X.env)).any (·.1) = false := by rfl) :
    JF X W L0 O (.Call (.Name x p) (a :: es) [] pos) (fN f n) := jf_callTy hc hf hg hm hv ha hn hdb he hpl
/-- a store to a name -/
theorem g_ {st : Bool} (i : Nat) {x : Str} (hd : X.N.Nodup) (hN : X.N[i]? = some x := by rfl) (hx : Loc X.env.scope x := by first | exact .inl rfl | exact .inr rfl) (ho : i ∉ O := by decide) (hf : X.fn x = true ∨ X.env.scope.names.lookup x = some .local := by first | exact .inl rfl | exact .inr rfl) : JG st X L0 O [i] (.Name x pos) (gSet i) := jg_name hd hN hx ho hf
theorem set_ (i : Nat) {x : Str} {pos' : Pos} (hd : X.N.Nodup) (h : JE X W L0 O e m) (hN : X.N[i]? = some x := by rfl) (hx : Loc X.env.scope x := by first | exact .inl rfl | exact .inr rfl) (ho : i ∉ O := by decide) (hs : swapsWith e (some (.Name x pos')) pos.line X.env = pure false := by rfl)
    (hf : X.fn x = true ∨ X.env.scope.names.lookup x = some .local := by first | exact .inl rfl | exact .inr rfl) : JS X W L0 O O Ob (.Assign [.Name x pos'] e pos) (sSet i m) := js_set hd hN hx ho h hs hf
theorem own_ (i : Nat) {x : Str} {pos' : Pos} {n : LM} (hd : X.N.Nodup) (h : JF X W L0 O e n) (hO : ∀ j, j ∈ O' ↔ j = i ∨ j ∈ O) (hN : X.N[i]? = some x := by rfl) (hx : Loc X.env.scope x := by first | exact .inl rfl | exact .inr rfl) (ho : i ∉ O := by decide) (hs : swapsWith e (some (.Name x pos')) pos.line X.env = pure false := by rfl)
    (hf : X.fn x = true ∨ X.env.scope.names.lookup x = some .local := by first | exact .inl rfl | exact .inr rfl) : JS X W L0 O O' Ob (.Assign [.Name x pos'] e pos) (sOwn i n) := js_own hd hN hx ho hO h hs hf
theorem par_ (i j : Nat) {k : Nat} {x y : Str} {a b : Expr} {ma : LM} {px py pt : Pos} {kt k2 pt2} (hd : X.N.Nodup) (I : In X W k) (ha : JA X W L0 O [a, b] ma) (hN : X.N[i]? = some x := by rfl) (hM : X.N[j]? = some y := by rfl) (hij : i ≠ j := by decide)
    (hx : X.env.scope.names.lookup x = some .local := by rfl) (hy : X.env.scope.names.lookup y = some .local := by rfl) (hoi : i ∉ O := by decide) (hoj : j ∉ O := by decide)
    (hw : swappedStores [.Tuple [.Name x px, .Name y py] kt pt] (.Tuple [a, b] k2 pt2) X.env = pure (some [x, y]) := by rfl)
    (hs : swapsWithSole [.Tuple [.Name x px, .Name y py] kt pt] (.Tuple [a, b] k2 pt2) pos.line X.env = pure false := by rfl) :
    JS X W L0 O O Ob (.Assign [.Tuple [.Name x px, .Name y py] kt pt] (.Tuple [a, b] k2 pt2) pos) (sPar i j ma) := js_par I.calm hd hN hM hij hx hy hoi hoj ha hw hs
theorem app_ (i : Nat) {x : Str} {p1 apos cpos : Pos} (h : JE X W L0 O e m) (hN : X.N[i]? = some x := by rfl) (hv : Vis X.env.scope x := by first | exact .inl rfl | exact .inr (.inl rfl) | exact .inr (.inr rfl)) (hio : i ∈ O := by decide) (hd : (x == ("__debug__" : Str)) = false := by decide) (hcd : (x == ("__classdict__" : Str)) = false := by decide)
    (hs1 : starEach [e] X.env = (false, eval e X.env) :: starEach [] X.env := by rfl)
    (hbase : attributeBase (.Name x p1) "append" X.env (eval (.Name x p1) X.env) = eval (.Name x p1) X.env := by rfl)
    (hfew : ((backTo cpos (starEach [e] X.env)).all (fun x => !x.1) && (backToKw cpos (keywordEach [] X.env)).all (fun x => x.1.isSome)
      && decide ([e].length + ([] : List Keyword).length + (if ([] : List Keyword).isEmpty then 0 else 1) < 30)) = true := by rfl)
    (hline : (apos.endLine == cpos.line) = true := by rfl) (hplain : (backTo cpos (starEach [] X.env)).any (·.1) = false := by rfl)
    (hs : swapsWith (.Call (.Attribute (.Name x p1) "append" apos) [e] [] cpos) none pos.line X.env = pure false := by rfl) :
    JS X W L0 O O Ob (.Expr (.Call (.Attribute (.Name x p1) "append" apos) [e] [] cpos) pos) (sAppend i m) := js_append hN hv hio h hd hcd hs1 hbase hfew hline hplain hs
def blkB (N : List Str) (sc scope : Scope) (own : List (Str × Nat)) : Bool := decide (scope.kind = .function) && (scope.names.all (fun y => decide (scope.names.lookup y.1 = some y.2)) && (own.all (fun p => decide (N[p.2]? = some p.1)) &&
  (scope.names.all (fun y => !decide (y.2 = .free) || (decide (sc.names.lookup y.1 = some .cell) || decide (sc.names.lookup y.1 = some .free))) && scope.names.all (fun y => !(decide (y.2 = .local) || decide (y.2 = .cell)) || (decide (y.1 ∈ own.map (·.1)) || !decide (y.1 ∈ N))))))
theorem blk_of {N : List Str} {sc scope : Scope} {own : List (Str × Nat)} (h : blkB N sc scope own = true) : BlkOk N sc scope own := by
  unfold blkB at h
  obtain ⟨h1, h⟩ := Bool.and_eq_true_iff.mp h
  obtain ⟨h2, h⟩ := Bool.and_eq_true_iff.mp h
  obtain ⟨h3, h⟩ := Bool.and_eq_true_iff.mp h
  obtain ⟨h4, h5⟩ := Bool.and_eq_true_iff.mp h
  refine ⟨of_decide_eq_true h1, fun y hy => of_decide_eq_true (List.all_eq_true.mp h2 y hy), fun p hp => of_decide_eq_true (List.all_eq_true.mp h3 p hp), fun y hy hf => ?_, fun y hy hl => ?_⟩
  · have := List.all_eq_true.mp h4 y hy
    rw [decide_eq_true hf] at this
    simpa using this
  · have := List.all_eq_true.mp h5 y hy
    rcases hl with hl | hl <;> rw [hl] at this <;> simpa using this
theorem comp_ {k : Nat} {elt tg iter : Expr} {ifs : List Expr} {scope : Scope} {ml : LM} {gm : GM} {c : BM} {m : EM} (own : List (Str × Nat)) (hN : X.N.Nodup) (I : In X W k) (hi : JI X W L0 O tg iter ml)
    (hg : ∀ (L0 : Addr → Prop) (s : Shared) (H : Hp) (C : Addr) (cl : List (Str × Addr)) (fp : List Addr), JG true (X.blk s H scope (compEnvC scope cl C X.env) fp) L0 O gs tg gm)
    (ht : ∀ (L0 : Addr → Prop) (s : Shared) (H : Hp) (C : Addr) (cl : List (Str × Addr)) (fp : List Addr), In (X.blk s H scope (compEnvC scope cl C X.env) fp) Wf k → PTs (X.blk s H scope (compEnvC scope cl C X.env) fp) ifs (tT (X.blk s H scope (compEnvC scope cl C X.env) fp).kx Wf L0 O c))
    (he : ∀ (L0 : Addr → Prop) (s : Shared) (H : Hp) (C : Addr) (cl : List (Str × Addr)) (fp : List Addr), In (X.blk s H scope (compEnvC scope cl C X.env) fp) Wf k → JE (X.blk s H scope (compEnvC scope cl C X.env) fp) Wf L0 O elt m)
    (ok : BlkOk X.N X.env.scope scope own) (hgs : ∀ j ∈ gs, j ∈ own.map (·.2) := by decide) (hv : ∀ i ∈ O, i ∉ own.map (·.2) := by decide) (hs : ∀ x, foldedSetIterable iter X.env x = pure x := by intro _; rfl) :
    JF X W L0 O (.ListComp elt [⟨tg, iter, ifs, 0⟩] scope pos) (fComp ml gm c m (own.map (·.2))) :=
  jf_comp I.calm hN hi ok hg (fun L0 s H C cl fp => ht L0 s H C cl fp I.blk) (fun L0 s H C cl fp => he L0 s H C cl fp I.blk) hgs hv hs
theorem setLc_ (i : Nat) {k : Nat} {y : Str} {py spos : Pos} {elt tg iter : Expr} {ifs : List Expr} {scope : Scope} {ml : LM} {gm : GM} {c : BM} {m : EM} (own : List (Str × Nat)) (hN : X.N.Nodup) (I : In X W k) (hi : JI X W L0 O tg iter ml)
    (hg : ∀ (L0 : Addr → Prop) (s : Shared) (H : Hp) (C : Addr) (cl : List (Str × Addr)) (fp : List Addr), JG true (X.blk s H scope (compEnvC scope cl C X.env) fp) L0 O gs tg gm)
    (ht : ∀ (L0 : Addr → Prop) (s : Shared) (H : Hp) (C : Addr) (cl : List (Str × Addr)) (fp : List Addr), In (X.blk s H scope (compEnvC scope cl C X.env) fp) Wf k → PTs (X.blk s H scope (compEnvC scope cl C X.env) fp) ifs (tT (X.blk s H scope (compEnvC scope cl C X.env) fp).kx Wf L0 O c))
    (he : ∀ (L0 : Addr → Prop) (s : Shared) (H : Hp) (C : Addr) (cl : List (Str × Addr)) (fp : List Addr), In (X.blk s H scope (compEnvC scope cl C X.env) fp) Wf k → JE (X.blk s H scope (compEnvC scope cl C X.env) fp) Wf L0 O elt m)
    (ok : BlkOk X.N X.env.scope scope own) (hy : X.N[i]? = some y := by rfl) (hyl : X.env.scope.names.lookup y = some .local := by rfl) (ho : i ∉ O := by decide)
    (hsw : swapsWith (.ListComp elt [⟨tg, iter, ifs, 0⟩] scope pos) (some (.Name y py)) spos.line X.env = pure true := by rfl) (hgs : ∀ j ∈ gs, j ∈ own.map (·.2) := by decide) (hv : ∀ i ∈ O, i ∉ own.map (·.2) := by decide) (hs : ∀ x, foldedSetIterable iter X.env x = pure x := by intro _; rfl) :
    JS X W L0 O O Ob (.Assign [.Name y py] (.ListComp elt [⟨tg, iter, ifs, 0⟩] scope pos) spos) (sSet i (eLst (fComp ml gm c m (own.map (·.2))))) :=
  js_setLc I.calm hN hy hyl ho hsw hi ok hg (fun L0 s H C cl fp => ht L0 s H C cl fp I.blk) (fun L0 s H C cl fp => he L0 s H C cl fp I.blk) hgs hv hs
theorem for_ {st : Bool} {k : Nat} {tg iter : Expr} {body : List Stmt} {ml : LM} {gm : GM} {m : SM} (I : In X W k) (hi : JI X W L0 O tg iter ml) (hg : JG st X L0 O gs tg gm) (hb : JB X W L0 O O O body m)
    (hs : ∀ x, foldedSetIterable iter X.env x = pure x := by intro _; rfl) : JS X W L0 O O Ob (.For tg iter body [] pos) (sFor ml gm m) := js_for I.own I.calm hi hg hb hs
end
end Pv
namespace Pv
open PySem PySem.Spec PyProof.Rows L2
variable [Tf]
/-! ### what stands fast at a call -/
/-- all that is neither followed nor a frame -/
def nowB (X : Cx) (H : Hp) (s : Shared) : Heap := PySem.W.hideAll s.heap (trk s.heap H ++ frs X.stack)
section
variable {X : Cx} {pins : List (Addr × Obj)} {σ : L2.St} {H : Hp} {s : Shared}
theorem nowB_get {b : Addr} {o : Obj} (e : s.heap.get? b = some o) (h : H b = none) (n : b ∉ frs X.stack) : (nowB X H s).get? b = some o := by
  refine PySem.W.hideAll_get _ e fun z => ?_
  rcases List.mem_append.mp z with z | z
  · have q : (H b).isSome = true := (List.mem_filter.mp z).2
    rw [h] at q
    cases q
  · exact n z
theorem of_nowB {b : Addr} {o : Obj} (e : (nowB X H s).get? b = some o) : s.heap.get? b = some o ∧ H b = none ∧ b ∉ frs X.stack := by
  have e' : s.heap.get? b = some o := PySem.W.of_hideAll _ e
  have nm : b ∉ trk s.heap H ++ frs X.stack := fun z => by
    have q := PySem.W.hideAll_none (h := s.heap) _ z
    unfold nowB at e
    rw [q] at e
    cases e
  refine ⟨e', ?_, fun z => nm (List.mem_append_right _ z)⟩
  cases q : H b with
  | none => rfl
  | some u => exact (nm (List.mem_append_left _ (List.mem_filter.mpr ⟨List.mem_range.mpr (Heap.lt_size e'), by simp [q]⟩))).elim
theorem base_now (I : Inv X pins σ H s) {b : Addr} {o : Obj} (e : X.base.get? b = some o) : (nowB X H s).get? b = some o := by
  obtain ⟨e1, e2⟩ := I.bs b o e
  refine nowB_get e1 e2 fun z => ?_
  rcases List.mem_cons.mp (I.stkSub b z) with q | q
  · have := Nat.lt_of_lt_of_le (Heap.lt_size e) (Nat.le_trans I.ok.bsz I.ok.above)
    rw [q] at this
    exact Nat.lt_irrefl _ this
  · exact I.ok.nofr e q
theorem funs_now {h : Heap} : ∀ {l : List Env} {B B' : Heap}, h.FunFrames B l → (∀ a ∈ frs l, B'.get? a = none) → h.FunFrames B' l
  | [], _, _, _, _ => trivial
  | env :: r, B, B', ⟨k, ⟨a, o, f1, f2, f3, f4⟩, hr⟩, hn => by
    have e : frs (env :: r) = a :: frs r := by unfold frs; rw [List.filterMap_cons, f1]
    rw [e] at hn
    exact ⟨k, ⟨a, o, f1, hn a List.mem_cons_self, f3, f4⟩, funs_now hr fun b hb => hn b (List.mem_cons_of_mem _ hb)⟩
theorem env0_now (I : Inv X pins σ H s) : Env0 X.prog X.w X.K X.mg (nowB X H s) X.A X.stack s H := by
  have g : ∀ b o, X.base.get? b = some o → (nowB X H s).get? b = some o := fun b o e => base_now I e
  have m := I.ok.mod
  exact ⟨I.ok.frames, ⟨m.kin.keeps g, m.glob.keeps g, let ⟨mb, h1, h2⟩ := m.blt; ⟨mb, h1.keeps g, h2⟩, m.nolimit.keeps g⟩, fun b o e => ⟨(of_nowB e).1, (of_nowB e).2.1⟩, Nat.le_of_eq (PySem.W.hideAll_size _ _),
    funs_now I.stack fun a ha => PySem.W.hideAll_none _ (List.mem_append_right _ ha), I.stkFree, I.hok, I.bare⟩
/-! ### a lambda is made -/
theorem lam_new {q : He.Defn × Str} {params : Arguments} {body : Expr} {scope : Scope} {pos : Pos} {E : Value → Shared → Prop} {Q : Value → Shared → Prop} (I : Inv X pins σ H s) (hq : q ∈ Tf.tabs) (hq2 : X.env.qual ++ "<lambda>" = q.2) (hcode : X.env.code = .ref (He.cT X.K q.1).1)
    (hu : ∀ p ∈ Tf.tabs, (He.cT X.K p.1).2 = (He.cT X.K q.1).2 → p.2 = q.2) (tab : TabsOk X.kx H) (tbb : TabsB X.kx) (hdef : defaultsOf params X.env = ([], [])) (hfree : ∀ y ∈ scope.names, y.2 = .free → ∃ c, X.env.cells.lookup y.1 = some c)
    (h : ∀ (f c : Addr) (pm ctv : Value) (H1 : Hp) (s1 : Shared), Inv X pins σ H1 s1 → (∀ ρ, Step ρ ρ H H1) → TabsOk X.kx H1 → s1.heap.get? f = some (PySem.W.kla_obj "<lambda>" q.2 params body scope (cloFrom X.env.cells scope.names []) pm c ctv) →
      H1 f = none → f ∉ frs X.stack → H1 c = some (LamX.CodeO c q.2) → Q (.ref f) s1) :
    wpAny (model X.prog X.w) X.A (eval (.Lambda params body scope pos) X.env) Q E s := by
  obtain ⟨ps, hP, ht, hA⟩ := tab q hq
  have TB := tbb q hq
  change H (He.cT X.K q.1).2 = some (.tbl ps) at hP
  change LamX.TabB X.base X.mg (He.cT X.K q.1).1 (He.cT X.K q.1).2 at TB
  refine PySem.W.kla_eval hdef ?_
  rw [hq2]
  have bP := TB.bm.keeps I.bk
  have oP : s.heap.get? (He.cT X.K q.1).2 = some { cls := .none, data := .fields ps } := I.hok _ _ hP
  have fresh : ∀ f, s.heap.objs.size ≤ f → f ∉ frs X.stack := fun f hf z => by
    rcases List.mem_cons.mp (I.stkSub _ z) with e | e
    · rw [e] at hf
      exact Nat.lt_irrefl _ (Nat.lt_of_lt_of_le I.lt hf)
    · exact I.nofs hf e
  cases hc : codeAmong pos ps.toList with
  | some cv =>
    obtain ⟨c, rfl, hco⟩ := hA pos cv hc
    refine PySem.W.kla_makeFunctionHit (mg := X.mg) (P := (He.cT X.K q.1).2) (ps := ps) (closure_ok hfree) I.ok.glob (I.mod.glob.keeps I.bk) hcode (TB.code.keeps I.bk) oP ht hc bP fun ctv h' tk hk hsz => ?_
    exact h h'.objs.size c ((X.mg "__name__").getD .none) ctv H _ (I.kept fun b o e => Heap.get?_push_of_some _ (hk b o e)) (fun ρ => StepM.refl) tab (Heap.get?_push_size _ rfl) (I.hok.fresh hsz) (fresh _ hsz) hco
  | none =>
    refine PySem.W.kla_makeFunction (mg := X.mg) (P := (He.cT X.K q.1).2) (ps := ps) (closure_ok hfree) I.ok.glob (I.mod.glob.keeps I.bk) hcode (TB.code.keeps I.bk) oP ht hc TB.gP bP fun c ctv h' tk hk hge hlt hrec htb => ?_
    obtain ⟨c2, oc, vs, t, e2, hoc, hd, hv⟩ := hrec
    cases e2
    have hsz : s.heap.objs.size ≤ h'.objs.size := Nat.le_trans hge (Nat.le_of_lt hlt)
    have nC : H c = none := I.hok.fresh hge
    generalize hPa : (He.cT X.K q.1).2 = P at *
    have nPc : P ≠ c := ne_of_none hP nC
    have J := LamX.inv_table (t' := tk) (more := #[rawInt pos.line, rawInt pos.col, .ref c]) (h' := h'.push (PySem.W.kla_obj "<lambda>" q.2 params body scope (cloFrom X.env.cells scope.names []) ((X.mg "__name__").getD .none) c ctv)) I hP
      (fun b o hb e => Heap.get?_push_of_some _ (hk b o hb e)) (Heap.get?_push_of_some _ htb) hge ⟨oc, vs, t, Heap.get?_push_of_some _ hoc, hd, hv⟩
    have off : ∀ b o, H b = some o → (∀ ps, o ≠ .tbl ps) → upd (upd H P (.tbl (ps ++ #[rawInt pos.line, rawInt pos.col, .ref c]))) c (LamX.CodeO c q.2) b = some o := fun b o e n => by
      rw [upd_ne (ne_of_none e nC), upd_ne (fun z => n ps (Option.some.inj (e.symm.trans (by rw [z]; exact hP))))]
      exact e
    have st : ∀ ρ, Step ρ ρ H (upd (upd H P (.tbl (ps ++ #[rawInt pos.line, rawInt pos.col, .ref c]))) c (LamX.CodeO c q.2)) := fun ρ =>
      ⟨List.prefix_refl _, fun _ z => .inl z, fun a o e _ _ n => off a o e n, fun a xs e => off a _ e (fun _ z => by cases z), fun a o u e => off a _ e (fun _ z => by cases z), fun a b x e => off a _ e LamX.codeO_ne, fun a e => by
        by_cases hac : a = c
        · rw [hac, upd_same]
          exact fun z => nomatch z
        · rw [upd_ne hac]
          by_cases haP : a = P
          · rw [haP, upd_same]
            exact fun z => nomatch z
          · rw [upd_ne haP]
            exact e⟩
    have tl : (ps ++ #[rawInt pos.line, rawInt pos.col, .ref c]).toList = ps.toList ++ [rawInt pos.line, rawInt pos.col, .ref c] := by simp
    refine h h'.objs.size c ((X.mg "__name__").getD .none) ctv _ _ J st (fun p hp => ?_) (Heap.get?_push_size _ rfl) ?_ (fresh _ hsz) upd_same
    · by_cases hb : (He.cT X.K p.1).2 = P
      · have hpq := hu p hp hb
        refine ⟨ps ++ #[rawInt pos.line, rawInt pos.col, .ref c], ?_, by rw [tl]; exact PySem.TriplesOk_snoc _ _ _ _ ht, fun pos' cv hcv => ?_⟩
        · show upd _ _ _ (He.cT X.K p.1).2 = _
          rw [hb, upd_ne nPc, upd_same]
        · rw [tl] at hcv
          rw [hpq]
          rcases LamX.among_app _ ht hcv with z | z
          · obtain ⟨c0, e1, e2⟩ := hA pos' cv z
            exact ⟨c0, e1, off _ _ e2 LamX.codeO_ne⟩
          · exact ⟨c, z, upd_same⟩
      · obtain ⟨ps', a1, a2, a3⟩ := tab p hp
        refine ⟨ps', ?_, a2, fun pos' cv hcv => ?_⟩
        · have a1' : H (He.cT X.K p.1).2 = some (.tbl ps') := a1
          show upd _ _ _ (He.cT X.K p.1).2 = _
          rw [upd_ne (ne_of_none a1' nC), upd_ne hb]
          exact a1'
        · obtain ⟨c0, e1, e2⟩ := a3 pos' cv hcv
          exact ⟨c0, e1, off _ _ e2 LamX.codeO_ne⟩
    · have n1 : h'.objs.size ≠ c := Nat.ne_of_gt hlt
      have n2 : h'.objs.size ≠ P := Nat.ne_of_gt (Nat.lt_of_lt_of_le (Heap.lt_size oP) hsz)
      rw [upd_ne n1, upd_ne n2]
      exact I.hok.fresh hsz
end
/-! ### f(.., lambda ..) -/
/-- arguments, one by one -/
inductive JAs (X : Cx) (W : WX) (L0 : Addr → Prop) (O : List Nat) : List Expr → LM → Prop
  | nil : JAs X W L0 O [] aNil
  | cons {a : Expr} {es : List Expr} {ma : EM} {n : LM} : JE X W L0 O a ma → JAs X W L0 O es n → (∀ r, starEach (a :: r) X.env = (false, eval a X.env) :: starEach r X.env) → JAs X W L0 O (a :: es) (aCons ma n)
theorem bind_assoc {α β γ : Type} (r : R α) (f : α → Sto → R β) (g : β → Sto → R γ) : (r.bind f).bind g = r.bind fun a S => (f a S).bind g := by cases r <;> rfl
section
variable {X : Cx} {W : WX} {L0 : Addr → Prop} {O : List Nat}
/-- the new code object, the new function: all else stays -/
theorem Cells.tabs {K : KX} {ρ : List Addr} {L : Addr → Prop} {H H1 : Hp} {S : Sto} (c : Cells K ρ L H S) (st : ∀ ρ, Step ρ ρ H H1) (tab : TabsOk K H1) : Cells K ρ L H1 S := by
  refine ⟨c.len, c.nd, fun i a x h1 h2 => ?_, fun a h => (st ρ).some_ a (c.trk a h), c.apart, tab, c.tbb⟩
  have q := c.at_ i a x h1 h2
  cases x with
  | lst ds =>
    obtain ⟨vs, e, r⟩ := q
    exact ⟨vs, (st []).keep a _ e (fun z => by cases z), Reps.step (st ρ) ds vs r⟩
  | ins k fs =>
    obtain ⟨dx, vs, e, r⟩ := q
    exact ⟨dx, vs, (st []).keep a _ e (fun z => by cases z), RepF.step (st ρ) fs vs r⟩
theorem args_lam {q : He.Defn × Str} {params : Arguments} {body : Expr} {scope : Scope} {lpos pos : Pos} {es : List Expr} {n : LM} (h : JAs X W L0 O es n) (hq : q ∈ Tf.tabs) (hq2 : X.env.qual ++ "<lambda>" = q.2) (hcode : X.env.code = .ref (He.cT X.K q.1).1)
    (hu : ∀ p ∈ Tf.tabs, (He.cT X.K p.1).2 = (He.cT X.K q.1).2 → p.2 = q.2) (hdef : defaultsOf params X.env = ([], [])) (hfree : X.Ok → ∀ y ∈ scope.names, y.2 = .free → ∃ c, X.env.cells.lookup y.1 = some c) :
    ∀ {pins : List (Addr × Obj)} {s : Shared} {σ : L2.St} {H : Hp} {ρ : List Addr} {Γ : Env'} {S : Sto} {k : List D → Sto → R D} {Q : VK} {fin : List Value → Shared → Prop}, Inv X pins σ H s → EnvOk X.kx ρ L0 O σ Γ H → Cells X.kx ρ (LO L0 O σ) H S →
      Goal X.kx ρ (LO L0 O σ) H ((n Γ S).bind k) Q (fun c od H' => W c od σ H') →
      (∀ (us : List Value) (f c : Addr) (pm ctv : Value) (s1 : Shared) (ds : List D) (S1 : Sto) (vs : List V) (ρ1 : List Addr) (H1 : Hp), Inv X pins σ H1 s1 → Step ρ ρ1 H H1 → Cells X.kx ρ1 (LO L0 O σ) H1 S1 → Reps X.kx ρ1 (LO L0 O σ) H1 ds vs → Vals vs us →
        Goal X.kx ρ1 (LO L0 O σ) H1 (k ds S1) Q (fun c od H' => W c od σ H') → s1.heap.get? f = some (PySem.W.kla_obj "<lambda>" q.2 params body scope (cloFrom X.env.cells scope.names []) pm c ctv) → H1 f = none → f ∉ frs X.stack → H1 c = some (LamX.CodeO c q.2) → fin (us ++ [.ref f]) s1) →
      wpAny (model X.prog X.w) X.A (spliced (backTo pos (starEach (es ++ [.Lambda params body scope lpos]) X.env))) fin X.xe s := by
  induction h with
  | nil =>
    intro pins s σ H ρ Γ S k Q fin I e c g hf
    show wpAny _ _ (spliced ((false, eval (.Lambda params body scope lpos) X.env) :: backTo pos (starEach [] X.env))) _ _ s
    refine Calls.spliced_cons (lam_new I hq hq2 hcode hu c.tab c.tbb hdef (hfree I.ok) fun f cc pm ctv H1 s1 I1 st t1 ho hn hfr hco => Calls.spliced_nil ?_)
    exact hf [] f cc pm ctv s1 [] S [] ρ H1 I1 (st ρ) (c.tabs st t1) Reps.nil .nil (GoalG.step (st ρ) g) ho hn hfr hco
  | cons ha hr hs ih =>
    intro pins s σ H ρ Γ S k Q fin I e c g hf
    rename_i a es ma n
    show wpAny _ _ (spliced (backTo pos (starEach (a :: (es ++ [.Lambda params body scope lpos])) X.env))) _ _ s
    rw [hs]
    show wpAny _ _ (spliced ((false, eval a X.env) :: backTo pos (starEach (es ++ [.Lambda params body scope lpos]) X.env))) _ _ s
    have g' : Goal X.kx ρ (LO L0 O σ) H ((ma Γ S).bind fun d S1 => (n Γ S1).bind fun ds S2 => k (d :: ds) S2) Q (fun c od H' => W c od σ H') := by
      have e : (aCons ma n Γ S).bind k = (ma Γ S).bind fun d S1 => (n Γ S1).bind fun ds S2 => k (d :: ds) S2 := by
        show (((ma Γ S).bind fun d S1 => (n Γ S1).bind fun ds S2 => .val (d :: ds) S2).bind k) = _
        rw [bind_assoc]
        congr 1
        funext d S1
        rw [bind_assoc]
        rfl
      rw [← e]
      exact g
    refine Calls.spliced_cons (thn (ha.run pins s σ H (fun v H1 => ∃ d S1 ρ1, Step ρ ρ1 H H1 ∧ Cells X.kx ρ1 (LO L0 O σ) H1 S1 ∧ Rep X.kx ρ1 (LO L0 O σ) H1 d v ∧ Goal X.kx ρ1 (LO L0 O σ) H1 ((n Γ S1).bind fun ds S2 => k (d :: ds) S2) Q (fun c od H' => W c od σ H')) I
      ⟨ρ, Γ, S, e, c, GoalG.bind g' fun d S1 v ρ1 H1 st c1 r1 g1 => ⟨d, S1, ρ1, st, c1, r1, g1⟩⟩) fun u s1 ⟨v, H1, I1, rv, d, S1, ρ1, st, c1, r1, g1⟩ => ?_)
    refine ih I1 (e.step st) c1 g1 fun us f cc pm ctv s2 ds S2 vs ρ2 H2 I2 st2 c2 r2 rv2 g2 ho hn hfr hco => ?_
    exact hf (u :: us) f cc pm ctv s2 (d :: ds) S2 (v :: vs) ρ2 H2 I2 (st.trans st2) c2 (Reps.cons (Rep.step st2 d v r1) r2) (.cons rv rv2) g2 ho hn hfr hco
/-- no function is told that stands fast here alone -/
def sealR (r : R D) : R D := match r with
  | .val d S => ifR (noExc d && S.all noExcC) (.val d S)
  | .exn x S => ifR (noExcF x.args && S.all noExcC) (.exn x S)
  | .stuck => .stuck
theorem seal_goal {F : PySem.W.Frag} {B B' : Heap} {M : Str → Option Value} {ρ : List Addr} {L : Addr → Prop} {H : Hp} {r : R D} {Q : VK} {QX : XK} (tb : TabsB ⟨F, none, B, M⟩) (g : Goal ⟨F, none, B, M⟩ ρ L H (sealR r) Q QX) : Goal ⟨F, none, B', M⟩ ρ L H r Q QX := by
  cases r with
  | stuck => exact g
  | val d S =>
    obtain ⟨hn, g⟩ := of_ifR (r := R.val d S) g
    obtain ⟨n1, n2⟩ := Bool.and_eq_true_iff.mp hn
    exact fun v ρ' H' s c r => g v ρ' H' s (c.noExc n2 tb) (Rep.noExc d v n1 r)
  | exn x S =>
    obtain ⟨hn, g⟩ := of_ifR (r := R.exn x S) g
    obtain ⟨n1, n2⟩ := Bool.and_eq_true_iff.mp hn
    exact fun cc od ρ' H' s c r => g cc od ρ' H' s (c.noExc n2 tb) ⟨r.1, r.2.imp id fun ⟨d, vs, q1, q2, q3, q4, q5⟩ => ⟨d, vs, q1, q2, q3, q4, RepF.noExc _ vs n1 q5⟩⟩
/-- what some slots hold -/
def slotsD (Γ : Env') : List Nat → Option (List D)
  | [] => some []
  | i :: is => match Γ[i]?, slotsD Γ is with
    | some (some d), some ds => some (d :: ds)
    | _, _ => none
theorem slots_rep {K : KX} {ρ : List Addr} {σ : L2.St} {Γ : Env'} {H : Hp} (e : EnvOk K ρ L0 O σ Γ H) : ∀ {is : List Nat} {cs : List D}, slotsD Γ is = some cs → (∀ i ∈ is, i ∉ O) → ∃ vs, Reps K ρ (LO L0 O σ) H cs vs ∧ is.map (NdefX.slotAt σ) = vs.map some
  | [], cs, h, _ => by
    cases h
    exact ⟨[], Reps.nil, rfl⟩
  | i :: is, cs, h, ho => by
    unfold slotsD at h
    split at h
    · rename_i d ds h1 h2
      cases h
      obtain ⟨vs, r, e2⟩ := slots_rep e h2 fun j hj => ho j (List.mem_cons_of_mem _ hj)
      obtain ⟨v, q, r1⟩ := e.slot i d h1 (ho i List.mem_cons_self)
      exact ⟨v :: vs, Reps.cons r1 r, by rw [List.map_cons, List.map_cons, e2, NdefX.slotAt_of q]⟩
    · cases h
theorem Reps.snoc {K : KX} {ρ : List Addr} {L : Addr → Prop} {H : Hp} : ∀ {ds : List D} {vs : List V} {d : D} {v : V}, Reps K ρ L H ds vs → Rep K ρ L H d v → Reps K ρ L H (ds ++ [d]) (vs ++ [v])
  | [], vs, d, v, h, r => by
    unfold Reps at h
    subst h
    exact Reps.cons r Reps.nil
  | d' :: ds, vs, d, v, h, r => by
    unfold Reps at h
    obtain ⟨v', r', e, q, z⟩ := h
    subst e
    exact Reps.cons q (Reps.snoc z r)
theorem vals_snoc {vs : List V} {us : List Value} {v : V} {u : Value} (h : Vals vs us) (r : RelV v u) : Vals (vs ++ [v]) (us ++ [u]) := by
  induction h with
  | nil => exact .cons r .nil
  | cons a b ih => exact .cons a ih
/-- f(.., lambda ..): the lambda q keeps what stands in the slots is -/
def eCallL (n : Nat) (F : PN) (q : Str) (is : List Nat) (m : LM) : EM := fun Γ S => match slotsD Γ is with
  | some cs => (m Γ S).bind fun ds S1 => ifR (decide (ds.length + 1 = n)) (sealR (F (ds ++ [.clo q cs]) S1))
  | none => .stuck
theorem je_callL {k j : Nat} {x : Str} {ps : List Str} {F : PN} {a : Expr} {es : List Expr} {m : LM} {q : Str} {l : LamD} {t : He.Defn} {p lpos pos : Pos} (is : List Nat) (Dn : ∀ base, FnD X.prog X.w X.K X.mg base k x ps F) (i : In X W j) (hl : Tf.lam q = l) (hq : (t, l.qual) ∈ Tf.tabs) (hcode : X.env.code = .ref (He.cT X.K t).1)
    (hu : ∀ p ∈ Tf.tabs, (He.cT X.K p.1).2 = (He.cT X.K t).2 → p.2 = l.qual) (ha : JAs X W L0 O (a :: es) m) (h : k ≤ j := by decide) (hg : Gl X x := by rfl) (hq2 : X.env.qual ++ "<lambda>" = l.qual := by rfl) (hdef : defaultsOf l.params X.env = ([], []) := by rfl)
    (hfree : ∀ y ∈ l.scope.names, y.2 = .free → X.env.scope.names.lookup y.1 = some .cell ∨ X.env.scope.names.lookup y.1 = some .free) (hfr : ∀ y ∈ l.caps, (y, NameKind.free) ∈ l.scope.names) (hjs : is.map (fun j => X.N[j]?) = l.caps.map some := by rfl) (hfn : ∀ y, X.fn y = true := by intro _; rfl) (ho : ∀ i ∈ is, i ∉ O := by decide)
    (hdb : (x == ("__debug__" : Str)) = false := by decide) (he : starEach (a :: (es ++ [.Lambda l.params l.body l.scope lpos])) X.env = (false, eval a X.env) :: starEach (es ++ [.Lambda l.params l.body l.scope lpos]) X.env := by rfl) (hpl : (backTo pos (starEach (es ++ [.Lambda l.params l.body l.scope lpos]) X.env)).any (·.1) = false := by rfl) :
    JE X W L0 O (.Call (.Name x p) (a :: (es ++ [.Lambda l.params l.body l.scope lpos])) [] pos) (eCallL ps.length F q is m) := ⟨fun pins s σ H Q I hh => by
  obtain ⟨ρ, Γ, S, e, c, g⟩ := hh
  unfold eCallL at g
  split at g
  rotate_left
  · exact g.elim
  rename_i cs hcs
  have hfree' : X.Ok → ∀ y ∈ l.scope.names, y.2 = .free → ∃ c, X.env.cells.lookup y.1 = some c := fun ok y hy ey => (hfree y hy ey).elim (fun z => ok.has _ (.inl z)) fun z => ok.has _ (.inr z)
  refine wpAny_Call_Name_kw (ld_glob I hg (Dn X.base).gl ?_ hdb)
  obtain ⟨_, _, kp, _⟩ := (Dn X.base).ex
  refine PySem.W.callWith_K (h₀ := X.base) (first := []) I.ok.mod.kin kp (args_lam (q := (t, l.qual)) (es := a :: es) ha hq hq2 hcode hu hdef hfree' I e c g fun us f cc pm ctv s1 ds S1 vs ρ1 H1 I1 st c1 r1 rv g1 ho1 hn1 hf1 hco => ⟨I1.kIn, ?_⟩) he hpl
  obtain ⟨hn, g2⟩ := of_ifR g1
  have hkx := kx_calm i.calm
  obtain ⟨cvs, rcs, ecs⟩ := slots_rep (e.step st) hcs ho
  rw [hkx] at r1 c1 g2 rcs
  obtain ⟨fd, G, _, bi, _⟩ := (Dn (nowB X H1 s1)).ex
  have grow : ∀ b o, X.base.get? b = some o → (nowB X H1 s1).get? b = some o := fun b o z => base_now I1 z
  -- the cells stand fast
  have C := NdefX.cells_of I1 (NdefX.Caps.made (js := is) I1.ok hfree hfr hjs)
  rw [ecs] at C
  have cn : ∀ y b, (cloFrom X.env.cells l.scope.names []).lookup y = some b → b ∉ frs X.stack := fun y b z hb => by
    have z' := NdefX.clo_cm (hfree' I1.ok) z
    rcases List.mem_cons.mp (I1.stkSub b hb) with w | w
    · exact I1.cne y b z' w
    · obtain ⟨_, o, ho, _⟩ := I1.ok.funs.mem w
      exact Nat.lt_irrefl _ (Nat.lt_of_lt_of_le (Heap.lt_size ho) (I1.ok.cab y b (hfn y) z'))
  have ck : ∀ y b, (cloFrom X.env.cells l.scope.names []).lookup y = some b → ∀ v, s1.heap.IsCell b v → (nowB X H1 s1).IsCell b v := fun y b z v ⟨o, w1, w2⟩ => ⟨o, nowB_get w1 (C.all y b z).1 (cn y b z), w2⟩
  have C' : NdefX.CellsAt (cloFrom X.env.cells l.scope.names []) l.caps (cvs.map some) (nowB X H1 s1) fun _ => none := ⟨C.len, fun y b z => ⟨rfl, let ⟨v, w⟩ := (C.all y b z).2; ⟨v, ck y b z v w⟩⟩, C.inj, fun jj y z => by
    obtain ⟨b, w1, w2⟩ := C.has jj y z
    exact ⟨b, w1, fun v ev => let ⟨u, r, w3⟩ := w2 v ev; ⟨u, r, ck y b w1 _ w3⟩⟩⟩
  have rl : Rep ⟨X.K, none, nowB X H1 s1, X.mg⟩ ρ1 (LO L0 O σ) H1 (.clo q cs) (.ref f) := by
    unfold Rep
    rw [hl]
    exact ⟨f, cc, cvs, rfl, ⟨_, pm, ctv, nowB_get ho1 hn1 hf1, C'⟩, hco, Reps.into grow _ _ rcs⟩
  have hlen : (ds ++ [D.clo q cs]).length = ps.length := by
    rw [List.length_append, List.length_singleton]
    exact of_decide_eq_true hn
  have sp : spF ⟨X.K, none, nowB X H1 s1, X.mg⟩ ps.length F (vs ++ [.ref f]) H1 Q (fun c od H' => W c od σ H') := ⟨ρ1, LO L0 O σ, S1, ds ++ [.clo q cs], Reps.snoc (Reps.into grow _ _ r1) rl, c1.into grow, hlen, seal_goal c1.tbb g2⟩
  have rv' : Vals (vs ++ [.ref f]) (us ++ [.ref f]) := vals_snoc rv rfl
  have hul : (us ++ [Value.ref f]).length = ps.length := by
    rw [← rv'.length]
    exact G.len _ _ _ _ sp
  have hb' := bi s1 (us ++ [.ref f]) I1.kIn (by simpa using hul)
  rw [List.append_nil] at hb'
  show wpAny _ _ (call (.ref (He.ga X.K x)) (us ++ [.ref f])) _ _ s1
  refine wpAny_call (codeAny_mono (G.run X.A X.stack s1 H1 ⟨us ++ [.ref f], []⟩ (us ++ [.ref f]) (vs ++ [.ref f]) Q (WE W σ) (i.hr.mono h) i.gd (env0_now I1) hb' rv' sp) fun r s' hq => ?_)
  cases r with
  | error e => exact passAt i.tk σ pins H1 s1 e s' I1 hq
  | ok fl =>
    cases fl with
    | ret u => exact I1.after hq
    | next => exact False.elim hq
    | brk => exact False.elim hq
    | cont => exact False.elim hq⟩
end
end Pv
namespace Pv
open PySem PySem.Spec PyProof.Rows L2
variable [Tf]
/-! ### what a lambda does -/
/-- the lambda q does F with n arguments and with what it keeps -/
structure LamOk (P : Program) (w : World) (K : PySem.W.Frag) (mg : Str → Option Value) (k : Nat) (q : Str) (n : Nat) (F : PN) : Prop where
  run : ∀ (base : Heap) (A : Around) (outer : List Env) (s : Shared) (H : Hp) (f : Addr) (us : List Value) (vs : List V) (ρ : List Addr) (L : Addr → Prop) (S : Sto) (cs ds : List D) (Q : VK) (E : XK), Room k A → A.guards = some [] → Env0 P w K mg base A outer s H →
    Rep ⟨K, none, base, mg⟩ ρ L H (.clo q cs) (.ref f) → Reps ⟨K, none, base, mg⟩ ρ L H ds vs → Vals vs us → ds.length = n → Cells ⟨K, none, base, mg⟩ ρ L H S → Goal ⟨K, none, base, mg⟩ ρ L H (F (ds ++ cs) S) Q E →
    codeAny (model P w) A (.call (.ref f) ⟨us, []⟩) (CR (L2.CX P w) outer P w H s Q E) s
theorem startF_eq (N : List Str) (vs ws : List V) : NdefX.startF N vs (ws.map some) = L2.start N (vs ++ ws) := by
  unfold NdefX.startF L2.start
  rw [List.map_append, List.append_assoc, List.length_append, List.length_map, Nat.sub_sub]
/-- the lambda l, its object's parts given, as a function with a body of its own -/
abbrev lamF (l : LamD) (cl : List (Str × Addr)) (c : Addr) : NdefX.NF := ⟨"<lambda>", l.qual, l.params, [], l.scope, cl, c⟩
section
variable {P : Program} {w : World} {K : PySem.W.Frag} {mg : Str → Option Value}
theorem lam_ok {q : Str} {l : LamD} {N ps : List Str} {k : Nat} {m : EM} (hl : Tf.lam q = l) (Sc : NdefX.NScope N ps l.caps l.scope)
    (hb : ∀ (cl : List (Str × Addr)) (pm : Value) (c : Addr) (ctv : Value) (us : List Value), us.length = ps.length → bindArgs (PySem.W.kla_fn "<lambda>" l.qual l.params l.body l.scope cl pm (.ref c) ctv) ⟨us, []⟩ = pure (ps.zip us))
    (hbody : ∀ (base : Heap) (A : Around) (outer : List Env) (s : Shared) (H : Hp) (E : XK) (L0 : Addr → Prop) (f c : Addr) (cl : List (Str × Addr)), In (NdefX.ncx (L2.CX P w) P w K mg base N (lamF l cl c) f A outer s H E) (fun c d _ H' => E c d H') k →
      JE (NdefX.ncx (L2.CX P w) P w K mg base N (lamF l cl c) f A outer s H E) (fun c d _ H' => E c d H') L0 [] l.body m) :
    LamOk P w K mg (k + 1) q ps.length (fun ds S => m (startD N.length ds) S) := by
  refine ⟨fun base A outer s H f us vs ρ L S cs ds Q E hr gd e0 hc r rv hn cells g => ?_⟩
  unfold Rep at hc
  rw [hl] at hc
  obtain ⟨f', c, ws, ef, ⟨cl, pm, ctv, ho, C0⟩, hco, rc⟩ := hc
  cases ef
  have hos := (e0.bs f _ ho).1
  have C : NdefX.CellsAt cl l.caps (ws.map some) s.heap H := ⟨C0.len, fun y b z => by
    obtain ⟨_, v, o, w1, w2⟩ := C0.all y b z
    exact ⟨(e0.bs b o w1).2, v, o, (e0.bs b o w1).1, w2⟩, C0.inj, fun j y z => by
    obtain ⟨b, w1, w2⟩ := C0.has j y z
    exact ⟨b, w1, fun v ev => let ⟨u, r, o, w3, w4⟩ := w2 v ev; ⟨u, r, o, (e0.bs b o w3).1, w4⟩⟩⟩
  have hok := e0.hok c _ hco
  obtain ⟨⟨oc, fs, t, e1, e2, e3⟩, _, _⟩ := hok
  have lim : s.heap.NoLimit := e0.mod.nolimit.keeps fun b o e => (e0.bs b o e).1
  have hlv : vs.length = ps.length := by rw [← r.length]; exact hn
  have hlu : us.length = ps.length := by rw [← rv.length]; exact hlv
  refine PySem.W.kla_callFunE hr.depth hos rfl Sc.co Sc.gen rfl ⟨c, oc, fs, t, rfl, e1, e2, e3⟩ ?_
  rw [hb cl pm c ctv us hlu]
  refine wpAny_pure (wpAny_newFunctionEnv Sc.nocell (fun ⟨n, _⟩ hy => Sc.par n (List.of_mem_zip hy).1) (fun h₁ hns hsb => ⟨lim.fresh _ hsb, ?_⟩) Sc.kind)
  show codeAny _ _ (.expr l.body (NdefX.envF (lamF l cl c) f s.heap.objs.size)) _ _
  have kp : ∀ b o, s.heap.get? b = some o → h₁.get? b = some o := fun b o e => hsb.extBut b o (Nat.ne_of_lt (Heap.lt_size e)) (Heap.get?_push_of_some _ e)
  have I := NdefX.inv_startN (CX := L2.CX P w) (F := lamF l cl c) (f := f) (E := E) (tk := s.toks + (ps.zip us).length) Sc hr.hd e0 hlv rv C hns kp
  rw [startF_eq] at I
  have i : In (NdefX.ncx (L2.CX P w) P w K mg base N (lamF l cl c) f A outer s H E) (fun c d _ H' => E c d H') k :=
    ⟨rfl, takes_of (X := NdefX.ncx (L2.CX P w) P w K mg base N (lamF l cl c) f A outer s H E) rfl rfl rfl rfl, hr.deeper _, gd, passes_of (X := NdefX.ncx (L2.CX P w) P w K mg base N (lamF l cl c) f A outer s H E) rfl⟩
  have lo : ∀ a, L a → LO L [] (L2.start N (vs ++ ws)) a := fun a z => .inl z
  have g' : Goal ⟨K, none, base, mg⟩ ρ (LO L [] (L2.start N (vs ++ ws))) H (m (startD N.length (ds ++ cs)) S) Q E := by
    cases e : m (startD N.length (ds ++ cs)) S with
    | stuck => rw [e] at g; exact g
    | val d S' => rw [e] at g; exact fun v ρ' H' s c r => g v ρ' H' s (c.weak lo) (Rep.weak lo d v r)
    | exn x S' => rw [e] at g; exact fun cc od ρ' H' s c r => g cc od ρ' H' s (c.weak lo) (XRep.weak lo r)
  have cells' : Cells ⟨K, none, base, mg⟩ ρ (LO L [] (L2.start N (vs ++ ws))) H S := cells.weak fun a z => z.elim id fun ⟨j, hj, _⟩ => by cases hj
  refine PySem.W.kla_codeExpr (wpAny_mono ((hbody base A outer s H E L f c cl i).run [] _ (L2.start N (vs ++ ws)) H Q I ⟨ρ, startD N.length (ds ++ cs), S, env_start (r.append rc), cells', g'⟩) (fun v s' hq => ?_) fun e s' hq => hq)
  obtain ⟨v', H', J, rv', q'⟩ := hq
  exact ⟨v', H', J.os, J.bare, J.base, J.hok, rv', q'⟩
end
/-! ### a name that holds a def or a lambda is called -/
def eCallU (i : Nat) (tab tabC : Str → Option (Nat × PN)) (n : LM) : EM := fun Γ S => match Γ[i]? with
  | some (some (.fn x)) => (match tab x with
    | some nF => (n Γ S).bind (callN nF.1 nF.2)
    | none => .stuck)
  | some (some (.clo q cs)) => (match tabC q with
    | some nF => (n Γ S).bind fun ds S1 => ifR (decide (ds.length = nF.1)) (nF.2 (ds ++ cs) S1)
    | none => .stuck)
  | _ => .stuck
structure LamAt (X : Cx) (q : Str) (n : Nat) (F : PN) : Prop where
  ex : ∃ k, LamOk X.prog X.w X.K X.mg k q n F ∧ Room k X.A
section
variable {X : Cx} {W : WX} {L0 : Addr → Prop} {O : List Nat} {a : Expr} {pos : Pos}
theorem je_callU {i j : Nat} {x : Str} {es : List Expr} {n : LM} {p : Pos} {tab tabC : Str → Option (Nat × PN)} (I0 : In X W j) (ht : ∀ y nF, tab y = some nF → FnAt X y nF.1 nF.2) (hc : ∀ q nF, tabC q = some nF → LamAt X q nF.1 nF.2) (ha : JA X W L0 O (a :: es) n)
    (hN : X.N[i]? = some x := by rfl) (hv : Vis X.env.scope x := by first | exact .inl rfl | exact .inr (.inl rfl) | exact .inr (.inr rfl)) (hi : i ∉ O := by decide)
    (hdb : (x == ("__debug__" : Str)) = false := by decide) (hcd : (x == ("__classdict__" : Str)) = false := by decide) (he : starEach (a :: es) X.env = (false, eval a X.env) :: starEach es X.env := by rfl) (hpl : (backTo pos (starEach es X.env)).any (·.1) = false := by rfl) :
    JE X W L0 O (.Call (.Name x p) (a :: es) [] pos) (eCallU i tab tabC n) := ⟨fun pins s σ H Q I h => by
  obtain ⟨ρ, Γ, S, e, c, g⟩ := h
  unfold eCallU at g
  split at g
  · rename_i y hy
    refine (je_callV I0.calm I0.tk I0.gd hN hv hi ht ha hdb hcd he hpl).run pins s σ H Q I ⟨ρ, Γ, S, e, c, ?_⟩
    unfold eCallV
    rw [hy]
    exact g
  · rename_i q cs hy
    split at g
    · rename_i nF hF
      obtain ⟨k, Lm, hr⟩ := (hc q nF hF).ex
      obtain ⟨v, hs, r⟩ := e.slot i _ hy hi
      have r0 := r
      rw [kx_calm I0.calm] at r0
      have r0' := r0
      unfold Rep at r0'
      obtain ⟨f, cc, ws, ev, ⟨cl, pm, ctv, ho, _⟩, _, _⟩ := r0'
      subst ev
      have fat : ∀ {σ' : L2.St} {H' : Hp} {s' : Shared}, Inv X pins σ' H' s' → PySem.W.FnAt f s'.heap := fun J => ⟨_, _, _, _, J.bk f _ ho⟩
      refine wpAny_Call_Name_kw (thn ((pe_var (pos := p) hN hv hdb hcd).run pins s σ H (fun v H1 => v = .ref f ∧ H1 = H) I ⟨_, hs, rfl, rfl⟩) fun u s1 ⟨v, H1, I1, r1, q1⟩ => ?_)
      obtain ⟨rfl, rfl⟩ := q1
      cases r1
      refine PySem.W.callWith_F (first := []) (fat I1) (thn (ha.run pos pins s1 σ _ (fun vs H2 => ∃ ρ2 ds S2, Step ρ ρ2 H1 H2 ∧ Cells X.kx ρ2 (LO L0 O σ) H2 S2 ∧ Reps X.kx ρ2 (LO L0 O σ) H2 ds vs ∧ Goal X.kx ρ2 (LO L0 O σ) H2 (ifR (decide (ds.length = nF.1)) (nF.2 (ds ++ cs) S2)) Q fun c od H' => W c od σ H') I1
        ⟨ρ, Γ, S, e, c, GoalG.bind g fun ds S1 vs ρ1 H1 s1 c1 r1 g1 => ⟨ρ1, ds, S1, s1, c1, r1, g1⟩⟩) fun us s2 ⟨vs, H2, I2, rv, ρ2, ds, S2, st, c2, r2, g2⟩ => ⟨fat I2, ?_⟩) he hpl
      obtain ⟨hn, g3⟩ := of_ifR g2
      have r3 := Rep.step st _ _ r
      rw [kx_calm I0.calm] at r3 r2 c2 g3
      show wpAny _ _ (call (.ref f) us) _ _ _
      refine wpAny_call (codeAny_mono (Lm.run X.base X.A X.stack s2 H2 f us vs ρ2 _ S2 cs ds Q (WE W σ) hr I0.gd I2.env0 r3 r2 rv (of_decide_eq_true hn) c2 g3) fun r s' hq => ?_)
      cases r with
      | error e => exact passAt I0.tk σ pins H2 s2 e s' I2 hq
      | ok fl =>
        cases fl with
        | ret u => exact I2.after hq
        | next => exact False.elim hq
        | brk => exact False.elim hq
        | cont => exact False.elim hq
    · exact g.elim
  · exact g.elim⟩
/-- [..] * n: a new list -/
def fRep (ma mb : EM) : LM := fun Γ S => (ma Γ S).bind fun x S1 => (mb Γ S1).bind fun y S2 => match x, y with
  | .lst xs, .int k => ifR (decide (-(2 ^ 63) ≤ k ∧ k < 2 ^ 63 ∧ xs.length * k.toNat ≤ sizeLine)) (.val (List.replicate k.toNat xs).flatten S2)
  | _, _ => .stuck
theorem jf_rep {b : Expr} {ma mb : EM} (ha : JE X W L0 O a ma) (hb : JE X W L0 O b mb) : JF X W L0 O (.BinOp a .Mult b pos) (fRep ma mb) := PE.imp (pe_op op_rep ha hb) fun σ H Q ⟨ρ, Γ, S, e, c, g⟩ => by
  refine ⟨ρ, Γ, S, e, c, GoalF.bind g fun x S1 v ρ1 H1 s1 c1 r1 g1 => ⟨ρ1, Γ, S1, e.step s1, c1, GoalF.bind g1 fun y S2 u ρ2 H2 s2 c2 r2 g2 => ?_⟩⟩
  split at g2
  · rename_i xs k
    obtain ⟨h, g3⟩ := of_ifRF g2
    obtain ⟨p, vs, rfl, q, _, _, r⟩ := (Rep.step s2 _ _ r1).lst_inv
    rw [r2.int_inv]
    obtain ⟨h1, h2, h3⟩ := of_decide_eq_true h
    rw [r.length] at h3
    exact ⟨p, k, vs, rfl, rfl, q, h1, h2, h3, fun p' hp => GoalF.lst g3 c2 (r.rep _) hp⟩
  · exact g2.elim
end
end Pv
namespace Pv
open PySem PySem.Spec PyProof.Rows L2
variable [Tf]
/-- where the tables stand -/
def tabAt (K : PySem.W.Frag) : List Addr := Tf.tabs.map fun p => (He.cT K p.1).2
/-- an empty table -/
abbrev tab0 : Obj := { cls := .none, data := .fields #[] }
/-- the law's def called with the script, no repr under way, the tables empty yet -/
theorem law_callG {P : Program} {w : World} {K : PySem.W.Frag} {mg mb : Str → Option Value} {k : Nat} {fa a : Addr} {fd : FuncData} {x : Str} {m : PN} {s₁ : Shared} {vs : List Value} {ns : List Int}
    (KX : K.In s₁.heap) (hns : s₁.heap.Ns mainGlobals mg) (hb : s₁.heap.Ns builtinsNs mb) (hbb : ∀ x : Str, x ≠ "__name__" → mb x = bootBuiltins x) (hlim : s₁.heap.NoLimit) (hg : s₁.gens = #[])
    (t1 : ∀ p ∈ Tf.tabs, s₁.heap.get? (He.cT K p.1).2 = some tab0) (t2 : ∀ p ∈ Tf.tabs, K.lookup (He.cT K p.1).2 = none) (t3 : ∀ p ∈ Tf.tabs, PySem.W.CodeHd s₁.heap (He.cT K p.1).1 (He.cT K p.1).2)
    (bmn : Tf.tabs = [] ∨ ∃ (bm : Addr) (ob : Obj), mg "__builtins__" = some (.ref bm) ∧ bm ≠ builtinsNs ∧ s₁.heap.get? bm = some ob ∧ ob.cls = .type "module" ∧ ob.dict = some builtinsNs ∧ ob.data = .plain)
    (ha : s₁.heap.get? a = some { cls := .type "list", data := .seq vs.toArray }) (hi : IntsAre vs ns) (hl : ns.length ≤ sizeLine) (hr : Room k callerA)
    (F : ∀ base : Heap, K.In base → base.Ns mainGlobals mg → FnG P w K mg base (L2.CX P w) k fa fd [x] (spF ⟨K, none, base, mg⟩ 1 m)) (hbind : ∀ (s : Shared) (u : Value), BindsTo s fd ⟨[u], []⟩ [(x, u)])
    (hm : ∃ S, m [.frz (ns.map D.int)] [] = .val (.bl true) S) :
    codeAny (model P w) callerA (.call (.ref fa) ⟨[.ref a], []⟩) (fun r s' => r = .ok (.ret (.bool true)) ∧ OldK s₁.heap s'.heap ∧ s'.os = s₁.os ∧ AllBare s'.gens) s₁ := by
  have rv := vals_ints hi
  have lenV := hi.length
  have reps : ∀ (B : Heap) (H : Hp) (ns : List Int), Reps ⟨K, none, B, mg⟩ [] (fun _ => False) H (ns.map D.int) (ns.map V.int) := fun B H ns => by
    induction ns with
    | nil => exact Reps.nil
    | cons n ns ih => exact Reps.cons rep_int ih
  have isT : ∀ b ∈ tabAt K, s₁.heap.get? b = some tab0 ∧ K.lookup b = none := fun b hb => by
    obtain ⟨p, hp, rfl⟩ := List.mem_map.mp hb
    exact ⟨t1 p hp, t2 p hp⟩
  have aT : a ∉ tabAt K := fun z => by
    have q := (isT a z).1
    rw [ha] at q
    cases (show Data.seq vs.toArray _ = Data.fields #[] from congrArg Obj.data (Option.some.inj q))
  have core : ∀ H : Hp, (∀ b ∈ tabAt K, H b = some (.tbl #[])) → (∀ b, H b = none ∨ b ∈ tabAt K ∨ ∃ o xs, H b = some (.frz o (.lst xs))) → ((∃ o, H a = some (.frz o (.lst (ns.map V.int)))) ∨ KL K a (ns.map V.int)) → HOk P w H s₁.heap → (∀ b, H b ≠ none → b = a ∨ b ∈ tabAt K) → (H a ≠ none → K.lookup a = none) →
      codeAny (model P w) callerA (.call (.ref fa) ⟨[.ref a], []⟩) (fun r s' => r = .ok (.ret (.bool true)) ∧ OldK s₁.heap s'.heap ∧ s'.os = s₁.os ∧ AllBare s'.gens) s₁ := by
    intro H hH hO hS hok hA hK
    have only : ∀ {b : Addr} {u : HO}, H b = some u → b = a ∨ b ∈ tabAt K := fun e => hA _ (by rw [e]; exact fun z => nomatch z)
    -- what is neither a list nor an empty table is not followed
    have fr : ∀ {b : Addr} {o : Obj}, s₁.heap.get? b = some o → (∀ xs n, o.data ≠ .seq xs n) → o.data ≠ .fields #[] → H b = none := fun {b o} e d1 d2 => by
      cases q : H b with
      | none => rfl
      | some u =>
        rcases only q with z | z
        · subst z
          rw [ha] at e
          cases e
          exact (d1 _ _ rfl).elim
        · rw [(isT b z).1] at e
          cases e
          exact (d2 rfl).elim
    have noA : ∀ {b : Addr} {o : Obj} {es : Array DictEntry} {ep : Nat}, s₁.heap.get? b = some o → o.data = .dict es ep → H b = none := fun {b o es ep} e d =>
      fr e (fun xs n z => by rw [d] at z; cases z) fun z => by rw [d] at z; cases z
    have nsK : ∀ {b : Addr} {m : Str → Option Value}, s₁.heap.Ns b m → (hidT s₁.heap H).Ns b m := fun {b m} ⟨o, es, ep, e, d, r⟩ => ⟨o, es, ep, hidT_get e (noA e d), d, r⟩
    have hKb : K.In (hidT s₁.heap H) := fun b o e => hidT_get (KX b o e) (by
      cases q : H b with
      | none => rfl
      | some u =>
        rcases only q with z | z
        · subst z
          rw [hK (by rw [q]; exact fun z => nomatch z)] at e
          cases e
        · rw [(isT b z).2] at e
          cases e)
    have hM : Mod K mg (hidT s₁.heap H) := ⟨hKb, nsK hns, ⟨mb, nsK hb, hbb⟩, let ⟨mc, h1, h2⟩ := hlim; ⟨mc, nsK h1, h2⟩⟩
    have e0 : Env0 P w K mg (hidT s₁.heap H) callerA [] s₁ H := ⟨rfl, hM, fun b o e => of_hidT e, Nat.le_of_eq (hidT_size _ _), trivial, fun b hb => (by cases hb), hok, .of_eq hg⟩
    have tbb : TabsB ⟨K, none, hidT s₁.heap H, mg⟩ := fun p hp => by
      have hTp : s₁.heap.get? (He.cT K p.1).2 = some tab0 := t1 p hp
      rcases bmn with z | ⟨bm, ob, b1, b2, b3, b4, b5, b6⟩
      · rw [z] at hp
        cases hp
      refine ⟨?_, ⟨bm, ob, b1, b2, fun q => ?_, fun q => ?_, hidT_get b3 (fr b3 (fun xs n z => by rw [b6] at z; cases z) fun z => by rw [b6] at z; cases z), b4, b5, b6⟩, fun z => ?_⟩
      · obtain ⟨o, us, f1, f2, f3, f4, f5, f6, f7, e1, r1, r2, r⟩ := t3 p hp
        refine ⟨o, us, f1, f2, f3, f4, f5, f6, f7, hidT_get e1 (fr e1 (fun xs n z => ?_) fun z => ?_), r1, r2, r⟩
        · rw [r2] at z
          cases z
        · rw [r2] at z
          cases z
          simp at r
      · obtain ⟨o, es, ep, e, hd, _⟩ := hns
        rw [q, e] at b3
        cases b3
        rw [hd] at b6
        cases b6
      · rw [q, hTp] at b3
        cases b3
        cases b6
      · obtain ⟨o, es, ep, e, hd, _⟩ := hns
        rw [z, hTp] at e
        cases e
        cases hd
    have goal : spF ⟨K, none, hidT s₁.heap H, mg⟩ 1 m [.ref a] H (fun v _ => v = .bl true) fun _ _ _ => False := by
      obtain ⟨S, e⟩ := hm
      refine ⟨[], fun _ => False, [], [.frz (ns.map D.int)], Reps.cons ?_ Reps.nil, ⟨rfl, List.nodup_nil, fun i a c h1 => by simp at h1, fun _ z => z.elim, fun _ z => by simp at z, fun p hp => ?_, tbb⟩, rfl, ?_⟩
      · unfold Rep
        exact ⟨a, _, rfl, hS, reps _ H ns⟩
      · exact ⟨#[], hH _ (List.mem_map.mpr ⟨p, hp, rfl⟩), True.intro, fun pos cv z => by
          have z' : codeAmong pos [] = some cv := z
          simp [codeAmong] at z'⟩
      · rw [e]
        exact fun v ρ' H' _ _ r => r.bl_inv
    refine codeAny_mono ((F _ hKb (nsK hns)).run callerA [] s₁ H ⟨[.ref a], []⟩ [.ref a] [.ref a] _ _ hr rfl e0 (hbind s₁ (.ref a)) (.cons rfl .nil) goal) fun r s' h => ?_
    cases r with
    | error e =>
      obtain ⟨_, _, _, _, _, _, _, _, _, _, _, _, z⟩ := h
      exact z.elim
    | ok fl =>
      cases fl with
      | next => exact h.elim
      | brk => exact h.elim
      | cont => exact h.elim
      | ret u =>
        obtain ⟨v, H', os, bare, un, hok', r', q⟩ := h
        cases (show v = .bl true from q)
        obtain rfl : u = Value.bool true := r'
        have old : ∀ b o, b ∉ tabAt K → s₁.heap.get? b = some o → s'.heap.get? b = some o := fun b o hn e => by
          cases q : H b with
          | none => exact un.keep b o e q (fun z => by cases z) (by simp)
          | some u =>
            rcases hO b with z | z | ⟨ob, xs, z⟩
            · rw [q] at z
              cases z
            · exact (hn z).elim
            · obtain ⟨e1, _⟩ := hok b _ z
              obtain ⟨e2, _⟩ := hok' b _ (un.frzs b ob _ z)
              rw [e] at e1
              cases e1
              exact e2
        have new : ∀ b ∈ tabAt K, ∃ more : Array Value, s'.heap.get? b = some { cls := .none, data := .fields more } := fun b hb => by
          obtain ⟨more, z⟩ := un.tbls b #[] (hH b hb)
          exact ⟨_, hok' b _ z⟩
        refine ⟨rfl, ⟨fun b o e => ?_, fun b o e => ?_⟩, os, bare⟩
        · by_cases hb : b ∈ tabAt K
          · obtain ⟨more, hm⟩ := new b hb
            obtain ⟨p, hp, rfl⟩ := List.mem_map.mp hb
            rw [t1 p hp] at e
            cases e
            exact .inr (.inl ⟨((t3 p hp).tab (t1 p hp)).isCodeTable, rfl, #[], more, rfl, by rw [Array.empty_append]; exact hm⟩)
          · exact .inl (old b o hb e)
        · by_cases hb : b ∈ tabAt K
          · obtain ⟨more, hm⟩ := new b hb
            exact ⟨_, hm⟩
          · exact ⟨o, old b o hb e⟩
  cases hk : K.lookup a with
  | some o =>
    have e := KX a o hk
    rw [ha] at e
    cases e
    refine core (fun b => if b ∈ tabAt K then some (.tbl #[]) else none) (fun b hb => if_pos hb) (fun b => ?_) (.inr ⟨_, vs.toArray, _, hk, rfl, rfl, rfl, by rw [List.size_toArray, lenV]; exact hl, by simpa using rv⟩) (fun b u z => ?_) (fun b z => ?_) fun z => absurd (if_neg aT) z
    · by_cases hb : b ∈ tabAt K
      · exact .inr (.inl hb)
      · exact .inl (if_neg hb)
    · dsimp only at z
      by_cases hb : b ∈ tabAt K
      · rw [if_pos hb] at z
        cases z
        exact (isT b hb).1
      · rw [if_neg hb] at z
        cases z
    · by_cases hb : b ∈ tabAt K
      · exact .inr hb
      · exact absurd (if_neg hb) z
  | none =>
    refine core (upd (fun b => if b ∈ tabAt K then some (.tbl #[]) else none) a (.frz { cls := .type "list", data := .seq vs.toArray } (.lst (ns.map V.int)))) (fun b hb => ?_) (fun b => ?_) (.inl ⟨_, upd_same⟩) (fun b u z => ?_) (fun b z => ?_) fun _ => hk
    · rw [upd_ne (fun z : b = a => aT (z ▸ hb))]
      exact if_pos hb
    · by_cases hb : b = a
      · exact .inr (.inr ⟨_, _, by rw [hb]; exact upd_same⟩)
      · rw [upd_ne hb]
        by_cases hc : b ∈ tabAt K
        · exact .inr (.inl hc)
        · exact .inl (if_neg hc)
    · by_cases hb : b = a
      · subst hb
        rw [upd_same] at z
        cases z
        exact ⟨ha, by rw [List.length_map]; exact hl, vs, _, rv, ha⟩
      · rw [upd_ne hb] at z
        skip
        by_cases hc : b ∈ tabAt K
        · rw [if_pos hc] at z
          cases z
          exact (isT b hc).1
        · rw [if_neg hc] at z
          cases z
    · by_cases hb : b = a
      · exact .inl hb
      · rw [upd_ne hb] at z
        by_cases hc : b ∈ tabAt K
        · exact .inr hc
        · exact absurd (if_neg hc) z
theorem walk_ofG {l : PySem.W.OpenLaw} {n k : Nat} {q : Program} {loose : List Str} {XP : (Str → Option Value) → Heap → Prop} {YP : World → Heap → Prop} {d : DefRec} {x : Str}
    (hn : l.most = some n) (hn2 : n ≤ sizeLine) (hdf : d.params.defaults = []) (hr : Room k callerA)
    (F : ∀ (w : World) (mg : Str → Option Value) (fa : Addr) (h : Heap), YP w h → h.Ns mainGlobals mg → mg d.name = some (.ref fa) →
      ∃ (K : PySem.W.Frag) (fd : FuncData) (m : PN), K.In h ∧ ((∀ p ∈ Tf.tabs, h.get? (He.cT K p.1).2 = some tab0) ∧ (∀ p ∈ Tf.tabs, K.lookup (He.cT K p.1).2 = none) ∧ ∀ p ∈ Tf.tabs, PySem.W.CodeHd h (He.cT K p.1).1 (He.cT K p.1).2) ∧ (∀ (s : Shared) (u : Value), BindsTo s fd ⟨[u], []⟩ [(x, u)]) ∧
        (∀ ns : List Int, ns.length ≤ n → (∀ z ∈ ns, Builtin.Int.intBits z ≤ 1048576) → ∃ S, m [.frz (ns.map D.int)] [] = .val (.bl true) S) ∧
        ∀ base : Heap, K.In base → base.Ns mainGlobals mg → FnG l.prog w K mg base (L2.CX l.prog w) k fa fd [x] (spF ⟨K, none, base, mg⟩ 1 m)) :
    PySem.W.WalkO q loose XP YP l.row.toRowW d [] (fun f vs => PySem.call f vs) := by
  refine Att.attach_callB hn hdf fun w s₀ s₁ mg mb fa o pm cd doc a vs ns G Y ho hd hcd hmg hobj hints hlen hbits hg => ?_
  obtain ⟨K, fd, m, KX, ⟨t1, t2, t3⟩, hb, hm, hF⟩ := F w mg fa _ Y G.T.g hmg
  exact law_callG KX G.T.g G.T.b G.T.builtins G.T.nolimit hg t1 t2 t3 (.inr G.T.bmain) hobj hints (Nat.le_trans hlen hn2) hr hF hb (hm ns hlen hbits)
end Pv
namespace Pv
open PySem PySem.Spec PyProof.Rows L2
variable [Tf]
/-! ### running a mirror -/
section
variable {Γ : Env'} {S : Sto} {α : Type}
@[simp] theorem s_true (r : R α) : ifR true r = r := Eq.trans rfl rfl
@[simp] theorem s_false (r : R α) : ifR false r = .stuck := Eq.trans rfl rfl
theorem s_if {b : Bool} (h : b = true) (r : R α) : ifR b r = r := by rw [h]; rfl
theorem s_dec {p : Prop} [Decidable p] (h : p) (r : R α) : ifR (decide p) r = r := by rw [decide_eq_true h]; rfl
@[simp] theorem s_eVar (i : Nat) : eVar i Γ S = (match Γ[i]? with | some (some d) => R.val d S | _ => .stuck) := Eq.trans rfl rfl
@[simp] theorem s_eC (d : D) : eC d Γ S = .val d S := Eq.trans rfl rfl
@[simp] theorem s_eBin (f : P2) (a b : EM) : eBin f a b Γ S = (a Γ S).bind fun x S1 => (b Γ S1).bind fun y S2 => f x y S2 := Eq.trans rfl rfl
@[simp] theorem s_eNot (m : EM) : eNot m Γ S = (m Γ S).bind fun d S1 => (ofB d S1).bind fun b S2 => .val (.bl (!b)) S2 := Eq.trans rfl rfl
@[simp] theorem s_eAnd (m n : EM) : eAnd m n Γ S = (m Γ S).bind fun d S1 => (ofB d S1).bind fun b S2 => if b then n Γ S2 else .val (.bl false) S2 := Eq.trans rfl rfl
@[simp] theorem s_eOr (m n : EM) : eOr m n Γ S = (m Γ S).bind fun d S1 => (ofB d S1).bind fun b S2 => if b then .val (.bl true) S2 else n Γ S2 := Eq.trans rfl rfl
@[simp] theorem s_eIf (c : BM) (m n : EM) : eIf c m n Γ S = (c Γ S).bind fun b S1 => if b then m Γ S1 else n Γ S1 := Eq.trans rfl rfl
@[simp] theorem s_ofB (b : Bool) : ofB (.bl b) S = .val b S := Eq.trans rfl rfl
@[simp] theorem s_bT (m : EM) : bT m Γ S = (m Γ S).bind ofB := Eq.trans rfl rfl
@[simp] theorem s_bNot (m : BM) : bNot m Γ S = (m Γ S).bind fun b S1 => .val (!b) S1 := Eq.trans rfl rfl
@[simp] theorem s_bAnd (m n : BM) : bAnd m n Γ S = (m Γ S).bind fun b S1 => if b then n Γ S1 else .val false S1 := Eq.trans rfl rfl
@[simp] theorem s_bOr (m n : BM) : bOr m n Γ S = (m Γ S).bind fun b S1 => if b then .val true S1 else n Γ S1 := Eq.trans rfl rfl
@[simp] theorem s_bTrue : bTrue Γ S = .val true S := Eq.trans rfl rfl
@[simp] theorem s_chain (f f' : P2) (a b c : EM) : eChain f f' a b c Γ S = (a Γ S).bind fun x S1 => (b Γ S1).bind fun y S2 => (f x y S2).bind fun z S3 => (ofB z S3).bind fun k S4 => if k then (c Γ S4).bind fun w S5 => f' y w S5 else .val (.bl false) S4 := Eq.trans rfl rfl
@[simp] theorem s_aNil : aNil Γ S = .val [] S := Eq.trans rfl rfl
@[simp] theorem s_aCons (m : EM) (n : LM) : aCons m n Γ S = (m Γ S).bind fun d S1 => (n Γ S1).bind fun ds S2 => .val (d :: ds) S2 := Eq.trans rfl rfl
@[simp] theorem s_eN (f : PN) (m : LM) : eN f m Γ S = (m Γ S).bind f := Eq.trans rfl rfl
@[simp] theorem s_fN (f : List D → Sto → R (List D)) (m : LM) : fN f m Γ S = (m Γ S).bind f := Eq.trans rfl rfl
@[simp] theorem s_callN (n : Nat) (F : PN) (ds : List D) : callN n F ds S = ifR (decide (ds.length = n)) (F ds S) := Eq.trans rfl rfl
@[simp] theorem s_tupN (ds : List D) : tupN ds S = ifR (decide (ds.length ≤ sizeLine)) (.val (.tup ds) S) := Eq.trans rfl rfl
@[simp] theorem s_lstN (ds : List D) : lstN ds S = ifR (decide (ds.length ≤ sizeLine)) (.val (.lst ds) S) := Eq.trans rfl rfl
@[simp] theorem s_fLst (m : LM) : fLst m Γ S = (m Γ S).bind fun ds S1 => ifR (decide (ds.length ≤ sizeLine)) (.val ds S1) := Eq.trans rfl rfl
@[simp] theorem s_eLst (m : LM) : eLst m Γ S = (m Γ S).bind fun ds S1 => .val (.lst ds) S1 := Eq.trans rfl rfl
@[simp] theorem s_eCell (m : LM) : eCell m Γ S = (m Γ S).bind fun ds S1 => .val (.ref S1.length) (S1 ++ [.lst ds]) := Eq.trans rfl rfl
@[simp] theorem s_eSl (m : EM) (l h : OM) : eSl m l h Γ S = (m Γ S).bind fun d S1 => (l Γ S1).bind fun lo S2 => (h Γ S2).bind fun hi S3 => sliceD d lo hi S3 := Eq.trans rfl rfl
@[simp] theorem s_oNone : oNone Γ S = .val none S := Eq.trans rfl rfl
@[simp] theorem s_oSome (m : EM) : oSome m Γ S = (m Γ S).bind fun d S1 => match d with | .int i => .val (some i) S1 | _ => .stuck := Eq.trans rfl rfl
@[simp] theorem s_negM (m : EM) : negM m Γ S = (m Γ S).bind fun d S1 => match d with | .int i => .val (.int (-i)) S1 | _ => .stuck := Eq.trans rfl rfl
@[simp] theorem s_eRev (m : EM) : eRev m Γ S = (m Γ S).bind fun d S1 => match d with | .str z => ifR (decide (z.length ≤ sizeLine)) (.val (.str (revS z)) S1) | .lst ds => .val (.lst ds.reverse) S1 | .tup ds => .val (.tup ds.reverse) S1 | _ => .stuck := Eq.trans rfl rfl
@[simp] theorem s_eFmt (m : EM) : eFmt m Γ S = (m Γ S).bind fun d S1 => match d with | .str y => ifR (decide (y.length ≤ sizeLine)) (.val (.str y) S1) | .int i => ifR (decide (i.natAbs.log2 < 1920)) (.val (.str (toString i)) S1) | _ => .stuck := Eq.trans rfl rfl
@[simp] theorem s_jsGo0 (acc : Str) : jsGo [] acc Γ S = .val (.str acc) S := Eq.trans rfl rfl
@[simp] theorem s_jsGo1 (m : EM) (ms : List EM) (acc : Str) : jsGo (m :: ms) acc Γ S = (m Γ S).bind fun d S1 => match d with | .str y => ifR (decide ((acc ++ y).length ≤ sizeLine)) (jsGo ms (acc ++ y) Γ S1) | _ => .stuck := Eq.trans rfl rfl
@[simp] theorem s_strM1 (f : P2) (mo ma : EM) : strM1 f mo ma Γ S = (mo Γ S).bind fun x S1 => match x with | .str _ => (ma Γ S1).bind fun y S2 => f x y S2 | _ => .stuck := Eq.trans rfl rfl
@[simp] theorem s_fSplit (mo ma : EM) : fSplit mo ma Γ S = (mo Γ S).bind fun x S1 => match x with | .str a => (ma Γ S1).bind fun y S2 => (match y with | .str b => ifR (!(b.length == 0) && decide (a.length + 2 ≤ sizeLine)) (.val ((Txt.split a b).map D.str) S2) | _ => .stuck) | _ => .stuck := Eq.trans rfl rfl
@[simp] theorem s_eRepl (m : EM) (y z : Str) : eRepl m y z Γ S = (m Γ S).bind fun d S1 => match d with | .str x => ifR (decide (x.length + (x.length + 1) * z.length ≤ 16777216)) (.val (.str (Txt.replace x y z)) S1) | _ => .stuck := Eq.trans rfl rfl
@[simp] theorem s_eCallV (i : Nat) (tab : Str → Option (Nat × PN)) (n : LM) : eCallV i tab n Γ S = (match Γ[i]? with | some (some (.fn x)) => (match tab x with | some nF => (n Γ S).bind (callN nF.1 nF.2) | none => .stuck) | _ => .stuck) := Eq.trans rfl rfl
@[simp] theorem s_eXf (m : EM) (f : Str) (tab : Str → Bool) : eXf m f tab Γ S = (m Γ S).bind fun d S1 => match d with | .exc c fs => (match fs.lookup f with | some v => ifR (tab c) (.val v S1) | none => .stuck) | _ => .stuck := Eq.trans rfl rfl
@[simp] theorem s_eIsX (m : EM) (tab : Str → Option Bool) : eIsX m tab Γ S = (m Γ S).bind fun d S1 => match d with | .exc c _ => (match tab c with | some b => .val (.bl b) S1 | none => .stuck) | _ => .stuck := Eq.trans rfl rfl
@[simp] theorem s_iIt (m : EM) : iIt m Γ S = (m Γ S).bind fun d S1 => match d.its with | some ds => .val ds S1 | none => .stuck := Eq.trans rfl rfl
@[simp] theorem s_iEnum (n : LM) : iEnum' n Γ S = (n Γ S).bind fun ds S1 => match ds with | [d] => (match d.items with | some xs => .val (enumGo 0 xs) S1 | none => .stuck) | _ => .stuck := Eq.trans rfl rfl
/-- range(n), range(m, n) -/
def r1 : List D → Sto → R (List D) := fun ds S1 => match ds with | [.int j] => ifR (decide (-(2 ^ 62) ≤ j ∧ j < 2 ^ 62)) (.val (rangeD 0 j.toNat) S1) | _ => .stuck
def r2 : List D → Sto → R (List D) := fun ds S1 => match ds with | [.int i, .int j] => ifR (decide (-(2 ^ 62) ≤ i ∧ i < 2 ^ 62 ∧ -(2 ^ 62) ≤ j ∧ j < 2 ^ 62)) (.val (rangeD i (j - i).toNat) S1) | _ => .stuck
theorem s_iRange1 (n : LM) : iRange1 n Γ S = (n Γ S).bind r1 := Eq.trans rfl rfl
theorem s_iRange2 (n : LM) : iRange2 n Γ S = (n Γ S).bind r2 := Eq.trans rfl rfl
theorem two62 : (2 : Int) ^ 62 = 4611686018427387904 := by decide
theorem r1_int {k : Int} (h0 : 0 ≤ k) (h1 : k ≤ 16777216) : r1 [.int k] S = .val (rangeD 0 k.toNat) S := by
  unfold r1
  exact s_dec (by rw [two62]; omega) _
theorem r1_nat {n : Nat} (h : n ≤ sizeLine) : r1 [.int (n : Int)] S = .val (rangeD 0 n) S := by
  rw [sizeLine_eq] at h
  rw [r1_int (by omega) (by omega)]
  rfl
@[simp] theorem s_fComp (ml : LM) (gm : GM) (c : BM) (m : EM) (own : List Nat) : fComp ml gm c m own Γ S = (ml Γ S).bind fun ds S1 => (compGo gm c m (wipeD Γ own) ds S1).bind fun ys S2 => ifR (decide (ys.length ≤ sizeLine)) (.val ys S2) := Eq.trans rfl rfl
@[simp] theorem s_wipe0 : wipeD Γ [] = Γ := Eq.trans rfl rfl
@[simp] theorem s_wipe1 (v : Nat) (vs : List Nat) : wipeD Γ (v :: vs) = (wipeD Γ vs).set v none := Eq.trans rfl rfl
@[simp] theorem s_gSet (i : Nat) (d : D) : gSet i d Γ S = .val (Γ.set i (some d)) S := Eq.trans rfl rfl
@[simp] theorem s_gNil : gNilM [] Γ S = .val Γ S := Eq.trans rfl rfl
@[simp] theorem s_gCons (m : GM) (n : GMs) (d : D) (r : List D) : gConsM m n (d :: r) Γ S = (m d Γ S).bind fun Γ1 S1 => n r Γ1 S1 := Eq.trans rfl rfl
@[simp] theorem s_gSeqT (n : Nat) (m : GMs) (ds : List D) : gSeq n m (.tup ds) Γ S = ifR (decide (ds.length = n)) (m ds Γ S) := Eq.trans rfl rfl
@[simp] theorem s_gSeqL (n : Nat) (m : GMs) (ds : List D) : gSeq n m (.lst ds) Γ S = ifR (decide (ds.length = n)) (m ds Γ S) := Eq.trans rfl rfl
@[simp] theorem s_gCell (mo mi : EM) (d : D) : gCell mo mi d Γ S = (mo Γ S).bind fun o S1 => (mi Γ S1).bind fun k S2 => match o, k with
  | .ref r, .int j => (match S2[r]? with
    | some (.lst ds) => (match ixN ds.length j with
      | some n => .val Γ (S2.set r (.lst (ds.set n d)))
      | none => .stuck)
    | _ => .stuck)
  | _, _ => .stuck := Eq.trans rfl rfl
@[simp] theorem s_sNil : sNil Γ S = .nx Γ S := Eq.trans rfl rfl
def seqS (r : SR) (n : SM) : SR := match r with | .nx Γ1 S1 => n Γ1 S1 | r => r
@[simp] theorem s_sSeq (m n : SM) : sSeq m n Γ S = seqS (m Γ S) n := Eq.trans rfl rfl
@[simp] theorem seq_nx (n : SM) : seqS (.nx Γ S) n = n Γ S := Eq.trans rfl rfl
@[simp] theorem seq_rt (n : SM) (d : D) : seqS (.rt d S) n = .rt d S := Eq.trans rfl rfl
@[simp] theorem seq_xn (n : SM) (x : Exn) : seqS (.xn x Γ S) n = .xn x Γ S := Eq.trans rfl rfl
@[simp] theorem seq_ct (n : SM) : seqS (.ct Γ S) n = .ct Γ S := Eq.trans rfl rfl
@[simp] theorem seq_bk (n : SM) : seqS (.bk Γ S) n = .bk Γ S := Eq.trans rfl rfl
@[simp] theorem seq_ite {c : Prop} [Decidable c] (a b : SR) (n : SM) : seqS (if c then a else b) n = if c then seqS a n else seqS b n := by split <;> rfl
@[simp] theorem end_ite {c : Prop} [Decidable c] (a b : SR) : endS (if c then a else b) = if c then endS a else endS b := by split <;> rfl
@[simp] theorem then_ite {c : Prop} [Decidable c] (a b : R α) (f : α → Sto → SR) : thenS (if c then a else b) Γ f = if c then thenS a Γ f else thenS b Γ f := by split <;> rfl
@[simp] theorem bind_ite {β : Type} {c : Prop} [Decidable c] (a b : R α) (f : α → Sto → R β) : (if c then a else b).bind f = if c then a.bind f else b.bind f := by split <;> rfl
@[simp] theorem s_then_val (d : α) (f : α → Sto → SR) : thenS (.val d S) Γ f = f d S := Eq.trans rfl rfl
@[simp] theorem s_then_exn (x : Exn) (f : α → Sto → SR) : thenS (.exn x S : R α) Γ f = .xn x Γ S := Eq.trans rfl rfl
@[simp] theorem s_sRet (m : EM) : sRet m Γ S = thenS (m Γ S) Γ fun d S1 => .rt d S1 := Eq.trans rfl rfl
@[simp] theorem s_sRetN : sRetN Γ S = .rt .non S := Eq.trans rfl rfl
@[simp] theorem s_sDrop (m : EM) : sDrop m Γ S = thenS (m Γ S) Γ fun _ S1 => .nx Γ S1 := Eq.trans rfl rfl
@[simp] theorem s_sIf (c : BM) (m n : SM) : sIf c m n Γ S = thenS (c Γ S) Γ fun b S1 => if b then m Γ S1 else n Γ S1 := Eq.trans rfl rfl
@[simp] theorem s_sSet (i : Nat) (m : EM) : sSet i m Γ S = thenS (m Γ S) Γ fun d S1 => .nx (Γ.set i (some d)) S1 := Eq.trans rfl rfl
@[simp] theorem s_sOwn (i : Nat) (m : LM) : sOwn i m Γ S = thenS (m Γ S) Γ fun ds S1 => .nx (Γ.set i (some (.lst ds))) S1 := Eq.trans rfl rfl
@[simp] theorem s_sPar (i j : Nat) (m : LM) : sPar i j m Γ S = thenS (m Γ S) Γ fun ds S1 => match ds with | [x, y] => .nx ((Γ.set i (some x)).set j (some y)) S1 | _ => .stuck := Eq.trans rfl rfl
@[simp] theorem s_sAsg (m : EM) (g : GM) : sAsg m g Γ S = thenS (m Γ S) Γ fun d S1 => match g d Γ S1 with | .val Γ2 S2 => .nx Γ2 S2 | _ => .stuck := Eq.trans rfl rfl
@[simp] theorem s_sAppend (i : Nat) (m : EM) : sAppend i m Γ S = thenS (m Γ S) Γ fun d S1 => match Γ[i]? with | some (some (.lst ds)) => if ds.length < sizeLine then .nx (Γ.set i (some (.lst (ds ++ [d])))) S1 else .stuck | _ => .stuck := Eq.trans rfl rfl
@[simp] theorem s_sRaise (x f : Str) (m : EM) : sRaise x f m Γ S = thenS (m Γ S) Γ fun d S1 => .xn ⟨x, [(f, d)]⟩ Γ S1 := Eq.trans rfl rfl
@[simp] theorem s_sFor (ml : LM) (gm : GM) (m : SM) : sFor ml gm m Γ S = thenS (ml Γ S) Γ fun ds S1 => forGo gm m ds Γ S1 := Eq.trans rfl rfl
@[simp] theorem s_for0 (gm : GM) (m : SM) : forGo gm m [] Γ S = .nx Γ S := Eq.trans rfl rfl
@[simp] theorem s_endN : endS (.nx Γ S) = .val .non S := Eq.trans rfl rfl
@[simp] theorem s_endR (d : D) : endS (.rt d S) = .val d S := Eq.trans rfl rfl
@[simp] theorem s_endX (x : Exn) : endS (.xn x Γ S) = .exn x S := Eq.trans rfl rfl
@[simp] theorem s_intI (i : Int) : intN [.int i] S = .val (.int i) S := Eq.trans rfl rfl
@[simp] theorem s_addI (i j : Int) : addD (.int i) (.int j) S = .val (.int (i + j)) S := Eq.trans rfl rfl
@[simp] theorem s_subI (i j : Int) : subD (.int i) (.int j) S = .val (.int (i - j)) S := Eq.trans rfl rfl
@[simp] theorem s_addT (x y : List D) : addD (.tup x) (.tup y) S = ifR (decide (x.length + y.length ≤ sizeLine)) (.val (.tup (x ++ y)) S) := Eq.trans rfl rfl
@[simp] theorem s_addL (x y : List D) : addD (.lst x) (.lst y) S = ifR (decide (x.length + y.length ≤ sizeLine)) (.val (.lst (x ++ y)) S) := Eq.trans rfl rfl
@[simp] theorem s_addS (x y : Str) : addD (.str x) (.str y) S = ifR (decide (x.length + y.length ≤ sizeLine)) (.val (.str (x ++ y)) S) := Eq.trans rfl rfl
@[simp] theorem s_mulI (i j : Int) : mulD (.int i) (.int j) S = ifR (decide ((Builtin.Int.intBits i : Int) + (Builtin.Int.intBits j : Int) ≤ 134217728)) (.val (.int (i * j)) S) := Eq.trans rfl rfl
@[simp] theorem s_fdiv (i j : Int) : fdivD (.int i) (.int j) S = ifR (decide (0 < j ∧ j < 1073741824)) (.val (.int (i / j)) S) := Eq.trans rfl rfl
@[simp] theorem s_mod (i j : Int) : modD (.int i) (.int j) S = ifR (decide (0 < j)) (.val (.int (i % j)) S) := Eq.trans rfl rfl
@[simp] theorem s_cmp (f : Int → Int → Bool) (i j : Int) : cmpD f (.int i) (.int j) S = .val (.bl (f i j)) S := Eq.trans rfl rfl
@[simp] theorem s_eqI (i j : Int) : eqD (.int i) (.int j) S = .val (.bl (decide (i = j))) S := Eq.trans rfl rfl
@[simp] theorem s_eqS (i j : Str) : eqD (.str i) (.str j) S = .val (.bl (decide (i = j))) S := Eq.trans rfl rfl
@[simp] theorem s_neI (i j : Int) : neD (.int i) (.int j) S = .val (.bl (!decide (i = j))) S := Eq.trans rfl rfl
@[simp] theorem s_neS (i j : Str) : neD (.str i) (.str j) S = .val (.bl (!decide (i = j))) S := Eq.trans rfl rfl
@[simp] theorem s_isN (d : D) : isND d .non S = .val (.bl d.isNon) S := Eq.trans rfl rfl
@[simp] theorem s_notN (d : D) : notND d .non S = .val (.bl (!d.isNon)) S := Eq.trans rfl rfl
@[simp] theorem s_isB (a b : Bool) : isBD (.bl a) (.bl b) S = .val (.bl (decide (a = b))) S := Eq.trans rfl rfl
@[simp] theorem s_non : D.isNon .non = true := Eq.trans rfl rfl
@[simp] theorem s_nonI (i : Int) : D.isNon (.int i) = false := Eq.trans rfl rfl
@[simp] theorem s_nonT (i : List D) : D.isNon (.tup i) = false := Eq.trans rfl rfl
@[simp] theorem s_lenT (x : List D) : lenN [.tup x] S = .val (.int x.length) S := Eq.trans rfl rfl
@[simp] theorem s_lenL (x : List D) : lenN [.lst x] S = .val (.int x.length) S := Eq.trans rfl rfl
@[simp] theorem s_lenF (x : List D) : lenN [.frz x] S = .val (.int x.length) S := Eq.trans rfl rfl
@[simp] theorem s_lenS (x : Str) : lenN [.str x] S = ifR (decide (x.length ≤ sizeLine)) (.val (.int x.length) S) := Eq.trans rfl rfl
@[simp] theorem s_abs (i : Int) : absN [.int i] S = .val (.int (if i < 0 then -i else i)) S := Eq.trans rfl rfl
@[simp] theorem s_max (i j : Int) : max2N [.int i, .int j] S = .val (.int (if j > i then j else i)) S := Eq.trans rfl rfl
@[simp] theorem s_min (i j : Int) : min2N [.int i, .int j] S = .val (.int (if j < i then j else i)) S := Eq.trans rfl rfl
@[simp] theorem s_divmod (i j : Int) : divmodN [.int i, .int j] S = ifR (decide (0 < j ∧ j < 1073741824)) (.val (.tup [.int (i / j), .int (i % j)]) S) := Eq.trans rfl rfl
@[simp] theorem s_strI (i : Int) : strN [.int i] S = ifR (decide (i.natAbs.log2 < 1920)) (.val (.str (toString i)) S) := Eq.trans rfl rfl
@[simp] theorem s_strS (a : Str) : strN [.str a] S = .val (.str a) S := Eq.trans rfl rfl
@[simp] theorem s_tupleT (x : List D) : tupleN [.tup x] S = .val (.tup x) S := Eq.trans rfl rfl
@[simp] theorem s_tupleL (x : List D) : tupleN [.lst x] S = .val (.tup x) S := Eq.trans rfl rfl
@[simp] theorem s_listT (x : List D) : listF [.tup x] S = .val x S := Eq.trans rfl rfl
@[simp] theorem s_listL (x : List D) : listF [.lst x] S = .val x S := Eq.trans rfl rfl
@[simp] theorem s_itsT (x : List D) : D.its (.tup x) = some x := Eq.trans rfl rfl
@[simp] theorem s_itsL (x : List D) : D.its (.lst x) = some x := Eq.trans rfl rfl
@[simp] theorem s_itsF (x : List D) : D.its (.frz x) = some x := Eq.trans rfl rfl
@[simp] theorem s_itsS (x : Str) : D.its (.str x) = some (signsD x) := Eq.trans rfl rfl
@[simp] theorem s_itemT (x : List D) : D.items (.tup x) = some x := Eq.trans rfl rfl
@[simp] theorem s_itemL (x : List D) : D.items (.lst x) = some x := Eq.trans rfl rfl
@[simp] theorem s_itemF (x : List D) : D.items (.frz x) = some x := Eq.trans rfl rfl
theorem s_for1 (gm : GM) (m : SM) (d : D) (ds : List D) : forGo gm m (d :: ds) Γ S = (match gm d Γ S with
    | .val Γ1 S1 => (match m Γ1 S1 with
      | .nx Γ2 S2 => forGo gm m ds Γ2 S2
      | .ct Γ2 S2 => forGo gm m ds Γ2 S2
      | .bk Γ2 S2 => .nx Γ2 S2
      | .rt d S2 => .rt d S2
      | .xn x Γ2 S2 => .xn x Γ2 S2
      | .stuck => .stuck)
    | _ => .stuck) := Eq.trans rfl rfl
theorem s_def (n : Nat) (m : SM) (ds : List D) : defM n m ds S = endS (m (startD n ds) S) := Eq.trans rfl rfl
theorem atI_nat {β : Type} {xs : List β} {k : Int} {d : β} (h0 : 0 ≤ k) (h : xs[k.toNat]? = some d) : L2.atI xs k = some d := by
  have hl := (List.getElem?_eq_some_iff.mp h).1
  unfold L2.atI ixN
  rw [if_pos h0, if_pos (by omega)]
  exact h
@[simp] theorem s_at0 {β : Type} (a : β) (l : List β) : L2.atI (a :: l) 0 = some a := atI_nat (by decide) rfl
@[simp] theorem s_at1 {β : Type} (a b : β) (l : List β) : L2.atI (a :: b :: l) 1 = some b := atI_nat (by decide) rfl
@[simp] theorem s_at2 {β : Type} (a b c : β) (l : List β) : L2.atI (a :: b :: c :: l) 2 = some c := atI_nat (by decide) rfl
theorem s_ixT {xs : List D} {k : Int} : ixD (.tup xs) (.int k) S = (match L2.atI xs k with | some d => .val d S | none => .stuck) := Eq.trans rfl rfl
theorem s_ixL {xs : List D} {k : Int} : ixD (.lst xs) (.int k) S = (match L2.atI xs k with | some d => .val d S | none => .stuck) := Eq.trans rfl rfl
theorem s_ixF {xs : List D} {k : Int} : ixD (.frz xs) (.int k) S = (match L2.atI xs k with | some d => .val d S | none => .stuck) := Eq.trans rfl rfl
theorem s_ixS {z : Str} {k : Int} : ixD (.str z) (.int k) S = ifR (decide (z.length ≤ sizeLine)) (match L2.atI z.cps.toList k with | some c => .val (.str ⟨#[c]⟩) S | none => .stuck) := Eq.trans rfl rfl
theorem s_ixR {r : Nat} {k : Int} : ixD (.ref r) (.int k) S = (match S[r]? with | some (.lst ds) => (match L2.atI ds k with | some d => .val d S | none => .stuck) | _ => .stuck) := Eq.trans rfl rfl
theorem range1_run {m : LM} {n : Nat} {S1 : Sto} (e0 : m Γ S = .val [.int (n : Int)] S1) (h : n ≤ sizeLine) : iRange1 m Γ S = .val (rangeD 0 n) S1 := by
  rw [s_iRange1, e0, R.bind_val]
  exact r1_nat h
/-! comprehensions without a change of the store -/
theorem comp_pure {gm : GM} {c : BM} {m : EM} {p : D → Bool} {f : D → D} {S : Sto} : ∀ {ds : List D}, (∀ d ∈ ds, ∃ Γ1, gm d Γ S = .val Γ1 S ∧ c Γ1 S = .val (p d) S ∧ (p d = true → m Γ1 S = .val (f d) S)) → compGo gm c m Γ ds S = .val ((ds.filter p).map f) S
  | [], _ => rfl
  | d :: ds, h => by
    obtain ⟨Γ1, h1, h2, h3⟩ := h d List.mem_cons_self
    have ih := comp_pure (p := p) (f := f) (ds := ds) fun x hx => h x (List.mem_cons_of_mem _ hx)
    unfold compGo
    rw [h1]
    dsimp only
    rw [h2]
    cases hp : p d with
    | true =>
      dsimp only
      rw [h3 hp]
      dsimp only
      rw [ih, R.bind_val, List.filter_cons_of_pos hp, List.map_cons]
    | false =>
      dsimp only
      rw [ih, List.filter_cons_of_neg (by rw [hp]; exact Bool.false_ne_true)]
theorem comp_map {gm : GM} {m : EM} {f : D → D} {S : Sto} {ds : List D} (h : ∀ d ∈ ds, ∃ Γ1, gm d Γ S = .val Γ1 S ∧ m Γ1 S = .val (f d) S) : compGo gm bTrue m Γ ds S = .val (ds.map f) S := by
  have := comp_pure (Γ := Γ) (gm := gm) (c := bTrue) (m := m) (p := fun _ => true) (f := f) (S := S) (ds := ds) fun d hd => by
    obtain ⟨Γ1, h1, h2⟩ := h d hd
    exact ⟨Γ1, h1, rfl, fun _ => h2⟩
  rw [this, List.filter_eq_self.mpr (fun _ _ => rfl)]
end
end Pv
namespace Pv
open PySem PySem.Spec PyProof.Rows L2
variable [Tf]
section
variable {X : Cx} {L0 : Addr → Prop} {O Ob : List Nat} {W : WX} {pos : Pos}
/-- a, b, c = x, y, z (plain locals) -/
def sPar3 (i j l : Nat) (m : LM) : SM := fun Γ S => thenS (m Γ S) Γ fun ds S1 => match ds with
  | [x, y, z] => .nx (((Γ.set i (some x)).set j (some y)).set l (some z)) S1
  | _ => .stuck
theorem js_par3 {i j l : Nat} {x y z : Str} {a b c : Expr} {ma : LM} {px py pz pt : Pos} {kt k2 pt2} (hc : X.calm = true) (hN : X.N.Nodup) (hi : X.N[i]? = some x) (hj : X.N[j]? = some y) (hl : X.N[l]? = some z) (hij : i ≠ j) (hil : i ≠ l) (hjl : j ≠ l)
    (hx : X.env.scope.names.lookup x = some .local) (hy : X.env.scope.names.lookup y = some .local) (hz : X.env.scope.names.lookup z = some .local) (hoi : i ∉ O) (hoj : j ∉ O) (hol : l ∉ O) (ha : JA X W L0 O [a, b, c] ma)
    (hw : swappedStores [.Tuple [.Name x px, .Name y py, .Name z pz] kt pt] (.Tuple [a, b, c] k2 pt2) X.env = pure (some [x, y, z]))
    (hs : swapsWithSole [.Tuple [.Name x px, .Name y py, .Name z pz] kt pt] (.Tuple [a, b, c] k2 pt2) pos.line X.env = pure false := by rfl) :
    JS X W L0 O O Ob (.Assign [.Tuple [.Name x px, .Name y py, .Name z pz] kt pt] (.Tuple [a, b, c] k2 pt2) pos) (sPar3 i j l ma) := PS.imp (ps_par3 hc hN hi hj hl hij hil hjl hx hy hz ha hw hs) fun D σ H hq => by
  obtain ⟨ρ, Γ, S, e, c, g⟩ := hq
  refine ⟨ρ, Γ, S, e, c, GoalS.bind e g fun ds S1 vs ρ' H' s c' r g1 => ?_⟩
  split at g1
  · rename_i d1 d2 d3
    unfold Reps at r
    obtain ⟨v1, r1, rfl, q1, r⟩ := r
    unfold Reps at r
    obtain ⟨v2, r2, rfl, q2, r⟩ := r
    unfold Reps at r
    obtain ⟨v3, r3, rfl, q3, r⟩ := r
    unfold Reps at r
    subst r
    refine ⟨v1, v2, v3, rfl, ?_⟩
    have e1 := ((e.step s).set hoi q1)
    have e2 := e1.set (i := j) (d := d2) (v := v2) hoj (by rw [LO.set hoi]; exact q2)
    have e3 := e2.set (i := l) (d := d3) (v := v3) hol (by rw [LO.set hoj, LO.set hoi]; exact q3)
    exact g1 _ ρ' H' StepM.refl e3 (by rw [LO.set hol, LO.set hoj, LO.set hoi]; exact c') fun a z => .inl (by rwa [LO.set hol, LO.set hoj, LO.set hoi] at z)
  · exact g1.elim
theorem par3_ (i j l : Nat) {k : Nat} {x y z : Str} {a b c : Expr} {ma : LM} {px py pz pt : Pos} {kt k2 pt2} (hd : X.N.Nodup) (I : In X W k) (ha : JA X W L0 O [a, b, c] ma) (hN : X.N[i]? = some x := by rfl) (hM : X.N[j]? = some y := by rfl) (hL : X.N[l]? = some z := by rfl) (hij : i ≠ j := by decide) (hil : i ≠ l := by decide) (hjl : j ≠ l := by decide)
    (hx : X.env.scope.names.lookup x = some .local := by rfl) (hy : X.env.scope.names.lookup y = some .local := by rfl) (hz : X.env.scope.names.lookup z = some .local := by rfl) (hoi : i ∉ O := by decide) (hoj : j ∉ O := by decide) (hol : l ∉ O := by decide)
    (hw : swappedStores [.Tuple [.Name x px, .Name y py, .Name z pz] kt pt] (.Tuple [a, b, c] k2 pt2) X.env = pure (some [x, y, z]) := by rfl)
    (hs : swapsWithSole [.Tuple [.Name x px, .Name y py, .Name z pz] kt pt] (.Tuple [a, b, c] k2 pt2) pos.line X.env = pure false := by rfl) :
    JS X W L0 O O Ob (.Assign [.Tuple [.Name x px, .Name y py, .Name z pz] kt pt] (.Tuple [a, b, c] k2 pt2) pos) (sPar3 i j l ma) := js_par3 I.calm hd hN hM hL hij hil hjl hx hy hz hoi hoj hol ha hw hs
end
@[simp] theorem s_sPar3 (i j l : Nat) (m : LM) {Γ : Env'} {S : Sto} : sPar3 i j l m Γ S = thenS (m Γ S) Γ fun ds S1 => match ds with | [x, y, z] => .nx (((Γ.set i (some x)).set j (some y)).set l (some z)) S1 | _ => .stuck := Eq.trans rfl rfl
end Pv
namespace K77
open PySem PySem.Spec PyProof.Rows L2 Pv
def top (i : Nat) : Stmt := PySem.Challenge.pw_axlecounts_k77_texts_refused_and_read_ag.main.body.getD i (.Pass ⟨0, 0, 0, 0⟩)
def clsDef : Stmt → Stmt
  | .ClassDef _ _ _ (s :: _) _ _ _ _ _ _ _ => s
  | s => s
abbrev d_joint_behind : He.DefD := ⟨("joint_behind", none), "joint_behind", "joint_behind", defArgs (top 7), defBody (top 7), defScope (top 7), [], []⟩
abbrev d_load_of : He.DefD := ⟨("load_of", none), "load_of", "load_of", defArgs (top 8), defBody (top 8), defScope (top 8), [], []⟩
abbrev d_loads_by : He.DefD := ⟨("loads_by", none), "loads_by", "loads_by", defArgs (top 9), defBody (top 9), defScope (top 9), [], []⟩
abbrev d_has_room : He.DefD := ⟨("has_room", none), "has_room", "has_room", defArgs (top 10), defBody (top 10), defScope (top 10), [], []⟩
abbrev d_wrong_sections_by : He.DefD := ⟨("wrong_sections_by", none), "wrong_sections_by", "wrong_sections_by", defArgs (top 11), defBody (top 11), defScope (top 11), [], []⟩
abbrev d_can_be_by : He.DefD := ⟨("can_be_by", none), "can_be_by", "can_be_by", defArgs (top 12), defBody (top 12), defScope (top 12), [], []⟩
abbrev d_is_whole : He.DefD := ⟨("is_whole", none), "is_whole", "is_whole", defArgs (top 14), defBody (top 14), defScope (top 14), [], []⟩
abbrev d_is_between : He.DefD := ⟨("is_between", none), "is_between", "is_between", defArgs (top 15), defBody (top 15), defScope (top 15), [], []⟩
abbrev d_is_up_to : He.DefD := ⟨("is_up_to", none), "is_up_to", "is_up_to", defArgs (top 16), defBody (top 16), defScope (top 16), [], []⟩
abbrev d_is_from : He.DefD := ⟨("is_from", none), "is_from", "is_from", defArgs (top 17), defBody (top 17), defScope (top 17), [], []⟩
abbrev d_is_text : He.DefD := ⟨("is_text", none), "is_text", "is_text", defArgs (top 18), defBody (top 18), defScope (top 18), [], []⟩
abbrev d_is_tuple_up_to : He.DefD := ⟨("is_tuple_up_to", none), "is_tuple_up_to", "is_tuple_up_to", defArgs (top 19), defBody (top 19), defScope (top 19), [], []⟩
abbrev d_is_tuple_of : He.DefD := ⟨("is_tuple_of", none), "is_tuple_of", "is_tuple_of", defArgs (top 20), defBody (top 20), defScope (top 20), [], []⟩
abbrev d_is_pair : He.DefD := ⟨("is_pair", none), "is_pair", "is_pair", defArgs (top 21), defBody (top 21), defScope (top 21), [], []⟩
abbrev d_is_section : He.DefD := ⟨("is_section", none), "is_section", "is_section", defArgs (top 27), defBody (top 27), defScope (top 27), [], []⟩
abbrev d_wrong_in_sections : He.DefD := ⟨("wrong_in_sections", none), "wrong_in_sections", "wrong_in_sections", defArgs (top 28), defBody (top 28), defScope (top 28), [], []⟩
abbrev d_wrong_in_line : He.DefD := ⟨("wrong_in_line", none), "wrong_in_line", "wrong_in_line", defArgs (top 29), defBody (top 29), defScope (top 29), [], []⟩
abbrev d_is_joint_of : He.DefD := ⟨("is_joint_of", none), "is_joint_of", "is_joint_of", defArgs (top 30), defBody (top 30), defScope (top 30), [], []⟩
abbrev d_wrong_in_numbers : He.DefD := ⟨("wrong_in_numbers", none), "wrong_in_numbers", "wrong_in_numbers", defArgs (top 31), defBody (top 31), defScope (top 31), [], []⟩
abbrev d_wrong_in_counts : He.DefD := ⟨("wrong_in_counts", none), "wrong_in_counts", "wrong_in_counts", defArgs (top 32), defBody (top 32), defScope (top 32), [], []⟩
abbrev d_is_entry_of : He.DefD := ⟨("is_entry_of", none), "is_entry_of", "is_entry_of", defArgs (top 33), defBody (top 33), defScope (top 33), [], []⟩
abbrev d_wrong_in_log : He.DefD := ⟨("wrong_in_log", none), "wrong_in_log", "wrong_in_log", defArgs (top 34), defBody (top 34), defScope (top 34), [], []⟩
abbrev d_check_line : He.DefD := ⟨("check_line", none), "check_line", "check_line", defArgs (top 35), defBody (top 35), defScope (top 35), [], []⟩
abbrev d_check_counts : He.DefD := ⟨("check_counts", none), "check_counts", "check_counts", defArgs (top 36), defBody (top 36), defScope (top 36), [], []⟩
abbrev d_check_log : He.DefD := ⟨("check_log", none), "check_log", "check_log", defArgs (top 37), defBody (top 37), defScope (top 37), [], []⟩
abbrev d_whole_in : He.DefD := ⟨("whole_in", none), "whole_in", "whole_in", defArgs (top 45), defBody (top 45), defScope (top 45), [], []⟩
abbrev d_signed_in : He.DefD := ⟨("signed_in", none), "signed_in", "signed_in", defArgs (top 46), defBody (top 46), defScope (top 46), [], []⟩
abbrev d_section_word : He.DefD := ⟨("section_word", none), "section_word", "section_word", defArgs (top 47), defBody (top 47), defScope (top 47), [], []⟩
abbrev d_section_in : He.DefD := ⟨("section_in", none), "section_in", "section_in", defArgs (top 48), defBody (top 48), defScope (top 48), [], []⟩
abbrev d_step_word : He.DefD := ⟨("step_word", none), "step_word", "step_word", defArgs (top 49), defBody (top 49), defScope (top 49), [], []⟩
abbrev d_step_in : He.DefD := ⟨("step_in", none), "step_in", "step_in", defArgs (top 50), defBody (top 50), defScope (top 50), [], []⟩
abbrev d_entry_word : He.DefD := ⟨("entry_word", none), "entry_word", "entry_word", defArgs (top 51), defBody (top 51), defScope (top 51), [], []⟩
abbrev d_entry_in : He.DefD := ⟨("entry_in", none), "entry_in", "entry_in", defArgs (top 52), defBody (top 52), defScope (top 52), [], []⟩
abbrev d_text_of_numbers : He.DefD := ⟨("text_of_numbers", none), "text_of_numbers", "text_of_numbers", defArgs (top 57), defBody (top 57), defScope (top 57), [], []⟩
abbrev d_text_of_line : He.DefD := ⟨("text_of_line", none), "text_of_line", "text_of_line", defArgs (top 58), defBody (top 58), defScope (top 58), [], []⟩
abbrev d_text_of_log : He.DefD := ⟨("text_of_log", none), "text_of_log", "text_of_log", defArgs (top 59), defBody (top 59), defScope (top 59), [], []⟩
abbrev d_entry_on : He.DefD := ⟨("entry_on", none), "entry_on", "entry_on", defArgs (top 63), defBody (top 63), defScope (top 63), [], []⟩
abbrev d_read_words : He.DefD := ⟨("read_words", none), "read_words", "read_words", defArgs (top 60), defBody (top 60), defScope (top 60), [], []⟩
abbrev d_line_in : He.DefD := ⟨("line_in", none), "line_in", "line_in", defArgs (top 61), defBody (top 61), defScope (top 61), [], []⟩
abbrev d_counts_in : He.DefD := ⟨("counts_in", none), "counts_in", "counts_in", defArgs (top 62), defBody (top 62), defScope (top 62), [], []⟩
abbrev d_log_in : He.DefD := ⟨("log_in", none), "log_in", "log_in", defArgs (top 64), defBody (top 64), defScope (top 64), [], []⟩
abbrev d_line_text : He.DefD := ⟨("line_text", none), "line_text", "line_text", defArgs (top 66), defBody (top 66), defScope (top 66), [], []⟩
abbrev d_counts_text : He.DefD := ⟨("counts_text", none), "counts_text", "counts_text", defArgs (top 67), defBody (top 67), defScope (top 67), [], []⟩
abbrev d_log_text : He.DefD := ⟨("log_text", none), "log_text", "log_text", defArgs (top 68), defBody (top 68), defScope (top 68), [], []⟩
abbrev d_check_text : He.DefD := ⟨("check_text", none), "check_text", "check_text", defArgs (top 69), defBody (top 69), defScope (top 69), [], []⟩
abbrev d_check_read : He.DefD := ⟨("check_read", none), "check_read", "check_read", defArgs (top 70), defBody (top 70), defScope (top 70), [], []⟩
abbrev d_read_line : He.DefD := ⟨("read_line", none), "read_line", "read_line", defArgs (top 71), defBody (top 71), defScope (top 71), [], []⟩
abbrev d_read_counts : He.DefD := ⟨("read_counts", none), "read_counts", "read_counts", defArgs (top 72), defBody (top 72), defScope (top 72), [], []⟩
abbrev d_read_log : He.DefD := ⟨("read_log", none), "read_log", "read_log", defArgs (top 73), defBody (top 73), defScope (top 73), [], []⟩
abbrev d_line_backward_by : He.DefD := ⟨("line_backward_by", none), "line_backward_by", "line_backward_by", defArgs (top 75), defBody (top 75), defScope (top 75), [], []⟩
abbrev d_counts_backward_by : He.DefD := ⟨("counts_backward_by", none), "counts_backward_by", "counts_backward_by", defArgs (top 76), defBody (top 76), defScope (top 76), [], []⟩
abbrev d_check_told_changes : He.DefD := ⟨("check_told_changes", none), "check_told", "check_told", defArgs (top 78), defBody (top 78), defScope (top 78), [], []⟩
abbrev d_line_backward : He.DefD := ⟨("line_backward", none), "line_backward", "line_backward", defArgs (top 80), defBody (top 80), defScope (top 80), [], []⟩
abbrev d_counts_backward : He.DefD := ⟨("counts_backward", none), "counts_backward", "counts_backward", defArgs (top 81), defBody (top 81), defScope (top 81), [], []⟩
abbrev d_check_told_lines : He.DefD := ⟨("check_told_lines", none), "check_told", "check_told", defArgs (top 83), defBody (top 83), defScope (top 83), [], []⟩
abbrev d_loads : He.DefD := ⟨("loads", none), "loads", "loads", defArgs (top 85), defBody (top 85), defScope (top 85), [], []⟩
abbrev d_counts_behind_by : He.DefD := ⟨("counts_behind_by", none), "counts_behind_by", "counts_behind_by", defArgs (top 87), defBody (top 87), defScope (top 87), [], []⟩
abbrev d_all_counts : He.DefD := ⟨("all_counts", none), "all_counts", "all_counts", defArgs (top 88), defBody (top 88), defScope (top 88), [], []⟩
abbrev d_first_unlawful_by : He.DefD := ⟨("first_unlawful_by", none), "first_unlawful_by", "first_unlawful_by", defArgs (top 89), defBody (top 89), defScope (top 89), [], []⟩
abbrev d_check_logged : He.DefD := ⟨("check_logged", none), "check_logged", "check_logged", defArgs (top 91), defBody (top 91), defScope (top 91), [], []⟩
abbrev d_is_lawful : He.DefD := ⟨("is_lawful", none), "is_lawful", "is_lawful", defArgs (top 92), defBody (top 92), defScope (top 92), [], []⟩
abbrev d__law_pool : He.DefD := ⟨("_law_pool", none), "_law_pool", "_law_pool", defArgs (top 94), defBody (top 94), defScope (top 94), [], []⟩
abbrev d__law_draw : He.DefD := ⟨("_law_draw", none), "_law_draw", "_law_draw", defArgs (top 95), defBody (top 95), defScope (top 95), [], []⟩
abbrev d__law_pick : He.DefD := ⟨("_law_pick", none), "_law_pick", "_law_pick", defArgs (top 96), defBody (top 96), defScope (top 96), [], []⟩
abbrev d__law_line : He.DefD := ⟨("_law_line", none), "_law_line", "_law_line", defArgs (top 97), defBody (top 97), defScope (top 97), [], []⟩
abbrev d__law_counts : He.DefD := ⟨("_law_counts", none), "_law_counts", "_law_counts", defArgs (top 98), defBody (top 98), defScope (top 98), [], []⟩
abbrev d__law_loads : He.DefD := ⟨("_law_loads", none), "_law_loads", "_law_loads", defArgs (top 99), defBody (top 99), defScope (top 99), [], []⟩
abbrev d__law_heard : He.DefD := ⟨("_law_heard", none), "_law_heard", "_law_heard", defArgs (top 100), defBody (top 100), defScope (top 100), [], []⟩
abbrev d__law_refused_right : He.DefD := ⟨("_law_refused_right", none), "_law_refused_right", "_law_refused_right", defArgs (top 101), defBody (top 101), defScope (top 101), [], []⟩
abbrev d__law_bad_lines : He.DefD := ⟨("_law_bad_lines", none), "_law_bad_lines", "_law_bad_lines", defArgs (top 102), defBody (top 102), defScope (top 102), [], []⟩
abbrev d__law_bad_counts : He.DefD := ⟨("_law_bad_counts", none), "_law_bad_counts", "_law_bad_counts", defArgs (top 103), defBody (top 103), defScope (top 103), [], []⟩
abbrev d__law_bad_logs : He.DefD := ⟨("_law_bad_logs", none), "_law_bad_logs", "_law_bad_logs", defArgs (top 104), defBody (top 104), defScope (top 104), [], []⟩
abbrev d__law_right : He.DefD := ⟨("_law_right", none), "_law_right", "_law_right", defArgs (top 105), defBody (top 105), defScope (top 105), [], []⟩
abbrev d_law : He.DefD := ⟨("law", none), "law", "law", defArgs (top 106), defBody (top 106), defScope (top 106), [], []⟩
abbrev di_InvalidLine : He.DefD := ⟨("InvalidLine", some "__init__"), "__init__", "InvalidLine.__init__", defArgs (clsDef (top 2)), defBody (clsDef (top 2)), defScope (clsDef (top 2)), [], []⟩
abbrev di_InvalidCounts : He.DefD := ⟨("InvalidCounts", some "__init__"), "__init__", "InvalidCounts.__init__", defArgs (clsDef (top 3)), defBody (clsDef (top 3)), defScope (clsDef (top 3)), [], []⟩
abbrev di_InvalidLog : He.DefD := ⟨("InvalidLog", some "__init__"), "__init__", "InvalidLog.__init__", defArgs (clsDef (top 4)), defBody (clsDef (top 4)), defScope (clsDef (top 4)), [], []⟩
abbrev di_InvalidText : He.DefD := ⟨("InvalidText", some "__init__"), "__init__", "InvalidText.__init__", defArgs (clsDef (top 5)), defBody (clsDef (top 5)), defScope (clsDef (top 5)), [], []⟩
/-- a lambda in a statement of the kind return f(.., lambda) -/
def lamIn : Stmt → Expr
  | .Return (some (.Call _ args _ _)) _ => (args.getLast?).getD (.Constant .none 0 ⟨0, 0, 0, 0⟩)
  | _ => .Constant .none 0 ⟨0, 0, 0, 0⟩
def lamDOf (q : Str) (caps : List Str) : Expr → LamD
  | .Lambda p b s _ => ⟨q, p, b, s, caps⟩
  | e => ⟨q, (defArgs (top 0)), e, (defScope (top 0)), caps⟩
def l_log_in : LamD := lamDOf "log_in.<locals>.<lambda>" ["line"] (lamIn ((defBody (top 64)).getD 1 (.Pass ⟨0, 0, 0, 0⟩)))
instance : Tf := ⟨[(("log_in", none), l_log_in.qual)], fun q => if q = "log_in" then l_log_in else lamDOf "" [] (.Constant .none 0 ⟨0, 0, 0, 0⟩)⟩
theorem lq_log_in : Tf.lam "log_in" = l_log_in := if_pos rfl
theorem lm_log_in : ((("log_in", none) : He.Defn), l_log_in.qual) ∈ Tf.tabs := by simp [Tf.tabs]
theorem lf_log_in : ∀ y ∈ l_log_in.scope.names, y.2 = .free → (defScope (top 64)).names.lookup y.1 = some .cell ∨ (defScope (top 64)).names.lookup y.1 = some .free := by decide +kernel
theorem lc_log_in : ∀ y ∈ l_log_in.caps, (y, NameKind.free) ∈ l_log_in.scope.names := by decide +kernel
theorem lu_log_in (K : PySem.W.Frag) : ∀ p ∈ Tf.tabs, (He.cT K p.1).2 = (He.cT K ("log_in", none)).2 → p.2 = l_log_in.qual := by
  intro p hp _
  rw [List.mem_singleton.mp hp]
def fn : List He.DefD := [d_joint_behind, d_load_of, d_loads_by, d_has_room, d_wrong_sections_by, d_can_be_by, d_is_whole, d_is_between, d_is_up_to, d_is_from, d_is_text, d_is_tuple_up_to, d_is_tuple_of, d_is_pair, d_is_section, d_wrong_in_sections, d_wrong_in_line, d_is_joint_of, d_wrong_in_numbers, d_wrong_in_counts, d_is_entry_of, d_wrong_in_log, d_check_line, d_check_counts, d_check_log, d_whole_in, d_signed_in, d_section_word, d_section_in, d_step_word, d_step_in, d_entry_word, d_entry_in, d_text_of_numbers, d_text_of_line, d_text_of_log, d_entry_on, d_read_words, d_line_in, d_counts_in, d_log_in, d_line_text, d_counts_text, d_log_text, d_check_text, d_check_read, d_read_line, d_read_counts, d_read_log, d_line_backward_by, d_counts_backward_by, d_check_told_changes, d_line_backward, d_counts_backward, d_check_told_lines, d_loads, d_counts_behind_by, d_all_counts, d_first_unlawful_by, d_check_logged, d_is_lawful, d__law_pool, d__law_draw, d__law_pick, d__law_line, d__law_counts, d__law_loads, d__law_heard, d__law_refused_right, d__law_bad_lines, d__law_bad_counts, d__law_bad_logs, d__law_right, d_law, di_InvalidLine, di_InvalidCounts, di_InvalidLog, di_InvalidText]
def fa : List He.Fa := [(.free "int"), (.free "len"), (.glo "joint_behind"), (.glo "load_of"), (.free "range"), (.glo "loads_by"), (.glo "has_room"), (.free "enumerate"), (.glo "wrong_sections_by"), (.glo "can_be_by"), (.free "isinstance"), (.free "bool"), (.glo "is_whole"), (.glo "is_between"), (.glo "is_up_to"), (.glo "is_from"), (.free "str"), (.glo "is_text"), (.free "tuple"), (.glo "is_tuple_up_to"), (.glo "is_tuple_of"), (.glo "is_pair"), (.glo "is_section"), (.glo "wrong_in_sections"), (.int "MOST_SECTIONS_checks" 12), (.glo "wrong_in_line"), (.glo "is_joint_of"), (.glo "wrong_in_numbers"), (.glo "wrong_in_counts"), (.int "FORWARD_checks" 1), (.int "BACK_checks" (-1)), (.glo "is_entry_of"), (.int "MOST_ENTRIES_checks" 100), (.glo "wrong_in_log"), (.glo "check_line"), (.glo "check_counts"), (.glo "check_log"), (.str "FIGURES" "0123456789"), (.free "all"), (.glo "whole_in"), (.str "BELOW" "-"), (.glo "signed_in"), (.str "BAR" "/"), (.str "ANY" "-"), (.glo "section_word"), (.glo "section_in"), (.str "FORWARD_wordwork" "+"), (.str "BACK_wordwork" "-"), (.glo "step_word"), (.glo "step_in"), (.glo "entry_word"), (.glo "entry_in"), (.str "BLANK" " "), (.glo "text_of_numbers"), (.glo "text_of_line"), (.glo "text_of_log"), (.glo "entry_on"), (.glo "read_words"), (.int "MOST_SECTIONS_textwork" 12), (.glo "line_in"), (.glo "counts_in"), (.int "MOST_ENTRIES_textwork" 100), (.glo "log_in"), (.glo "line_text"), (.glo "counts_text"), (.glo "log_text"), (.glo "check_text"), (.glo "check_read"), (.glo "read_line"), (.glo "read_counts"), (.glo "read_log"), (.glo "line_backward_by"), (.glo "counts_backward_by"), (.glo "check_told_changes"), (.glo "line_backward"), (.glo "counts_backward"), (.glo "check_told_lines"), (.glo "loads"), (.glo "counts_behind_by"), (.glo "all_counts"), (.glo "first_unlawful_by"), (.glo "check_logged"), (.glo "is_lawful"), (.free "abs"), (.glo "_law_pool"), (.free "divmod"), (.glo "_law_draw"), (.glo "_law_pick"), (.glo "_law_line"), (.glo "_law_counts"), (.glo "_law_loads"), (.glo "InvalidLine"), (.glo "InvalidCounts"), (.glo "InvalidLog"), (.glo "InvalidText"), (.free "ValueError"), (.glo "AxleError"), (.glo "_law_heard"), (.free "repr"), (.glo "_law_refused_right"), (.free "list"), (.glo "_law_bad_lines"), (.glo "_law_bad_counts"), (.glo "_law_bad_logs"), (.glo "_law_right"), (.free "min"), (.free "max"), (.glo "law")]
/-- isinstance(an instance of the second, the first) -/
def isl : List ((Str × Str) × Bool) := [(("InvalidLine", "InvalidLine"), true), (("InvalidLine", "InvalidCounts"), false), (("InvalidLine", "InvalidLog"), false), (("InvalidLine", "InvalidText"), false), (("InvalidCounts", "InvalidLine"), false), (("InvalidCounts", "InvalidCounts"), true), (("InvalidCounts", "InvalidLog"), false), (("InvalidCounts", "InvalidText"), false), (("InvalidLog", "InvalidLine"), false), (("InvalidLog", "InvalidCounts"), false), (("InvalidLog", "InvalidLog"), true), (("InvalidLog", "InvalidText"), false), (("InvalidText", "InvalidLine"), false), (("InvalidText", "InvalidCounts"), false), (("InvalidText", "InvalidLog"), false), (("InvalidText", "InvalidText"), true)]
def islt : List ((Str × String) × Bool) := [(("InvalidLine", "ValueError"), true), (("InvalidCounts", "ValueError"), true), (("InvalidLog", "ValueError"), true), (("InvalidText", "ValueError"), true)]
def exl : List ((Str × Str) × Bool) := [(("AxleError", "InvalidLine"), true), (("AxleError", "InvalidCounts"), true), (("AxleError", "InvalidLog"), true), (("AxleError", "InvalidText"), true)]
def fld : List (Str × Str) := [("InvalidLine", "index"), ("InvalidCounts", "index"), ("InvalidLog", "index"), ("InvalidText", "index")]
def itab (cl cc : Str) : Option Bool := isl.lookup (cl, cc)
def ittab (cl : String) (cc : Str) : Option Bool := islt.lookup (cc, cl)
def etab (x c : Str) : Option Bool := exl.lookup (x, c)
def xtab (f c : Str) : Bool := decide ((c, f) ∈ fld)
def ex (K : PySem.W.Frag) : Bool := fld.all (fun p => errB K p.1 p.2) && (isl.all (fun p => kitB' K p.1.2 (.ref (He.ga K p.1.1)) p.2 && excB K (He.ga K p.1.2)) && (islt.all (fun p => kitB' K p.1.1 (.type p.1.2) p.2 && excB K (He.ga K p.1.1)) && (exl.all (fun p => exmB K p.1.2 p.1.1 p.2) && fld.all fun p => xfB K (He.ga K p.1))))
structure Cn (K : PySem.W.Frag) (mg : Str → Option Value) : Prop where
  all : ∃ h : Heap, K.In h ∧ h.Ns mainGlobals mg ∧ He.SaysD fa fn K ∧ ex K = true
section
variable {K : PySem.W.Frag} {mg : Str → Option Value}
theorem Cn.glo (c : Cn K mg) (i : Nat) {x : Str} (h : fa[i]? = some (.glo x) := by rfl) : mg x = some (.ref (He.ga K x)) := by
  obtain ⟨_, X, G, d, _⟩ := c.all
  exact He.glo_ok X G (d.fact i h)
theorem Cn.free (c : Cn K mg) (i : Nat) {x : Str} (h : fa[i]? = some (.free x) := by rfl) : mg x = none := by
  obtain ⟨_, X, G, d, _⟩ := c.all
  exact He.free_ok X G (d.fact i h)
theorem Cn.int (c : Cn K mg) (i : Nat) {x : Str} {z : Int} (h : fa[i]? = some (.int x z) := by rfl) : ∃ t, mg x = some (.int z t) := by
  obtain ⟨_, X, G, d, _⟩ := c.all
  exact He.int_ok X G (d.fact i h)
theorem Cn.str (c : Cn K mg) (i : Nat) {x z : Str} (h : fa[i]? = some (.str x z) := by rfl) : ∃ t, mg x = some (.str z t) := by
  obtain ⟨_, X, G, d, _⟩ := c.all
  exact He.str_ok X G (d.fact i h)
theorem Cn.fn (c : Cn K mg) (i : Nat) {d : He.DefD} (h : fn[i]? = some d := by rfl) : ∃ fd, FunD K d.name d.qual d.params d.body d.scope (d.dvs K) (d.kws K) (He.fAd K d.at_) fd := by
  obtain ⟨_, X, G, s, _⟩ := c.all
  exact s.def_ i h
theorem lookup_mem {α β : Type} [BEq α] [LawfulBEq α] {l : List (α × β)} {a : α} {b : β} (h : l.lookup a = some b) : (a, b) ∈ l := by
  induction l with
  | nil => cases h
  | cons p l ih =>
    rw [List.lookup_cons] at h
    cases e : a == p.1 with
    | true =>
      rw [e] at h
      cases h
      rw [beq_iff_eq.mp e]
      exact List.mem_cons_self
    | false =>
      rw [e] at h
      exact List.mem_cons_of_mem _ (ih h)
theorem Cn.xf (c : Cn K mg) (f : Str) : ∀ cc, xtab f cc = true → XfC K (He.ga K cc) ∧ PySem.W.findIn K (.ref (He.ga K cc)) f = some none := fun cc h => by
  obtain ⟨_, X, G, s, e⟩ := c.all
  have hm : (cc, f) ∈ fld := of_decide_eq_true h
  unfold ex at e
  simp only [Bool.and_eq_true] at e
  have h1 := List.all_eq_true.mp e.1 _ hm
  have h5 := List.all_eq_true.mp e.2.2.2.2 _ hm
  unfold errB at h1
  simp only [Bool.and_eq_true, decide_eq_true_eq] at h1
  exact ⟨xfB_ok h5, h1.2.2.1⟩
theorem Cn.isx (c : Cn K mg) (cl : Str) : ∀ cc b, itab cl cc = some b → ExcC K (He.ga K cc) ∧ PySem.W.kitOne K (.ref (He.ga K cc)) (.ref (He.ga K cl)) = some b := fun cc b h => by
  obtain ⟨_, X, G, s, e⟩ := c.all
  have hm := lookup_mem h
  unfold ex at e
  simp only [Bool.and_eq_true] at e
  have h1 := List.all_eq_true.mp e.2.1 _ hm
  simp only [Bool.and_eq_true] at h1
  exact ⟨exc_of h1.2, of_decide_eq_true h1.1⟩
theorem Cn.isxt (c : Cn K mg) (cl : String) : ∀ cc b, ittab cl cc = some b → ExcC K (He.ga K cc) ∧ PySem.W.kitOne K (.ref (He.ga K cc)) (.type cl) = some b := fun cc b h => by
  obtain ⟨_, X, G, s, e⟩ := c.all
  have hm := lookup_mem h
  unfold ex at e
  simp only [Bool.and_eq_true] at e
  have h1 := List.all_eq_true.mp e.2.2.1 _ hm
  simp only [Bool.and_eq_true] at h1
  exact ⟨exc_of h1.2, of_decide_eq_true h1.1⟩
theorem Cn.ex (c : Cn K mg) (x : Str) : ∀ cc b, etab x cc = some b → PySem.W.exmOne K (.ref (He.ga K cc)) (.ref (He.ga K x)) = some b := fun cc b h => by
  obtain ⟨_, X, G, s, e⟩ := c.all
  have hm := lookup_mem h
  unfold K77.ex at e
  simp only [Bool.and_eq_true] at e
  exact of_decide_eq_true (List.all_eq_true.mp e.2.2.2.1 _ hm)
theorem sci_InvalidLine : FnScope ["self", "index"] ["self", "index"] (defScope (clsDef (top 2))) := ⟨rfl, rfl, rfl, by decide +kernel, rfl, by decide +kernel, by decide +kernel⟩
theorem Cn.err_InvalidLine {X : Cx} (c : Cn X.K X.mg) : ErrC X "InvalidLine" "index" 1 := by
  obtain ⟨fd, F⟩ := c.fn 74 (d := di_InvalidLine)
  have g := c.glo 91 (x := "InvalidLine")
  obtain ⟨_, _, _, s, e⟩ := c.all
  have hm : (("InvalidLine" : Str), ("index" : Str)) ∈ fld := by decide
  unfold K77.ex at e
  simp only [Bool.and_eq_true] at e
  have h1 := List.all_eq_true.mp e.1 _ hm
  unfold errB at h1
  simp only [Bool.and_eq_true, decide_eq_true_eq] at h1
  have hb : Binds X.K fd ["self", "index"] [] := F.bindsN fun _ _ _ _ _ _ us hl => match us, hl with | [_, _], _ => rfl
  exact ⟨g, oex_of h1.1, h1.2.2.1, _, fd, h1.2.2.2.1, h1.2.2.2.2, init_ok F sci_InvalidLine rfl rfl rfl (by decide) (by decide), hb⟩
theorem sci_InvalidCounts : FnScope ["self", "index"] ["self", "index"] (defScope (clsDef (top 3))) := ⟨rfl, rfl, rfl, by decide +kernel, rfl, by decide +kernel, by decide +kernel⟩
theorem Cn.err_InvalidCounts {X : Cx} (c : Cn X.K X.mg) : ErrC X "InvalidCounts" "index" 1 := by
  obtain ⟨fd, F⟩ := c.fn 75 (d := di_InvalidCounts)
  have g := c.glo 92 (x := "InvalidCounts")
  obtain ⟨_, _, _, s, e⟩ := c.all
  have hm : (("InvalidCounts" : Str), ("index" : Str)) ∈ fld := by decide
  unfold K77.ex at e
  simp only [Bool.and_eq_true] at e
  have h1 := List.all_eq_true.mp e.1 _ hm
  unfold errB at h1
  simp only [Bool.and_eq_true, decide_eq_true_eq] at h1
  have hb : Binds X.K fd ["self", "index"] [] := F.bindsN fun _ _ _ _ _ _ us hl => match us, hl with | [_, _], _ => rfl
  exact ⟨g, oex_of h1.1, h1.2.2.1, _, fd, h1.2.2.2.1, h1.2.2.2.2, init_ok F sci_InvalidCounts rfl rfl rfl (by decide) (by decide), hb⟩
theorem sci_InvalidLog : FnScope ["self", "index"] ["self", "index"] (defScope (clsDef (top 4))) := ⟨rfl, rfl, rfl, by decide +kernel, rfl, by decide +kernel, by decide +kernel⟩
theorem Cn.err_InvalidLog {X : Cx} (c : Cn X.K X.mg) : ErrC X "InvalidLog" "index" 1 := by
  obtain ⟨fd, F⟩ := c.fn 76 (d := di_InvalidLog)
  have g := c.glo 93 (x := "InvalidLog")
  obtain ⟨_, _, _, s, e⟩ := c.all
  have hm : (("InvalidLog" : Str), ("index" : Str)) ∈ fld := by decide
  unfold K77.ex at e
  simp only [Bool.and_eq_true] at e
  have h1 := List.all_eq_true.mp e.1 _ hm
  unfold errB at h1
  simp only [Bool.and_eq_true, decide_eq_true_eq] at h1
  have hb : Binds X.K fd ["self", "index"] [] := F.bindsN fun _ _ _ _ _ _ us hl => match us, hl with | [_, _], _ => rfl
  exact ⟨g, oex_of h1.1, h1.2.2.1, _, fd, h1.2.2.2.1, h1.2.2.2.2, init_ok F sci_InvalidLog rfl rfl rfl (by decide) (by decide), hb⟩
theorem sci_InvalidText : FnScope ["self", "index"] ["self", "index"] (defScope (clsDef (top 5))) := ⟨rfl, rfl, rfl, by decide +kernel, rfl, by decide +kernel, by decide +kernel⟩
theorem Cn.err_InvalidText {X : Cx} (c : Cn X.K X.mg) : ErrC X "InvalidText" "index" 1 := by
  obtain ⟨fd, F⟩ := c.fn 77 (d := di_InvalidText)
  have g := c.glo 94 (x := "InvalidText")
  obtain ⟨_, _, _, s, e⟩ := c.all
  have hm : (("InvalidText" : Str), ("index" : Str)) ∈ fld := by decide
  unfold K77.ex at e
  simp only [Bool.and_eq_true] at e
  have h1 := List.all_eq_true.mp e.1 _ hm
  unfold errB at h1
  simp only [Bool.and_eq_true, decide_eq_true_eq] at h1
  have hb : Binds X.K fd ["self", "index"] [] := F.bindsN fun _ _ _ _ _ _ us hl => match us, hl with | [_, _], _ => rfl
  exact ⟨g, oex_of h1.1, h1.2.2.1, _, fd, h1.2.2.2.1, h1.2.2.2.2, init_ok F sci_InvalidText rfl rfl rfl (by decide) (by decide), hb⟩
end

section
variable {P : Program} {w : World} {K : PySem.W.Frag} {mg : Str → Option Value} {base : Heap}
/-! joint_behind -/
abbrev st_joint_behind : Stmt := top 7
abbrev N_joint_behind : List Str := ["counts", "section"]
abbrev sp_joint_behind : Scope := defScope st_joint_behind
def m_joint_behind : PN := defM 2 (sRet (eBin modD (eN intN (aCons (eBin addD (eVar 1) (eC (.int 1))) (aNil))) (eN lenN (aCons (eVar 0) (aNil)))))
theorem sc_joint_behind : FnScope N_joint_behind ["counts", "section"] (defScope st_joint_behind) := ⟨rfl, rfl, rfl, by decide +kernel, rfl, by decide +kernel, by decide +kernel⟩
theorem ok_joint_behind (c : Cn K mg) : FnD P w K mg base 1 "joint_behind" ["counts", "section"] m_joint_behind :=
 fnD_of (c.glo 2) (c.fn 0 (d := d_joint_behind)) sc_joint_behind (fun _ _ _ _ _ _ us hl => match us, hl with | [_, _], _ => rfl) (fun _ _ _ _ _ _ us hl => match us, hl with | [_, _], _ => rfl) (fun _ _ _ _ _ _ us hl => match us, hl with | [_, _], _ => rfl)
  (fun cdv hcv A outer s H E L0 i => jb_one (js_ret (je_bin op_mod prim_mod (bt_ call_intN prim_intN (c.free 0) (ja_cons (je_bin op_addD prim_add (v_ 1) (je_int)) (ja_nil))) (bi_ call_len prim_len (c.free 1) (ja_cons (v_ 0) (ja_nil))))))
/-! load_of -/
abbrev st_load_of : Stmt := top 8
abbrev N_load_of : List Str := ["line", "counts", "section"]
abbrev sp_load_of : Scope := defScope st_load_of
def m_load_of : PN := defM 3 (sRet (eBin subD (eBin addD (eBin ixD (eBin ixD (eVar 0) (eVar 2)) (eC (.int 0))) (eBin ixD (eVar 1) (eVar 2))) (eBin ixD (eVar 1) (eN (callN 2 m_joint_behind) (aCons (eVar 1) (aCons (eVar 2) (aNil)))))))
theorem sc_load_of : FnScope N_load_of ["line", "counts", "section"] (defScope st_load_of) := ⟨rfl, rfl, rfl, by decide +kernel, rfl, by decide +kernel, by decide +kernel⟩
theorem ok_load_of (c : Cn K mg) : FnD P w K mg base 2 "load_of" ["line", "counts", "section"] m_load_of :=
 fnD_of (c.glo 3) (c.fn 1 (d := d_load_of)) sc_load_of (fun _ _ _ _ _ _ us hl => match us, hl with | [_, _, _], _ => rfl) (fun _ _ _ _ _ _ us hl => match us, hl with | [_, _, _], _ => rfl) (fun _ _ _ _ _ _ us hl => match us, hl with | [_, _, _], _ => rfl)
  (fun cdv hcv A outer s H E L0 i => jb_one (js_ret (je_bin op_sub prim_sub (je_bin op_addD prim_add (je_ix (je_ix (v_ 0) (v_ 2)) (je_int)) (je_ix (v_ 1) (v_ 2))) (je_ix (v_ 1) (call_ (ok_joint_behind c) i (ja_cons (v_ 1) (ja_cons (v_ 2) (ja_nil))))))))
/-! loads_by -/
abbrev st_loads_by : Stmt := top 9
abbrev N_loads_by : List Str := ["line", "counts", "section"]
abbrev sp_loads_by : Scope := defScope st_loads_by
def m_loads_by : PN := defM 3 (sRet (eLst (fComp (iRange1 (aCons (eN lenN (aCons (eVar 0) (aNil))) (aNil))) (gSet 2) (bTrue) (eN (callN 3 m_load_of) (aCons (eVar 0) (aCons (eVar 1) (aCons (eVar 2) (aNil))))) [2])))
theorem sc_loads_by : FnScope N_loads_by ["line", "counts"] (defScope st_loads_by) := ⟨rfl, rfl, rfl, by decide +kernel, rfl, by decide +kernel, by decide +kernel⟩
theorem ok_loads_by (c : Cn K mg) : FnD P w K mg base 3 "loads_by" ["line", "counts"] m_loads_by :=
 fnD_of (c.glo 5) (c.fn 2 (d := d_loads_by)) sc_loads_by (fun _ _ _ _ _ _ us hl => match us, hl with | [_, _], _ => rfl) (fun _ _ _ _ _ _ us hl => match us, hl with | [_, _], _ => rfl) (fun _ _ _ _ _ _ us hl => match us, hl with | [_, _], _ => rfl)
  (fun cdv hcv A outer s H E L0 i => jb_one (js_ret (JF.je (comp_ [("section", 2)] sc_loads_by.nd i (ji_range1 rfl (c.free 4) (ja_cons (bi_ call_len prim_len (c.free 1) (ja_cons (v_ 0) (ja_nil))) (ja_nil))) (fun _ _ _ _ _ _ => g_ 2 sc_loads_by.nd) (fun _ _ _ _ _ _ i => jpts_nil) (fun _ _ _ _ _ _ i => call_ (ok_load_of c) i (ja_cons (v_ 0) (ja_cons (v_ 1) (ja_cons (v_ 2) (ja_nil))))) (blk_of (N := N_loads_by) (sc := sp_loads_by) (by decide +kernel))))))
/-! has_room -/
abbrev st_has_room : Stmt := top 10
abbrev N_has_room : List Str := ["section", "load"]
abbrev sp_has_room : Scope := defScope st_has_room
def m_has_room : PN := defM 2 (sRet (eAnd (eBin (cmpD fun i j => decide (j ≤ i)) (eVar 1) (eC (.int 0))) (eOr (eBin isND (eBin ixD (eVar 0) (eC (.int 1))) (eC .non)) (eBin (cmpD fun i j => decide (i ≤ j)) (eVar 1) (eBin ixD (eVar 0) (eC (.int 1)))))))
theorem sc_has_room : FnScope N_has_room ["section", "load"] (defScope st_has_room) := ⟨rfl, rfl, rfl, by decide +kernel, rfl, by decide +kernel, by decide +kernel⟩
theorem ok_has_room (c : Cn K mg) : FnD P w K mg base 1 "has_room" ["section", "load"] m_has_room :=
 fnD_of (c.glo 6) (c.fn 3 (d := d_has_room)) sc_has_room (fun _ _ _ _ _ _ us hl => match us, hl with | [_, _], _ => rfl) (fun _ _ _ _ _ _ us hl => match us, hl with | [_, _], _ => rfl) (fun _ _ _ _ _ _ us hl => match us, hl with | [_, _], _ => rfl)
  (fun cdv hcv A outer s H E L0 i => jb_one (js_ret (je_and (je_cmp op_ge prim_cmp (v_ 1) (je_int) (nomark _)) (je_one (je_or (je_cmp op_isN prim_isN (je_ix (v_ 0) (je_int)) (je_non) (nomark _)) (je_one (je_cmp op_le prim_cmp (v_ 1) (je_ix (v_ 0) (je_int)) (nomark _))))))))
/-! wrong_sections_by -/
abbrev st_wrong_sections_by : Stmt := top 11
abbrev N_wrong_sections_by : List Str := ["line", "counts", "at", "load"]
abbrev sp_wrong_sections_by : Scope := defScope st_wrong_sections_by
def m_wrong_sections_by : PN := defM 4 (sRet (eLst (fComp (iEnum' (aCons (eN (callN 2 m_loads_by) (aCons (eVar 0) (aCons (eVar 1) (aNil)))) (aNil))) (gSeq 2 (gConsM (gSet 2) (gConsM (gSet 3) (gNilM)))) (bNot (bT (eN (callN 2 m_has_room) (aCons (eBin ixD (eVar 0) (eVar 2)) (aCons (eVar 3) (aNil)))))) (eVar 2) [2, 3])))
theorem sc_wrong_sections_by : FnScope N_wrong_sections_by ["line", "counts"] (defScope st_wrong_sections_by) := ⟨rfl, rfl, rfl, by decide +kernel, rfl, by decide +kernel, by decide +kernel⟩
theorem ok_wrong_sections_by (c : Cn K mg) : FnD P w K mg base 4 "wrong_sections_by" ["line", "counts"] m_wrong_sections_by :=
 fnD_of (c.glo 8) (c.fn 4 (d := d_wrong_sections_by)) sc_wrong_sections_by (fun _ _ _ _ _ _ us hl => match us, hl with | [_, _], _ => rfl) (fun _ _ _ _ _ _ us hl => match us, hl with | [_, _], _ => rfl) (fun _ _ _ _ _ _ us hl => match us, hl with | [_, _], _ => rfl)
  (fun cdv hcv A outer s H E L0 i => jb_one (js_ret (JF.je (comp_ [("at", 2), ("load", 3)] sc_wrong_sections_by.nd i (ji_enum rfl (c.free 7) (ja_cons (call_ (ok_loads_by c) i (ja_cons (v_ 0) (ja_cons (v_ 1) (ja_nil)))) (ja_nil))) (fun _ _ _ _ _ _ => jg_seq rfl (jgs_cons (g_ 2 sc_wrong_sections_by.nd) (jgs_cons (g_ 3 sc_wrong_sections_by.nd) (jgs_nil)))) (fun _ _ _ _ _ _ i => jpts_one (jt_not (jt_val (call_ (ok_has_room c) i (ja_cons (je_ix (v_ 0) (v_ 2)) (ja_cons (v_ 3) (ja_nil))))))) (fun _ _ _ _ _ _ i => v_ 2) (blk_of (N := N_wrong_sections_by) (sc := sp_wrong_sections_by) (by decide +kernel))))))
/-! can_be_by -/
abbrev st_can_be_by : Stmt := top 12
abbrev N_can_be_by : List Str := ["line", "counts"]
abbrev sp_can_be_by : Scope := defScope st_can_be_by
def m_can_be_by : PN := defM 2 (sRet (eBin eqD (eN (callN 2 m_wrong_sections_by) (aCons (eVar 0) (aCons (eVar 1) (aNil)))) (eN lstN (aNil))))
theorem sc_can_be_by : FnScope N_can_be_by ["line", "counts"] (defScope st_can_be_by) := ⟨rfl, rfl, rfl, by decide +kernel, rfl, by decide +kernel, by decide +kernel⟩
theorem ok_can_be_by (c : Cn K mg) : FnD P w K mg base 5 "can_be_by" ["line", "counts"] m_can_be_by :=
 fnD_of (c.glo 9) (c.fn 5 (d := d_can_be_by)) sc_can_be_by (fun _ _ _ _ _ _ us hl => match us, hl with | [_, _], _ => rfl) (fun _ _ _ _ _ _ us hl => match us, hl with | [_, _], _ => rfl) (fun _ _ _ _ _ _ us hl => match us, hl with | [_, _], _ => rfl)
  (fun cdv hcv A outer s H E L0 i => jb_one (js_ret (je_cmp (op_eqX i.units) prim_eq (call_ (ok_wrong_sections_by c) i (ja_cons (v_ 0) (ja_cons (v_ 1) (ja_nil)))) (je_lst (ja_nil)) (nomark _))))
/-! is_whole -/
abbrev st_is_whole : Stmt := top 14
abbrev N_is_whole : List Str := ["value"]
abbrev sp_is_whole : Scope := defScope st_is_whole
def m_is_whole : PN := defM 1 (sRet (eAnd (eN isiN (aCons (eVar 0) (aCons (eC (.ty "int")) (aNil)))) (eNot (eN isiN (aCons (eVar 0) (aCons (eC (.ty "bool")) (aNil)))))))
theorem sc_is_whole : FnScope N_is_whole ["value"] (defScope st_is_whole) := ⟨rfl, rfl, rfl, by decide +kernel, rfl, by decide +kernel, by decide +kernel⟩
theorem ok_is_whole (c : Cn K mg) : FnD P w K mg base 1 "is_whole" ["value"] m_is_whole :=
 fnD_of (c.glo 12) (c.fn 6 (d := d_is_whole)) sc_is_whole (fun _ _ _ _ _ _ us hl => match us, hl with | [_], _ => rfl) (fun _ _ _ _ _ _ us hl => match us, hl with | [_], _ => rfl) (fun _ _ _ _ _ _ us hl => match us, hl with | [_], _ => rfl)
  (fun cdv hcv A outer s H E L0 i => jb_one (js_ret (je_and (bi_ call_isi prim_isi (c.free 10) (ja_cons (v_ 0) (ja_cons (ty_ (c.free 0)) (ja_nil)))) (je_one (je_not (bi_ call_isi prim_isi (c.free 10) (ja_cons (v_ 0) (ja_cons (ty_ (c.free 11)) (ja_nil)))))))))
/-! is_between -/
abbrev st_is_between : Stmt := top 15
abbrev N_is_between : List Str := ["value", "low", "high"]
abbrev sp_is_between : Scope := defScope st_is_between
def m_is_between : PN := defM 3 (sRet (eAnd (eN (callN 1 m_is_whole) (aCons (eVar 0) (aNil))) (eChain (cmpD fun i j => decide (i ≤ j)) (cmpD fun i j => decide (i ≤ j)) (eVar 1) (eVar 0) (eVar 2))))
theorem sc_is_between : FnScope N_is_between ["value", "low", "high"] (defScope st_is_between) := ⟨rfl, rfl, rfl, by decide +kernel, rfl, by decide +kernel, by decide +kernel⟩
theorem ok_is_between (c : Cn K mg) : FnD P w K mg base 2 "is_between" ["value", "low", "high"] m_is_between :=
 fnD_of (c.glo 13) (c.fn 7 (d := d_is_between)) sc_is_between (fun _ _ _ _ _ _ us hl => match us, hl with | [_, _, _], _ => rfl) (fun _ _ _ _ _ _ us hl => match us, hl with | [_, _, _], _ => rfl) (fun _ _ _ _ _ _ us hl => match us, hl with | [_, _, _], _ => rfl)
  (fun cdv hcv A outer s H E L0 i => jb_one (js_ret (je_and (call_ (ok_is_whole c) i (ja_cons (v_ 0) (ja_nil))) (je_one (je_chain op_le op_le prim_cmp prim_cmp (v_ 1) (v_ 0) (v_ 2))))))
/-! is_up_to -/
abbrev st_is_up_to : Stmt := top 16
abbrev N_is_up_to : List Str := ["value", "most"]
abbrev sp_is_up_to : Scope := defScope st_is_up_to
def m_is_up_to : PN := defM 2 (sRet (eN (callN 3 m_is_between) (aCons (eVar 0) (aCons (eC (.int 0)) (aCons (eVar 1) (aNil))))))
theorem sc_is_up_to : FnScope N_is_up_to ["value", "most"] (defScope st_is_up_to) := ⟨rfl, rfl, rfl, by decide +kernel, rfl, by decide +kernel, by decide +kernel⟩
theorem ok_is_up_to (c : Cn K mg) : FnD P w K mg base 3 "is_up_to" ["value", "most"] m_is_up_to :=
 fnD_of (c.glo 14) (c.fn 8 (d := d_is_up_to)) sc_is_up_to (fun _ _ _ _ _ _ us hl => match us, hl with | [_, _], _ => rfl) (fun _ _ _ _ _ _ us hl => match us, hl with | [_, _], _ => rfl) (fun _ _ _ _ _ _ us hl => match us, hl with | [_, _], _ => rfl)
  (fun cdv hcv A outer s H E L0 i => jb_one (js_ret (call_ (ok_is_between c) i (ja_cons (v_ 0) (ja_cons (je_int) (ja_cons (v_ 1) (ja_nil)))))))
/-! is_from -/
abbrev st_is_from : Stmt := top 17
abbrev N_is_from : List Str := ["value", "least"]
abbrev sp_is_from : Scope := defScope st_is_from
def m_is_from : PN := defM 2 (sRet (eAnd (eN (callN 1 m_is_whole) (aCons (eVar 0) (aNil))) (eBin (cmpD fun i j => decide (j ≤ i)) (eVar 0) (eVar 1))))
theorem sc_is_from : FnScope N_is_from ["value", "least"] (defScope st_is_from) := ⟨rfl, rfl, rfl, by decide +kernel, rfl, by decide +kernel, by decide +kernel⟩
theorem ok_is_from (c : Cn K mg) : FnD P w K mg base 2 "is_from" ["value", "least"] m_is_from :=
 fnD_of (c.glo 15) (c.fn 9 (d := d_is_from)) sc_is_from (fun _ _ _ _ _ _ us hl => match us, hl with | [_, _], _ => rfl) (fun _ _ _ _ _ _ us hl => match us, hl with | [_, _], _ => rfl) (fun _ _ _ _ _ _ us hl => match us, hl with | [_, _], _ => rfl)
  (fun cdv hcv A outer s H E L0 i => jb_one (js_ret (je_and (call_ (ok_is_whole c) i (ja_cons (v_ 0) (ja_nil))) (je_one (je_cmp op_ge prim_cmp (v_ 0) (v_ 1) (nomark _))))))
/-! is_text -/
abbrev st_is_text : Stmt := top 18
abbrev N_is_text : List Str := ["value"]
abbrev sp_is_text : Scope := defScope st_is_text
def m_is_text : PN := defM 1 (sRet (eN isiN (aCons (eVar 0) (aCons (eC (.ty "str")) (aNil)))))
theorem sc_is_text : FnScope N_is_text ["value"] (defScope st_is_text) := ⟨rfl, rfl, rfl, by decide +kernel, rfl, by decide +kernel, by decide +kernel⟩
theorem ok_is_text (c : Cn K mg) : FnD P w K mg base 1 "is_text" ["value"] m_is_text :=
 fnD_of (c.glo 17) (c.fn 10 (d := d_is_text)) sc_is_text (fun _ _ _ _ _ _ us hl => match us, hl with | [_], _ => rfl) (fun _ _ _ _ _ _ us hl => match us, hl with | [_], _ => rfl) (fun _ _ _ _ _ _ us hl => match us, hl with | [_], _ => rfl)
  (fun cdv hcv A outer s H E L0 i => jb_one (js_ret (bi_ call_isi prim_isi (c.free 10) (ja_cons (v_ 0) (ja_cons (ty_ (c.free 16)) (ja_nil))))))
/-! is_tuple_up_to -/
abbrev st_is_tuple_up_to : Stmt := top 19
abbrev N_is_tuple_up_to : List Str := ["value", "low", "high"]
abbrev sp_is_tuple_up_to : Scope := defScope st_is_tuple_up_to
def m_is_tuple_up_to : PN := defM 3 (sRet (eAnd (eN isiN (aCons (eVar 0) (aCons (eC (.ty "tuple")) (aNil)))) (eChain (cmpD fun i j => decide (i ≤ j)) (cmpD fun i j => decide (i ≤ j)) (eVar 1) (eN lenN (aCons (eVar 0) (aNil))) (eVar 2))))
theorem sc_is_tuple_up_to : FnScope N_is_tuple_up_to ["value", "low", "high"] (defScope st_is_tuple_up_to) := ⟨rfl, rfl, rfl, by decide +kernel, rfl, by decide +kernel, by decide +kernel⟩
theorem ok_is_tuple_up_to (c : Cn K mg) : FnD P w K mg base 1 "is_tuple_up_to" ["value", "low", "high"] m_is_tuple_up_to :=
 fnD_of (c.glo 19) (c.fn 11 (d := d_is_tuple_up_to)) sc_is_tuple_up_to (fun _ _ _ _ _ _ us hl => match us, hl with | [_, _, _], _ => rfl) (fun _ _ _ _ _ _ us hl => match us, hl with | [_, _, _], _ => rfl) (fun _ _ _ _ _ _ us hl => match us, hl with | [_, _, _], _ => rfl)
  (fun cdv hcv A outer s H E L0 i => jb_one (js_ret (je_and (bi_ call_isi prim_isi (c.free 10) (ja_cons (v_ 0) (ja_cons (ty_ (c.free 18)) (ja_nil)))) (je_one (je_chain op_le op_le prim_cmp prim_cmp (v_ 1) (bi_ call_len prim_len (c.free 1) (ja_cons (v_ 0) (ja_nil))) (v_ 2))))))
/-! is_tuple_of -/
abbrev st_is_tuple_of : Stmt := top 20
abbrev N_is_tuple_of : List Str := ["value", "many"]
abbrev sp_is_tuple_of : Scope := defScope st_is_tuple_of
def m_is_tuple_of : PN := defM 2 (sRet (eN (callN 3 m_is_tuple_up_to) (aCons (eVar 0) (aCons (eVar 1) (aCons (eVar 1) (aNil))))))
theorem sc_is_tuple_of : FnScope N_is_tuple_of ["value", "many"] (defScope st_is_tuple_of) := ⟨rfl, rfl, rfl, by decide +kernel, rfl, by decide +kernel, by decide +kernel⟩
theorem ok_is_tuple_of (c : Cn K mg) : FnD P w K mg base 2 "is_tuple_of" ["value", "many"] m_is_tuple_of :=
 fnD_of (c.glo 20) (c.fn 12 (d := d_is_tuple_of)) sc_is_tuple_of (fun _ _ _ _ _ _ us hl => match us, hl with | [_, _], _ => rfl) (fun _ _ _ _ _ _ us hl => match us, hl with | [_, _], _ => rfl) (fun _ _ _ _ _ _ us hl => match us, hl with | [_, _], _ => rfl)
  (fun cdv hcv A outer s H E L0 i => jb_one (js_ret (call_ (ok_is_tuple_up_to c) i (ja_cons (v_ 0) (ja_cons (v_ 1) (ja_cons (v_ 1) (ja_nil)))))))
/-! is_pair -/
abbrev st_is_pair : Stmt := top 21
abbrev N_is_pair : List Str := ["value"]
abbrev sp_is_pair : Scope := defScope st_is_pair
def m_is_pair : PN := defM 1 (sRet (eN (callN 2 m_is_tuple_of) (aCons (eVar 0) (aCons (eC (.int 2)) (aNil)))))
theorem sc_is_pair : FnScope N_is_pair ["value"] (defScope st_is_pair) := ⟨rfl, rfl, rfl, by decide +kernel, rfl, by decide +kernel, by decide +kernel⟩
theorem ok_is_pair (c : Cn K mg) : FnD P w K mg base 3 "is_pair" ["value"] m_is_pair :=
 fnD_of (c.glo 21) (c.fn 13 (d := d_is_pair)) sc_is_pair (fun _ _ _ _ _ _ us hl => match us, hl with | [_], _ => rfl) (fun _ _ _ _ _ _ us hl => match us, hl with | [_], _ => rfl) (fun _ _ _ _ _ _ us hl => match us, hl with | [_], _ => rfl)
  (fun cdv hcv A outer s H E L0 i => jb_one (js_ret (call_ (ok_is_tuple_of c) i (ja_cons (v_ 0) (ja_cons (je_int) (ja_nil))))))
/-! is_section -/
abbrev st_is_section : Stmt := top 27
abbrev N_is_section : List Str := ["value"]
abbrev sp_is_section : Scope := defScope st_is_section
def m_is_section : PN := defM 1 (sSeq (sIf (bOr (bNot (bT (eN (callN 1 m_is_pair) (aCons (eVar 0) (aNil))))) (bNot (bT (eN (callN 2 m_is_from) (aCons (eBin ixD (eVar 0) (eC (.int 0))) (aCons (eC (.int 0)) (aNil)))))))
 (sRet (eC (.bl false)))
 (sNil))
 (sRet (eOr (eBin isND (eBin ixD (eVar 0) (eC (.int 1))) (eC .non)) (eN (callN 2 m_is_from) (aCons (eBin ixD (eVar 0) (eC (.int 1))) (aCons (eBin ixD (eVar 0) (eC (.int 0))) (aNil)))))))
theorem sc_is_section : FnScope N_is_section ["value"] (defScope st_is_section) := ⟨rfl, rfl, rfl, by decide +kernel, rfl, by decide +kernel, by decide +kernel⟩
theorem ok_is_section (c : Cn K mg) : FnD P w K mg base 4 "is_section" ["value"] m_is_section :=
 fnD_of (c.glo 22) (c.fn 14 (d := d_is_section)) sc_is_section (fun _ _ _ _ _ _ us hl => match us, hl with | [_], _ => rfl) (fun _ _ _ _ _ _ us hl => match us, hl with | [_], _ => rfl) (fun _ _ _ _ _ _ us hl => match us, hl with | [_], _ => rfl)
  (fun cdv hcv A outer s H E L0 i => jb_cons (js_if (O' := []) (JW.jt (jw_or (jt_not (jt_val (call_ (ok_is_pair c) i (ja_cons (v_ 0) (ja_nil))))) (jw_or1 (jt_not (jt_val (call_ (ok_is_from c) i (ja_cons (je_ix (v_ 0) (je_int)) (ja_cons (je_int) (ja_nil)))))))))
 (jb_one (js_ret (je_bl)))
 (jb_nil))
 (jb_one (js_ret (je_or (je_cmp op_isN prim_isN (je_ix (v_ 0) (je_int)) (je_non) (nomark _)) (je_one (call_ (ok_is_from c) i (ja_cons (je_ix (v_ 0) (je_int)) (ja_cons (je_ix (v_ 0) (je_int)) (ja_nil)))))))))
/-! wrong_in_sections -/
abbrev st_wrong_in_sections : Stmt := top 28
abbrev N_wrong_in_sections : List Str := ["value", "least", "most", "index", "each"]
abbrev sp_wrong_in_sections : Scope := defScope st_wrong_in_sections
def m_wrong_in_sections : PN := defM 5 (sSeq (sIf (bNot (bT (eN (callN 3 m_is_tuple_up_to) (aCons (eVar 0) (aCons (eVar 1) (aCons (eVar 2) (aNil)))))))
 (sRet (eN lstN (aCons (eC .non) (aNil))))
 (sNil))
 (sRet (eSl (eLst (fComp (iEnum' (aCons (eVar 0) (aNil))) (gSeq 2 (gConsM (gSet 3) (gConsM (gSet 4) (gNilM)))) (bNot (bT (eN (callN 1 m_is_section) (aCons (eVar 4) (aNil))))) (eVar 3) [3, 4])) oNone (oSome (eC (.int 1))))))
theorem sc_wrong_in_sections : FnScope N_wrong_in_sections ["value", "least", "most"] (defScope st_wrong_in_sections) := ⟨rfl, rfl, rfl, by decide +kernel, rfl, by decide +kernel, by decide +kernel⟩
theorem ok_wrong_in_sections (c : Cn K mg) : FnD P w K mg base 5 "wrong_in_sections" ["value", "least", "most"] m_wrong_in_sections :=
 fnD_of (c.glo 23) (c.fn 15 (d := d_wrong_in_sections)) sc_wrong_in_sections (fun _ _ _ _ _ _ us hl => match us, hl with | [_, _, _], _ => rfl) (fun _ _ _ _ _ _ us hl => match us, hl with | [_, _, _], _ => rfl) (fun _ _ _ _ _ _ us hl => match us, hl with | [_, _, _], _ => rfl)
  (fun cdv hcv A outer s H E L0 i => jb_cons (js_if (O' := []) (jt_not (jt_val (call_ (ok_is_tuple_up_to c) i (ja_cons (v_ 0) (ja_cons (v_ 1) (ja_cons (v_ 2) (ja_nil)))))))
 (jb_one (js_ret (je_lst (ja_cons (je_non) (ja_nil)))))
 (jb_nil))
 (jb_one (js_ret (je_slice (JF.je (comp_ [("index", 3), ("each", 4)] sc_wrong_in_sections.nd i (ji_enum rfl (c.free 7) (ja_cons (v_ 0) (ja_nil))) (fun _ _ _ _ _ _ => jg_seq rfl (jgs_cons (g_ 3 sc_wrong_in_sections.nd) (jgs_cons (g_ 4 sc_wrong_in_sections.nd) (jgs_nil)))) (fun _ _ _ _ _ _ i => jpts_one (jt_not (jt_val (call_ (ok_is_section c) i (ja_cons (v_ 4) (ja_nil)))))) (fun _ _ _ _ _ _ i => v_ 3) (blk_of (N := N_wrong_in_sections) (sc := sp_wrong_in_sections) (by decide +kernel)))) jo_none (jo_some (je_int))))))
/-! wrong_in_line -/
abbrev st_wrong_in_line : Stmt := top 29
abbrev N_wrong_in_line : List Str := ["value"]
abbrev sp_wrong_in_line : Scope := defScope st_wrong_in_line
def m_wrong_in_line : PN := defM 1 (sRet (eN (callN 3 m_wrong_in_sections) (aCons (eVar 0) (aCons (eC (.int 1)) (aCons (eC (.int 12)) (aNil))))))
theorem sc_wrong_in_line : FnScope N_wrong_in_line ["value"] (defScope st_wrong_in_line) := ⟨rfl, rfl, rfl, by decide +kernel, rfl, by decide +kernel, by decide +kernel⟩
theorem ok_wrong_in_line (c : Cn K mg) : FnD P w K mg base 6 "wrong_in_line" ["value"] m_wrong_in_line :=
 fnD_of (c.glo 25) (c.fn 16 (d := d_wrong_in_line)) sc_wrong_in_line (fun _ _ _ _ _ _ us hl => match us, hl with | [_], _ => rfl) (fun _ _ _ _ _ _ us hl => match us, hl with | [_], _ => rfl) (fun _ _ _ _ _ _ us hl => match us, hl with | [_], _ => rfl)
  (fun cdv hcv A outer s H E L0 i => jb_one (js_ret (call_ (ok_wrong_in_sections c) i (ja_cons (v_ 0) (ja_cons (je_int) (ja_cons (int_ (c.int 24)) (ja_nil)))))))
/-! is_joint_of -/
abbrev st_is_joint_of : Stmt := top 30
abbrev N_is_joint_of : List Str := ["line", "value"]
abbrev sp_is_joint_of : Scope := defScope st_is_joint_of
def m_is_joint_of : PN := defM 2 (sRet (eN (callN 2 m_is_up_to) (aCons (eVar 1) (aCons (eN lenN (aCons (eVar 0) (aNil))) (aNil)))))
theorem sc_is_joint_of : FnScope N_is_joint_of ["line", "value"] (defScope st_is_joint_of) := ⟨rfl, rfl, rfl, by decide +kernel, rfl, by decide +kernel, by decide +kernel⟩
theorem ok_is_joint_of (c : Cn K mg) : FnD P w K mg base 4 "is_joint_of" ["line", "value"] m_is_joint_of :=
 fnD_of (c.glo 26) (c.fn 17 (d := d_is_joint_of)) sc_is_joint_of (fun _ _ _ _ _ _ us hl => match us, hl with | [_, _], _ => rfl) (fun _ _ _ _ _ _ us hl => match us, hl with | [_, _], _ => rfl) (fun _ _ _ _ _ _ us hl => match us, hl with | [_, _], _ => rfl)
  (fun cdv hcv A outer s H E L0 i => jb_one (js_ret (call_ (ok_is_up_to c) i (ja_cons (v_ 1) (ja_cons (bi_ call_len prim_len (c.free 1) (ja_cons (v_ 0) (ja_nil))) (ja_nil))))))
/-! wrong_in_numbers -/
abbrev st_wrong_in_numbers : Stmt := top 31
abbrev N_wrong_in_numbers : List Str := ["value", "many", "index", "each"]
abbrev sp_wrong_in_numbers : Scope := defScope st_wrong_in_numbers
def m_wrong_in_numbers : PN := defM 4 (sSeq (sIf (bNot (bT (eN (callN 2 m_is_tuple_of) (aCons (eVar 0) (aCons (eVar 1) (aNil))))))
 (sRet (eN lstN (aCons (eC .non) (aNil))))
 (sNil))
 (sRet (eSl (eLst (fComp (iEnum' (aCons (eVar 0) (aNil))) (gSeq 2 (gConsM (gSet 2) (gConsM (gSet 3) (gNilM)))) (bNot (bT (eN (callN 1 m_is_whole) (aCons (eVar 3) (aNil))))) (eVar 2) [2, 3])) oNone (oSome (eC (.int 1))))))
theorem sc_wrong_in_numbers : FnScope N_wrong_in_numbers ["value", "many"] (defScope st_wrong_in_numbers) := ⟨rfl, rfl, rfl, by decide +kernel, rfl, by decide +kernel, by decide +kernel⟩
theorem ok_wrong_in_numbers (c : Cn K mg) : FnD P w K mg base 3 "wrong_in_numbers" ["value", "many"] m_wrong_in_numbers :=
 fnD_of (c.glo 27) (c.fn 18 (d := d_wrong_in_numbers)) sc_wrong_in_numbers (fun _ _ _ _ _ _ us hl => match us, hl with | [_, _], _ => rfl) (fun _ _ _ _ _ _ us hl => match us, hl with | [_, _], _ => rfl) (fun _ _ _ _ _ _ us hl => match us, hl with | [_, _], _ => rfl)
  (fun cdv hcv A outer s H E L0 i => jb_cons (js_if (O' := []) (jt_not (jt_val (call_ (ok_is_tuple_of c) i (ja_cons (v_ 0) (ja_cons (v_ 1) (ja_nil))))))
 (jb_one (js_ret (je_lst (ja_cons (je_non) (ja_nil)))))
 (jb_nil))
 (jb_one (js_ret (je_slice (JF.je (comp_ [("index", 2), ("each", 3)] sc_wrong_in_numbers.nd i (ji_enum rfl (c.free 7) (ja_cons (v_ 0) (ja_nil))) (fun _ _ _ _ _ _ => jg_seq rfl (jgs_cons (g_ 2 sc_wrong_in_numbers.nd) (jgs_cons (g_ 3 sc_wrong_in_numbers.nd) (jgs_nil)))) (fun _ _ _ _ _ _ i => jpts_one (jt_not (jt_val (call_ (ok_is_whole c) i (ja_cons (v_ 3) (ja_nil)))))) (fun _ _ _ _ _ _ i => v_ 2) (blk_of (N := N_wrong_in_numbers) (sc := sp_wrong_in_numbers) (by decide +kernel)))) jo_none (jo_some (je_int))))))
/-! wrong_in_counts -/
abbrev st_wrong_in_counts : Stmt := top 32
abbrev N_wrong_in_counts : List Str := ["line", "value"]
abbrev sp_wrong_in_counts : Scope := defScope st_wrong_in_counts
def m_wrong_in_counts : PN := defM 2 (sRet (eN (callN 2 m_wrong_in_numbers) (aCons (eVar 1) (aCons (eBin addD (eN lenN (aCons (eVar 0) (aNil))) (eC (.int 1))) (aNil)))))
theorem sc_wrong_in_counts : FnScope N_wrong_in_counts ["line", "value"] (defScope st_wrong_in_counts) := ⟨rfl, rfl, rfl, by decide +kernel, rfl, by decide +kernel, by decide +kernel⟩
theorem ok_wrong_in_counts (c : Cn K mg) : FnD P w K mg base 4 "wrong_in_counts" ["line", "value"] m_wrong_in_counts :=
 fnD_of (c.glo 28) (c.fn 19 (d := d_wrong_in_counts)) sc_wrong_in_counts (fun _ _ _ _ _ _ us hl => match us, hl with | [_, _], _ => rfl) (fun _ _ _ _ _ _ us hl => match us, hl with | [_, _], _ => rfl) (fun _ _ _ _ _ _ us hl => match us, hl with | [_, _], _ => rfl)
  (fun cdv hcv A outer s H E L0 i => jb_one (js_ret (call_ (ok_wrong_in_numbers c) i (ja_cons (v_ 1) (ja_cons (je_bin op_addD prim_add (bi_ call_len prim_len (c.free 1) (ja_cons (v_ 0) (ja_nil))) (je_int)) (ja_nil))))))
/-! is_entry_of -/
abbrev st_is_entry_of : Stmt := top 33
abbrev N_is_entry_of : List Str := ["line", "value"]
abbrev sp_is_entry_of : Scope := defScope st_is_entry_of
def m_is_entry_of : PN := defM 2 (sSeq (sIf (bOr (bNot (bT (eN (callN 1 m_is_pair) (aCons (eVar 1) (aNil))))) (bOr (bNot (bT (eN (callN 2 m_is_joint_of) (aCons (eVar 0) (aCons (eBin ixD (eVar 1) (eC (.int 0))) (aNil)))))) (bNot (bT (eN (callN 1 m_is_whole) (aCons (eBin ixD (eVar 1) (eC (.int 1))) (aNil)))))))
 (sRet (eC (.bl false)))
 (sNil))
 (sRet (eBin (inD false) (eBin ixD (eVar 1) (eC (.int 1))) (eN tupN (aCons (eC (.int 1)) (aCons (eC (.int (-1))) (aNil)))))))
theorem sc_is_entry_of : FnScope N_is_entry_of ["line", "value"] (defScope st_is_entry_of) := ⟨rfl, rfl, rfl, by decide +kernel, rfl, by decide +kernel, by decide +kernel⟩
theorem ok_is_entry_of (c : Cn K mg) : FnD P w K mg base 5 "is_entry_of" ["line", "value"] m_is_entry_of :=
 fnD_of (c.glo 31) (c.fn 20 (d := d_is_entry_of)) sc_is_entry_of (fun _ _ _ _ _ _ us hl => match us, hl with | [_, _], _ => rfl) (fun _ _ _ _ _ _ us hl => match us, hl with | [_, _], _ => rfl) (fun _ _ _ _ _ _ us hl => match us, hl with | [_, _], _ => rfl)
  (fun cdv hcv A outer s H E L0 i => jb_cons (js_if (O' := []) (JW.jt (jw_or (jt_not (jt_val (call_ (ok_is_pair c) i (ja_cons (v_ 1) (ja_nil))))) (jw_or (jt_not (jt_val (call_ (ok_is_joint_of c) i (ja_cons (v_ 0) (ja_cons (je_ix (v_ 1) (je_int)) (ja_nil)))))) (jw_or1 (jt_not (jt_val (call_ (ok_is_whole c) i (ja_cons (je_ix (v_ 1) (je_int)) (ja_nil)))))))))
 (jb_one (js_ret (je_bl)))
 (jb_nil))
 (jb_one (js_ret (je_cmp op_inX prim_in (je_ix (v_ 1) (je_int)) (je_tup (ja_cons (int_ (c.int 29)) (ja_cons (int_ (c.int 30)) (ja_nil)))) (by with_unfolding_all rfl)))))
/-! wrong_in_log -/
abbrev st_wrong_in_log : Stmt := top 34
abbrev N_wrong_in_log : List Str := ["line", "value", "index", "each"]
abbrev sp_wrong_in_log : Scope := defScope st_wrong_in_log
def m_wrong_in_log : PN := defM 4 (sSeq (sIf (bNot (bT (eN (callN 3 m_is_tuple_up_to) (aCons (eVar 1) (aCons (eC (.int 0)) (aCons (eC (.int 100)) (aNil)))))))
 (sRet (eN lstN (aCons (eC .non) (aNil))))
 (sNil))
 (sRet (eSl (eLst (fComp (iEnum' (aCons (eVar 1) (aNil))) (gSeq 2 (gConsM (gSet 2) (gConsM (gSet 3) (gNilM)))) (bNot (bT (eN (callN 2 m_is_entry_of) (aCons (eVar 0) (aCons (eVar 3) (aNil)))))) (eVar 2) [2, 3])) oNone (oSome (eC (.int 1))))))
theorem sc_wrong_in_log : FnScope N_wrong_in_log ["line", "value"] (defScope st_wrong_in_log) := ⟨rfl, rfl, rfl, by decide +kernel, rfl, by decide +kernel, by decide +kernel⟩
theorem ok_wrong_in_log (c : Cn K mg) : FnD P w K mg base 6 "wrong_in_log" ["line", "value"] m_wrong_in_log :=
 fnD_of (c.glo 33) (c.fn 21 (d := d_wrong_in_log)) sc_wrong_in_log (fun _ _ _ _ _ _ us hl => match us, hl with | [_, _], _ => rfl) (fun _ _ _ _ _ _ us hl => match us, hl with | [_, _], _ => rfl) (fun _ _ _ _ _ _ us hl => match us, hl with | [_, _], _ => rfl)
  (fun cdv hcv A outer s H E L0 i => jb_cons (js_if (O' := []) (jt_not (jt_val (call_ (ok_is_tuple_up_to c) i (ja_cons (v_ 1) (ja_cons (je_int) (ja_cons (int_ (c.int 32)) (ja_nil)))))))
 (jb_one (js_ret (je_lst (ja_cons (je_non) (ja_nil)))))
 (jb_nil))
 (jb_one (js_ret (je_slice (JF.je (comp_ [("index", 2), ("each", 3)] sc_wrong_in_log.nd i (ji_enum rfl (c.free 7) (ja_cons (v_ 1) (ja_nil))) (fun _ _ _ _ _ _ => jg_seq rfl (jgs_cons (g_ 2 sc_wrong_in_log.nd) (jgs_cons (g_ 3 sc_wrong_in_log.nd) (jgs_nil)))) (fun _ _ _ _ _ _ i => jpts_one (jt_not (jt_val (call_ (ok_is_entry_of c) i (ja_cons (v_ 0) (ja_cons (v_ 3) (ja_nil))))))) (fun _ _ _ _ _ _ i => v_ 2) (blk_of (N := N_wrong_in_log) (sc := sp_wrong_in_log) (by decide +kernel)))) jo_none (jo_some (je_int))))))
/-! check_line -/
abbrev st_check_line : Stmt := top 35
abbrev N_check_line : List Str := ["line", "index"]
abbrev sp_check_line : Scope := defScope st_check_line
def m_check_line : PN := defM 2 (sFor (iIt (eN (callN 1 m_wrong_in_line) (aCons (eVar 0) (aNil)))) (gSet 1)
 (sRaise "InvalidLine" "index" (eVar 1)))
theorem sc_check_line : FnScope N_check_line ["line"] (defScope st_check_line) := ⟨rfl, rfl, rfl, by decide +kernel, rfl, by decide +kernel, by decide +kernel⟩
theorem ok_check_line (c : Cn K mg) : FnD P w K mg base 7 "check_line" ["line"] m_check_line :=
 fnD_of (c.glo 34) (c.fn 22 (d := d_check_line)) sc_check_line (fun _ _ _ _ _ _ us hl => match us, hl with | [_], _ => rfl) (fun _ _ _ _ _ _ us hl => match us, hl with | [_], _ => rfl) (fun _ _ _ _ _ _ us hl => match us, hl with | [_], _ => rfl)
  (fun cdv hcv A outer s H E L0 i => jb_one (for_ (st := false) i (ji_it (call_ (ok_wrong_in_line c) i (ja_cons (v_ 0) (ja_nil)))) (g_ 1 sc_check_line.nd)
 (jb_one (js_raise (c.err_InvalidLine) i.calm i.tk (i.hr.mono (by decide)) (v_ 1) rfl))))
/-! check_counts -/
abbrev st_check_counts : Stmt := top 36
abbrev N_check_counts : List Str := ["line", "counts", "index"]
abbrev sp_check_counts : Scope := defScope st_check_counts
def m_check_counts : PN := defM 3 (sFor (iIt (eN (callN 2 m_wrong_in_counts) (aCons (eVar 0) (aCons (eVar 1) (aNil))))) (gSet 2)
 (sRaise "InvalidCounts" "index" (eVar 2)))
theorem sc_check_counts : FnScope N_check_counts ["line", "counts"] (defScope st_check_counts) := ⟨rfl, rfl, rfl, by decide +kernel, rfl, by decide +kernel, by decide +kernel⟩
theorem ok_check_counts (c : Cn K mg) : FnD P w K mg base 5 "check_counts" ["line", "counts"] m_check_counts :=
 fnD_of (c.glo 35) (c.fn 23 (d := d_check_counts)) sc_check_counts (fun _ _ _ _ _ _ us hl => match us, hl with | [_, _], _ => rfl) (fun _ _ _ _ _ _ us hl => match us, hl with | [_, _], _ => rfl) (fun _ _ _ _ _ _ us hl => match us, hl with | [_, _], _ => rfl)
  (fun cdv hcv A outer s H E L0 i => jb_one (for_ (st := false) i (ji_it (call_ (ok_wrong_in_counts c) i (ja_cons (v_ 0) (ja_cons (v_ 1) (ja_nil))))) (g_ 2 sc_check_counts.nd)
 (jb_one (js_raise (c.err_InvalidCounts) i.calm i.tk (i.hr.mono (by decide)) (v_ 2) rfl))))
/-! check_log -/
abbrev st_check_log : Stmt := top 37
abbrev N_check_log : List Str := ["line", "log", "index"]
abbrev sp_check_log : Scope := defScope st_check_log
def m_check_log : PN := defM 3 (sFor (iIt (eN (callN 2 m_wrong_in_log) (aCons (eVar 0) (aCons (eVar 1) (aNil))))) (gSet 2)
 (sRaise "InvalidLog" "index" (eVar 2)))
theorem sc_check_log : FnScope N_check_log ["line", "log"] (defScope st_check_log) := ⟨rfl, rfl, rfl, by decide +kernel, rfl, by decide +kernel, by decide +kernel⟩
theorem ok_check_log (c : Cn K mg) : FnD P w K mg base 7 "check_log" ["line", "log"] m_check_log :=
 fnD_of (c.glo 36) (c.fn 24 (d := d_check_log)) sc_check_log (fun _ _ _ _ _ _ us hl => match us, hl with | [_, _], _ => rfl) (fun _ _ _ _ _ _ us hl => match us, hl with | [_, _], _ => rfl) (fun _ _ _ _ _ _ us hl => match us, hl with | [_, _], _ => rfl)
  (fun cdv hcv A outer s H E L0 i => jb_one (for_ (st := false) i (ji_it (call_ (ok_wrong_in_log c) i (ja_cons (v_ 0) (ja_cons (v_ 1) (ja_nil))))) (g_ 2 sc_check_log.nd)
 (jb_one (js_raise (c.err_InvalidLog) i.calm i.tk (i.hr.mono (by decide)) (v_ 2) rfl))))
/-! whole_in -/
abbrev st_whole_in : Stmt := top 45
abbrev N_whole_in : List Str := ["word", "sign"]
abbrev sp_whole_in : Scope := defScope st_whole_in
def m_whole_in : PN := defM 2 (sSeq (sIf (bOr (bT (eBin eqD (eVar 0) (eC (.str "")))) (bNot (bT (eN allN (aCons (eLst (fComp (iIt (eVar 0)) (gSet 1) (bTrue) (eBin (inD false) (eVar 1) (eC (.str "0123456789"))) [1])) (aNil))))))
 (sRet (eC .non))
 (sNil))
 (sRet (eIf (bOr (bT (eBin eqD (eVar 0) (eC (.str "0")))) (bT (eBin neD (eBin ixD (eVar 0) (eC (.int 0))) (eC (.str "0"))))) (eN intN (aCons (eVar 0) (aNil))) (eC .non))))
theorem sc_whole_in : FnScope N_whole_in ["word"] (defScope st_whole_in) := ⟨rfl, rfl, rfl, by decide +kernel, rfl, by decide +kernel, by decide +kernel⟩
theorem ok_whole_in (c : Cn K mg) : FnD P w K mg base 1 "whole_in" ["word"] m_whole_in :=
 fnD_of (c.glo 39) (c.fn 25 (d := d_whole_in)) sc_whole_in (fun _ _ _ _ _ _ us hl => match us, hl with | [_], _ => rfl) (fun _ _ _ _ _ _ us hl => match us, hl with | [_], _ => rfl) (fun _ _ _ _ _ _ us hl => match us, hl with | [_], _ => rfl)
  (fun cdv hcv A outer s H E L0 i => jb_cons (js_if (O' := []) (JW.jt (jw_or (jt_cmp (op_eqX i.units) prim_eq (v_ 0) (je_str) (nomark _)) (jw_or1 (jt_not (jt_val (bi_ (cr_all i.calm) prim_all (c.free 38) (ja_cons (JF.je (comp_ [("sign", 1)] sc_whole_in.nd i (ji_it (v_ 0)) (fun _ _ _ _ _ _ => g_ 1 sc_whole_in.nd) (fun _ _ _ _ _ _ i => jpts_nil) (fun _ _ _ _ _ _ i => je_cmp op_inX prim_in (v_ 1) (str_ (c.str 37)) (by with_unfolding_all rfl)) (blk_of (N := N_whole_in) (sc := sp_whole_in) (by decide +kernel)))) (ja_nil))))))))
 (jb_one (js_ret (je_non)))
 (jb_nil))
 (jb_one (js_ret (je_ifx (JW.jt (jw_or (jt_cmp (op_eqX i.units) prim_eq (v_ 0) (je_str) (nomark _)) (jw_or1 (jt_cmp (op_neX i.units) prim_ne (je_ix (v_ 0) (je_int)) (je_str) (nomark _))))) (bt_ call_intN prim_intN (c.free 0) (ja_cons (v_ 0) (ja_nil))) (je_non)))))
/-! signed_in -/
abbrev st_signed_in : Stmt := top 46
abbrev N_signed_in : List Str := ["word", "number"]
abbrev sp_signed_in : Scope := defScope st_signed_in
def m_signed_in : PN := defM 2 (sSeq (sIf (bOr (bT (eBin eqD (eVar 0) (eC (.str "")))) (bT (eBin neD (eBin ixD (eVar 0) (eC (.int 0))) (eC (.str "-")))))
 (sRet (eN (callN 1 m_whole_in) (aCons (eVar 0) (aNil))))
 (sNil))
 (sSeq (sSet 1 (eN (callN 1 m_whole_in) (aCons (eSl (eVar 0) (oSome (eC (.int 1))) oNone) (aNil))))
 (sRet (eIf (bAnd (bT (eBin notND (eVar 1) (eC .non))) (bT (eBin neD (eVar 1) (eC (.int 0))))) (negM (eVar 1)) (eC .non)))))
theorem sc_signed_in : FnScope N_signed_in ["word"] (defScope st_signed_in) := ⟨rfl, rfl, rfl, by decide +kernel, rfl, by decide +kernel, by decide +kernel⟩
theorem ok_signed_in (c : Cn K mg) : FnD P w K mg base 2 "signed_in" ["word"] m_signed_in :=
 fnD_of (c.glo 41) (c.fn 26 (d := d_signed_in)) sc_signed_in (fun _ _ _ _ _ _ us hl => match us, hl with | [_], _ => rfl) (fun _ _ _ _ _ _ us hl => match us, hl with | [_], _ => rfl) (fun _ _ _ _ _ _ us hl => match us, hl with | [_], _ => rfl)
  (fun cdv hcv A outer s H E L0 i => jb_cons (js_if (O' := []) (JW.jt (jw_or (jt_cmp (op_eqX i.units) prim_eq (v_ 0) (je_str) (nomark _)) (jw_or1 (jt_cmp (op_neX i.units) prim_ne (je_ix (v_ 0) (je_int)) (str_ (c.str 40)) (nomark _)))))
 (jb_one (js_ret (call_ (ok_whole_in c) i (ja_cons (v_ 0) (ja_nil)))))
 (jb_nil))
 (jb_cons (set_ 1 sc_signed_in.nd (call_ (ok_whole_in c) i (ja_cons (je_slice (v_ 0) (jo_some (je_int)) jo_none) (ja_nil))))
 (jb_one (js_ret (je_ifx (JW.jt (jw_and (jt_cmp op_notN prim_notN (v_ 1) (je_non) (nomark _)) (jw_and1 (jt_cmp (op_neX i.units) prim_ne (v_ 1) (je_int) (nomark _))))) (je_neg (v_ 1)) (je_non))))))
/-! section_word -/
abbrev st_section_word : Stmt := top 47
abbrev N_section_word : List Str := ["section", "begin", "room"]
abbrev sp_section_word : Scope := defScope st_section_word
def m_section_word : PN := defM 3 (sSeq (sAsg (eVar 0) (gSeq 2 (gConsM (gSet 1) (gConsM (gSet 2) (gNilM)))))
 (sRet (jsGo [eFmt (eVar 1), eFmt (eC (.str "/")), eFmt (eIf (bT (eBin isND (eVar 2) (eC .non))) (eC (.str "-")) (eVar 2))] Str.empty)))
theorem sc_section_word : FnScope N_section_word ["section"] (defScope st_section_word) := ⟨rfl, rfl, rfl, by decide +kernel, rfl, by decide +kernel, by decide +kernel⟩
theorem ok_section_word (c : Cn K mg) : FnD P w K mg base 1 "section_word" ["section"] m_section_word :=
 fnD_of (c.glo 44) (c.fn 27 (d := d_section_word)) sc_section_word (fun _ _ _ _ _ _ us hl => match us, hl with | [_], _ => rfl) (fun _ _ _ _ _ _ us hl => match us, hl with | [_], _ => rfl) (fun _ _ _ _ _ _ us hl => match us, hl with | [_], _ => rfl)
  (fun cdv hcv A outer s H E L0 i => jb_cons (js_asg (st := false) (v_ 0) (jg_seq rfl (jgs_cons (g_ 1 sc_section_word.nd) (jgs_cons (g_ 2 sc_section_word.nd) (jgs_nil)))))
 (jb_one (js_ret (je_fstr (JJ.cons (je_fmt (v_ 1)) (JJ.cons (je_fmt (str_ (c.str 42))) (JJ.cons (je_fmt (je_ifx (jt_cmp op_isN prim_isN (v_ 2) (je_non) (nomark _)) (str_ (c.str 43)) (v_ 2))) (JJ.nil))))))))
/-! section_in -/
abbrev st_section_in : Stmt := top 48
abbrev N_section_in : List Str := ["word", "parts", "begin", "room"]
abbrev sp_section_in : Scope := defScope st_section_in
def m_section_in : PN := defM 4 (sSeq (sSet 1 (eLst (fSplit (eVar 0) (eC (.str "/")))))
 (sSeq (sIf (bT (eBin neD (eN lenN (aCons (eVar 1) (aNil))) (eC (.int 2))))
 (sRet (eC .non))
 (sNil))
 (sSeq (sPar 2 3 (aCons (eN (callN 1 m_whole_in) (aCons (eBin ixD (eVar 1) (eC (.int 0))) (aNil))) (aCons (eN (callN 1 m_whole_in) (aCons (eBin ixD (eVar 1) (eC (.int 1))) (aNil))) (aNil))))
 (sSeq (sIf (bOr (bT (eBin isND (eVar 2) (eC .non))) (bAnd (bT (eBin isND (eVar 3) (eC .non))) (bT (eBin neD (eBin ixD (eVar 1) (eC (.int 1))) (eC (.str "-"))))))
 (sRet (eC .non))
 (sNil))
 (sRet (eIf (bOr (bT (eBin isND (eVar 3) (eC .non))) (bT (eBin (cmpD fun i j => decide (j ≤ i)) (eVar 3) (eVar 2)))) (eN tupN (aCons (eVar 2) (aCons (eVar 3) (aNil)))) (eC .non)))))))
theorem sc_section_in : FnScope N_section_in ["word"] (defScope st_section_in) := ⟨rfl, rfl, rfl, by decide +kernel, rfl, by decide +kernel, by decide +kernel⟩
theorem ok_section_in (c : Cn K mg) : FnD P w K mg base 2 "section_in" ["word"] m_section_in :=
 fnD_of (c.glo 45) (c.fn 28 (d := d_section_in)) sc_section_in (fun _ _ _ _ _ _ us hl => match us, hl with | [_], _ => rfl) (fun _ _ _ _ _ _ us hl => match us, hl with | [_], _ => rfl) (fun _ _ _ _ _ _ us hl => match us, hl with | [_], _ => rfl)
  (fun cdv hcv A outer s H E L0 i => jb_cons (set_ 1 sc_section_in.nd (JF.je (jf_split (v_ 0) (str_ (c.str 42)))))
 (jb_cons (js_if (O' := []) (jt_cmp (op_neX i.units) prim_ne (bi_ call_len prim_len (c.free 1) (ja_cons (v_ 1) (ja_nil))) (je_int) (nomark _))
 (jb_one (js_ret (je_non)))
 (jb_nil))
 (jb_cons (par_ 2 3 sc_section_in.nd i (ja_cons (call_ (ok_whole_in c) i (ja_cons (je_ix (v_ 1) (je_int)) (ja_nil))) (ja_cons (call_ (ok_whole_in c) i (ja_cons (je_ix (v_ 1) (je_int)) (ja_nil))) (ja_nil))))
 (jb_cons (js_if (O' := []) (JW.jt (jw_or (jt_cmp op_isN prim_isN (v_ 2) (je_non) (nomark _)) (jw_or1 (JW.jt (jw_and (jt_cmp op_isN prim_isN (v_ 3) (je_non) (nomark _)) (jw_and1 (jt_cmp (op_neX i.units) prim_ne (je_ix (v_ 1) (je_int)) (str_ (c.str 43)) (nomark _))))))))
 (jb_one (js_ret (je_non)))
 (jb_nil))
 (jb_one (js_ret (je_ifx (JW.jt (jw_or (jt_cmp op_isN prim_isN (v_ 3) (je_non) (nomark _)) (jw_or1 (jt_cmp op_ge prim_cmp (v_ 3) (v_ 2) (nomark _))))) (je_tup (ja_cons (v_ 2) (ja_cons (v_ 3) (ja_nil)))) (je_non))))))))
/-! step_word -/
abbrev st_step_word : Stmt := top 49
abbrev N_step_word : List Str := ["step"]
abbrev sp_step_word : Scope := defScope st_step_word
def m_step_word : PN := defM 1 (sRet (eIf (bT (eBin eqD (eVar 0) (eC (.int 1)))) (eC (.str "+")) (eC (.str "-"))))
theorem sc_step_word : FnScope N_step_word ["step"] (defScope st_step_word) := ⟨rfl, rfl, rfl, by decide +kernel, rfl, by decide +kernel, by decide +kernel⟩
theorem ok_step_word (c : Cn K mg) : FnD P w K mg base 1 "step_word" ["step"] m_step_word :=
 fnD_of (c.glo 48) (c.fn 29 (d := d_step_word)) sc_step_word (fun _ _ _ _ _ _ us hl => match us, hl with | [_], _ => rfl) (fun _ _ _ _ _ _ us hl => match us, hl with | [_], _ => rfl) (fun _ _ _ _ _ _ us hl => match us, hl with | [_], _ => rfl)
  (fun cdv hcv A outer s H E L0 i => jb_one (js_ret (je_ifx (jt_cmp (op_eqX i.units) prim_eq (v_ 0) (je_int) (nomark _)) (str_ (c.str 46)) (str_ (c.str 47)))))
/-! step_in -/
abbrev st_step_in : Stmt := top 50
abbrev N_step_in : List Str := ["word"]
abbrev sp_step_in : Scope := defScope st_step_in
def m_step_in : PN := defM 1 (sRet (eIf (bT (eBin eqD (eVar 0) (eC (.str "+")))) (eC (.int 1)) (eIf (bT (eBin eqD (eVar 0) (eC (.str "-")))) (negM (eC (.int 1))) (eC .non))))
theorem sc_step_in : FnScope N_step_in ["word"] (defScope st_step_in) := ⟨rfl, rfl, rfl, by decide +kernel, rfl, by decide +kernel, by decide +kernel⟩
theorem ok_step_in (c : Cn K mg) : FnD P w K mg base 1 "step_in" ["word"] m_step_in :=
 fnD_of (c.glo 49) (c.fn 30 (d := d_step_in)) sc_step_in (fun _ _ _ _ _ _ us hl => match us, hl with | [_], _ => rfl) (fun _ _ _ _ _ _ us hl => match us, hl with | [_], _ => rfl) (fun _ _ _ _ _ _ us hl => match us, hl with | [_], _ => rfl)
  (fun cdv hcv A outer s H E L0 i => jb_one (js_ret (je_ifx (jt_cmp (op_eqX i.units) prim_eq (v_ 0) (str_ (c.str 46)) (nomark _)) (je_int) (je_ifx (jt_cmp (op_eqX i.units) prim_eq (v_ 0) (str_ (c.str 47)) (nomark _)) (je_neg (je_int)) (je_non)))))
/-! entry_word -/
abbrev st_entry_word : Stmt := top 51
abbrev N_entry_word : List Str := ["entry"]
abbrev sp_entry_word : Scope := defScope st_entry_word
def m_entry_word : PN := defM 1 (sRet (jsGo [eFmt (eBin ixD (eVar 0) (eC (.int 0))), eFmt (eN (callN 1 m_step_word) (aCons (eBin ixD (eVar 0) (eC (.int 1))) (aNil)))] Str.empty))
theorem sc_entry_word : FnScope N_entry_word ["entry"] (defScope st_entry_word) := ⟨rfl, rfl, rfl, by decide +kernel, rfl, by decide +kernel, by decide +kernel⟩
theorem ok_entry_word (c : Cn K mg) : FnD P w K mg base 2 "entry_word" ["entry"] m_entry_word :=
 fnD_of (c.glo 50) (c.fn 31 (d := d_entry_word)) sc_entry_word (fun _ _ _ _ _ _ us hl => match us, hl with | [_], _ => rfl) (fun _ _ _ _ _ _ us hl => match us, hl with | [_], _ => rfl) (fun _ _ _ _ _ _ us hl => match us, hl with | [_], _ => rfl)
  (fun cdv hcv A outer s H E L0 i => jb_one (js_ret (je_fstr (JJ.cons (je_fmt (je_ix (v_ 0) (je_int))) (JJ.cons (je_fmt (call_ (ok_step_word c) i (ja_cons (je_ix (v_ 0) (je_int)) (ja_nil)))) (JJ.nil))))))
/-! entry_in -/
abbrev st_entry_in : Stmt := top 52
abbrev N_entry_in : List Str := ["word", "joint", "step"]
abbrev sp_entry_in : Scope := defScope st_entry_in
def m_entry_in : PN := defM 3 (sSeq (sPar 1 2 (aCons (eN (callN 1 m_whole_in) (aCons (eSl (eVar 0) oNone (oSome (negM (eC (.int 1))))) (aNil))) (aCons (eN (callN 1 m_step_in) (aCons (eSl (eVar 0) (oSome (negM (eC (.int 1)))) oNone) (aNil))) (aNil))))
 (sRet (eIf (bAnd (bT (eBin notND (eVar 1) (eC .non))) (bT (eBin notND (eVar 2) (eC .non)))) (eN tupN (aCons (eVar 1) (aCons (eVar 2) (aNil)))) (eC .non))))
theorem sc_entry_in : FnScope N_entry_in ["word"] (defScope st_entry_in) := ⟨rfl, rfl, rfl, by decide +kernel, rfl, by decide +kernel, by decide +kernel⟩
theorem ok_entry_in (c : Cn K mg) : FnD P w K mg base 2 "entry_in" ["word"] m_entry_in :=
 fnD_of (c.glo 51) (c.fn 32 (d := d_entry_in)) sc_entry_in (fun _ _ _ _ _ _ us hl => match us, hl with | [_], _ => rfl) (fun _ _ _ _ _ _ us hl => match us, hl with | [_], _ => rfl) (fun _ _ _ _ _ _ us hl => match us, hl with | [_], _ => rfl)
  (fun cdv hcv A outer s H E L0 i => jb_cons (par_ 1 2 sc_entry_in.nd i (ja_cons (call_ (ok_whole_in c) i (ja_cons (je_slice (v_ 0) jo_none (jo_some (je_neg (je_int)))) (ja_nil))) (ja_cons (call_ (ok_step_in c) i (ja_cons (je_slice (v_ 0) (jo_some (je_neg (je_int))) jo_none) (ja_nil))) (ja_nil))))
 (jb_one (js_ret (je_ifx (JW.jt (jw_and (jt_cmp op_notN prim_notN (v_ 1) (je_non) (nomark _)) (jw_and1 (jt_cmp op_notN prim_notN (v_ 2) (je_non) (nomark _))))) (je_tup (ja_cons (v_ 1) (ja_cons (v_ 2) (ja_nil)))) (je_non)))))
/-! text_of_numbers -/
abbrev st_text_of_numbers : Stmt := top 57
abbrev N_text_of_numbers : List Str := ["numbers", "number"]
abbrev sp_text_of_numbers : Scope := defScope st_text_of_numbers
def m_text_of_numbers : PN := defM 2 (sRet (strM1 joinD (eC (.str " ")) (eLst (fComp (iIt (eVar 0)) (gSet 1) (bTrue) (eN strN (aCons (eVar 1) (aNil))) [1]))))
theorem sc_text_of_numbers : FnScope N_text_of_numbers ["numbers"] (defScope st_text_of_numbers) := ⟨rfl, rfl, rfl, by decide +kernel, rfl, by decide +kernel, by decide +kernel⟩
theorem ok_text_of_numbers (c : Cn K mg) : FnD P w K mg base 1 "text_of_numbers" ["numbers"] m_text_of_numbers :=
 fnD_of (c.glo 53) (c.fn 33 (d := d_text_of_numbers)) sc_text_of_numbers (fun _ _ _ _ _ _ us hl => match us, hl with | [_], _ => rfl) (fun _ _ _ _ _ _ us hl => match us, hl with | [_], _ => rfl) (fun _ _ _ _ _ _ us hl => match us, hl with | [_], _ => rfl)
  (fun cdv hcv A outer s H E L0 i => jb_one (js_ret (je_join (str_ (c.str 52)) (JF.je (comp_ [("number", 1)] sc_text_of_numbers.nd i (ji_it (v_ 0)) (fun _ _ _ _ _ _ => g_ 1 sc_text_of_numbers.nd) (fun _ _ _ _ _ _ i => jpts_nil) (fun _ _ _ _ _ _ i => bt_ call_strN prim_strN (c.free 16) (ja_cons (v_ 1) (ja_nil))) (blk_of (N := N_text_of_numbers) (sc := sp_text_of_numbers) (by decide +kernel)))))))
/-! text_of_line -/
abbrev st_text_of_line : Stmt := top 58
abbrev N_text_of_line : List Str := ["line", "section"]
abbrev sp_text_of_line : Scope := defScope st_text_of_line
def m_text_of_line : PN := defM 2 (sRet (strM1 joinD (eC (.str " ")) (eLst (fComp (iIt (eVar 0)) (gSet 1) (bTrue) (eN (callN 1 m_section_word) (aCons (eVar 1) (aNil))) [1]))))
theorem sc_text_of_line : FnScope N_text_of_line ["line"] (defScope st_text_of_line) := ⟨rfl, rfl, rfl, by decide +kernel, rfl, by decide +kernel, by decide +kernel⟩
theorem ok_text_of_line (c : Cn K mg) : FnD P w K mg base 2 "text_of_line" ["line"] m_text_of_line :=
 fnD_of (c.glo 54) (c.fn 34 (d := d_text_of_line)) sc_text_of_line (fun _ _ _ _ _ _ us hl => match us, hl with | [_], _ => rfl) (fun _ _ _ _ _ _ us hl => match us, hl with | [_], _ => rfl) (fun _ _ _ _ _ _ us hl => match us, hl with | [_], _ => rfl)
  (fun cdv hcv A outer s H E L0 i => jb_one (js_ret (je_join (str_ (c.str 52)) (JF.je (comp_ [("section", 1)] sc_text_of_line.nd i (ji_it (v_ 0)) (fun _ _ _ _ _ _ => g_ 1 sc_text_of_line.nd) (fun _ _ _ _ _ _ i => jpts_nil) (fun _ _ _ _ _ _ i => call_ (ok_section_word c) i (ja_cons (v_ 1) (ja_nil))) (blk_of (N := N_text_of_line) (sc := sp_text_of_line) (by decide +kernel)))))))
/-! text_of_log -/
abbrev st_text_of_log : Stmt := top 59
abbrev N_text_of_log : List Str := ["log", "entry"]
abbrev sp_text_of_log : Scope := defScope st_text_of_log
def m_text_of_log : PN := defM 2 (sRet (strM1 joinD (eC (.str " ")) (eLst (fComp (iIt (eVar 0)) (gSet 1) (bTrue) (eN (callN 1 m_entry_word) (aCons (eVar 1) (aNil))) [1]))))
theorem sc_text_of_log : FnScope N_text_of_log ["log"] (defScope st_text_of_log) := ⟨rfl, rfl, rfl, by decide +kernel, rfl, by decide +kernel, by decide +kernel⟩
theorem ok_text_of_log (c : Cn K mg) : FnD P w K mg base 3 "text_of_log" ["log"] m_text_of_log :=
 fnD_of (c.glo 55) (c.fn 35 (d := d_text_of_log)) sc_text_of_log (fun _ _ _ _ _ _ us hl => match us, hl with | [_], _ => rfl) (fun _ _ _ _ _ _ us hl => match us, hl with | [_], _ => rfl) (fun _ _ _ _ _ _ us hl => match us, hl with | [_], _ => rfl)
  (fun cdv hcv A outer s H E L0 i => jb_one (js_ret (je_join (str_ (c.str 52)) (JF.je (comp_ [("entry", 1)] sc_text_of_log.nd i (ji_it (v_ 0)) (fun _ _ _ _ _ _ => g_ 1 sc_text_of_log.nd) (fun _ _ _ _ _ _ i => jpts_nil) (fun _ _ _ _ _ _ i => call_ (ok_entry_word c) i (ja_cons (v_ 1) (ja_nil))) (blk_of (N := N_text_of_log) (sc := sp_text_of_log) (by decide +kernel)))))))
/-! entry_on -/
abbrev st_entry_on : Stmt := top 63
abbrev N_entry_on : List Str := ["line", "word", "entry"]
abbrev sp_entry_on : Scope := defScope st_entry_on
def m_entry_on : PN := defM 3 (sSeq (sSet 2 (eN (callN 1 m_entry_in) (aCons (eVar 1) (aNil))))
 (sRet (eIf (bAnd (bT (eBin notND (eVar 2) (eC .non))) (bT (eBin (cmpD fun i j => decide (i ≤ j)) (eBin ixD (eVar 2) (eC (.int 0))) (eN lenN (aCons (eVar 0) (aNil)))))) (eVar 2) (eC .non))))
theorem sc_entry_on : FnScope N_entry_on ["line", "word"] (defScope st_entry_on) := ⟨rfl, rfl, rfl, by decide +kernel, rfl, by decide +kernel, by decide +kernel⟩
theorem ok_entry_on (c : Cn K mg) : FnD P w K mg base 3 "entry_on" ["line", "word"] m_entry_on :=
 fnD_of (c.glo 56) (c.fn 36 (d := d_entry_on)) sc_entry_on (fun _ _ _ _ _ _ us hl => match us, hl with | [_, _], _ => rfl) (fun _ _ _ _ _ _ us hl => match us, hl with | [_, _], _ => rfl) (fun _ _ _ _ _ _ us hl => match us, hl with | [_, _], _ => rfl)
  (fun cdv hcv A outer s H E L0 i => jb_cons (set_ 2 sc_entry_on.nd (call_ (ok_entry_in c) i (ja_cons (v_ 1) (ja_nil))))
 (jb_one (js_ret (je_ifx (JW.jt (jw_and (jt_cmp op_notN prim_notN (v_ 2) (je_non) (nomark _)) (jw_and1 (jt_cmp op_le prim_cmp (je_ix (v_ 2) (je_int)) (bi_ call_len prim_len (c.free 1) (ja_cons (v_ 0) (ja_nil))) (nomark _))))) (v_ 2) (je_non)))))
/-! the lambda of log_in -/
abbrev Nl_log_in : List Str := ["word", "line"]
def ml_log_in : EM := eN (callN 2 m_entry_on) (aCons (eVar 1) (aCons (eVar 0) (aNil)))
theorem scl_log_in : NdefX.NScope Nl_log_in ["word"] l_log_in.caps l_log_in.scope := ⟨rfl, rfl, rfl, by decide +kernel, rfl, by decide +kernel, by decide +kernel, by decide +kernel, by decide +kernel⟩
theorem okl_log_in (c : Cn K mg) : LamOk P w K mg 4 "log_in" 1 (fun ds S => ml_log_in (startD 2 ds) S) :=
 lam_ok (l := l_log_in) (N := Nl_log_in) (ps := ["word"]) lq_log_in scl_log_in (fun _ _ _ _ us hl => match us, hl with | [_], _ => rfl)
  (fun base A outer s H E L0 f cc cl i => call_ (ok_entry_on c) i (ja_cons (v_ 1) (ja_cons (v_ 0) (ja_nil))))
def tab_read_words_read : Str → Option (Nat × PN) := fun y => if y = "signed_in" then some (1, m_signed_in) else if y = "section_in" then some (1, m_section_in) else none
theorem tk_read_words_read {X : Cx} {W : WX} {j : Nat} (c : Cn X.K X.mg) (i : In X W j) (h : 2 ≤ j := by decide) : ∀ y nF, tab_read_words_read y = some nF → FnAt X y nF.1 nF.2 := fun y nF e => by
  unfold tab_read_words_read at e
  split at e
  · rename_i hy
    subst hy
    cases e
    exact (ok_signed_in (P := X.prog) (w := X.w) (base := X.base) c).at i (by omega)
  ·
    split at e
    · rename_i hy
      subst hy
      cases e
      exact (ok_section_in (P := X.prog) (w := X.w) (base := X.base) c).at i (by omega)
    · cases e
def tabC_read_words_read : Str → Option (Nat × PN) := fun y => if y = "log_in" then some (1, fun ds S => ml_log_in (startD 2 ds) S) else none
theorem tkC_read_words_read {X : Cx} {W : WX} {j : Nat} (c : Cn X.K X.mg) (i : In X W j) (h : 4 ≤ j := by decide) : ∀ y nF, tabC_read_words_read y = some nF → LamAt X y nF.1 nF.2 := fun y nF e => by
  unfold tabC_read_words_read at e
  split at e
  · rename_i hy
    subst hy
    cases e
    exact ⟨_, okl_log_in c, i.hr.mono (by omega)⟩
  · cases e
/-! read_words -/
abbrev st_read_words : Stmt := top 60
abbrev N_read_words : List Str := ["words", "most", "read", "found", "index", "word", "value"]
abbrev sp_read_words : Scope := defScope st_read_words
def m_read_words : PN := defM 7 (sSeq (sOwn 3 (fLst (aNil)))
 (sSeq (sFor (iEnum' (aCons (eVar 0) (aNil))) (gSeq 2 (gConsM (gSet 4) (gConsM (gSet 5) (gNilM))))
 (sSeq (sSet 6 (eCallU 2 tab_read_words_read tabC_read_words_read (aCons (eVar 5) (aNil))))
 (sSeq (sIf (bOr (bT (eBin isND (eVar 6) (eC .non))) (bT (eBin eqD (eVar 4) (eVar 1))))
 (sRet (eN tupN (aCons (eN tupN (aNil)) (aCons (eVar 4) (aNil)))))
 (sNil))
 (sAppend 3 (eVar 6)))))
 (sRet (eN tupN (aCons (eN tupleN (aCons (eVar 3) (aNil))) (aCons (eC .non) (aNil)))))))
theorem sc_read_words : FnScope N_read_words ["words", "most", "read"] (defScope st_read_words) := ⟨rfl, rfl, rfl, by decide +kernel, rfl, by decide +kernel, by decide +kernel⟩
theorem ok_read_words (c : Cn K mg) : FnD P w K mg base 5 "read_words" ["words", "most", "read"] m_read_words :=
 fnD_of (c.glo 57) (c.fn 37 (d := d_read_words)) sc_read_words (fun _ _ _ _ _ _ us hl => match us, hl with | [_, _, _], _ => rfl) (fun _ _ _ _ _ _ us hl => match us, hl with | [_, _, _], _ => rfl) (fun _ _ _ _ _ _ us hl => match us, hl with | [_, _, _], _ => rfl)
  (fun cdv hcv A outer s H E L0 i => jb_cons (own_ (O' := [3]) 3 sc_read_words.nd (jf_lst (ja_nil)) (by simp))
 (jb_cons (for_ (st := false) i (ji_enum rfl (c.free 7) (ja_cons (v_ 0) (ja_nil))) (jg_seq rfl (jgs_cons (g_ 4 sc_read_words.nd) (jgs_cons (g_ 5 sc_read_words.nd) (jgs_nil))))
 (jb_cons (set_ 6 sc_read_words.nd (je_callU (i := 2) i (tk_read_words_read c i) (tkC_read_words_read c i) (ja_cons (v_ 5) (ja_nil))))
 (jb_cons (js_if (O' := [3]) (JW.jt (jw_or (jt_cmp op_isN prim_isN (v_ 6) (je_non) (nomark _)) (jw_or1 (jt_cmp (op_eqX i.units) prim_eq (v_ 4) (v_ 1) (nomark _)))))
 (jb_one (js_ret (je_tup (ja_cons (je_tup (ja_nil)) (ja_cons (v_ 4) (ja_nil))))))
 (jb_nil))
 (jb_one (app_ 3 (v_ 6))))))
 (jb_one (js_ret (je_tup (ja_cons (bt_ call_tuple_of prim_tuple (c.free 18) (ja_cons (v_ 3) (ja_nil))) (ja_cons (je_non) (ja_nil))))))))
/-! line_in -/
abbrev st_line_in : Stmt := top 61
abbrev N_line_in : List Str := ["text"]
abbrev sp_line_in : Scope := defScope st_line_in
def m_line_in : PN := defM 1 (sRet (eN (callN 3 m_read_words) (aCons (eLst (fSplit (eVar 0) (eC (.str " ")))) (aCons (eC (.int 12)) (aCons (eC (.fn "section_in")) (aNil))))))
theorem sc_line_in : FnScope N_line_in ["text"] (defScope st_line_in) := ⟨rfl, rfl, rfl, by decide +kernel, rfl, by decide +kernel, by decide +kernel⟩
theorem ok_line_in (c : Cn K mg) : FnD P w K mg base 6 "line_in" ["text"] m_line_in :=
 fnD_of (c.glo 59) (c.fn 38 (d := d_line_in)) sc_line_in (fun _ _ _ _ _ _ us hl => match us, hl with | [_], _ => rfl) (fun _ _ _ _ _ _ us hl => match us, hl with | [_], _ => rfl) (fun _ _ _ _ _ _ us hl => match us, hl with | [_], _ => rfl)
  (fun cdv hcv A outer s H E L0 i => jb_one (js_ret (call_ (ok_read_words c) i (ja_cons (JF.je (jf_split (v_ 0) (str_ (c.str 52)))) (ja_cons (int_ (c.int 58)) (ja_cons (fn_ (c.glo 45)) (ja_nil)))))))
/-! counts_in -/
abbrev st_counts_in : Stmt := top 62
abbrev N_counts_in : List Str := ["line", "text", "found", "index"]
abbrev sp_counts_in : Scope := defScope st_counts_in
def m_counts_in : PN := defM 4 (sSeq (sAsg (eN (callN 3 m_read_words) (aCons (eLst (fSplit (eVar 1) (eC (.str " ")))) (aCons (eBin addD (eN lenN (aCons (eVar 0) (aNil))) (eC (.int 1))) (aCons (eC (.fn "signed_in")) (aNil))))) (gSeq 2 (gConsM (gSet 2) (gConsM (gSet 3) (gNilM)))))
 (sRet (eN tupN (aCons (eVar 2) (aCons (eIf (bAnd (bT (eBin isND (eVar 3) (eC .non))) (bT (eBin (cmpD fun i j => decide (i ≤ j)) (eN lenN (aCons (eVar 2) (aNil))) (eN lenN (aCons (eVar 0) (aNil)))))) (eN lenN (aCons (eVar 2) (aNil))) (eVar 3)) (aNil))))))
theorem sc_counts_in : FnScope N_counts_in ["line", "text"] (defScope st_counts_in) := ⟨rfl, rfl, rfl, by decide +kernel, rfl, by decide +kernel, by decide +kernel⟩
theorem ok_counts_in (c : Cn K mg) : FnD P w K mg base 6 "counts_in" ["line", "text"] m_counts_in :=
 fnD_of (c.glo 60) (c.fn 39 (d := d_counts_in)) sc_counts_in (fun _ _ _ _ _ _ us hl => match us, hl with | [_, _], _ => rfl) (fun _ _ _ _ _ _ us hl => match us, hl with | [_, _], _ => rfl) (fun _ _ _ _ _ _ us hl => match us, hl with | [_, _], _ => rfl)
  (fun cdv hcv A outer s H E L0 i => jb_cons (js_asg (st := false) (call_ (ok_read_words c) i (ja_cons (JF.je (jf_split (v_ 1) (str_ (c.str 52)))) (ja_cons (je_bin op_addD prim_add (bi_ call_len prim_len (c.free 1) (ja_cons (v_ 0) (ja_nil))) (je_int)) (ja_cons (fn_ (c.glo 41)) (ja_nil))))) (jg_seq rfl (jgs_cons (g_ 2 sc_counts_in.nd) (jgs_cons (g_ 3 sc_counts_in.nd) (jgs_nil)))))
 (jb_one (js_ret (je_tup (ja_cons (v_ 2) (ja_cons (je_ifx (JW.jt (jw_and (jt_cmp op_isN prim_isN (v_ 3) (je_non) (nomark _)) (jw_and1 (jt_cmp op_le prim_cmp (bi_ call_len prim_len (c.free 1) (ja_cons (v_ 2) (ja_nil))) (bi_ call_len prim_len (c.free 1) (ja_cons (v_ 0) (ja_nil))) (nomark _))))) (bi_ call_len prim_len (c.free 1) (ja_cons (v_ 2) (ja_nil))) (v_ 3)) (ja_nil)))))))
/-! log_in -/
abbrev st_log_in : Stmt := top 64
abbrev N_log_in : List Str := ["line", "text", "words"]
abbrev sp_log_in : Scope := defScope st_log_in
def m_log_in : PN := defM 3 (sSeq (sSet 2 (eIf (bT (eBin neD (eVar 1) (eC (.str "")))) (eLst (fSplit (eVar 1) (eC (.str " ")))) (eN lstN (aNil))))
 (sRet (eCallL 3 m_read_words "log_in" [0] (aCons (eVar 2) (aCons (eC (.int 100)) (aNil))))))
theorem sc_log_in : FnScope N_log_in ["line", "text"] (defScope st_log_in) := ⟨rfl, rfl, rfl, by decide +kernel, rfl, by decide +kernel, by decide +kernel⟩
theorem ok_log_in (c : Cn K mg) : FnD P w K mg base 6 "log_in" ["line", "text"] m_log_in :=
 fnD_of (c.glo 62) (c.fn 40 (d := d_log_in)) sc_log_in (fun _ _ _ _ _ _ us hl => match us, hl with | [_, _], _ => rfl) (fun _ _ _ _ _ _ us hl => match us, hl with | [_, _], _ => rfl) (fun _ _ _ _ _ _ us hl => match us, hl with | [_, _], _ => rfl)
  (fun cdv hcv A outer s H E L0 i => jb_cons (set_ 2 sc_log_in.nd (je_ifx (jt_cmp (op_neX i.units) prim_ne (v_ 1) (je_str) (nomark _)) (JF.je (jf_split (v_ 1) (str_ (c.str 52)))) (je_lst (ja_nil))))
 (jb_one (js_ret (je_callL (l := l_log_in) [0] (fun base => ok_read_words c) i lq_log_in lm_log_in hcv (lu_log_in _) (JAs.cons (v_ 2) (JAs.cons (int_ (c.int 61)) (JAs.nil) (fun _ => rfl)) (fun _ => rfl)) (hfree := lf_log_in) (hfr := lc_log_in)))))
/-! line_text -/
abbrev st_line_text : Stmt := top 66
abbrev N_line_text : List Str := ["line"]
abbrev sp_line_text : Scope := defScope st_line_text
def m_line_text : PN := defM 1 (sSeq (sDrop (eN (callN 1 m_check_line) (aCons (eVar 0) (aNil))))
 (sRet (eN (callN 1 m_text_of_line) (aCons (eVar 0) (aNil)))))
theorem sc_line_text : FnScope N_line_text ["line"] (defScope st_line_text) := ⟨rfl, rfl, rfl, by decide +kernel, rfl, by decide +kernel, by decide +kernel⟩
theorem ok_line_text (c : Cn K mg) : FnD P w K mg base 8 "line_text" ["line"] m_line_text :=
 fnD_of (c.glo 63) (c.fn 41 (d := d_line_text)) sc_line_text (fun _ _ _ _ _ _ us hl => match us, hl with | [_], _ => rfl) (fun _ _ _ _ _ _ us hl => match us, hl with | [_], _ => rfl) (fun _ _ _ _ _ _ us hl => match us, hl with | [_], _ => rfl)
  (fun cdv hcv A outer s H E L0 i => jb_cons (js_expr (call_ (ok_check_line c) i (ja_cons (v_ 0) (ja_nil))))
 (jb_one (js_ret (call_ (ok_text_of_line c) i (ja_cons (v_ 0) (ja_nil))))))
/-! counts_text -/
abbrev st_counts_text : Stmt := top 67
abbrev N_counts_text : List Str := ["line", "counts"]
abbrev sp_counts_text : Scope := defScope st_counts_text
def m_counts_text : PN := defM 2 (sSeq (sDrop (eN (callN 1 m_check_line) (aCons (eVar 0) (aNil))))
 (sSeq (sDrop (eN (callN 2 m_check_counts) (aCons (eVar 0) (aCons (eVar 1) (aNil)))))
 (sRet (eN (callN 1 m_text_of_numbers) (aCons (eVar 1) (aNil))))))
theorem sc_counts_text : FnScope N_counts_text ["line", "counts"] (defScope st_counts_text) := ⟨rfl, rfl, rfl, by decide +kernel, rfl, by decide +kernel, by decide +kernel⟩
theorem ok_counts_text (c : Cn K mg) : FnD P w K mg base 8 "counts_text" ["line", "counts"] m_counts_text :=
 fnD_of (c.glo 64) (c.fn 42 (d := d_counts_text)) sc_counts_text (fun _ _ _ _ _ _ us hl => match us, hl with | [_, _], _ => rfl) (fun _ _ _ _ _ _ us hl => match us, hl with | [_, _], _ => rfl) (fun _ _ _ _ _ _ us hl => match us, hl with | [_, _], _ => rfl)
  (fun cdv hcv A outer s H E L0 i => jb_cons (js_expr (call_ (ok_check_line c) i (ja_cons (v_ 0) (ja_nil))))
 (jb_cons (js_expr (call_ (ok_check_counts c) i (ja_cons (v_ 0) (ja_cons (v_ 1) (ja_nil)))))
 (jb_one (js_ret (call_ (ok_text_of_numbers c) i (ja_cons (v_ 1) (ja_nil)))))))
/-! log_text -/
abbrev st_log_text : Stmt := top 68
abbrev N_log_text : List Str := ["line", "log"]
abbrev sp_log_text : Scope := defScope st_log_text
def m_log_text : PN := defM 2 (sSeq (sDrop (eN (callN 1 m_check_line) (aCons (eVar 0) (aNil))))
 (sSeq (sDrop (eN (callN 2 m_check_log) (aCons (eVar 0) (aCons (eVar 1) (aNil)))))
 (sRet (eN (callN 1 m_text_of_log) (aCons (eVar 1) (aNil))))))
theorem sc_log_text : FnScope N_log_text ["line", "log"] (defScope st_log_text) := ⟨rfl, rfl, rfl, by decide +kernel, rfl, by decide +kernel, by decide +kernel⟩
theorem ok_log_text (c : Cn K mg) : FnD P w K mg base 8 "log_text" ["line", "log"] m_log_text :=
 fnD_of (c.glo 65) (c.fn 43 (d := d_log_text)) sc_log_text (fun _ _ _ _ _ _ us hl => match us, hl with | [_, _], _ => rfl) (fun _ _ _ _ _ _ us hl => match us, hl with | [_, _], _ => rfl) (fun _ _ _ _ _ _ us hl => match us, hl with | [_, _], _ => rfl)
  (fun cdv hcv A outer s H E L0 i => jb_cons (js_expr (call_ (ok_check_line c) i (ja_cons (v_ 0) (ja_nil))))
 (jb_cons (js_expr (call_ (ok_check_log c) i (ja_cons (v_ 0) (ja_cons (v_ 1) (ja_nil)))))
 (jb_one (js_ret (call_ (ok_text_of_log c) i (ja_cons (v_ 1) (ja_nil)))))))
/-! check_text -/
abbrev st_check_text : Stmt := top 69
abbrev N_check_text : List Str := ["text"]
abbrev sp_check_text : Scope := defScope st_check_text
def m_check_text : PN := defM 1 (sIf (bNot (bT (eN (callN 1 m_is_text) (aCons (eVar 0) (aNil)))))
 (sRaise "InvalidText" "index" (eC .non))
 (sNil))
theorem sc_check_text : FnScope N_check_text ["text"] (defScope st_check_text) := ⟨rfl, rfl, rfl, by decide +kernel, rfl, by decide +kernel, by decide +kernel⟩
theorem ok_check_text (c : Cn K mg) : FnD P w K mg base 3 "check_text" ["text"] m_check_text :=
 fnD_of (c.glo 66) (c.fn 44 (d := d_check_text)) sc_check_text (fun _ _ _ _ _ _ us hl => match us, hl with | [_], _ => rfl) (fun _ _ _ _ _ _ us hl => match us, hl with | [_], _ => rfl) (fun _ _ _ _ _ _ us hl => match us, hl with | [_], _ => rfl)
  (fun cdv hcv A outer s H E L0 i => jb_one (js_if (O' := []) (jt_not (jt_val (call_ (ok_is_text c) i (ja_cons (v_ 0) (ja_nil)))))
 (jb_one (js_raise (c.err_InvalidText) i.calm i.tk (i.hr.mono (by decide)) (je_non) rfl))
 (jb_nil)))
/-! check_read -/
abbrev st_check_read : Stmt := top 70
abbrev N_check_read : List Str := ["index"]
abbrev sp_check_read : Scope := defScope st_check_read
def m_check_read : PN := defM 1 (sIf (bT (eBin notND (eVar 0) (eC .non)))
 (sRaise "InvalidText" "index" (eVar 0))
 (sNil))
theorem sc_check_read : FnScope N_check_read ["index"] (defScope st_check_read) := ⟨rfl, rfl, rfl, by decide +kernel, rfl, by decide +kernel, by decide +kernel⟩
theorem ok_check_read (c : Cn K mg) : FnD P w K mg base 3 "check_read" ["index"] m_check_read :=
 fnD_of (c.glo 67) (c.fn 45 (d := d_check_read)) sc_check_read (fun _ _ _ _ _ _ us hl => match us, hl with | [_], _ => rfl) (fun _ _ _ _ _ _ us hl => match us, hl with | [_], _ => rfl) (fun _ _ _ _ _ _ us hl => match us, hl with | [_], _ => rfl)
  (fun cdv hcv A outer s H E L0 i => jb_one (js_if (O' := []) (jt_cmp op_notN prim_notN (v_ 0) (je_non) (nomark _))
 (jb_one (js_raise (c.err_InvalidText) i.calm i.tk (i.hr.mono (by decide)) (v_ 0) rfl))
 (jb_nil)))
/-! read_line -/
abbrev st_read_line : Stmt := top 71
abbrev N_read_line : List Str := ["text", "found", "index"]
abbrev sp_read_line : Scope := defScope st_read_line
def m_read_line : PN := defM 3 (sSeq (sDrop (eN (callN 1 m_check_text) (aCons (eVar 0) (aNil))))
 (sSeq (sAsg (eN (callN 1 m_line_in) (aCons (eVar 0) (aNil))) (gSeq 2 (gConsM (gSet 1) (gConsM (gSet 2) (gNilM)))))
 (sSeq (sDrop (eN (callN 1 m_check_read) (aCons (eVar 2) (aNil))))
 (sRet (eVar 1)))))
theorem sc_read_line : FnScope N_read_line ["text"] (defScope st_read_line) := ⟨rfl, rfl, rfl, by decide +kernel, rfl, by decide +kernel, by decide +kernel⟩
theorem ok_read_line (c : Cn K mg) : FnD P w K mg base 7 "read_line" ["text"] m_read_line :=
 fnD_of (c.glo 68) (c.fn 46 (d := d_read_line)) sc_read_line (fun _ _ _ _ _ _ us hl => match us, hl with | [_], _ => rfl) (fun _ _ _ _ _ _ us hl => match us, hl with | [_], _ => rfl) (fun _ _ _ _ _ _ us hl => match us, hl with | [_], _ => rfl)
  (fun cdv hcv A outer s H E L0 i => jb_cons (js_expr (call_ (ok_check_text c) i (ja_cons (v_ 0) (ja_nil))))
 (jb_cons (js_asg (st := false) (call_ (ok_line_in c) i (ja_cons (v_ 0) (ja_nil))) (jg_seq rfl (jgs_cons (g_ 1 sc_read_line.nd) (jgs_cons (g_ 2 sc_read_line.nd) (jgs_nil)))))
 (jb_cons (js_expr (call_ (ok_check_read c) i (ja_cons (v_ 2) (ja_nil))))
 (jb_one (js_ret (v_ 1))))))
/-! read_counts -/
abbrev st_read_counts : Stmt := top 72
abbrev N_read_counts : List Str := ["line", "text", "found", "index"]
abbrev sp_read_counts : Scope := defScope st_read_counts
def m_read_counts : PN := defM 4 (sSeq (sDrop (eN (callN 1 m_check_line) (aCons (eVar 0) (aNil))))
 (sSeq (sDrop (eN (callN 1 m_check_text) (aCons (eVar 1) (aNil))))
 (sSeq (sAsg (eN (callN 2 m_counts_in) (aCons (eVar 0) (aCons (eVar 1) (aNil)))) (gSeq 2 (gConsM (gSet 2) (gConsM (gSet 3) (gNilM)))))
 (sSeq (sDrop (eN (callN 1 m_check_read) (aCons (eVar 3) (aNil))))
 (sRet (eVar 2))))))
theorem sc_read_counts : FnScope N_read_counts ["line", "text"] (defScope st_read_counts) := ⟨rfl, rfl, rfl, by decide +kernel, rfl, by decide +kernel, by decide +kernel⟩
theorem ok_read_counts (c : Cn K mg) : FnD P w K mg base 8 "read_counts" ["line", "text"] m_read_counts :=
 fnD_of (c.glo 69) (c.fn 47 (d := d_read_counts)) sc_read_counts (fun _ _ _ _ _ _ us hl => match us, hl with | [_, _], _ => rfl) (fun _ _ _ _ _ _ us hl => match us, hl with | [_, _], _ => rfl) (fun _ _ _ _ _ _ us hl => match us, hl with | [_, _], _ => rfl)
  (fun cdv hcv A outer s H E L0 i => jb_cons (js_expr (call_ (ok_check_line c) i (ja_cons (v_ 0) (ja_nil))))
 (jb_cons (js_expr (call_ (ok_check_text c) i (ja_cons (v_ 1) (ja_nil))))
 (jb_cons (js_asg (st := false) (call_ (ok_counts_in c) i (ja_cons (v_ 0) (ja_cons (v_ 1) (ja_nil)))) (jg_seq rfl (jgs_cons (g_ 2 sc_read_counts.nd) (jgs_cons (g_ 3 sc_read_counts.nd) (jgs_nil)))))
 (jb_cons (js_expr (call_ (ok_check_read c) i (ja_cons (v_ 3) (ja_nil))))
 (jb_one (js_ret (v_ 2)))))))
/-! read_log -/
abbrev st_read_log : Stmt := top 73
abbrev N_read_log : List Str := ["line", "text", "found", "index"]
abbrev sp_read_log : Scope := defScope st_read_log
def m_read_log : PN := defM 4 (sSeq (sDrop (eN (callN 1 m_check_line) (aCons (eVar 0) (aNil))))
 (sSeq (sDrop (eN (callN 1 m_check_text) (aCons (eVar 1) (aNil))))
 (sSeq (sAsg (eN (callN 2 m_log_in) (aCons (eVar 0) (aCons (eVar 1) (aNil)))) (gSeq 2 (gConsM (gSet 2) (gConsM (gSet 3) (gNilM)))))
 (sSeq (sDrop (eN (callN 1 m_check_read) (aCons (eVar 3) (aNil))))
 (sRet (eVar 2))))))
theorem sc_read_log : FnScope N_read_log ["line", "text"] (defScope st_read_log) := ⟨rfl, rfl, rfl, by decide +kernel, rfl, by decide +kernel, by decide +kernel⟩
theorem ok_read_log (c : Cn K mg) : FnD P w K mg base 8 "read_log" ["line", "text"] m_read_log :=
 fnD_of (c.glo 70) (c.fn 48 (d := d_read_log)) sc_read_log (fun _ _ _ _ _ _ us hl => match us, hl with | [_, _], _ => rfl) (fun _ _ _ _ _ _ us hl => match us, hl with | [_, _], _ => rfl) (fun _ _ _ _ _ _ us hl => match us, hl with | [_, _], _ => rfl)
  (fun cdv hcv A outer s H E L0 i => jb_cons (js_expr (call_ (ok_check_line c) i (ja_cons (v_ 0) (ja_nil))))
 (jb_cons (js_expr (call_ (ok_check_text c) i (ja_cons (v_ 1) (ja_nil))))
 (jb_cons (js_asg (st := false) (call_ (ok_log_in c) i (ja_cons (v_ 0) (ja_cons (v_ 1) (ja_nil)))) (jg_seq rfl (jgs_cons (g_ 2 sc_read_log.nd) (jgs_cons (g_ 3 sc_read_log.nd) (jgs_nil)))))
 (jb_cons (js_expr (call_ (ok_check_read c) i (ja_cons (v_ 3) (ja_nil))))
 (jb_one (js_ret (v_ 2)))))))
/-! line_backward_by -/
abbrev st_line_backward_by : Stmt := top 75
abbrev N_line_backward_by : List Str := ["line"]
abbrev sp_line_backward_by : Scope := defScope st_line_backward_by
def m_line_backward_by : PN := defM 1 (sRet (eRev (eVar 0)))
theorem sc_line_backward_by : FnScope N_line_backward_by ["line"] (defScope st_line_backward_by) := ⟨rfl, rfl, rfl, by decide +kernel, rfl, by decide +kernel, by decide +kernel⟩
theorem ok_line_backward_by (c : Cn K mg) : FnD P w K mg base 1 "line_backward_by" ["line"] m_line_backward_by :=
 fnD_of (c.glo 71) (c.fn 49 (d := d_line_backward_by)) sc_line_backward_by (fun _ _ _ _ _ _ us hl => match us, hl with | [_], _ => rfl) (fun _ _ _ _ _ _ us hl => match us, hl with | [_], _ => rfl) (fun _ _ _ _ _ _ us hl => match us, hl with | [_], _ => rfl)
  (fun cdv hcv A outer s H E L0 i => jb_one (js_ret (je_revS (v_ 0))))
/-! counts_backward_by -/
abbrev st_counts_backward_by : Stmt := top 76
abbrev N_counts_backward_by : List Str := ["counts", "count"]
abbrev sp_counts_backward_by : Scope := defScope st_counts_backward_by
def m_counts_backward_by : PN := defM 2 (sRet (eN tupleN (aCons (eLst (fComp (iIt (eRev (eVar 0))) (gSet 1) (bTrue) (negM (eVar 1)) [1])) (aNil))))
theorem sc_counts_backward_by : FnScope N_counts_backward_by ["counts"] (defScope st_counts_backward_by) := ⟨rfl, rfl, rfl, by decide +kernel, rfl, by decide +kernel, by decide +kernel⟩
theorem ok_counts_backward_by (c : Cn K mg) : FnD P w K mg base 1 "counts_backward_by" ["counts"] m_counts_backward_by :=
 fnD_of (c.glo 72) (c.fn 50 (d := d_counts_backward_by)) sc_counts_backward_by (fun _ _ _ _ _ _ us hl => match us, hl with | [_], _ => rfl) (fun _ _ _ _ _ _ us hl => match us, hl with | [_], _ => rfl) (fun _ _ _ _ _ _ us hl => match us, hl with | [_], _ => rfl)
  (fun cdv hcv A outer s H E L0 i => jb_one (js_ret (bt_ call_tuple_of prim_tuple (c.free 18) (ja_cons (JF.je (comp_ [("count", 1)] sc_counts_backward_by.nd i (ji_it (je_revS (v_ 0))) (fun _ _ _ _ _ _ => g_ 1 sc_counts_backward_by.nd) (fun _ _ _ _ _ _ i => jpts_nil) (fun _ _ _ _ _ _ i => je_neg (v_ 1)) (blk_of (N := N_counts_backward_by) (sc := sp_counts_backward_by) (by decide +kernel)))) (ja_nil)))))
/-! check_told_changes -/
abbrev st_check_told_changes : Stmt := top 78
abbrev N_check_told_changes : List Str := ["line", "counts"]
abbrev sp_check_told_changes : Scope := defScope st_check_told_changes
def m_check_told_changes : PN := defM 2 (sSeq (sDrop (eN (callN 1 m_check_line) (aCons (eVar 0) (aNil))))
 (sDrop (eN (callN 2 m_check_counts) (aCons (eVar 0) (aCons (eVar 1) (aNil))))))
theorem sc_check_told_changes : FnScope N_check_told_changes ["line", "counts"] (defScope st_check_told_changes) := ⟨rfl, rfl, rfl, by decide +kernel, rfl, by decide +kernel, by decide +kernel⟩
theorem ok_check_told_changes (c : Cn K mg) : FnD P w K mg base 8 "check_told_changes" ["line", "counts"] m_check_told_changes :=
 fnD_of (c.glo 73) (c.fn 51 (d := d_check_told_changes)) sc_check_told_changes (fun _ _ _ _ _ _ us hl => match us, hl with | [_, _], _ => rfl) (fun _ _ _ _ _ _ us hl => match us, hl with | [_, _], _ => rfl) (fun _ _ _ _ _ _ us hl => match us, hl with | [_, _], _ => rfl)
  (fun cdv hcv A outer s H E L0 i => jb_cons (js_expr (call_ (ok_check_line c) i (ja_cons (v_ 0) (ja_nil))))
 (jb_one (js_expr (call_ (ok_check_counts c) i (ja_cons (v_ 0) (ja_cons (v_ 1) (ja_nil)))))))
/-! line_backward -/
abbrev st_line_backward : Stmt := top 80
abbrev N_line_backward : List Str := ["line"]
abbrev sp_line_backward : Scope := defScope st_line_backward
def m_line_backward : PN := defM 1 (sSeq (sDrop (eN (callN 1 m_check_line) (aCons (eVar 0) (aNil))))
 (sRet (eN (callN 1 m_line_backward_by) (aCons (eVar 0) (aNil)))))
theorem sc_line_backward : FnScope N_line_backward ["line"] (defScope st_line_backward) := ⟨rfl, rfl, rfl, by decide +kernel, rfl, by decide +kernel, by decide +kernel⟩
theorem ok_line_backward (c : Cn K mg) : FnD P w K mg base 8 "line_backward" ["line"] m_line_backward :=
 fnD_of (c.glo 74) (c.fn 52 (d := d_line_backward)) sc_line_backward (fun _ _ _ _ _ _ us hl => match us, hl with | [_], _ => rfl) (fun _ _ _ _ _ _ us hl => match us, hl with | [_], _ => rfl) (fun _ _ _ _ _ _ us hl => match us, hl with | [_], _ => rfl)
  (fun cdv hcv A outer s H E L0 i => jb_cons (js_expr (call_ (ok_check_line c) i (ja_cons (v_ 0) (ja_nil))))
 (jb_one (js_ret (call_ (ok_line_backward_by c) i (ja_cons (v_ 0) (ja_nil))))))
/-! counts_backward -/
abbrev st_counts_backward : Stmt := top 81
abbrev N_counts_backward : List Str := ["line", "counts"]
abbrev sp_counts_backward : Scope := defScope st_counts_backward
def m_counts_backward : PN := defM 2 (sSeq (sDrop (eN (callN 2 m_check_told_changes) (aCons (eVar 0) (aCons (eVar 1) (aNil)))))
 (sRet (eN (callN 1 m_counts_backward_by) (aCons (eVar 1) (aNil)))))
theorem sc_counts_backward : FnScope N_counts_backward ["line", "counts"] (defScope st_counts_backward) := ⟨rfl, rfl, rfl, by decide +kernel, rfl, by decide +kernel, by decide +kernel⟩
theorem ok_counts_backward (c : Cn K mg) : FnD P w K mg base 9 "counts_backward" ["line", "counts"] m_counts_backward :=
 fnD_of (c.glo 75) (c.fn 53 (d := d_counts_backward)) sc_counts_backward (fun _ _ _ _ _ _ us hl => match us, hl with | [_, _], _ => rfl) (fun _ _ _ _ _ _ us hl => match us, hl with | [_, _], _ => rfl) (fun _ _ _ _ _ _ us hl => match us, hl with | [_, _], _ => rfl)
  (fun cdv hcv A outer s H E L0 i => jb_cons (js_expr (call_ (ok_check_told_changes c) i (ja_cons (v_ 0) (ja_cons (v_ 1) (ja_nil)))))
 (jb_one (js_ret (call_ (ok_counts_backward_by c) i (ja_cons (v_ 1) (ja_nil))))))
/-! check_told_lines -/
abbrev st_check_told_lines : Stmt := top 83
abbrev N_check_told_lines : List Str := ["line", "counts"]
abbrev sp_check_told_lines : Scope := defScope st_check_told_lines
def m_check_told_lines : PN := defM 2 (sSeq (sDrop (eN (callN 1 m_check_line) (aCons (eVar 0) (aNil))))
 (sDrop (eN (callN 2 m_check_counts) (aCons (eVar 0) (aCons (eVar 1) (aNil))))))
theorem sc_check_told_lines : FnScope N_check_told_lines ["line", "counts"] (defScope st_check_told_lines) := ⟨rfl, rfl, rfl, by decide +kernel, rfl, by decide +kernel, by decide +kernel⟩
theorem ok_check_told_lines (c : Cn K mg) : FnD P w K mg base 8 "check_told_lines" ["line", "counts"] m_check_told_lines :=
 fnD_of (c.glo 76) (c.fn 54 (d := d_check_told_lines)) sc_check_told_lines (fun _ _ _ _ _ _ us hl => match us, hl with | [_, _], _ => rfl) (fun _ _ _ _ _ _ us hl => match us, hl with | [_, _], _ => rfl) (fun _ _ _ _ _ _ us hl => match us, hl with | [_, _], _ => rfl)
  (fun cdv hcv A outer s H E L0 i => jb_cons (js_expr (call_ (ok_check_line c) i (ja_cons (v_ 0) (ja_nil))))
 (jb_one (js_expr (call_ (ok_check_counts c) i (ja_cons (v_ 0) (ja_cons (v_ 1) (ja_nil)))))))
/-! loads -/
abbrev st_loads : Stmt := top 85
abbrev N_loads : List Str := ["line", "counts"]
abbrev sp_loads : Scope := defScope st_loads
def m_loads : PN := defM 2 (sSeq (sDrop (eN (callN 2 m_check_told_lines) (aCons (eVar 0) (aCons (eVar 1) (aNil)))))
 (sRet (eN tupleN (aCons (eN (callN 2 m_loads_by) (aCons (eVar 0) (aCons (eVar 1) (aNil)))) (aNil)))))
theorem sc_loads : FnScope N_loads ["line", "counts"] (defScope st_loads) := ⟨rfl, rfl, rfl, by decide +kernel, rfl, by decide +kernel, by decide +kernel⟩
theorem ok_loads (c : Cn K mg) : FnD P w K mg base 9 "loads" ["line", "counts"] m_loads :=
 fnD_of (c.glo 77) (c.fn 55 (d := d_loads)) sc_loads (fun _ _ _ _ _ _ us hl => match us, hl with | [_, _], _ => rfl) (fun _ _ _ _ _ _ us hl => match us, hl with | [_, _], _ => rfl) (fun _ _ _ _ _ _ us hl => match us, hl with | [_, _], _ => rfl)
  (fun cdv hcv A outer s H E L0 i => jb_cons (js_expr (call_ (ok_check_told_lines c) i (ja_cons (v_ 0) (ja_cons (v_ 1) (ja_nil)))))
 (jb_one (js_ret (bt_ call_tuple_of prim_tuple (c.free 18) (ja_cons (call_ (ok_loads_by c) i (ja_cons (v_ 0) (ja_cons (v_ 1) (ja_nil)))) (ja_nil))))))
/-! counts_behind_by -/
abbrev st_counts_behind_by : Stmt := top 87
abbrev N_counts_behind_by : List Str := ["line", "log", "number", "found", "joint", "step"]
abbrev sp_counts_behind_by : Scope := defScope st_counts_behind_by
def m_counts_behind_by : PN := defM 6 (sSeq (sOwn 3 (fRep (eN lstN (aCons (eC (.int 0)) (aNil))) (eBin addD (eN lenN (aCons (eVar 0) (aNil))) (eC (.int 1)))))
 (sSeq (sFor (iIt (eSl (eVar 1) oNone (oSome (eVar 2)))) (gSeq 2 (gConsM (gSet 4) (gConsM (gSet 5) (gNilM))))
 (sAsg (eBin addD (eLend (eBin ixD (eVar 3) (eVar 4))) (eVar 5)) (gOwn 3 (eVar 4))))
 (sRet (eN tupleN (aCons (eVar 3) (aNil))))))
theorem sc_counts_behind_by : FnScope N_counts_behind_by ["line", "log", "number"] (defScope st_counts_behind_by) := ⟨rfl, rfl, rfl, by decide +kernel, rfl, by decide +kernel, by decide +kernel⟩
theorem ok_counts_behind_by (c : Cn K mg) : FnD P w K mg base 1 "counts_behind_by" ["line", "log", "number"] m_counts_behind_by :=
 fnD_of (c.glo 78) (c.fn 56 (d := d_counts_behind_by)) sc_counts_behind_by (fun _ _ _ _ _ _ us hl => match us, hl with | [_, _, _], _ => rfl) (fun _ _ _ _ _ _ us hl => match us, hl with | [_, _, _], _ => rfl) (fun _ _ _ _ _ _ us hl => match us, hl with | [_, _, _], _ => rfl)
  (fun cdv hcv A outer s H E L0 i => jb_cons (own_ (O' := [3]) 3 sc_counts_behind_by.nd (jf_rep (je_lst (ja_cons (je_int) (ja_nil))) (je_bin op_addD prim_add (bi_ call_len prim_len (c.free 1) (ja_cons (v_ 0) (ja_nil))) (je_int))) (by simp))
 (jb_cons (for_ (st := false) i (ji_it (je_slice (v_ 1) jo_none (jo_some (v_ 2)))) (jg_seq rfl (jgs_cons (g_ 4 sc_counts_behind_by.nd) (jgs_cons (g_ 5 sc_counts_behind_by.nd) (jgs_nil))))
 (jb_one (js_asg (st := false) (je_bin op_addD prim_add (je_lend (O' := []) (je_ix (v_ 3) (v_ 4)) (by simp)) (v_ 5)) (jg_own (W := Wf) rfl (.inl rfl) (by decide) (v_ 4)))))
 (jb_one (js_ret (bt_ call_tuple_of prim_tuple (c.free 18) (ja_cons (v_ 3) (ja_nil)))))))
/-! all_counts -/
abbrev st_all_counts : Stmt := top 88
abbrev N_all_counts : List Str := ["line", "log", "number"]
abbrev sp_all_counts : Scope := defScope st_all_counts
def m_all_counts : PN := defM 3 (sRet (eLst (fComp (iRange1 (aCons (eBin addD (eN lenN (aCons (eVar 1) (aNil))) (eC (.int 1))) (aNil))) (gSet 2) (bTrue) (eN (callN 3 m_counts_behind_by) (aCons (eVar 0) (aCons (eVar 1) (aCons (eVar 2) (aNil))))) [2])))
theorem sc_all_counts : FnScope N_all_counts ["line", "log"] (defScope st_all_counts) := ⟨rfl, rfl, rfl, by decide +kernel, rfl, by decide +kernel, by decide +kernel⟩
theorem ok_all_counts (c : Cn K mg) : FnD P w K mg base 2 "all_counts" ["line", "log"] m_all_counts :=
 fnD_of (c.glo 79) (c.fn 57 (d := d_all_counts)) sc_all_counts (fun _ _ _ _ _ _ us hl => match us, hl with | [_, _], _ => rfl) (fun _ _ _ _ _ _ us hl => match us, hl with | [_, _], _ => rfl) (fun _ _ _ _ _ _ us hl => match us, hl with | [_, _], _ => rfl)
  (fun cdv hcv A outer s H E L0 i => jb_one (js_ret (JF.je (comp_ [("number", 2)] sc_all_counts.nd i (ji_range1 rfl (c.free 4) (ja_cons (je_bin op_addD prim_add (bi_ call_len prim_len (c.free 1) (ja_cons (v_ 1) (ja_nil))) (je_int)) (ja_nil))) (fun _ _ _ _ _ _ => g_ 2 sc_all_counts.nd) (fun _ _ _ _ _ _ i => jpts_nil) (fun _ _ _ _ _ _ i => call_ (ok_counts_behind_by c) i (ja_cons (v_ 0) (ja_cons (v_ 1) (ja_cons (v_ 2) (ja_nil))))) (blk_of (N := N_all_counts) (sc := sp_all_counts) (by decide +kernel))))))
/-! first_unlawful_by -/
abbrev st_first_unlawful_by : Stmt := top 89
abbrev N_first_unlawful_by : List Str := ["line", "log", "number", "counts"]
abbrev sp_first_unlawful_by : Scope := defScope st_first_unlawful_by
def m_first_unlawful_by : PN := defM 4 (sSeq (sFor (iEnum' (aCons (eN (callN 2 m_all_counts) (aCons (eVar 0) (aCons (eVar 1) (aNil)))) (aNil))) (gSeq 2 (gConsM (gSet 2) (gConsM (gSet 3) (gNilM))))
 (sIf (bNot (bT (eN (callN 2 m_can_be_by) (aCons (eVar 0) (aCons (eVar 3) (aNil))))))
 (sRet (eVar 2))
 (sNil)))
 (sRet (eC .non)))
theorem sc_first_unlawful_by : FnScope N_first_unlawful_by ["line", "log"] (defScope st_first_unlawful_by) := ⟨rfl, rfl, rfl, by decide +kernel, rfl, by decide +kernel, by decide +kernel⟩
theorem ok_first_unlawful_by (c : Cn K mg) : FnD P w K mg base 6 "first_unlawful_by" ["line", "log"] m_first_unlawful_by :=
 fnD_of (c.glo 80) (c.fn 58 (d := d_first_unlawful_by)) sc_first_unlawful_by (fun _ _ _ _ _ _ us hl => match us, hl with | [_, _], _ => rfl) (fun _ _ _ _ _ _ us hl => match us, hl with | [_, _], _ => rfl) (fun _ _ _ _ _ _ us hl => match us, hl with | [_, _], _ => rfl)
  (fun cdv hcv A outer s H E L0 i => jb_cons (for_ (st := false) i (ji_enum rfl (c.free 7) (ja_cons (call_ (ok_all_counts c) i (ja_cons (v_ 0) (ja_cons (v_ 1) (ja_nil)))) (ja_nil))) (jg_seq rfl (jgs_cons (g_ 2 sc_first_unlawful_by.nd) (jgs_cons (g_ 3 sc_first_unlawful_by.nd) (jgs_nil))))
 (jb_one (js_if (O' := []) (jt_not (jt_val (call_ (ok_can_be_by c) i (ja_cons (v_ 0) (ja_cons (v_ 3) (ja_nil))))))
 (jb_one (js_ret (v_ 2)))
 (jb_nil))))
 (jb_one (js_ret (je_non))))
/-! check_logged -/
abbrev st_check_logged : Stmt := top 91
abbrev N_check_logged : List Str := ["line", "log"]
abbrev sp_check_logged : Scope := defScope st_check_logged
def m_check_logged : PN := defM 2 (sSeq (sDrop (eN (callN 1 m_check_line) (aCons (eVar 0) (aNil))))
 (sDrop (eN (callN 2 m_check_log) (aCons (eVar 0) (aCons (eVar 1) (aNil))))))
theorem sc_check_logged : FnScope N_check_logged ["line", "log"] (defScope st_check_logged) := ⟨rfl, rfl, rfl, by decide +kernel, rfl, by decide +kernel, by decide +kernel⟩
theorem ok_check_logged (c : Cn K mg) : FnD P w K mg base 8 "check_logged" ["line", "log"] m_check_logged :=
 fnD_of (c.glo 81) (c.fn 59 (d := d_check_logged)) sc_check_logged (fun _ _ _ _ _ _ us hl => match us, hl with | [_, _], _ => rfl) (fun _ _ _ _ _ _ us hl => match us, hl with | [_, _], _ => rfl) (fun _ _ _ _ _ _ us hl => match us, hl with | [_, _], _ => rfl)
  (fun cdv hcv A outer s H E L0 i => jb_cons (js_expr (call_ (ok_check_line c) i (ja_cons (v_ 0) (ja_nil))))
 (jb_one (js_expr (call_ (ok_check_log c) i (ja_cons (v_ 0) (ja_cons (v_ 1) (ja_nil)))))))
/-! is_lawful -/
abbrev st_is_lawful : Stmt := top 92
abbrev N_is_lawful : List Str := ["line", "log"]
abbrev sp_is_lawful : Scope := defScope st_is_lawful
def m_is_lawful : PN := defM 2 (sSeq (sDrop (eN (callN 2 m_check_logged) (aCons (eVar 0) (aCons (eVar 1) (aNil)))))
 (sRet (eBin isND (eN (callN 2 m_first_unlawful_by) (aCons (eVar 0) (aCons (eVar 1) (aNil)))) (eC .non))))
theorem sc_is_lawful : FnScope N_is_lawful ["line", "log"] (defScope st_is_lawful) := ⟨rfl, rfl, rfl, by decide +kernel, rfl, by decide +kernel, by decide +kernel⟩
theorem ok_is_lawful (c : Cn K mg) : FnD P w K mg base 9 "is_lawful" ["line", "log"] m_is_lawful :=
 fnD_of (c.glo 82) (c.fn 60 (d := d_is_lawful)) sc_is_lawful (fun _ _ _ _ _ _ us hl => match us, hl with | [_, _], _ => rfl) (fun _ _ _ _ _ _ us hl => match us, hl with | [_, _], _ => rfl) (fun _ _ _ _ _ _ us hl => match us, hl with | [_, _], _ => rfl)
  (fun cdv hcv A outer s H E L0 i => jb_cons (js_expr (call_ (ok_check_logged c) i (ja_cons (v_ 0) (ja_cons (v_ 1) (ja_nil)))))
 (jb_one (js_ret (je_cmp op_isN prim_isN (call_ (ok_first_unlawful_by c) i (ja_cons (v_ 0) (ja_cons (v_ 1) (ja_nil)))) (je_non) (nomark _)))))
/-! _law_pool -/
abbrev st__law_pool : Stmt := top 94
abbrev N__law_pool : List Str := ["script", "turn", "own", "stirred", "cell"]
abbrev sp__law_pool : Scope := defScope st__law_pool
def m__law_pool : PN := defM 5 (sSeq (sPar 2 3 (aCons (eIf (bT (eBin (cmpD fun i j => decide (i < j)) (eVar 1) (eN lenN (aCons (eVar 0) (aNil))))) (eN intN (aCons (eBin ixD (eVar 0) (eVar 1)) (aNil))) (eBin addD (eBin mulD (eC (.int 70001)) (eVar 1)) (eC (.int 2247)))) (aCons (eBin addD (eC (.int 652918)) (eBin mulD (eC (.int 5087)) (eVar 1))) (aNil))))
 (sSeq (sFor (iIt (eSl (eVar 0) oNone (oSome (eC (.int 63))))) (gSet 4)
 (sSet 3 (eBin modD (eN intN (aCons (eBin addD (eBin addD (eBin mulD (eVar 3) (eC (.int 48271))) (eBin modD (eN intN (aCons (eVar 4) (aNil))) (eC (.int 2147483549)))) (eC (.int 423))) (aNil))) (eC (.int 2147483549)))))
 (sRet (eCell (fLst (aCons (eBin modD (eN intN (aCons (eBin addD (eVar 3) (eBin mulD (eVar 2) (eC (.int 1013)))) (aNil))) (eC (.int 2147483549))) (aCons (eIf (bOr (bT (eBin (cmpD fun i j => decide (i < j)) (eVar 2) (eC (.int 0)))) (bT (eBin (cmpD fun i j => decide (j ≤ i)) (eVar 2) (eBin powD (eC (.int 10)) (eC (.int 18)))))) (eN absN (aCons (eVar 2) (aNil))) (eC (.int 0))) (aCons (eC (.int 0)) (aNil)))))))))
theorem sc__law_pool : FnScope N__law_pool ["script", "turn"] (defScope st__law_pool) := ⟨rfl, rfl, rfl, by decide +kernel, rfl, by decide +kernel, by decide +kernel⟩
theorem ok__law_pool (c : Cn K mg) : FnD P w K mg base 1 "_law_pool" ["script", "turn"] m__law_pool :=
 fnD_of (c.glo 84) (c.fn 61 (d := d__law_pool)) sc__law_pool (fun _ _ _ _ _ _ us hl => match us, hl with | [_, _], _ => rfl) (fun _ _ _ _ _ _ us hl => match us, hl with | [_, _], _ => rfl) (fun _ _ _ _ _ _ us hl => match us, hl with | [_, _], _ => rfl)
  (fun cdv hcv A outer s H E L0 i => jb_cons (par_ 2 3 sc__law_pool.nd i (ja_cons (je_ifx (jt_cmp op_lt prim_cmp (v_ 1) (bi_ call_len prim_len (c.free 1) (ja_cons (v_ 0) (ja_nil))) (nomark _)) (bt_ call_intN prim_intN (c.free 0) (ja_cons (je_ix (v_ 0) (v_ 1)) (ja_nil))) (je_bin op_addD prim_add (je_bin op_mulD prim_mul (je_int) (v_ 1)) (je_int))) (ja_cons (je_bin op_addD prim_add (je_int) (je_bin op_mulD prim_mul (je_int) (v_ 1))) (ja_nil))))
 (jb_cons (for_ (st := false) i (ji_it (je_slice (v_ 0) jo_none (jo_some (je_int)))) (g_ 4 sc__law_pool.nd)
 (jb_one (set_ 3 sc__law_pool.nd (je_bin op_mod prim_mod (bt_ call_intN prim_intN (c.free 0) (ja_cons (je_bin op_addD prim_add (je_bin op_addD prim_add (je_bin op_mulD prim_mul (v_ 3) (je_int)) (je_bin op_mod prim_mod (bt_ call_intN prim_intN (c.free 0) (ja_cons (v_ 4) (ja_nil))) (je_int))) (je_int)) (ja_nil))) (je_int)))))
 (jb_one (js_ret (JF.cell (jf_lst (ja_cons (je_bin op_mod prim_mod (bt_ call_intN prim_intN (c.free 0) (ja_cons (je_bin op_addD prim_add (v_ 3) (je_bin op_mulD prim_mul (v_ 2) (je_int))) (ja_nil))) (je_int)) (ja_cons (je_ifx (JW.jt (jw_or (jt_cmp op_lt prim_cmp (v_ 2) (je_int) (nomark _)) (jw_or1 (jt_cmp op_ge prim_cmp (v_ 2) (je_bin op_pow prim_pow (je_int) (je_int)) (nomark _))))) (bi_ call_abs prim_abs (c.free 83) (ja_cons (v_ 2) (ja_nil))) (je_int)) (ja_cons (je_int) (ja_nil))))))))))
/-! _law_draw -/
abbrev st__law_draw : Stmt := top 95
abbrev N__law_draw : List Str := ["pool", "many", "figure", "held"]
abbrev sp__law_draw : Scope := defScope st__law_draw
def m__law_draw : PN := defM 4 (sSeq (sIf (bT (eBin (cmpD fun i j => decide (j < i)) (eBin ixD (eVar 0) (eC (.int 1))) (eC (.int 0))))
 (sSeq (sAsg (eN divmodN (aCons (eBin ixD (eVar 0) (eC (.int 1))) (aCons (eVar 1) (aNil)))) (gSeq 2 (gConsM (gCell (eVar 0) (eC (.int 1))) (gConsM (gSet 2) (gNilM)))))
 (sRet (eVar 2)))
 (sNil))
 (sSeq (sAsg (eBin addD (eBin ixD (eVar 0) (eC (.int 2))) (eC (.int 1))) (gCell (eVar 0) (eC (.int 2))))
 (sSeq (sSet 3 (eN intN (aCons (eBin ixD (eVar 0) (eC (.int 0))) (aNil))))
 (sSeq (sAsg (eBin modD (eN intN (aCons (eBin addD (eBin addD (eBin mulD (eVar 3) (eBin addD (eBin modD (eVar 3) (eC (.int 20011))) (eC (.int 30011)))) (eBin mulD (eC (.int 70001)) (eBin ixD (eVar 0) (eC (.int 2))))) (eC (.int 9))) (aNil))) (eC (.int 2147483549))) (gCell (eVar 0) (eC (.int 0))))
 (sRet (eBin modD (eN intN (aCons (eBin fdivD (eBin ixD (eVar 0) (eC (.int 0))) (eC (.int 128))) (aNil))) (eVar 1)))))))
theorem sc__law_draw : FnScope N__law_draw ["pool", "many"] (defScope st__law_draw) := ⟨rfl, rfl, rfl, by decide +kernel, rfl, by decide +kernel, by decide +kernel⟩
theorem ok__law_draw (c : Cn K mg) : FnD P w K mg base 1 "_law_draw" ["pool", "many"] m__law_draw :=
 fnD_of (c.glo 86) (c.fn 62 (d := d__law_draw)) sc__law_draw (fun _ _ _ _ _ _ us hl => match us, hl with | [_, _], _ => rfl) (fun _ _ _ _ _ _ us hl => match us, hl with | [_, _], _ => rfl) (fun _ _ _ _ _ _ us hl => match us, hl with | [_, _], _ => rfl)
  (fun cdv hcv A outer s H E L0 i => jb_cons (js_if (O' := []) (jt_cmp op_gt prim_cmp (je_ix (v_ 0) (je_int)) (je_int) (nomark _))
 (jb_cons (js_asg (st := false) (bi_ call_divmod prim_divmod (c.free 85) (ja_cons (je_ix (v_ 0) (je_int)) (ja_cons (v_ 1) (ja_nil)))) (jg_seq rfl (jgs_cons (jg_cell (W := Wf) (v_ 0) (je_int)) (jgs_cons (g_ 2 sc__law_draw.nd) (jgs_nil)))))
 (jb_one (js_ret (v_ 2))))
 (jb_nil))
 (jb_cons (js_asg (st := false) (je_bin op_addD prim_add (je_ix (v_ 0) (je_int)) (je_int)) (jg_cell (W := Wf) (v_ 0) (je_int)))
 (jb_cons (set_ 3 sc__law_draw.nd (bt_ call_intN prim_intN (c.free 0) (ja_cons (je_ix (v_ 0) (je_int)) (ja_nil))))
 (jb_cons (js_asg (st := false) (je_bin op_mod prim_mod (bt_ call_intN prim_intN (c.free 0) (ja_cons (je_bin op_addD prim_add (je_bin op_addD prim_add (je_bin op_mulD prim_mul (v_ 3) (je_bin op_addD prim_add (je_bin op_mod prim_mod (v_ 3) (je_int)) (je_int))) (je_bin op_mulD prim_mul (je_int) (je_ix (v_ 0) (je_int)))) (je_int)) (ja_nil))) (je_int)) (jg_cell (W := Wf) (v_ 0) (je_int)))
 (jb_one (js_ret (je_bin op_mod prim_mod (bt_ call_intN prim_intN (c.free 0) (ja_cons (je_bin op_fdiv prim_fdiv (je_ix (v_ 0) (je_int)) (je_int)) (ja_nil))) (v_ 1))))))))
/-! _law_pick -/
abbrev st__law_pick : Stmt := top 96
abbrev N__law_pick : List Str := ["pool", "some"]
abbrev sp__law_pick : Scope := defScope st__law_pick
def m__law_pick : PN := defM 2 (sRet (eBin ixD (eVar 1) (eN (callN 2 m__law_draw) (aCons (eVar 0) (aCons (eN lenN (aCons (eVar 1) (aNil))) (aNil))))))
theorem sc__law_pick : FnScope N__law_pick ["pool", "some"] (defScope st__law_pick) := ⟨rfl, rfl, rfl, by decide +kernel, rfl, by decide +kernel, by decide +kernel⟩
theorem ok__law_pick (c : Cn K mg) : FnD P w K mg base 2 "_law_pick" ["pool", "some"] m__law_pick :=
 fnD_of (c.glo 87) (c.fn 63 (d := d__law_pick)) sc__law_pick (fun _ _ _ _ _ _ us hl => match us, hl with | [_, _], _ => rfl) (fun _ _ _ _ _ _ us hl => match us, hl with | [_, _], _ => rfl) (fun _ _ _ _ _ _ us hl => match us, hl with | [_, _], _ => rfl)
  (fun cdv hcv A outer s H E L0 i => jb_one (js_ret (je_ix (v_ 1) (call_ (ok__law_draw c) i (ja_cons (v_ 0) (ja_cons (bi_ call_len prim_len (c.free 1) (ja_cons (v_ 1) (ja_nil))) (ja_nil)))))))
/-! _law_line -/
abbrev st__law_line : Stmt := top 97
abbrev N__law_line : List Str := ["pool", "least", "most", "high", "found", "step", "begin"]
abbrev sp__law_line : Scope := defScope st__law_line
def m__law_line : PN := defM 7 (sSeq (sPar 3 4 (aCons (eN (callN 2 m__law_pick) (aCons (eVar 0) (aCons (eN lstN (aCons (eC (.int 1)) (aCons (eC (.int 3)) (aCons (eC (.int 5)) (aNil))))) (aNil)))) (aCons (eN tupN (aNil)) (aNil))))
 (sSeq (sFor (iRange1 (aCons (eBin addD (eVar 1) (eN (callN 2 m__law_draw) (aCons (eVar 0) (aCons (eBin addD (eBin subD (eVar 2) (eVar 1)) (eC (.int 1))) (aNil))))) (aNil))) (gSet 5)
 (sSeq (sSet 6 (eN (callN 2 m__law_draw) (aCons (eVar 0) (aCons (eBin addD (eVar 3) (eC (.int 1))) (aNil)))))
 (sSet 4 (eBin addD (eVar 4) (eN tupN (aCons (eN tupN (aCons (eVar 6) (aCons (eN (callN 2 m__law_pick) (aCons (eVar 0) (aCons (eN lstN (aCons (eC .non) (aCons (eC .non) (aCons (eVar 6) (aCons (eBin addD (eVar 6) (eC (.int 1))) (aCons (eBin addD (eVar 6) (eN (callN 2 m__law_draw) (aCons (eVar 0) (aCons (eC (.int 5)) (aNil))))) (aNil))))))) (aNil)))) (aNil)))) (aNil)))))))
 (sRet (eVar 4))))
theorem sc__law_line : FnScope N__law_line ["pool", "least", "most"] (defScope st__law_line) := ⟨rfl, rfl, rfl, by decide +kernel, rfl, by decide +kernel, by decide +kernel⟩
theorem ok__law_line (c : Cn K mg) : FnD P w K mg base 3 "_law_line" ["pool", "least", "most"] m__law_line :=
 fnD_of (c.glo 88) (c.fn 64 (d := d__law_line)) sc__law_line (fun _ _ _ _ _ _ us hl => match us, hl with | [_, _, _], _ => rfl) (fun _ _ _ _ _ _ us hl => match us, hl with | [_, _, _], _ => rfl) (fun _ _ _ _ _ _ us hl => match us, hl with | [_, _, _], _ => rfl)
  (fun cdv hcv A outer s H E L0 i => jb_cons (par_ 3 4 sc__law_line.nd i (ja_cons (call_ (ok__law_pick c) i (ja_cons (v_ 0) (ja_cons (je_lst (ja_cons (je_int) (ja_cons (je_int) (ja_cons (je_int) (ja_nil))))) (ja_nil)))) (ja_cons (je_tup (ja_nil)) (ja_nil))))
 (jb_cons (for_ (st := false) i (ji_range1 rfl (c.free 4) (ja_cons (je_bin op_addD prim_add (v_ 1) (call_ (ok__law_draw c) i (ja_cons (v_ 0) (ja_cons (je_bin op_addD prim_add (je_bin op_sub prim_sub (v_ 2) (v_ 1)) (je_int)) (ja_nil))))) (ja_nil))) (g_ 5 sc__law_line.nd)
 (jb_cons (set_ 6 sc__law_line.nd (call_ (ok__law_draw c) i (ja_cons (v_ 0) (ja_cons (je_bin op_addD prim_add (v_ 3) (je_int)) (ja_nil)))))
 (jb_one (set_ 4 sc__law_line.nd (je_bin op_addD prim_add (v_ 4) (je_tup (ja_cons (je_tup (ja_cons (v_ 6) (ja_cons (call_ (ok__law_pick c) i (ja_cons (v_ 0) (ja_cons (je_lst (ja_cons (je_non) (ja_cons (je_non) (ja_cons (v_ 6) (ja_cons (je_bin op_addD prim_add (v_ 6) (je_int)) (ja_cons (je_bin op_addD prim_add (v_ 6) (call_ (ok__law_draw c) i (ja_cons (v_ 0) (ja_cons (je_int) (ja_nil))))) (ja_nil))))))) (ja_nil)))) (ja_nil)))) (ja_nil))))))))
 (jb_one (js_ret (v_ 4)))))
/-! _law_counts -/
abbrev st__law_counts : Stmt := top 98
abbrev N__law_counts : List Str := ["pool", "many", "high", "low", "joint"]
abbrev sp__law_counts : Scope := defScope st__law_counts
def m__law_counts : PN := defM 5 (sSeq (sSet 3 (eBin subD (eN (callN 2 m__law_draw) (aCons (eVar 0) (aCons (eC (.int 4)) (aNil)))) (eC (.int 3))))
 (sRet (eN tupleN (aCons (eLst (fComp (iRange1 (aCons (eVar 1) (aNil))) (gSet 4) (bTrue) (eBin addD (eVar 3) (eN (callN 2 m__law_draw) (aCons (eVar 0) (aCons (eBin addD (eVar 2) (eC (.int 1))) (aNil))))) [4])) (aNil)))))
theorem sc__law_counts : FnScope N__law_counts ["pool", "many", "high"] (defScope st__law_counts) := ⟨rfl, rfl, rfl, by decide +kernel, rfl, by decide +kernel, by decide +kernel⟩
theorem ok__law_counts (c : Cn K mg) : FnD P w K mg base 2 "_law_counts" ["pool", "many", "high"] m__law_counts :=
 fnD_of (c.glo 89) (c.fn 65 (d := d__law_counts)) sc__law_counts (fun _ _ _ _ _ _ us hl => match us, hl with | [_, _, _], _ => rfl) (fun _ _ _ _ _ _ us hl => match us, hl with | [_, _, _], _ => rfl) (fun _ _ _ _ _ _ us hl => match us, hl with | [_, _, _], _ => rfl)
  (fun cdv hcv A outer s H E L0 i => jb_cons (set_ 3 sc__law_counts.nd (je_bin op_sub prim_sub (call_ (ok__law_draw c) i (ja_cons (v_ 0) (ja_cons (je_int) (ja_nil)))) (je_int)))
 (jb_one (js_ret (bt_ call_tuple_of prim_tuple (c.free 18) (ja_cons (JF.je (comp_ [("joint", 4)] sc__law_counts.nd i (ji_range1 rfl (c.free 4) (ja_cons (v_ 1) (ja_nil))) (fun _ _ _ _ _ _ => g_ 4 sc__law_counts.nd) (fun _ _ _ _ _ _ i => jpts_nil) (fun _ _ _ _ _ _ i => je_bin op_addD prim_add (v_ 3) (call_ (ok__law_draw c) i (ja_cons (v_ 0) (ja_cons (je_bin op_addD prim_add (v_ 2) (je_int)) (ja_nil))))) (blk_of (N := N__law_counts) (sc := sp__law_counts) (by decide +kernel)))) (ja_nil))))))
/-! _law_loads -/
abbrev st__law_loads : Stmt := top 99
abbrev N__law_loads : List Str := ["line", "counts", "k"]
abbrev sp__law_loads : Scope := defScope st__law_loads
def m__law_loads : PN := defM 3 (sRet (eN tupleN (aCons (eLst (fComp (iRange1 (aCons (eN lenN (aCons (eVar 0) (aNil))) (aNil))) (gSet 2) (bTrue) (eBin subD (eBin addD (eBin ixD (eBin ixD (eVar 0) (eVar 2)) (eC (.int 0))) (eBin ixD (eVar 1) (eVar 2))) (eBin ixD (eVar 1) (eBin addD (eVar 2) (eC (.int 1))))) [2])) (aNil))))
theorem sc__law_loads : FnScope N__law_loads ["line", "counts"] (defScope st__law_loads) := ⟨rfl, rfl, rfl, by decide +kernel, rfl, by decide +kernel, by decide +kernel⟩
theorem ok__law_loads (c : Cn K mg) : FnD P w K mg base 1 "_law_loads" ["line", "counts"] m__law_loads :=
 fnD_of (c.glo 90) (c.fn 66 (d := d__law_loads)) sc__law_loads (fun _ _ _ _ _ _ us hl => match us, hl with | [_, _], _ => rfl) (fun _ _ _ _ _ _ us hl => match us, hl with | [_, _], _ => rfl) (fun _ _ _ _ _ _ us hl => match us, hl with | [_, _], _ => rfl)
  (fun cdv hcv A outer s H E L0 i => jb_one (js_ret (bt_ call_tuple_of prim_tuple (c.free 18) (ja_cons (JF.je (comp_ [("k", 2)] sc__law_loads.nd i (ji_range1 rfl (c.free 4) (ja_cons (bi_ call_len prim_len (c.free 1) (ja_cons (v_ 0) (ja_nil))) (ja_nil))) (fun _ _ _ _ _ _ => g_ 2 sc__law_loads.nd) (fun _ _ _ _ _ _ i => jpts_nil) (fun _ _ _ _ _ _ i => je_bin op_sub prim_sub (je_bin op_addD prim_add (je_ix (je_ix (v_ 0) (v_ 2)) (je_int)) (je_ix (v_ 1) (v_ 2))) (je_ix (v_ 1) (je_bin op_addD prim_add (v_ 2) (je_int)))) (blk_of (N := N__law_loads) (sc := sp__law_loads) (by decide +kernel)))) (ja_nil)))))
def tab__law_heard_call : Str → Option (Nat × PN) := fun y => if y = "counts_text" then some (2, m_counts_text) else if y = "log_text" then some (2, m_log_text) else if y = "read_counts" then some (2, m_read_counts) else if y = "read_log" then some (2, m_read_log) else none
theorem tk__law_heard_call {X : Cx} {W : WX} {j : Nat} (c : Cn X.K X.mg) (i : In X W j) (h : 8 ≤ j := by decide) : ∀ y nF, tab__law_heard_call y = some nF → FnAt X y nF.1 nF.2 := fun y nF e => by
  unfold tab__law_heard_call at e
  split at e
  · rename_i hy
    subst hy
    cases e
    exact (ok_counts_text (P := X.prog) (w := X.w) (base := X.base) c).at i (by omega)
  ·
    split at e
    · rename_i hy
      subst hy
      cases e
      exact (ok_log_text (P := X.prog) (w := X.w) (base := X.base) c).at i (by omega)
    ·
      split at e
      · rename_i hy
        subst hy
        cases e
        exact (ok_read_counts (P := X.prog) (w := X.w) (base := X.base) c).at i (by omega)
      ·
        split at e
        · rename_i hy
          subst hy
          cases e
          exact (ok_read_log (P := X.prog) (w := X.w) (base := X.base) c).at i (by omega)
        · cases e
/-! _law_heard -/
abbrev st__law_heard : Stmt := top 100
abbrev N__law_heard : List Str := ["call", "args", "e", "found"]
abbrev sp__law_heard : Scope := defScope st__law_heard
def m__law_heard : PN := defM 4 (sSeq (sTryAs (sIf (bT (eBin eqD (eN lenN (aCons (eVar 1) (aNil))) (eC (.int 1))))
 (sDrop (eCallV 0 tab__law_heard_call (aCons (eBin ixD (eVar 1) (eC (.int 0))) (aNil))))
 (sIf (bT (eBin eqD (eN lenN (aCons (eVar 1) (aNil))) (eC (.int 2))))
 (sDrop (eCallV 0 tab__law_heard_call (aCons (eBin ixD (eVar 1) (eC (.int 0))) (aCons (eBin ixD (eVar 1) (eC (.int 1))) (aNil)))))
 (sIf (bT (eBin eqD (eN lenN (aCons (eVar 1) (aNil))) (eC (.int 3))))
 (sDrop (eCallV 0 tab__law_heard_call (aCons (eBin ixD (eVar 1) (eC (.int 0))) (aCons (eBin ixD (eVar 1) (eC (.int 1))) (aCons (eBin ixD (eVar 1) (eC (.int 2))) (aNil))))))
 (sIf (bT (eBin eqD (eN lenN (aCons (eVar 1) (aNil))) (eC (.int 4))))
 (sDrop (eCallV 0 tab__law_heard_call (aCons (eBin ixD (eVar 1) (eC (.int 0))) (aCons (eBin ixD (eVar 1) (eC (.int 1))) (aCons (eBin ixD (eVar 1) (eC (.int 2))) (aCons (eBin ixD (eVar 1) (eC (.int 3))) (aNil)))))))
 (sDrop (eCallV 0 tab__law_heard_call (aCons (eBin ixD (eVar 1) (eC (.int 0))) (aCons (eBin ixD (eVar 1) (eC (.int 1))) (aCons (eBin ixD (eVar 1) (eC (.int 2))) (aCons (eBin ixD (eVar 1) (eC (.int 3))) (aCons (eBin ixD (eVar 1) (eC (.int 4))) (aNil)))))))))))) (etab "AxleError") 2
 (sSeq (sSet 3 (eN lstN (aNil)))
 (sSeq (sSet 3 (eBin addD (eVar 3) (eIf (bT (eIsX (eVar 2) (itab "InvalidLine"))) (eN lstN (aCons (eN lstN (aCons (eC (.str "line")) (aCons (eXf (eVar 2) "index" (xtab "index")) (aNil)))) (aNil))) (eN lstN (aNil)))))
 (sSeq (sSet 3 (eBin addD (eVar 3) (eIf (bT (eIsX (eVar 2) (itab "InvalidCounts"))) (eN lstN (aCons (eN lstN (aCons (eC (.str "counts")) (aCons (eXf (eVar 2) "index" (xtab "index")) (aNil)))) (aNil))) (eN lstN (aNil)))))
 (sSeq (sSet 3 (eBin addD (eVar 3) (eIf (bT (eIsX (eVar 2) (itab "InvalidLog"))) (eN lstN (aCons (eN lstN (aCons (eC (.str "log")) (aCons (eXf (eVar 2) "index" (xtab "index")) (aNil)))) (aNil))) (eN lstN (aNil)))))
 (sSeq (sSet 3 (eBin addD (eVar 3) (eIf (bT (eIsX (eVar 2) (itab "InvalidText"))) (eN lstN (aCons (eN lstN (aCons (eC (.str "text")) (aCons (eXf (eVar 2) "index" (xtab "index")) (aNil)))) (aNil))) (eN lstN (aNil)))))
 (sRet (eIf (bAnd (bT (eBin eqD (eN lenN (aCons (eVar 3) (aNil))) (eC (.int 1)))) (bT (eIsX (eVar 2) (ittab "ValueError")))) (eBin ixD (eVar 3) (eC (.int 0))) (eN lstN (aCons (eC (.str "another")) (aCons (eVar 3) (aNil))))))))))))
 (sRet (eN lstN (aCons (eC (.str "told")) (aCons (eC .non) (aNil))))))
theorem sc__law_heard : FnScope N__law_heard ["call", "args"] (defScope st__law_heard) := ⟨rfl, rfl, rfl, by decide +kernel, rfl, by decide +kernel, by decide +kernel⟩
theorem ok__law_heard (c : Cn K mg) : FnD P w K mg base 9 "_law_heard" ["call", "args"] m__law_heard :=
 fnD_of (c.glo 97) (c.fn 67 (d := d__law_heard)) sc__law_heard (fun _ _ _ _ _ _ us hl => match us, hl with | [_, _], _ => rfl) (fun _ _ _ _ _ _ us hl => match us, hl with | [_, _], _ => rfl) (fun _ _ _ _ _ _ us hl => match us, hl with | [_, _], _ => rfl)
  (fun cdv hcv A outer s H E L0 i => jb_cons (js_tryAs i.calm rfl rfl sc__law_heard.nd (i := 2) rfl rfl ⟨rfl, by decide, .inl (c.glo 96)⟩ i.tk (c.ex "AxleError")
 (fun _ _ _ t p => have i := i.tr t p; jb_one (js_if (O' := []) (jt_cmp (op_eqX i.units) prim_eq (bi_ call_len prim_len (c.free 1) (ja_cons (v_ 1) (ja_nil))) (je_int) (nomark _))
 (jb_one (js_expr (callV_ 0 i (tk__law_heard_call c i) (ja_cons (je_ix (v_ 1) (je_int)) (ja_nil)))))
 (jb_one (js_if (O' := []) (jt_cmp (op_eqX i.units) prim_eq (bi_ call_len prim_len (c.free 1) (ja_cons (v_ 1) (ja_nil))) (je_int) (nomark _))
 (jb_one (js_expr (callV_ 0 i (tk__law_heard_call c i) (ja_cons (je_ix (v_ 1) (je_int)) (ja_cons (je_ix (v_ 1) (je_int)) (ja_nil))))))
 (jb_one (js_if (O' := []) (jt_cmp (op_eqX i.units) prim_eq (bi_ call_len prim_len (c.free 1) (ja_cons (v_ 1) (ja_nil))) (je_int) (nomark _))
 (jb_one (js_expr (callV_ 0 i (tk__law_heard_call c i) (ja_cons (je_ix (v_ 1) (je_int)) (ja_cons (je_ix (v_ 1) (je_int)) (ja_cons (je_ix (v_ 1) (je_int)) (ja_nil)))))))
 (jb_one (js_if (O' := []) (jt_cmp (op_eqX i.units) prim_eq (bi_ call_len prim_len (c.free 1) (ja_cons (v_ 1) (ja_nil))) (je_int) (nomark _))
 (jb_one (js_expr (callV_ 0 i (tk__law_heard_call c i) (ja_cons (je_ix (v_ 1) (je_int)) (ja_cons (je_ix (v_ 1) (je_int)) (ja_cons (je_ix (v_ 1) (je_int)) (ja_cons (je_ix (v_ 1) (je_int)) (ja_nil))))))))
 (jb_one (js_expr (callV_ 0 i (tk__law_heard_call c i) (ja_cons (je_ix (v_ 1) (je_int)) (ja_cons (je_ix (v_ 1) (je_int)) (ja_cons (je_ix (v_ 1) (je_int)) (ja_cons (je_ix (v_ 1) (je_int)) (ja_cons (je_ix (v_ 1) (je_int)) (ja_nil)))))))))))))))))
 (fun _ _ _ hz => jb_cons (set_ 3 sc__law_heard.nd (je_lst (ja_nil)))
 (jb_cons (set_ 3 sc__law_heard.nd (je_bin op_addD prim_add (v_ 3) (je_ifx (jt_val (je_isX hz (v_ 2) (fn_ (c.glo 91)) (vc := .ref (He.ga _ "InvalidLine")) (cv := .ref (He.ga _ "InvalidLine")) (fun _ _ _ _ h => by unfold Rep at h; exact h) (fun _ h => h) (c.isx "InvalidLine") rfl (c.free 10))) (je_lst (ja_cons (je_lst (ja_cons (je_str) (ja_cons (je_xf hz (c.xf "index") (v_ 2)) (ja_nil)))) (ja_nil))) (je_lst (ja_nil)))))
 (jb_cons (set_ 3 sc__law_heard.nd (je_bin op_addD prim_add (v_ 3) (je_ifx (jt_val (je_isX hz (v_ 2) (fn_ (c.glo 92)) (vc := .ref (He.ga _ "InvalidCounts")) (cv := .ref (He.ga _ "InvalidCounts")) (fun _ _ _ _ h => by unfold Rep at h; exact h) (fun _ h => h) (c.isx "InvalidCounts") rfl (c.free 10))) (je_lst (ja_cons (je_lst (ja_cons (je_str) (ja_cons (je_xf hz (c.xf "index") (v_ 2)) (ja_nil)))) (ja_nil))) (je_lst (ja_nil)))))
 (jb_cons (set_ 3 sc__law_heard.nd (je_bin op_addD prim_add (v_ 3) (je_ifx (jt_val (je_isX hz (v_ 2) (fn_ (c.glo 93)) (vc := .ref (He.ga _ "InvalidLog")) (cv := .ref (He.ga _ "InvalidLog")) (fun _ _ _ _ h => by unfold Rep at h; exact h) (fun _ h => h) (c.isx "InvalidLog") rfl (c.free 10))) (je_lst (ja_cons (je_lst (ja_cons (je_str) (ja_cons (je_xf hz (c.xf "index") (v_ 2)) (ja_nil)))) (ja_nil))) (je_lst (ja_nil)))))
 (jb_cons (set_ 3 sc__law_heard.nd (je_bin op_addD prim_add (v_ 3) (je_ifx (jt_val (je_isX hz (v_ 2) (fn_ (c.glo 94)) (vc := .ref (He.ga _ "InvalidText")) (cv := .ref (He.ga _ "InvalidText")) (fun _ _ _ _ h => by unfold Rep at h; exact h) (fun _ h => h) (c.isx "InvalidText") rfl (c.free 10))) (je_lst (ja_cons (je_lst (ja_cons (je_str) (ja_cons (je_xf hz (c.xf "index") (v_ 2)) (ja_nil)))) (ja_nil))) (je_lst (ja_nil)))))
 (jb_one (js_ret (je_ifx (JW.jt (jw_and (jt_cmp (op_eqX i.units) prim_eq (bi_ call_len prim_len (c.free 1) (ja_cons (v_ 3) (ja_nil))) (je_int) (nomark _)) (jw_and1 (jt_val (je_isX hz (v_ 2) (ty_ (c.free 95)) (vc := .ty "ValueError") (cv := .type "ValueError") (fun _ _ _ _ h => by unfold Rep at h; exact h) (fun _ h => h) (c.isxt "ValueError") rfl (c.free 10)))))) (je_ix (v_ 3) (je_int)) (je_lst (ja_cons (je_str) (ja_cons (v_ 3) (ja_nil)))))))))))))
 (jb_one (js_ret (je_lst (ja_cons (je_str) (ja_cons (je_non) (ja_nil)))))))
/-! _law_refused_right -/
abbrev st__law_refused_right : Stmt := top 101
abbrev N__law_refused_right : List Str := ["pool", "call", "args", "some", "k", "thing", "word", "kept", "heard", "first", "second", "each"]
abbrev sp__law_refused_right : Scope := defScope st__law_refused_right
def m__law_refused_right : PN := defM 12 (sSeq (sFor (iRange1 (aCons (eN lenN (aCons (eVar 2) (aNil))) (aNil))) (gSet 4)
 (sFor (iIt (eLst (fComp (iIt (eBin ixD (eVar 3) (eVar 4))) (gSet 11) (bT (eBin eqD (eN (callN 2 m__law_draw) (aCons (eVar 0) (aCons (eC (.int 2)) (aNil)))) (eC (.int 0)))) (eVar 11) [11]))) (gSeq 3 (gConsM (gSet 5) (gConsM (gSet 6) (gConsM (gSet 7) (gNilM)))))
 (sSeq (sSet 8 (eN (callN 2 m__law_heard) (aCons (eVar 1) (aCons (eBin addD (eBin addD (eSl (eVar 2) oNone (oSome (eVar 4))) (eN tupN (aCons (eVar 5) (aNil)))) (eSl (eVar 2) (oSome (eBin addD (eVar 4) (eC (.int 1)))) oNone)) (aNil)))))
 (sIf (bOr (bT (eBin neD (eBin ixD (eVar 8) (eC (.int 0))) (eVar 6))) (bT (eBin neD (eN reprN (aCons (eBin ixD (eVar 8) (eC (.int 1))) (aNil))) (eN reprN (aCons (eVar 7) (aNil))))))
 (sRet (eC (.bl false)))
 (sNil)))))
 (sSeq (sFor (iRange1 (aCons (eBin subD (eN lenN (aCons (eVar 2) (aNil))) (eC (.int 1))) (aNil))) (gSet 4)
 (sSeq (sPar 9 10 (aCons (eN (callN 2 m__law_pick) (aCons (eVar 0) (aCons (eBin ixD (eVar 3) (eVar 4)) (aNil)))) (aCons (eN (callN 2 m__law_pick) (aCons (eVar 0) (aCons (eBin ixD (eVar 3) (eBin addD (eVar 4) (eC (.int 1)))) (aNil)))) (aNil))))
 (sSeq (sSet 8 (eN (callN 2 m__law_heard) (aCons (eVar 1) (aCons (eBin addD (eBin addD (eSl (eVar 2) oNone (oSome (eVar 4))) (eN tupN (aCons (eBin ixD (eVar 9) (eC (.int 0))) (aCons (eBin ixD (eVar 10) (eC (.int 0))) (aNil))))) (eSl (eVar 2) (oSome (eBin addD (eVar 4) (eC (.int 2)))) oNone)) (aNil)))))
 (sIf (bOr (bT (eBin neD (eBin ixD (eVar 8) (eC (.int 0))) (eBin ixD (eVar 9) (eC (.int 1))))) (bT (eBin neD (eN reprN (aCons (eBin ixD (eVar 8) (eC (.int 1))) (aNil))) (eN reprN (aCons (eBin ixD (eVar 9) (eC (.int 2))) (aNil))))))
 (sRet (eC (.bl false)))
 (sNil)))))
 (sRet (eBin eqD (eBin ixD (eN (callN 2 m__law_heard) (aCons (eVar 1) (aCons (eVar 2) (aNil)))) (eC (.int 0))) (eC (.str "told"))))))
theorem sc__law_refused_right : FnScope N__law_refused_right ["pool", "call", "args", "some"] (defScope st__law_refused_right) := ⟨rfl, rfl, rfl, by decide +kernel, rfl, by decide +kernel, by decide +kernel⟩
theorem ok__law_refused_right (c : Cn K mg) : FnD P w K mg base 10 "_law_refused_right" ["pool", "call", "args", "some"] m__law_refused_right :=
 fnD_of (c.glo 99) (c.fn 68 (d := d__law_refused_right)) sc__law_refused_right (fun _ _ _ _ _ _ us hl => match us, hl with | [_, _, _, _], _ => rfl) (fun _ _ _ _ _ _ us hl => match us, hl with | [_, _, _, _], _ => rfl) (fun _ _ _ _ _ _ us hl => match us, hl with | [_, _, _, _], _ => rfl)
  (fun cdv hcv A outer s H E L0 i => jb_cons (for_ (st := false) i (ji_range1 rfl (c.free 4) (ja_cons (bi_ call_len prim_len (c.free 1) (ja_cons (v_ 2) (ja_nil))) (ja_nil))) (g_ 4 sc__law_refused_right.nd)
 (jb_one (for_ (st := false) i (ji_it (JF.je (comp_ [("each", 11)] sc__law_refused_right.nd i (ji_it (je_ix (v_ 3) (v_ 4))) (fun _ _ _ _ _ _ => g_ 11 sc__law_refused_right.nd) (fun _ _ _ _ _ _ i => jpts_one (jt_cmp (op_eqX i.units) prim_eq (call_ (ok__law_draw c) i (ja_cons (v_ 0) (ja_cons (je_int) (ja_nil)))) (je_int) (nomark _))) (fun _ _ _ _ _ _ i => v_ 11) (blk_of (N := N__law_refused_right) (sc := sp__law_refused_right) (by decide +kernel))))) (jg_seq rfl (jgs_cons (g_ 5 sc__law_refused_right.nd) (jgs_cons (g_ 6 sc__law_refused_right.nd) (jgs_cons (g_ 7 sc__law_refused_right.nd) (jgs_nil)))))
 (jb_cons (set_ 8 sc__law_refused_right.nd (call_ (ok__law_heard c) i (ja_cons (v_ 1) (ja_cons (je_bin op_addD prim_add (je_bin op_addD prim_add (je_slice (v_ 2) jo_none (jo_some (v_ 4))) (je_tup (ja_cons (v_ 5) (ja_nil)))) (je_slice (v_ 2) (jo_some (je_bin op_addD prim_add (v_ 4) (je_int))) jo_none)) (ja_nil)))))
 (jb_one (js_if (O' := []) (JW.jt (jw_or (jt_cmp (op_neX i.units) prim_ne (je_ix (v_ 8) (je_int)) (v_ 6) (nomark _)) (jw_or1 (jt_cmp (op_neX i.units) prim_ne (bi_ (call_repr i.gd i.units70) prim_repr (c.free 98) (ja_cons (je_ix (v_ 8) (je_int)) (ja_nil))) (bi_ (call_repr i.gd i.units70) prim_repr (c.free 98) (ja_cons (v_ 7) (ja_nil))) (nomark _)))))
 (jb_one (js_ret (je_bl)))
 (jb_nil)))))))
 (jb_cons (for_ (st := false) i (ji_range1 rfl (c.free 4) (ja_cons (je_bin op_sub prim_sub (bi_ call_len prim_len (c.free 1) (ja_cons (v_ 2) (ja_nil))) (je_int)) (ja_nil))) (g_ 4 sc__law_refused_right.nd)
 (jb_cons (par_ 9 10 sc__law_refused_right.nd i (ja_cons (call_ (ok__law_pick c) i (ja_cons (v_ 0) (ja_cons (je_ix (v_ 3) (v_ 4)) (ja_nil)))) (ja_cons (call_ (ok__law_pick c) i (ja_cons (v_ 0) (ja_cons (je_ix (v_ 3) (je_bin op_addD prim_add (v_ 4) (je_int))) (ja_nil)))) (ja_nil))))
 (jb_cons (set_ 8 sc__law_refused_right.nd (call_ (ok__law_heard c) i (ja_cons (v_ 1) (ja_cons (je_bin op_addD prim_add (je_bin op_addD prim_add (je_slice (v_ 2) jo_none (jo_some (v_ 4))) (je_tup (ja_cons (je_ix (v_ 9) (je_int)) (ja_cons (je_ix (v_ 10) (je_int)) (ja_nil))))) (je_slice (v_ 2) (jo_some (je_bin op_addD prim_add (v_ 4) (je_int))) jo_none)) (ja_nil)))))
 (jb_one (js_if (O' := []) (JW.jt (jw_or (jt_cmp (op_neX i.units) prim_ne (je_ix (v_ 8) (je_int)) (je_ix (v_ 9) (je_int)) (nomark _)) (jw_or1 (jt_cmp (op_neX i.units) prim_ne (bi_ (call_repr i.gd i.units70) prim_repr (c.free 98) (ja_cons (je_ix (v_ 8) (je_int)) (ja_nil))) (bi_ (call_repr i.gd i.units70) prim_repr (c.free 98) (ja_cons (je_ix (v_ 9) (je_int)) (ja_nil))) (nomark _)))))
 (jb_one (js_ret (je_bl)))
 (jb_nil))))))
 (jb_one (js_ret (je_cmp (op_eqX i.units) prim_eq (je_ix (call_ (ok__law_heard c) i (ja_cons (v_ 1) (ja_cons (v_ 2) (ja_nil)))) (je_int)) (je_str) (nomark _))))))
/-! _law_bad_lines -/
abbrev st__law_bad_lines : Stmt := top 102
abbrev N__law_bad_lines : List Str := ["line", "most", "last", "found", "some", "thing", "each"]
abbrev sp__law_bad_lines : Scope := defScope st__law_bad_lines
def m__law_bad_lines : PN := defM 7 (sSeq (sSet 2 (eBin subD (eN lenN (aCons (eVar 0) (aNil))) (eC (.int 1))))
 (sSeq (sSet 3 (eLst (fComp (iIt (eN lstN (aCons (eC .non) (aCons (eN tupN (aNil)) (aCons (eC (.int 0)) (aCons (eC (.str "line")) (aCons (eC (.bl true)) (aCons (eLst (fN listF (aCons (eVar 0) (aNil)))) (aCons (eC (.dic [])) (aCons (eBin mulD (eN tupN (aCons (eN tupN (aCons (eC (.int 1)) (aCons (eC .non) (aNil)))) (aNil))) (eBin addD (eVar 1) (eC (.int 1)))) (aNil))))))))))) (gSet 5) (bTrue) (eN lstN (aCons (eVar 5) (aCons (eC (.str "line")) (aCons (eC .non) (aNil))))) [5])))
 (sSeq (sSet 4 (eN lstN (aCons (eC .non) (aCons (eC (.int 5)) (aCons (eN tupN (aNil)) (aCons (eN tupN (aCons (eC (.int 1)) (aNil))) (aCons (eN tupN (aCons (eC (.int 1)) (aCons (eC (.int 2)) (aCons (eC (.int 3)) (aNil))))) (aCons (eN lstN (aCons (eC (.int 1)) (aCons (eC (.int 2)) (aNil)))) (aCons (eN tupN (aCons (negM (eC (.int 1))) (aCons (eC .non) (aNil)))) (aCons (eN tupN (aCons (eC (.int 2)) (aCons (eC (.int 1)) (aNil)))) (aCons (eN tupN (aCons (eC (.bl true)) (aCons (eC .non) (aNil)))) (aCons (eN tupN (aCons (eC (.int 1)) (aCons (eC (.bl true)) (aNil)))) (aCons (eN tupN (aCons (eC (.str "1")) (aCons (eC .non) (aNil)))) (aCons (eN tupN (aCons (eC (.int 1)) (aCons (eC (.str "2")) (aNil)))) (aCons (eN tupN (aCons (eC .non) (aCons (eC .non) (aNil)))) (aCons (eN tupN (aCons (eC (.int 0)) (aCons (negM (eC (.int 1))) (aNil)))) (aCons (eN tupN (aCons (eC (.int 1)) (aCons (eN tupN (aCons (eC (.int 2)) (aNil))) (aNil)))) (aNil))))))))))))))))))
 (sRet (eBin addD (eVar 3) (eLst (fComp (iIt (eVar 4)) (gSet 6) (bTrue) (eN lstN (aCons (eBin addD (eSl (eVar 0) oNone (oSome (eVar 2))) (eN tupN (aCons (eVar 6) (aNil)))) (aCons (eC (.str "line")) (aCons (eVar 2) (aNil))))) [6])))))))
theorem sc__law_bad_lines : FnScope N__law_bad_lines ["line", "most"] (defScope st__law_bad_lines) := ⟨rfl, rfl, rfl, by decide +kernel, rfl, by decide +kernel, by decide +kernel⟩
theorem ok__law_bad_lines (c : Cn K mg) : FnD P w K mg base 1 "_law_bad_lines" ["line", "most"] m__law_bad_lines :=
 fnD_of (c.glo 101) (c.fn 69 (d := d__law_bad_lines)) sc__law_bad_lines (fun _ _ _ _ _ _ us hl => match us, hl with | [_, _], _ => rfl) (fun _ _ _ _ _ _ us hl => match us, hl with | [_, _], _ => rfl) (fun _ _ _ _ _ _ us hl => match us, hl with | [_, _], _ => rfl)
  (fun cdv hcv A outer s H E L0 i => jb_cons (set_ 2 sc__law_bad_lines.nd (je_bin op_sub prim_sub (bi_ call_len prim_len (c.free 1) (ja_cons (v_ 0) (ja_nil))) (je_int)))
 (jb_cons (setLc_ 3 [("thing", 5)] sc__law_bad_lines.nd i (ji_it (je_lst (ja_cons (je_non) (ja_cons (je_tup (ja_nil)) (ja_cons (je_int) (ja_cons (je_str) (ja_cons (je_bl) (ja_cons (JF.je (bl_ call_list_of prim_list (c.free 100) (ja_cons (v_ 0) (ja_nil)))) (ja_cons (je_dict0) (ja_cons (je_bin op_mulD prim_mul (je_tup (ja_cons (je_tup (ja_cons (je_int) (ja_cons (je_non) (ja_nil)))) (ja_nil))) (je_bin op_addD prim_add (v_ 1) (je_int))) (ja_nil))))))))))) (fun _ _ _ _ _ _ => g_ 5 sc__law_bad_lines.nd) (fun _ _ _ _ _ _ i => jpts_nil) (fun _ _ _ _ _ _ i => je_lst (ja_cons (v_ 5) (ja_cons (je_str) (ja_cons (je_non) (ja_nil))))) (blk_of (N := N__law_bad_lines) (sc := sp__law_bad_lines) (by decide +kernel)))
 (jb_cons (set_ 4 sc__law_bad_lines.nd (je_lst (ja_cons (je_non) (ja_cons (je_int) (ja_cons (je_tup (ja_nil)) (ja_cons (je_tup (ja_cons (je_int) (ja_nil))) (ja_cons (je_tup (ja_cons (je_int) (ja_cons (je_int) (ja_cons (je_int) (ja_nil))))) (ja_cons (je_lst (ja_cons (je_int) (ja_cons (je_int) (ja_nil)))) (ja_cons (je_tup (ja_cons (je_neg (je_int)) (ja_cons (je_non) (ja_nil)))) (ja_cons (je_tup (ja_cons (je_int) (ja_cons (je_int) (ja_nil)))) (ja_cons (je_tup (ja_cons (je_bl) (ja_cons (je_non) (ja_nil)))) (ja_cons (je_tup (ja_cons (je_int) (ja_cons (je_bl) (ja_nil)))) (ja_cons (je_tup (ja_cons (je_str) (ja_cons (je_non) (ja_nil)))) (ja_cons (je_tup (ja_cons (je_int) (ja_cons (je_str) (ja_nil)))) (ja_cons (je_tup (ja_cons (je_non) (ja_cons (je_non) (ja_nil)))) (ja_cons (je_tup (ja_cons (je_int) (ja_cons (je_neg (je_int)) (ja_nil)))) (ja_cons (je_tup (ja_cons (je_int) (ja_cons (je_tup (ja_cons (je_int) (ja_nil))) (ja_nil)))) (ja_nil))))))))))))))))))
 (jb_one (js_ret (je_bin op_addD prim_add (v_ 3) (JF.je (comp_ [("each", 6)] sc__law_bad_lines.nd i (ji_it (v_ 4)) (fun _ _ _ _ _ _ => g_ 6 sc__law_bad_lines.nd) (fun _ _ _ _ _ _ i => jpts_nil) (fun _ _ _ _ _ _ i => je_lst (ja_cons (je_bin op_addD prim_add (je_slice (v_ 0) jo_none (jo_some (v_ 2))) (je_tup (ja_cons (v_ 6) (ja_nil)))) (ja_cons (je_str) (ja_cons (v_ 2) (ja_nil))))) (blk_of (N := N__law_bad_lines) (sc := sp__law_bad_lines) (by decide +kernel))))))))))
/-! _law_bad_counts -/
abbrev st__law_bad_counts : Stmt := top 103
abbrev N__law_bad_counts : List Str := ["counts", "last", "found", "thing", "each"]
abbrev sp__law_bad_counts : Scope := defScope st__law_bad_counts
def m__law_bad_counts : PN := defM 5 (sSeq (sSet 1 (eBin subD (eN lenN (aCons (eVar 0) (aNil))) (eC (.int 1))))
 (sSeq (sSet 2 (eLst (fComp (iIt (eN lstN (aCons (eC .non) (aCons (eN tupN (aNil)) (aCons (eC (.int 0)) (aCons (eC (.str "counts")) (aCons (eC (.bl true)) (aCons (eLst (fN listF (aCons (eVar 0) (aNil)))) (aCons (eC (.dic [])) (aCons (eSl (eVar 0) (oSome (eC (.int 1))) oNone) (aCons (eBin addD (eVar 0) (eN tupN (aCons (eC (.int 0)) (aNil)))) (aNil)))))))))))) (gSet 3) (bTrue) (eN lstN (aCons (eVar 3) (aCons (eC (.str "counts")) (aCons (eC .non) (aNil))))) [3])))
 (sRet (eBin addD (eVar 2) (eLst (fComp (iIt (eN lstN (aCons (eC .non) (aCons (eC (.bl true)) (aCons (eC (.bl false)) (aCons (eC (.str "1")) (aCons (eN tupN (aCons (eC (.int 1)) (aNil))) (aCons (eN lstN (aCons (eC (.int 1)) (aNil))) (aNil))))))))) (gSet 4) (bTrue) (eN lstN (aCons (eBin addD (eSl (eVar 0) oNone (oSome (eVar 1))) (eN tupN (aCons (eVar 4) (aNil)))) (aCons (eC (.str "counts")) (aCons (eVar 1) (aNil))))) [4]))))))
theorem sc__law_bad_counts : FnScope N__law_bad_counts ["counts"] (defScope st__law_bad_counts) := ⟨rfl, rfl, rfl, by decide +kernel, rfl, by decide +kernel, by decide +kernel⟩
theorem ok__law_bad_counts (c : Cn K mg) : FnD P w K mg base 1 "_law_bad_counts" ["counts"] m__law_bad_counts :=
 fnD_of (c.glo 102) (c.fn 70 (d := d__law_bad_counts)) sc__law_bad_counts (fun _ _ _ _ _ _ us hl => match us, hl with | [_], _ => rfl) (fun _ _ _ _ _ _ us hl => match us, hl with | [_], _ => rfl) (fun _ _ _ _ _ _ us hl => match us, hl with | [_], _ => rfl)
  (fun cdv hcv A outer s H E L0 i => jb_cons (set_ 1 sc__law_bad_counts.nd (je_bin op_sub prim_sub (bi_ call_len prim_len (c.free 1) (ja_cons (v_ 0) (ja_nil))) (je_int)))
 (jb_cons (setLc_ 2 [("thing", 3)] sc__law_bad_counts.nd i (ji_it (je_lst (ja_cons (je_non) (ja_cons (je_tup (ja_nil)) (ja_cons (je_int) (ja_cons (je_str) (ja_cons (je_bl) (ja_cons (JF.je (bl_ call_list_of prim_list (c.free 100) (ja_cons (v_ 0) (ja_nil)))) (ja_cons (je_dict0) (ja_cons (je_slice (v_ 0) (jo_some (je_int)) jo_none) (ja_cons (je_bin op_addD prim_add (v_ 0) (je_tup (ja_cons (je_int) (ja_nil)))) (ja_nil)))))))))))) (fun _ _ _ _ _ _ => g_ 3 sc__law_bad_counts.nd) (fun _ _ _ _ _ _ i => jpts_nil) (fun _ _ _ _ _ _ i => je_lst (ja_cons (v_ 3) (ja_cons (je_str) (ja_cons (je_non) (ja_nil))))) (blk_of (N := N__law_bad_counts) (sc := sp__law_bad_counts) (by decide +kernel)))
 (jb_one (js_ret (je_bin op_addD prim_add (v_ 2) (JF.je (comp_ [("each", 4)] sc__law_bad_counts.nd i (ji_it (je_lst (ja_cons (je_non) (ja_cons (je_bl) (ja_cons (je_bl) (ja_cons (je_str) (ja_cons (je_tup (ja_cons (je_int) (ja_nil))) (ja_cons (je_lst (ja_cons (je_int) (ja_nil))) (ja_nil))))))))) (fun _ _ _ _ _ _ => g_ 4 sc__law_bad_counts.nd) (fun _ _ _ _ _ _ i => jpts_nil) (fun _ _ _ _ _ _ i => je_lst (ja_cons (je_bin op_addD prim_add (je_slice (v_ 0) jo_none (jo_some (v_ 1))) (je_tup (ja_cons (v_ 4) (ja_nil)))) (ja_cons (je_str) (ja_cons (v_ 1) (ja_nil))))) (blk_of (N := N__law_bad_counts) (sc := sp__law_bad_counts) (by decide +kernel)))))))))
/-! _law_bad_logs -/
abbrev st__law_bad_logs : Stmt := top 104
abbrev N__law_bad_logs : List Str := ["line", "log", "at", "found", "some", "thing", "each"]
abbrev sp__law_bad_logs : Scope := defScope st__law_bad_logs
def m__law_bad_logs : PN := defM 7 (sSeq (sSet 2 (eN lenN (aCons (eVar 1) (aNil))))
 (sSeq (sSet 3 (eLst (fComp (iIt (eN lstN (aCons (eC .non) (aCons (eC (.int 0)) (aCons (eC (.str "log")) (aCons (eC (.bl true)) (aCons (eLst (fN listF (aCons (eVar 1) (aNil)))) (aCons (eC (.dic [])) (aCons (eBin mulD (eN tupN (aCons (eN tupN (aCons (eC (.int 0)) (aCons (eC (.int 1)) (aNil)))) (aNil))) (eC (.int 101))) (aNil)))))))))) (gSet 5) (bTrue) (eN lstN (aCons (eVar 5) (aCons (eC (.str "log")) (aCons (eC .non) (aNil))))) [5])))
 (sSeq (sSet 4 (eN lstN (aCons (eC .non) (aCons (eC (.int 5)) (aCons (eN tupN (aNil)) (aCons (eN tupN (aCons (eC (.int 0)) (aNil))) (aCons (eN tupN (aCons (eC (.int 0)) (aCons (eC (.int 1)) (aCons (eC (.int 1)) (aNil))))) (aCons (eN lstN (aCons (eC (.int 0)) (aCons (eC (.int 1)) (aNil)))) (aCons (eN tupN (aCons (eBin addD (eN lenN (aCons (eVar 0) (aNil))) (eC (.int 1))) (aCons (eC (.int 1)) (aNil)))) (aCons (eN tupN (aCons (negM (eC (.int 1))) (aCons (eC (.int 1)) (aNil)))) (aCons (eN tupN (aCons (eC (.int 0)) (aCons (eC (.int 0)) (aNil)))) (aCons (eN tupN (aCons (eC (.int 0)) (aCons (eC (.int 2)) (aNil)))) (aCons (eN tupN (aCons (eC (.int 0)) (aCons (eC (.bl true)) (aNil)))) (aCons (eN tupN (aCons (eC (.bl false)) (aCons (eC (.int 1)) (aNil)))) (aCons (eN tupN (aCons (eC (.str "0")) (aCons (eC (.int 1)) (aNil)))) (aCons (eN tupN (aCons (eC (.int 0)) (aCons (eC (.str "+")) (aNil)))) (aNil)))))))))))))))))
 (sRet (eBin addD (eVar 3) (eLst (fComp (iIt (eVar 4)) (gSet 6) (bTrue) (eN lstN (aCons (eBin addD (eVar 1) (eN tupN (aCons (eVar 6) (aNil)))) (aCons (eC (.str "log")) (aCons (eVar 2) (aNil))))) [6])))))))
theorem sc__law_bad_logs : FnScope N__law_bad_logs ["line", "log"] (defScope st__law_bad_logs) := ⟨rfl, rfl, rfl, by decide +kernel, rfl, by decide +kernel, by decide +kernel⟩
theorem ok__law_bad_logs (c : Cn K mg) : FnD P w K mg base 1 "_law_bad_logs" ["line", "log"] m__law_bad_logs :=
 fnD_of (c.glo 103) (c.fn 71 (d := d__law_bad_logs)) sc__law_bad_logs (fun _ _ _ _ _ _ us hl => match us, hl with | [_, _], _ => rfl) (fun _ _ _ _ _ _ us hl => match us, hl with | [_, _], _ => rfl) (fun _ _ _ _ _ _ us hl => match us, hl with | [_, _], _ => rfl)
  (fun cdv hcv A outer s H E L0 i => jb_cons (set_ 2 sc__law_bad_logs.nd (bi_ call_len prim_len (c.free 1) (ja_cons (v_ 1) (ja_nil))))
 (jb_cons (setLc_ 3 [("thing", 5)] sc__law_bad_logs.nd i (ji_it (je_lst (ja_cons (je_non) (ja_cons (je_int) (ja_cons (je_str) (ja_cons (je_bl) (ja_cons (JF.je (bl_ call_list_of prim_list (c.free 100) (ja_cons (v_ 1) (ja_nil)))) (ja_cons (je_dict0) (ja_cons (je_bin op_mulD prim_mul (je_tup (ja_cons (je_tup (ja_cons (je_int) (ja_cons (je_int) (ja_nil)))) (ja_nil))) (je_int)) (ja_nil)))))))))) (fun _ _ _ _ _ _ => g_ 5 sc__law_bad_logs.nd) (fun _ _ _ _ _ _ i => jpts_nil) (fun _ _ _ _ _ _ i => je_lst (ja_cons (v_ 5) (ja_cons (je_str) (ja_cons (je_non) (ja_nil))))) (blk_of (N := N__law_bad_logs) (sc := sp__law_bad_logs) (by decide +kernel)))
 (jb_cons (set_ 4 sc__law_bad_logs.nd (je_lst (ja_cons (je_non) (ja_cons (je_int) (ja_cons (je_tup (ja_nil)) (ja_cons (je_tup (ja_cons (je_int) (ja_nil))) (ja_cons (je_tup (ja_cons (je_int) (ja_cons (je_int) (ja_cons (je_int) (ja_nil))))) (ja_cons (je_lst (ja_cons (je_int) (ja_cons (je_int) (ja_nil)))) (ja_cons (je_tup (ja_cons (je_bin op_addD prim_add (bi_ call_len prim_len (c.free 1) (ja_cons (v_ 0) (ja_nil))) (je_int)) (ja_cons (je_int) (ja_nil)))) (ja_cons (je_tup (ja_cons (je_neg (je_int)) (ja_cons (je_int) (ja_nil)))) (ja_cons (je_tup (ja_cons (je_int) (ja_cons (je_int) (ja_nil)))) (ja_cons (je_tup (ja_cons (je_int) (ja_cons (je_int) (ja_nil)))) (ja_cons (je_tup (ja_cons (je_int) (ja_cons (je_bl) (ja_nil)))) (ja_cons (je_tup (ja_cons (je_bl) (ja_cons (je_int) (ja_nil)))) (ja_cons (je_tup (ja_cons (je_str) (ja_cons (je_int) (ja_nil)))) (ja_cons (je_tup (ja_cons (je_int) (ja_cons (je_str) (ja_nil)))) (ja_nil)))))))))))))))))
 (jb_one (js_ret (je_bin op_addD prim_add (v_ 3) (JF.je (comp_ [("each", 6)] sc__law_bad_logs.nd i (ji_it (v_ 4)) (fun _ _ _ _ _ _ => g_ 6 sc__law_bad_logs.nd) (fun _ _ _ _ _ _ i => jpts_nil) (fun _ _ _ _ _ _ i => je_lst (ja_cons (je_bin op_addD prim_add (v_ 1) (je_tup (ja_cons (v_ 6) (ja_nil)))) (ja_cons (je_str) (ja_cons (v_ 2) (ja_nil))))) (blk_of (N := N__law_bad_logs) (sc := sp__law_bad_logs) (by decide +kernel))))))))))
/-! _law_right -/
abbrev st__law_right : Stmt := top 105
abbrev N__law_right : List Str := ["pool", "turn", "line", "counts", "log", "bad", "wrong", "odd", "texts", "again", "told", "back", "step", "thing"]
abbrev sp__law_right : Scope := defScope st__law_right
def m__law_right : PN := defM 14 (sSeq (sFor (iRange1 (aCons (eC (.int 4)) (aNil))) (gSet 1)
 (sSeq (sSet 2 (eN (callN 3 m__law_line) (aCons (eVar 0) (aCons (eC (.int 1)) (aCons (eC (.int 12)) (aNil))))))
 (sSeq (sSet 3 (eN (callN 3 m__law_counts) (aCons (eVar 0) (aCons (eBin addD (eN lenN (aCons (eVar 2) (aNil))) (eC (.int 1))) (aCons (eC (.int 9)) (aNil))))))
 (sSeq (sSet 4 (eN tupleN (aCons (eLst (fComp (iRange1 (aCons (eN (callN 2 m__law_draw) (aCons (eVar 0) (aCons (eC (.int 9)) (aNil)))) (aNil))) (gSet 12) (bTrue) (eN tupN (aCons (eN (callN 2 m__law_draw) (aCons (eVar 0) (aCons (eBin addD (eN lenN (aCons (eVar 2) (aNil))) (eC (.int 1))) (aNil)))) (aCons (eN (callN 2 m__law_pick) (aCons (eVar 0) (aCons (eN lstN (aCons (eC (.int 1)) (aCons (negM (eC (.int 1))) (aNil)))) (aNil)))) (aNil)))) [12])) (aNil))))
 (sSeq (sPar3 5 6 7 (aCons (eN (callN 2 m__law_bad_lines) (aCons (eVar 2) (aCons (eC (.int 12)) (aNil)))) (aCons (eN (callN 1 m__law_bad_counts) (aCons (eVar 3) (aNil))) (aCons (eN (callN 2 m__law_bad_logs) (aCons (eVar 2) (aCons (eVar 4) (aNil)))) (aNil)))))
 (sSeq (sIf (bOr (bNot (bT (eN (callN 4 m__law_refused_right) (aCons (eVar 0) (aCons (eC (.fn "counts_text")) (aCons (eN tupN (aCons (eVar 2) (aCons (eVar 3) (aNil)))) (aCons (eN lstN (aCons (eVar 5) (aCons (eVar 6) (aNil)))) (aNil)))))))) (bNot (bT (eN (callN 4 m__law_refused_right) (aCons (eVar 0) (aCons (eC (.fn "log_text")) (aCons (eN tupN (aCons (eVar 2) (aCons (eVar 4) (aNil)))) (aCons (eN lstN (aCons (eVar 5) (aCons (eVar 7) (aNil)))) (aNil)))))))))
 (sRet (eC (.bl false)))
 (sNil))
 (sSeq (sSet 8 (eBin addD (eLst (fComp (iIt (eN lstN (aCons (eC .non) (aCons (eC (.int 0)) (aCons (eC (.bl true)) (aCons (eN lstN (aNil)) (aCons (eN tupN (aCons (eC (.str "0")) (aNil))) (aCons (eC (.dic [])) (aNil))))))))) (gSet 13) (bTrue) (eN lstN (aCons (eVar 13) (aCons (eC (.str "text")) (aCons (eC .non) (aNil))))) [13])) (eN lstN (aCons (eN lstN (aCons (eC (.str "x")) (aCons (eC (.str "text")) (aCons (eC (.int 0)) (aNil))))) (aCons (eN lstN (aCons (eC (.str "0 x")) (aCons (eC (.str "text")) (aCons (eC (.int 1)) (aNil))))) (aNil))))))
 (sSeq (sIf (bNot (bT (eN (callN 4 m__law_refused_right) (aCons (eVar 0) (aCons (eC (.fn "read_counts")) (aCons (eN tupN (aCons (eVar 2) (aCons (eN (callN 2 m_counts_text) (aCons (eVar 2) (aCons (eVar 3) (aNil)))) (aNil)))) (aCons (eN lstN (aCons (eVar 5) (aCons (eVar 8) (aNil)))) (aNil))))))))
 (sRet (eC (.bl false)))
 (sNil))
 (sSeq (sIf (bNot (bT (eN (callN 4 m__law_refused_right) (aCons (eVar 0) (aCons (eC (.fn "read_log")) (aCons (eN tupN (aCons (eVar 2) (aCons (eN (callN 2 m_log_text) (aCons (eVar 2) (aCons (eVar 4) (aNil)))) (aNil)))) (aCons (eN lstN (aCons (eVar 5) (aCons (eBin addD (eSl (eVar 8) oNone (oSome (eC (.int 6)))) (eN lstN (aCons (eN lstN (aCons (eC (.str "x")) (aCons (eC (.str "text")) (aCons (eC (.int 0)) (aNil))))) (aCons (eN lstN (aCons (eC (.str "0+ x")) (aCons (eC (.str "text")) (aCons (eC (.int 1)) (aNil))))) (aNil))))) (aNil)))) (aNil))))))))
 (sRet (eC (.bl false)))
 (sNil))
 (sSeq (sPar 9 10 (aCons (eN (callN 1 m_read_line) (aCons (eN (callN 1 m_line_text) (aCons (eVar 2) (aNil))) (aNil))) (aCons (eN (callN 2 m_read_counts) (aCons (eVar 2) (aCons (eN (callN 2 m_counts_text) (aCons (eVar 2) (aCons (eVar 3) (aNil)))) (aNil)))) (aNil))))
 (sSeq (sIf (bOr (bT (eBin neD (eN tupN (aCons (eVar 9) (aCons (eVar 10) (aNil)))) (eN tupN (aCons (eVar 2) (aCons (eVar 3) (aNil)))))) (bOr (bT (eBin neD (eN (callN 2 m_loads) (aCons (eVar 9) (aCons (eVar 10) (aNil)))) (eN (callN 2 m__law_loads) (aCons (eVar 2) (aCons (eVar 3) (aNil)))))) (bT (eBin neD (eN (callN 2 m_is_lawful) (aCons (eVar 9) (aCons (eN (callN 2 m_read_log) (aCons (eVar 9) (aCons (eN (callN 2 m_log_text) (aCons (eVar 2) (aCons (eVar 4) (aNil)))) (aNil)))) (aNil)))) (eN (callN 2 m_is_lawful) (aCons (eVar 2) (aCons (eVar 4) (aNil))))))))
 (sRet (eC (.bl false)))
 (sNil))
 (sSeq (sSet 11 (eN (callN 1 m_read_line) (aCons (strM1 joinD (eC (.str " ")) (eRev (eLst (fSplit (eN (callN 1 m_line_text) (aCons (eVar 2) (aNil))) (eC (.str " ")))))) (aNil))))
 (sSeq (sIf (bOr (bT (eBin neD (eVar 11) (eN (callN 1 m_line_backward) (aCons (eVar 2) (aNil))))) (bT (eBin neD (eN (callN 2 m_loads) (aCons (eVar 11) (aCons (eN (callN 2 m_counts_backward) (aCons (eVar 2) (aCons (eVar 10) (aNil)))) (aNil)))) (eRev (eN (callN 2 m__law_loads) (aCons (eVar 2) (aCons (eVar 3) (aNil))))))))
 (sRet (eC (.bl false)))
 (sNil))
 (sIf (bT (eBin neD (eN (callN 2 m_counts_text) (aCons (eVar 2) (aCons (eBin mulD (eN tupN (aCons (eC (.int 1)) (aNil))) (eN lenN (aCons (eVar 3) (aNil)))) (aNil)))) (strM1 joinD (eC (.str " ")) (eBin mulD (eN lstN (aCons (eC (.str "1")) (aNil))) (eN lenN (aCons (eVar 3) (aNil)))))))
 (sRet (eC (.bl false)))
 (sNil)))))))))))))))
 (sRet (eC (.bl true))))
theorem sc__law_right : FnScope N__law_right ["pool"] (defScope st__law_right) := ⟨rfl, rfl, rfl, by decide +kernel, rfl, by decide +kernel, by decide +kernel⟩
theorem ok__law_right (c : Cn K mg) : FnD P w K mg base 11 "_law_right" ["pool"] m__law_right :=
 fnD_of (c.glo 104) (c.fn 72 (d := d__law_right)) sc__law_right (fun _ _ _ _ _ _ us hl => match us, hl with | [_], _ => rfl) (fun _ _ _ _ _ _ us hl => match us, hl with | [_], _ => rfl) (fun _ _ _ _ _ _ us hl => match us, hl with | [_], _ => rfl)
  (fun cdv hcv A outer s H E L0 i => jb_cons (for_ (st := false) i (ji_range1 rfl (c.free 4) (ja_cons (je_int) (ja_nil))) (g_ 1 sc__law_right.nd)
 (jb_cons (set_ 2 sc__law_right.nd (call_ (ok__law_line c) i (ja_cons (v_ 0) (ja_cons (je_int) (ja_cons (je_int) (ja_nil))))))
 (jb_cons (set_ 3 sc__law_right.nd (call_ (ok__law_counts c) i (ja_cons (v_ 0) (ja_cons (je_bin op_addD prim_add (bi_ call_len prim_len (c.free 1) (ja_cons (v_ 2) (ja_nil))) (je_int)) (ja_cons (je_int) (ja_nil))))))
 (jb_cons (set_ 4 sc__law_right.nd (bt_ call_tuple_of prim_tuple (c.free 18) (ja_cons (JF.je (comp_ [("step", 12)] sc__law_right.nd i (ji_range1 rfl (c.free 4) (ja_cons (call_ (ok__law_draw c) i (ja_cons (v_ 0) (ja_cons (je_int) (ja_nil)))) (ja_nil))) (fun _ _ _ _ _ _ => g_ 12 sc__law_right.nd) (fun _ _ _ _ _ _ i => jpts_nil) (fun _ _ _ _ _ _ i => je_tup (ja_cons (call_ (ok__law_draw c) i (ja_cons (v_ 0) (ja_cons (je_bin op_addD prim_add (bi_ call_len prim_len (c.free 1) (ja_cons (v_ 2) (ja_nil))) (je_int)) (ja_nil)))) (ja_cons (call_ (ok__law_pick c) i (ja_cons (v_ 0) (ja_cons (je_lst (ja_cons (je_int) (ja_cons (je_neg (je_int)) (ja_nil)))) (ja_nil)))) (ja_nil)))) (blk_of (N := N__law_right) (sc := sp__law_right) (by decide +kernel)))) (ja_nil))))
 (jb_cons (par3_ 5 6 7 sc__law_right.nd i (ja_cons (call_ (ok__law_bad_lines c) i (ja_cons (v_ 2) (ja_cons (je_int) (ja_nil)))) (ja_cons (call_ (ok__law_bad_counts c) i (ja_cons (v_ 3) (ja_nil))) (ja_cons (call_ (ok__law_bad_logs c) i (ja_cons (v_ 2) (ja_cons (v_ 4) (ja_nil)))) (ja_nil)))))
 (jb_cons (js_if (O' := []) (JW.jt (jw_or (jt_not (jt_val (call_ (ok__law_refused_right c) i (ja_cons (v_ 0) (ja_cons (fn_ (c.glo 64)) (ja_cons (je_tup (ja_cons (v_ 2) (ja_cons (v_ 3) (ja_nil)))) (ja_cons (je_lst (ja_cons (v_ 5) (ja_cons (v_ 6) (ja_nil)))) (ja_nil)))))))) (jw_or1 (jt_not (jt_val (call_ (ok__law_refused_right c) i (ja_cons (v_ 0) (ja_cons (fn_ (c.glo 65)) (ja_cons (je_tup (ja_cons (v_ 2) (ja_cons (v_ 4) (ja_nil)))) (ja_cons (je_lst (ja_cons (v_ 5) (ja_cons (v_ 7) (ja_nil)))) (ja_nil)))))))))))
 (jb_one (js_ret (je_bl)))
 (jb_nil))
 (jb_cons (set_ 8 sc__law_right.nd (je_bin op_addD prim_add (JF.je (comp_ [("thing", 13)] sc__law_right.nd i (ji_it (je_lst (ja_cons (je_non) (ja_cons (je_int) (ja_cons (je_bl) (ja_cons (je_lst (ja_nil)) (ja_cons (je_tup (ja_cons (je_str) (ja_nil))) (ja_cons (je_dict0) (ja_nil))))))))) (fun _ _ _ _ _ _ => g_ 13 sc__law_right.nd) (fun _ _ _ _ _ _ i => jpts_nil) (fun _ _ _ _ _ _ i => je_lst (ja_cons (v_ 13) (ja_cons (je_str) (ja_cons (je_non) (ja_nil))))) (blk_of (N := N__law_right) (sc := sp__law_right) (by decide +kernel)))) (je_lst (ja_cons (je_lst (ja_cons (je_str) (ja_cons (je_str) (ja_cons (je_int) (ja_nil))))) (ja_cons (je_lst (ja_cons (je_str) (ja_cons (je_str) (ja_cons (je_int) (ja_nil))))) (ja_nil))))))
 (jb_cons (js_if (O' := []) (jt_not (jt_val (call_ (ok__law_refused_right c) i (ja_cons (v_ 0) (ja_cons (fn_ (c.glo 69)) (ja_cons (je_tup (ja_cons (v_ 2) (ja_cons (call_ (ok_counts_text c) i (ja_cons (v_ 2) (ja_cons (v_ 3) (ja_nil)))) (ja_nil)))) (ja_cons (je_lst (ja_cons (v_ 5) (ja_cons (v_ 8) (ja_nil)))) (ja_nil))))))))
 (jb_one (js_ret (je_bl)))
 (jb_nil))
 (jb_cons (js_if (O' := []) (jt_not (jt_val (call_ (ok__law_refused_right c) i (ja_cons (v_ 0) (ja_cons (fn_ (c.glo 70)) (ja_cons (je_tup (ja_cons (v_ 2) (ja_cons (call_ (ok_log_text c) i (ja_cons (v_ 2) (ja_cons (v_ 4) (ja_nil)))) (ja_nil)))) (ja_cons (je_lst (ja_cons (v_ 5) (ja_cons (je_bin op_addD prim_add (je_slice (v_ 8) jo_none (jo_some (je_int))) (je_lst (ja_cons (je_lst (ja_cons (je_str) (ja_cons (je_str) (ja_cons (je_int) (ja_nil))))) (ja_cons (je_lst (ja_cons (je_str) (ja_cons (je_str) (ja_cons (je_int) (ja_nil))))) (ja_nil))))) (ja_nil)))) (ja_nil))))))))
 (jb_one (js_ret (je_bl)))
 (jb_nil))
 (jb_cons (par_ 9 10 sc__law_right.nd i (ja_cons (call_ (ok_read_line c) i (ja_cons (call_ (ok_line_text c) i (ja_cons (v_ 2) (ja_nil))) (ja_nil))) (ja_cons (call_ (ok_read_counts c) i (ja_cons (v_ 2) (ja_cons (call_ (ok_counts_text c) i (ja_cons (v_ 2) (ja_cons (v_ 3) (ja_nil)))) (ja_nil)))) (ja_nil))))
 (jb_cons (js_if (O' := []) (JW.jt (jw_or (jt_cmp (op_neX i.units) prim_ne (je_tup (ja_cons (v_ 9) (ja_cons (v_ 10) (ja_nil)))) (je_tup (ja_cons (v_ 2) (ja_cons (v_ 3) (ja_nil)))) (nomark _)) (jw_or (jt_cmp (op_neX i.units) prim_ne (call_ (ok_loads c) i (ja_cons (v_ 9) (ja_cons (v_ 10) (ja_nil)))) (call_ (ok__law_loads c) i (ja_cons (v_ 2) (ja_cons (v_ 3) (ja_nil)))) (nomark _)) (jw_or1 (jt_cmp (op_neX i.units) prim_ne (call_ (ok_is_lawful c) i (ja_cons (v_ 9) (ja_cons (call_ (ok_read_log c) i (ja_cons (v_ 9) (ja_cons (call_ (ok_log_text c) i (ja_cons (v_ 2) (ja_cons (v_ 4) (ja_nil)))) (ja_nil)))) (ja_nil)))) (call_ (ok_is_lawful c) i (ja_cons (v_ 2) (ja_cons (v_ 4) (ja_nil)))) (nomark _))))))
 (jb_one (js_ret (je_bl)))
 (jb_nil))
 (jb_cons (set_ 11 sc__law_right.nd (call_ (ok_read_line c) i (ja_cons (je_join (je_str) (je_revS (JF.je (jf_split (call_ (ok_line_text c) i (ja_cons (v_ 2) (ja_nil))) (je_str))))) (ja_nil))))
 (jb_cons (js_if (O' := []) (JW.jt (jw_or (jt_cmp (op_neX i.units) prim_ne (v_ 11) (call_ (ok_line_backward c) i (ja_cons (v_ 2) (ja_nil))) (nomark _)) (jw_or1 (jt_cmp (op_neX i.units) prim_ne (call_ (ok_loads c) i (ja_cons (v_ 11) (ja_cons (call_ (ok_counts_backward c) i (ja_cons (v_ 2) (ja_cons (v_ 10) (ja_nil)))) (ja_nil)))) (je_revS (call_ (ok__law_loads c) i (ja_cons (v_ 2) (ja_cons (v_ 3) (ja_nil))))) (nomark _)))))
 (jb_one (js_ret (je_bl)))
 (jb_nil))
 (jb_one (js_if (O' := []) (jt_cmp (op_neX i.units) prim_ne (call_ (ok_counts_text c) i (ja_cons (v_ 2) (ja_cons (je_bin op_mulD prim_mul (je_tup (ja_cons (je_int) (ja_nil))) (bi_ call_len prim_len (c.free 1) (ja_cons (v_ 3) (ja_nil)))) (ja_nil)))) (je_join (je_str) (je_bin op_mulD prim_mul (je_lst (ja_cons (je_str) (ja_nil))) (bi_ call_len prim_len (c.free 1) (ja_cons (v_ 3) (ja_nil))))) (nomark _))
 (jb_one (js_ret (je_bl)))
 (jb_nil))))))))))))))))
 (jb_one (js_ret (je_bl))))
/-! law -/
abbrev st_law : Stmt := top 106
abbrev N_law : List Str := ["script", "turn"]
abbrev sp_law : Scope := defScope st_law
def m_law : PN := defM 2 (sSeq (sFor (iRange1 (aCons (eN max2N (aCons (eC (.int 2)) (aCons (eN min2N (aCons (eN lenN (aCons (eVar 0) (aNil))) (aCons (eC (.int 3)) (aNil)))) (aNil)))) (aNil))) (gSet 1)
 (sIf (bNot (bT (eN (callN 1 m__law_right) (aCons (eN (callN 2 m__law_pool) (aCons (eVar 0) (aCons (eVar 1) (aNil)))) (aNil)))))
 (sRet (eC (.bl false)))
 (sNil)))
 (sRet (eC (.bl true))))
theorem sc_law : FnScope N_law ["script"] (defScope st_law) := ⟨rfl, rfl, rfl, by decide +kernel, rfl, by decide +kernel, by decide +kernel⟩
theorem ok_law (c : Cn K mg) : FnD P w K mg base 12 "law" ["script"] m_law :=
 fnD_of (c.glo 107) (c.fn 73 (d := d_law)) sc_law (fun _ _ _ _ _ _ us hl => match us, hl with | [_], _ => rfl) (fun _ _ _ _ _ _ us hl => match us, hl with | [_], _ => rfl) (fun _ _ _ _ _ _ us hl => match us, hl with | [_], _ => rfl)
  (fun cdv hcv A outer s H E L0 i => jb_cons (for_ (st := false) i (ji_range1 rfl (c.free 4) (ja_cons (bi_ (call_max2 i.calm) prim_max2 (c.free 106) (ja_cons (je_int) (ja_cons (bi_ (call_min2 i.calm) prim_min2 (c.free 105) (ja_cons (bi_ call_len prim_len (c.free 1) (ja_cons (v_ 0) (ja_nil))) (ja_cons (je_int) (ja_nil)))) (ja_nil)))) (ja_nil))) (g_ 1 sc_law.nd)
 (jb_one (js_if (O' := []) (jt_not (jt_val (call_ (ok__law_right c) i (ja_cons (call_ (ok__law_pool c) i (ja_cons (v_ 0) (ja_cons (v_ 1) (ja_nil)))) (ja_nil)))))
 (jb_one (js_ret (je_bl)))
 (jb_nil))))
 (jb_one (js_ret (je_bl))))
end
end K77
namespace Pv
open PySem PySem.Spec PyProof.Rows L2
/-! ### the head's hook over the first N addresses, and its run in parts -/
/-- what stands at the first N addresses, empty tables left out -/
abbrev frN (N : Nat) (g : Addr → Option Obj) : PySem.W.Frag := He.frT g (List.range N)
abbrev obsN (N : Nat) (fa : List He.Fa) (fn : List He.DefD) (tf : List He.Defn) (ex : PySem.W.Frag → Bool) (g : Addr → Option Obj) : He.AlX :=
  (He.obsT fa fn [] (frN N g), ex (frN N g) && He.tabsB g tf (frN N g))
theorem saysN {N : Nat} {fa : List He.Fa} {fn : List He.DefD} {tf : List He.Defn} {ex : PySem.W.Frag → Bool} {w : World} {h : Heap} (e : obsN N fa fn tf ex h.get? = He.valX fn [] w) :
    He.SaysX fa fn [] tf ex w h (frN N h.get?) := by
  have e : ((He.obsT fa fn [] (frN N h.get?), ex (frN N h.get?) && He.tabsB h.get? tf (frN N h.get?)) : He.AlX) = He.valX fn [] w := e
  generalize hK : frN N h.get? = K at e ⊢
  have e2 : (ex K && He.tabsB h.get? tf K) = true := congrArg Prod.snd e
  have hh := Bool.and_eq_true_iff.mp e2
  have tb : ∀ p ∈ tf, PySem.W.codeHdIn K (He.cT K p).1 (He.cT K p).2 = true ∧ ∃ o, h.get? (He.cT K p).2 = some o ∧ He.emptyTab o = true := by
    intro p hp
    have y := Bool.and_eq_true_iff.mp (List.all_eq_true.mp hh.2 p hp)
    cases q : h.get? (He.cT K p).2 with
    | some o => exact ⟨y.1, o, rfl, by simpa only [q] using y.2⟩
    | none => exact absurd y.2 (by simp [q])
  have none_ : ∀ {b o}, h.get? b = some o → He.emptyTab o = true → K.lookup b = none := fun {b o} a c => hK ▸ He.frT_none a c
  refine { t := congrArg Prod.fst e, more := hh.1, hd := fun p hp => (tb p hp).1, out := fun p hp => ?_, empty := fun p hp => ?_ }
  · have ⟨_, o, a, c⟩ := tb p hp
    exact none_ a c
  · have ⟨_, o, a, c⟩ := tb p hp
    rw [a, He.emptyTab_eq c]
def hookN (N : Nat) (fa : List He.Fa) (fn : List He.DefD) (tf : List He.Defn) (ex : PySem.W.Frag → Bool) : PySem.W.Hook :=
  { α := He.AlX, obs := fun s => obsN N fa fn tf ex s.heap.get?, val := fun w => He.valX fn [] w,
    says := fun w h => ∃ K : PySem.W.Frag, K.In h ∧ He.SaysX fa fn [] tf ex w h K,
    of := fun w s e => ⟨_, He.frT_in, saysN e⟩,
    keeps := fun w h h' hs kp => by
      obtain ⟨K, i, c⟩ := hs
      exact ⟨K, PySem.W.Frag.In.keeps i kp, { t := c.t, more := c.more, hd := c.hd, out := c.out, empty := fun p hp => kp _ _ (c.empty p hp) }⟩ }
theorem obsN_eq {N : Nat} {fa : List He.Fa} {fn : List He.DefD} {tf : List He.Defn} {ex : PySem.W.Frag → Bool} (s : PySem.W.SharedT) :
    obsN N fa fn tf ex (HandSHeadRun.getT s) = (hookN N fa fn tf ex).obs s.abs := by
  rw [show HandSHeadRun.getT s = s.abs.heap.get? from funext (HandSHeadRun.getT_eq s)]
  rfl
/-- the parts of a run's end, put together -/
theorem run_parts {S A B : Type} {o : Option S} {l : S → A} {a : A} {N : Nat} {fa : List He.Fa} {fn : List He.DefD} {tf : List He.Defn} {ex : PySem.W.Frag → Bool} {g : S → Addr → Option Obj} {w : World} {lq : S → B} {b : B}
    (h0 : o.map (fun s => (l s, lq s)) = some (a, b))
    (h1 : o.map (fun s => fa.all fun f => f.ok (frN N (g s))) = some true)
    (h2 : o.map (fun s => fn.all fun d => d.ok (frN N (g s))) = some true)
    (h3 : o.map (fun s => fn.map fun d => He.fnW (frN N (g s)) d.at_) = some (fn.map He.DefD.val))
    (h4 : o.map (fun s => ex (frN N (g s))) = some true)
    (h5 : o.map (fun s => He.tabsB (g s) tf (frN N (g s))) = some true) :
    o.map (fun s => (l s, lq s, obsN N fa fn tf ex (g s))) = some (a, b, He.valX fn [] w) := by
  cases o with
  | none => cases h0
  | some s =>
    have e0 : (l s, lq s) = (a, b) := Option.some.inj h0
    have e1 : (fa.all fun f => f.ok (frN N (g s))) = true := Option.some.inj h1
    have e2 : (fn.all fun d => d.ok (frN N (g s))) = true := Option.some.inj h2
    have e3 : (fn.map fun d => He.fnW (frN N (g s)) d.at_) = fn.map He.DefD.val := Option.some.inj h3
    have e4 : ex (frN N (g s)) = true := Option.some.inj h4
    have e5 : He.tabsB (g s) tf (frN N (g s)) = true := Option.some.inj h5
    have q1 : l s = a := congrArg Prod.fst e0
    have q2 : lq s = b := congrArg Prod.snd e0
    show some (l s, lq s, ((((fa.all fun f => f.ok (frN N (g s))) && fn.all fun d => d.ok (frN N (g s)), fn.map fun d => He.fnW (frN N (g s)) d.at_), []), ex (frN N (g s)) && He.tabsB (g s) tf (frN N (g s)))) = _
    rw [q1, q2, e1, e2, e3, e4, e5]
    rfl
end Pv
namespace K77
open PySem PySem.W PySem.Calls PyProof.Rows HandSHeadRun
abbrev Rw : PySem.W.OpenRow := PySem.W.OpenLaw.row PySem.Challenge.rw_axlecounts_k77_texts_refused_and_read_ag
def loose : List PySem.Str := ([PySem.Str.ofString "AxleError", PySem.Str.ofString "InvalidLine", PySem.Str.ofString "InvalidCounts", PySem.Str.ofString "InvalidLog", PySem.Str.ofString "InvalidText", PySem.Str.ofString "joint_behind", PySem.Str.ofString "load_of", PySem.Str.ofString "loads_by", PySem.Str.ofString "has_room", PySem.Str.ofString "wrong_sections_by", PySem.Str.ofString "can_be_by", PySem.Str.ofString "is_whole", PySem.Str.ofString "is_between", PySem.Str.ofString "is_up_to", PySem.Str.ofString "is_from", PySem.Str.ofString "is_text", PySem.Str.ofString "is_tuple_up_to", PySem.Str.ofString "is_tuple_of", PySem.Str.ofString "is_pair", PySem.Str.ofString "MOST_SECTIONS_checks", PySem.Str.ofString "MOST_ENTRIES_checks", PySem.Str.ofString "FORWARD_checks", PySem.Str.ofString "BACK_checks", PySem.Str.ofString "is_section", PySem.Str.ofString "wrong_in_sections", PySem.Str.ofString "wrong_in_line", PySem.Str.ofString "is_joint_of", PySem.Str.ofString "wrong_in_numbers", PySem.Str.ofString "wrong_in_counts", PySem.Str.ofString "is_entry_of", PySem.Str.ofString "wrong_in_log", PySem.Str.ofString "check_line", PySem.Str.ofString "check_counts", PySem.Str.ofString "check_log", PySem.Str.ofString "FIGURES", PySem.Str.ofString "BELOW", PySem.Str.ofString "BAR", PySem.Str.ofString "ANY", PySem.Str.ofString "FORWARD_wordwork", PySem.Str.ofString "BACK_wordwork"] : List PySem.Str) ++ ([PySem.Str.ofString "whole_in", PySem.Str.ofString "signed_in", PySem.Str.ofString "section_word", PySem.Str.ofString "section_in", PySem.Str.ofString "step_word", PySem.Str.ofString "step_in", PySem.Str.ofString "entry_word", PySem.Str.ofString "entry_in", PySem.Str.ofString "BLANK", PySem.Str.ofString "MOST_SECTIONS_textwork", PySem.Str.ofString "MOST_ENTRIES_textwork", PySem.Str.ofString "text_of_numbers", PySem.Str.ofString "text_of_line", PySem.Str.ofString "text_of_log", PySem.Str.ofString "read_words", PySem.Str.ofString "line_in", PySem.Str.ofString "counts_in", PySem.Str.ofString "entry_on", PySem.Str.ofString "log_in", PySem.Str.ofString "line_text", PySem.Str.ofString "counts_text", PySem.Str.ofString "log_text", PySem.Str.ofString "check_text", PySem.Str.ofString "check_read", PySem.Str.ofString "read_line", PySem.Str.ofString "read_counts", PySem.Str.ofString "read_log", PySem.Str.ofString "line_backward_by", PySem.Str.ofString "counts_backward_by", PySem.Str.ofString "check_told", PySem.Str.ofString "check_told_changes", PySem.Str.ofString "line_backward", PySem.Str.ofString "counts_backward", PySem.Str.ofString "check_told_lines", PySem.Str.ofString "loads", PySem.Str.ofString "counts_behind_by", PySem.Str.ofString "all_counts", PySem.Str.ofString "first_unlawful_by", PySem.Str.ofString "check_logged", PySem.Str.ofString "is_lawful"] : List PySem.Str) ++ ([PySem.Str.ofString "_law_pool", PySem.Str.ofString "_law_draw", PySem.Str.ofString "_law_pick", PySem.Str.ofString "_law_line", PySem.Str.ofString "_law_counts", PySem.Str.ofString "_law_loads", PySem.Str.ofString "_law_heard", PySem.Str.ofString "_law_refused_right", PySem.Str.ofString "_law_bad_lines", PySem.Str.ofString "_law_bad_counts", PySem.Str.ofString "_law_bad_logs", PySem.Str.ofString "_law_right"] : List PySem.Str)
def tf : List He.Defn := Pv.Tf.tabs.map (·.1)
abbrev hk : PySem.W.Hook := Pv.hookN 640 fa fn tf ex
def ob (s : PySem.W.SharedT) : He.AlX := Pv.obsN 640 fa fn tf ex (getT s)
theorem ob_eq (s : PySem.W.SharedT) : ob s = hk.obs s.abs := Pv.obsN_eq s
noncomputable abbrev EndR (w : World) (os : OsState) : Option PySem.W.SharedT := endF (stepQ (denQ tabQ) Rw.prog w) 8000 Rw.prog w os
abbrev KR (s : PySem.W.SharedT) : PySem.W.Frag := Pv.frN 640 (getT s)
noncomputable abbrev sq (s : PySem.W.SharedT) := seenQ (view Rw.prog [106]) loose (importedModules Rw.prog.main.body) (fun s => xlAt (view Rw.prog [106]) [] s && recOk Rw.toRowW.records s) s.abs
theorem run0 (w : World) (os : OsState) : (EndR w os).map (fun s => (looksF Rw.prog (boot_heap w.params) s.abs, sq s)) = some (true, openGood (view Rw.prog [106]) loose) := by kernel_rfl
theorem run1 (w : World) (os : OsState) : (EndR w os).map (fun s => fa.all fun f => f.ok (KR s)) = some true := by kernel_rfl
theorem run2 (w : World) (os : OsState) : (EndR w os).map (fun s => fn.all fun d => d.ok (KR s)) = some true := by kernel_rfl
theorem run3 (w : World) (os : OsState) : (EndR w os).map (fun s => fn.map fun d => He.fnW (KR s) d.at_) = some (fn.map He.DefD.val) := by kernel_rfl
theorem run4 (w : World) (os : OsState) : (EndR w os).map (fun s => ex (KR s)) = some true := by kernel_rfl
theorem run5 (w : World) (os : OsState) : (EndR w os).map (fun s => He.tabsB (getT s) tf (KR s)) = some true := by kernel_rfl
theorem run (w : World) : RunEq Rw (view Rw.prog [106]) hk ob 8000 loose w := fun os => Pv.run_parts (run0 w os) (run1 w os) (run2 w os) (run3 w os) (run4 w os) (run5 w os)
end K77
namespace K77
open PySem PySem.Spec PyProof.Rows L2 Pv TL
theorem kit_tab : ∀ k ∈ ["NoneType", "bool", "int", "str", "tuple", "list", "dict"], ∀ T ∈ ["int", "bool", "str", "tuple", "list"], kitB k T = some (k == T || (k == "bool" && T == "int")) := by decide +kernel
/-- a thing that isinstance may be asked of -/
def pl (d : D) : Bool := !(kind d == "")
def isT (d : D) (T : String) : Bool := kind d == T || (kind d == "bool" && T == "int")
theorem kind_mem {d : D} (h : pl d = true) : kind d ∈ ["NoneType", "bool", "int", "str", "tuple", "list", "dict"] := by
  cases d <;> first | (simp [kind]; done) | (simp [pl, kind] at h; done)
theorem isi_ok {d : D} {T : String} {S : Sto} (h : pl d = true) (hT : T ∈ ["int", "bool", "str", "tuple", "list"] := by simp) : isiN [d, .ty T] S = .val (.bl (isT d T)) S := by
  have hk := kit_tab (kind d) (kind_mem h) T hT
  have hne : kind d ≠ "" := by
    intro z
    rw [pl, z] at h
    exact absurd h (by decide)
  unfold isiN
  split
  · rename_i d' T' e
    cases e
    split
    · rename_i hz
      exact absurd hz hne
    · rw [hk]
      rfl
  · rename_i z
    exact absurd rfl (z d T)
theorem isi_int {d : D} {S : Sto} (h : pl d = true) : isiN [d, .ty "int"] S = .val (.bl (isT d "int")) S := isi_ok h
theorem isi_bool {d : D} {S : Sto} (h : pl d = true) : isiN [d, .ty "bool"] S = .val (.bl (isT d "bool")) S := isi_ok h
theorem isi_str {d : D} {S : Sto} (h : pl d = true) : isiN [d, .ty "str"] S = .val (.bl (isT d "str")) S := isi_ok h
theorem isi_tuple {d : D} {S : Sto} (h : pl d = true) : isiN [d, .ty "tuple"] S = .val (.bl (isT d "tuple")) S := isi_ok h
theorem isi_list {d : D} {S : Sto} (h : pl d = true) : isiN [d, .ty "list"] S = .val (.bl (isT d "list")) S := isi_ok h
def isInt : D → Bool
  | .int _ => true
  | _ => false
def isStr : D → Bool
  | .str _ => true
  | _ => false
theorem is_whole_ok {d : D} {S : Sto} (h : pl d = true) : m_is_whole [d] S = .val (.bl (isInt d)) S := by
  simp [m_is_whole, s_def, startD, isi_int h, isi_bool h]
  cases d <;> first | rfl | (simp [pl, kind] at h; done)
theorem is_from_ok {d : D} {n : Int} {S : Sto} (h : pl d = true) : m_is_from [d, .int n] S = .val (.bl (match d with | .int i => decide (n ≤ i) | _ => false)) S := by
  simp [m_is_from, s_def, startD, is_whole_ok h]
  cases d <;> first | rfl | (simp [pl, kind] at h; done)
theorem is_text_ok {d : D} {S : Sto} (h : pl d = true) : m_is_text [d] S = .val (.bl (isStr d)) S := by
  simp [m_is_text, s_def, startD, isi_str h]
  cases d <;> first | rfl | (simp [pl, kind] at h; done)
theorem is_tup_ok {d : D} {lo hi : Int} {S : Sto} (h : pl d = true) : m_is_tuple_up_to [d, .int lo, .int hi] S = .val (.bl (match d with | .tup xs => decide (lo ≤ xs.length) && decide ((xs.length : Int) ≤ hi) | _ => false)) S := by
  simp [m_is_tuple_up_to, s_def, startD, isi_tuple h]
  cases d with
  | tup xs =>
    by_cases h1 : lo ≤ (xs.length : Int) <;> simp [isT, kind, h1]
  | _ => first | rfl | (simp [pl, kind] at h; done)
theorem is_pair_ok {d : D} {S : Sto} (h : pl d = true) : m_is_pair [d] S = .val (.bl (match d with | .tup [_, _] => true | _ => false)) S := by
  simp [m_is_pair, m_is_tuple_of, s_def, startD, is_tup_ok h]
  cases d with
  | tup xs =>
    match xs with
    | [] => rfl
    | [_] => rfl
    | [_, _] => rfl
    | _ :: _ :: _ :: r =>
      simp
      omega
  | _ => rfl
/-- a section, as data -/
def isSec : D → Bool
  | .tup [.int b, .non] => decide (0 ≤ b)
  | .tup [.int b, .int r] => decide (0 ≤ b) && decide (b ≤ r)
  | _ => false
theorem is_section_ok {d : D} {S : Sto} (h : pl d = true) (h2 : ∀ a b, d = .tup [a, b] → pl a = true ∧ pl b = true) : m_is_section [d] S = .val (.bl (isSec d)) S := by
  have key : ∀ a b, d = .tup [a, b] → m_is_section [d] S = .val (.bl (isSec d)) S := fun a b e => by
    obtain ⟨ha, hb⟩ := h2 a b e
    subst e
    simp [m_is_section, s_def, startD, is_pair_ok h, s_ixT, is_from_ok ha, is_from_ok hb]
    cases a <;> cases b <;> simp [isSec, is_from_ok ha, is_from_ok hb, D.isNon] <;> first | done | rfl | (simp [pl, kind] at ha; done) | (simp [pl, kind] at hb; done) | (split <;> simp_all <;> omega)
  match d, h with
  | .tup [a, b], _ => exact key a b rfl
  | .tup [], h => simp [m_is_section, s_def, startD, is_pair_ok h, isSec]
  | .tup [_], h => simp [m_is_section, s_def, startD, is_pair_ok h, isSec]
  | .tup (_ :: _ :: _ :: _), h => simp [m_is_section, s_def, startD, is_pair_ok h, isSec]
  | .non, h => simp [m_is_section, s_def, startD, is_pair_ok h, isSec]
  | .bl _, h => simp [m_is_section, s_def, startD, is_pair_ok h, isSec]
  | .int _, h => simp [m_is_section, s_def, startD, is_pair_ok h, isSec]
  | .str _, h => simp [m_is_section, s_def, startD, is_pair_ok h, isSec]
  | .lst _, h => simp [m_is_section, s_def, startD, is_pair_ok h, isSec]
  | .frz _, h => simp [m_is_section, s_def, startD, is_pair_ok h, isSec]
  | .dic _, h => simp [m_is_section, s_def, startD, is_pair_ok h, isSec]
end K77
namespace K77
open PySem PySem.Spec PyProof.Rows L2 Pv TL
/-! slices -/
theorem cut_to {α : Type} (xs : List α) (k : Nat) : Pv.cutD xs none (some (k : Int)) = xs.take k := by
  unfold Pv.cutD HT.sIx
  simp only []
  rw [if_neg (by omega), List.drop_zero, Nat.sub_zero, Int.toNat_natCast, List.take_eq_take_iff]
  omega
theorem cut_from {α : Type} (xs : List α) (k : Nat) : Pv.cutD xs (some (k : Int)) none = xs.drop k := by
  unfold Pv.cutD HT.sIx
  simp only []
  rw [if_neg (by omega), Int.toNat_natCast]
  by_cases h : k ≤ xs.length
  · rw [Nat.min_eq_left h, List.take_of_length_le (by rw [List.length_drop]; exact Nat.le_refl _)]
  · rw [Nat.min_eq_right (by omega), List.drop_length, List.drop_eq_nil_of_le (by omega), List.take_nil]
theorem cut_1 {α : Type} (xs : List α) : Pv.cutD xs none (some 1) = xs.take 1 := cut_to xs 1
theorem cut_all {α : Type} (xs : List α) : Pv.cutD xs none none = xs := by
  unfold Pv.cutD HT.sIx
  simp
@[simp] theorem s_slT {xs : List D} {lo hi : Option Int} {S : Sto} : sliceD (.tup xs) lo hi S = .val (.tup (Pv.cutD xs lo hi)) S := rfl
@[simp] theorem s_slL {xs : List D} {lo hi : Option Int} {S : Sto} : sliceD (.lst xs) lo hi S = .val (.lst (Pv.cutD xs lo hi)) S := rfl
@[simp] theorem s_slF {xs : List D} {lo hi : Option Int} {S : Sto} : sliceD (.frz xs) lo hi S = .val (.lst (Pv.cutD xs lo hi)) S := rfl
@[simp] theorem s_slS {z : Str} {lo hi : Option Int} {S : Sto} : sliceD (.str z) lo hi S = ifR (decide (z.length ≤ sizeLine)) (.val (.str (cutS z lo hi)) S) := Eq.trans rfl rfl
/-! a line's wrong section -/
def okv (d : D) : Prop := pl d = true ∧ ∀ xs, d = .tup xs → ∀ x ∈ xs, pl x = true ∧ ∀ a b, x = .tup [a, b] → pl a = true ∧ pl b = true
def bad : D → Bool
  | .tup [_, x] => !isSec x
  | _ => false
def fstD : D → D
  | .tup [i, _] => i
  | _ => .non
def bads (xs : List D) : List D := ((enumGo 0 xs).filter bad).map fstD
def wrongs (d : D) (lo hi : Int) : List D := match d with
  | .tup xs => if lo ≤ xs.length ∧ (xs.length : Int) ≤ hi then (bads xs).take 1 else [.non]
  | _ => [.non]
theorem big : (1000 : Nat) ≤ sizeLine := by decide
theorem enum_mem {xs : List D} {d : D} {n : Nat} (h : d ∈ enumGo n xs) : ∃ (i : Int) (x : D), d = .tup [.int i, x] ∧ x ∈ xs := by
  obtain ⟨j, hj⟩ := List.mem_iff_getElem?.mp h
  obtain ⟨x, hx, e⟩ := enumGo_get hj
  exact ⟨_, x, e, List.mem_of_getElem? hx⟩
theorem bads_len (xs : List D) : (bads xs).length ≤ xs.length := by
  unfold bads
  rw [List.length_map]
  exact Nat.le_trans (List.length_filter_le _ _) (by rw [enumGo_len]; exact Nat.le_refl _)
theorem wrong_ok {d : D} {lo hi : Int} {S : Sto} (h : okv d) (hhi : hi ≤ 1000) : m_wrong_in_sections [d, .int lo, .int hi] S = .val (.lst (wrongs d lo hi)) S := by
  have h1 : (1 : Nat) ≤ sizeLine := by decide
  cases d with
  | tup xs =>
    by_cases hb : lo ≤ (xs.length : Int) ∧ (xs.length : Int) ≤ hi
    · have hc : compGo (gSeq 2 (gConsM (gSet 3) (gConsM (gSet 4) gNilM))) (bNot (bT (eN (callN 1 m_is_section) (aCons (eVar 4) aNil)))) (eVar 3) [some (.tup xs), some (.int lo), some (.int hi), none, none] (enumGo 0 xs) S = .val (bads xs) S := by
        refine comp_pure fun d hd => ?_
        obtain ⟨i, x, rfl, hx⟩ := enum_mem hd
        obtain ⟨p1, p2⟩ := h.2 xs rfl x hx
        refine ⟨[some (.tup xs), some (.int lo), some (.int hi), some (.int i), some x], by simp, by simp [is_section_ok p1 p2, bad], fun _ => by simp [fstD]⟩
      have hl : (bads xs).length ≤ sizeLine := Nat.le_trans (bads_len xs) (Nat.le_trans (by omega) big)
      simp [m_wrong_in_sections, s_def, startD, is_tup_ok h.1, hb.1, hb.2, hc, hl, s_dec, wrongs, cut_1]
    · have hb' : (decide (lo ≤ (xs.length : Int)) && decide ((xs.length : Int) ≤ hi)) = false := by
        rw [← Bool.decide_and]
        exact decide_eq_false hb
      simp [m_wrong_in_sections, s_def, startD, is_tup_ok h.1, hb', wrongs, hb, h1]
  | _ => simp [m_wrong_in_sections, s_def, startD, is_tup_ok h.1, wrongs, h1]
theorem wrong_line_ok {d : D} {S : Sto} (h : okv d) : m_wrong_in_line [d] S = .val (.lst (wrongs d 1 12)) S := by
  simp [m_wrong_in_line, s_def, startD, wrong_ok h]
theorem check_line_ok {d : D} {S : Sto} (h : okv d) : m_check_line [d] S = (match wrongs d 1 12 with | [] => .val .non S | i :: _ => .exn ⟨"InvalidLine", [("index", i)]⟩ S) := by
  simp [m_check_line, s_def, startD, wrong_line_ok h]
  cases wrongs d 1 12 with
  | nil => rfl
  | cons i r => simp [s_for1]
end K77
namespace K77
open PySem PySem.Spec PyProof.Rows L2 Pv TL
/-! figures -/
def dig (c : Nat) : Bool := decide (c ∈ tl ("0123456789" : Str))
theorem figs : tl ("0123456789" : Str) = [48, 49, 50, 51, 52, 53, 54, 55, 56, 57] := by decide +kernel
theorem dig_iff {c : Nat} : dig c = true ↔ 48 ≤ c ∧ c ≤ 57 := by
  unfold dig
  rw [figs, decide_eq_true_eq]
  simp
  omega
theorem alld {l : List Nat} (h : l.all dig = true) : NumText.AllDigits l := fun c hc => dig_iff.mp (List.all_eq_true.mp h c hc)
theorem str_dec {x y : Str} : decide (x = y) = decide (tl x = tl y) := by
  by_cases h : x = y
  · rw [h, decide_eq_true rfl, decide_eq_true rfl]
  · rw [decide_eq_false h, decide_eq_false fun z => h (ext_tl z)]
@[simp] theorem s_inS {neg : Bool} {c : Nat} {z : Str} {S : Sto} : inD neg (.str ⟨#[c]⟩) (.str z) S = .val (.bl (if neg then !decide (c ∈ tl z) else decide (c ∈ tl z))) S := rfl
theorem t0 : tl ("0" : Str) = [48] := by decide +kernel
theorem tE : tl ("" : Str) = [] := by decide +kernel
theorem tD : tl ("-" : Str) = [45] := by decide +kernel
theorem tB : tl ("/" : Str) = [47] := by decide +kernel
theorem tS : tl (" " : Str) = [32] := by decide +kernel
/-- the number that a word writes -/
def wholeL (l : List Nat) : Option Nat := if l ≠ [] ∧ l.all dig = true ∧ (l = [48] ∨ l.head? ≠ some 48) then some (NumText.digitsVal l) else none
theorem allBl_map {α : Type} (p : α → Bool) : ∀ l : List α, allBl (l.map fun c => D.bl (p c)) = some (l.map p)
  | [] => rfl
  | a :: l => by
    show (allBl (l.map fun c => D.bl (p c))).map (p a :: ·) = _
    rw [allBl_map p l]
    rfl
theorem all_map_id {α : Type} (p : α → Bool) (l : List α) : (l.map p).all id = l.all p := by
  rw [List.all_map]
  rfl
theorem s_allL {xs : List D} {S : Sto} : allN [.lst xs] S = (match allBl xs with | some a => .val (.bl (a.all id)) S | none => .stuck) := by
  unfold allN lstIn
  dsimp only
  cases allBl xs <;> rfl
def wNum (o : Option Nat) : D := match o with
  | some n => .int n
  | none => .non
theorem lenT (w : Str) : (tl w).length = w.length := Array.length_toList
theorem int_of_digits {w : Str} {S : Sto} (h : (tl w).all dig = true) (h1 : tl w ≠ []) (hl : w.length ≤ 640) : intN [.str w] S = .val (.int (NumText.digitsVal (tl w))) S := by
  show (match PySem.intText? w with | some n => ifR (decide (w.length ≤ 640)) (R.val (D.int n) S) | none => R.stuck) = _
  rw [intText_digits (alld h) h1 (Nat.le_trans hl (by decide))]
  exact s_dec hl _
theorem comp_signs {w : Str} {n k : Nat} {Γ : Env'} {S : Sto} {p : Nat → Bool} {m : EM} (h : ∀ c ∈ tl w, m ((wipeD Γ [k]).set k (some (.str ⟨#[c]⟩))) S = .val (.bl (p c)) S) : compGo (gSet k) bTrue m (wipeD Γ [k]) (signsD w) S = .val ((tl w).map fun c => .bl (p c)) S := by
  have e : compGo (gSet k) bTrue m (wipeD Γ [k]) (signsD w) S = .val ((signsD w).map fun d => match d with | .str a => .bl (p (a.cps.toList.headD 0)) | _ => .non) S := by
    refine comp_map fun d hd => ?_
    unfold signsD at hd
    obtain ⟨c, hc, rfl⟩ := List.mem_map.mp hd
    exact ⟨_, rfl, h c hc⟩
  rw [e]
  unfold signsD
  rw [List.map_map]
  rfl
theorem whole_ok {w : Str} {S : Sto} (hl : w.length ≤ 640) : m_whole_in [.str w] S = .val (wNum (wholeL (tl w))) S := by
  have hs : w.length ≤ sizeLine := Nat.le_trans hl (Nat.le_trans (by decide) big)
  have hs' : w.cps.size ≤ sizeLine := hs
  have h1' : 1 ≤ sizeLine := by decide
  have hc : compGo (gSet 1) bTrue (eBin (inD false) (eVar 1) (eC (.str "0123456789"))) [some (.str w), none] (signsD w) S = .val ((tl w).map fun c => .bl (dig c)) S := comp_signs (n := 0) (k := 1) (Γ := [some (.str w), none]) fun c hc => by simp [dig]
  have hz : ((tl w).map fun c => D.bl (dig c)).length ≤ sizeLine := by rw [List.length_map, lenT]; exact hs
  have e1 : (w = "") = (tl w = []) := propext ⟨fun h => by rw [h, tE], fun h => ext_tl (by rw [h, tE])⟩
  have e2 : (w = "0") = (tl w = [48]) := propext ⟨fun h => by rw [h, t0], fun h => ext_tl (by rw [h, t0])⟩
  by_cases h0 : tl w = []
  · have q : (w = "") = True := by rw [e1]; exact eq_true h0
    have q2 : wholeL (tl w) = none := if_neg fun z => z.1 h0
    simp [m_whole_in, s_def, startD, q, q2, wNum]
  · have q : (w = "") = False := by rw [e1]; exact eq_false h0
    obtain ⟨c, r, hw⟩ := List.exists_cons_of_ne_nil h0
    cases hd : (tl w).all dig with
    | false =>
      have q2 : wholeL (tl w) = none := if_neg fun z => by rw [hd] at z; exact Bool.false_ne_true z.2.1
      simp [m_whole_in, s_def, startD, q, q2, hc, hs, hs', s_allL, allBl_map, all_map_id, hd, wNum]
    | true =>
      have ix : L2.atI (tl w) 0 = some c := by rw [hw]; exact s_at0 _ _
      have e3 : ((⟨#[c]⟩ : Str) = "0") = (c = 48) := propext ⟨fun h => by
        have := congrArg tl h
        rw [t0] at this
        simpa [tl] using this, fun h => ext_tl (by rw [h, t0])⟩
      by_cases h1 : tl w = [48]
      · have q3 : (w = "0") = True := by rw [e2]; exact eq_true h1
        have q2 : wholeL (tl w) = some (NumText.digitsVal (tl w)) := if_pos ⟨h0, hd, .inl h1⟩
        simp [m_whole_in, s_def, startD, q, q2, q3, hc, hs, hs', s_allL, allBl_map, all_map_id, hd, wNum, int_of_digits hd h0 hl]
      · have q3 : (w = "0") = False := by rw [e2]; exact eq_false h1
        by_cases h2 : c = 48
        · have q4 : ((⟨#[c]⟩ : Str) = "0") = True := by rw [e3]; exact eq_true h2
          have q2 : wholeL (tl w) = none := if_neg fun z => z.2.2.elim h1 fun y => y (by rw [hw, h2]; rfl)
          simp [m_whole_in, s_def, startD, q, q2, q3, q4, hc, hs, hs', s_allL, allBl_map, all_map_id, hd, wNum, s_ixS, ix]
        · have q4 : ((⟨#[c]⟩ : Str) = "0") = False := by rw [e3]; exact eq_false h2
          have q2 : wholeL (tl w) = some (NumText.digitsVal (tl w)) := if_pos ⟨h0, hd, .inr (by rw [hw]; exact fun y => h2 (Option.some.inj y))⟩
          simp [m_whole_in, s_def, startD, q, q2, q3, q4, hc, hs, hs', s_allL, allBl_map, all_map_id, hd, wNum, s_ixS, ix, int_of_digits hd h0 hl]
end K77
namespace K77
open PySem PySem.Spec PyProof.Rows L2 Pv TL
/-- a text that can be read: not too long, its words short, its signs plain -/
structure Tx (t : Str) : Prop where
  len : t.length ≤ 100000
  wd : ∀ w ∈ Txt.split t " ", w.length ≤ 330
  asc : ∀ c ∈ tl t, c < 128
theorem lenS : ((" " : Str).length == 0) = false := by decide
theorem Tx.fits {t : Str} (h : Tx t) : t.length + 2 ≤ sizeLine := Nat.le_trans (Nat.add_le_add_right h.len 2) (by decide)
theorem Tx.wd6 {t : Str} (h : Tx t) : ∀ w ∈ Txt.split t " ", w.length ≤ 640 := fun w hw => Nat.le_trans (h.wd w hw) (by decide)
theorem Tx.many {t : Str} (h : Tx t) : (Txt.split t " ").length ≤ sizeLine := Nat.le_trans (split_le t " ") h.fits
/-! the law's own reading -/
/-- the law's number -/
def numD (l : List Nat) : D := match l with
  | 45 :: r => if r ≠ [] ∧ r.all dig = true ∧ r.head? ≠ some 48 then .int (-((NumText.digitsVal r : Nat) : Int)) else .non
  | l => wNum (wholeL l)
theorem cutS_tl (z : Str) (lo hi : Option Int) : tl (cutS z lo hi) = Pv.cutD (tl z) lo hi := by
  unfold Pv.cutD
  rw [← len_tl]
  rfl
theorem cut_1' (w : Str) : tl (cutS w none (some 1)) = (tl w).take 1 := by rw [cutS_tl, cut_1]
theorem cut_f1 (w : Str) : tl (cutS w (some 1) none) = (tl w).drop 1 := by rw [cutS_tl]; exact cut_from (tl w) 1
theorem str_prop {x y : Str} : (x = y) = (tl x = tl y) := propext ⟨fun h => by rw [h], fun h => ext_tl h⟩
theorem py_strs : ∀ l : List Nat, pyAll (l.map fun c => D.str ⟨#[c]⟩) = some (l.map fun c => PyData.str ⟨#[c]⟩)
  | [] => rfl
  | c :: l => by
    show (match D.py (.str ⟨#[c]⟩), pyAll (l.map fun c => D.str ⟨#[c]⟩) with | some x, some xs => some (x :: xs) | _, _ => none) = _
    rw [py_strs l]
    rfl
theorem lay_strs : ∀ l : List Nat, (∀ c ∈ l, c < 128) → PyData.canLayAll0 (l.map fun c => PyData.str ⟨#[c]⟩) = true ∧ PyData.depthAll (l.map fun c => PyData.str ⟨#[c]⟩) = 0
  | [], _ => ⟨by simp [PyData.canLayAll0], by simp [PyData.depthAll]⟩
  | c :: l, h => by
    obtain ⟨h1, h2⟩ := lay_strs l fun x hx => h x (List.mem_cons_of_mem _ hx)
    have hc := h c List.mem_cons_self
    have : PyData.strOk ⟨#[c]⟩ = true := by
      unfold PyData.strOk
      simp
      omega
    exact ⟨by simp [PyData.canLayAll0, PyData.canLay0, h1, this], by simp [PyData.depthAll, PyData.depth, h2]⟩
theorem ne_nil_strs {l : List Nat} {S : Sto} (h : ∀ c ∈ l, c < 128) : neD (.lst (l.map fun c => .str ⟨#[c]⟩)) (.lst []) S = .val (.bl (!decide (l = []))) S := by
  have e1 : D.py (.lst (l.map fun c => D.str ⟨#[c]⟩)) = some (.list (l.map fun c => PyData.str ⟨#[c]⟩)) := by unfold D.py; rw [py_strs]; rfl
  have e2 : D.py (.lst []) = some (.list []) := rfl
  obtain ⟨h1, h2⟩ := lay_strs l h
  have s1 : SeqAt.shaped (.list (l.map fun c => PyData.str ⟨#[c]⟩)) = true := by
    unfold SeqAt.shaped
    simp [PyData.canLay0, PyData.depth, h1, h2]
  have s2 : SeqAt.shaped (.list []) = true := by decide
  show (match D.py (.lst (l.map fun c => D.str ⟨#[c]⟩)), D.py (.lst []) with | some a, some b => ifR (SeqAt.shaped a && SeqAt.shaped b) (R.val (D.bl (!PyData.eqv a b)) S) | _, _ => R.stuck) = _
  rw [e1, e2]
  dsimp only
  rw [s1, s2]
  cases l with
  | nil => rfl
  | cons c l => rfl
theorem comp_not {w : Str} {k : Nat} {Γ : Env'} {S : Sto} (hk : k < Γ.length) : compGo (gSet k) (bT (eBin (inD true) (eVar k) (eC (.str "0123456789")))) (eVar k) (wipeD Γ [k]) (signsD w) S = .val (((tl w).filter fun c => !dig c).map fun c => .str ⟨#[c]⟩) S := by
  have e := comp_pure (Γ := wipeD Γ [k]) (gm := gSet k) (c := bT (eBin (inD true) (eVar k) (eC (.str "0123456789")))) (m := eVar k) (S := S) (ds := signsD w) (p := fun d => match d with | .str a => !dig (a.cps.toList.headD 0) | _ => false) (f := fun d => d) fun d hd => by
    unfold signsD at hd
    obtain ⟨c, hc, rfl⟩ := List.mem_map.mp hd
    have hg : (List.set Γ k (some (D.str ⟨#[c]⟩)))[k]? = some (some (D.str ⟨#[c]⟩)) := List.getElem?_set_self hk
    refine ⟨_, rfl, ?_, fun _ => ?_⟩
    · simp [hg, dig]
    · simp [hg]
  rw [e]
  unfold signsD
  rw [List.map_id', List.filter_map]
  rfl
end K77
namespace K77
open PySem PySem.Spec PyProof.Rows L2 Pv TL
theorem int_of_neg {w : Str} {r : List Nat} {S : Sto} (e : tl w = 45 :: r) (h : r.all dig = true) (h1 : r ≠ []) (hl : w.length ≤ 640) : intN [.str w] S = .val (.int (-((NumText.digitsVal r : Nat) : Int))) S := by
  show (match PySem.intText? w with | some n => ifR (decide (w.length ≤ 640)) (R.val (D.int n) S) | none => R.stuck) = _
  rw [intText_neg e (alld h) h1 (Nat.le_trans hl (by decide))]
  exact s_dec hl _
theorem fil_nil {l : List Nat} : ((l.filter fun c => !dig c) = []) = (l.all dig = true) := propext ⟨fun h => by
    rw [List.filter_eq_nil_iff] at h
    rw [List.all_eq_true]
    intro x hx
    have := h x hx
    simpa using this, fun h => by
    rw [List.filter_eq_nil_iff]
    intro x hx
    rw [List.all_eq_true.mp h x hx]
    simp⟩
def numBody : SM := sSeq (sIf (bOr (bT (eBin eqD (eVar 1) (eC (.str "")))) (bOr (bT (eBin neD (eLst (fComp (iIt (eVar 1)) (gSet 2) (bT (eBin (inD true) (eVar 2) (eC (.str "0123456789")))) (eVar 2) [2])) (eN lstN aNil))) (bAnd (bT (eBin eqD (eBin ixD (eVar 1) (eC (.int 0))) (eC (.str "0")))) (bT (eBin neD (eVar 0) (eC (.str "0"))))))) (sRet (eC .non)) sNil) (sRet (eN intN (aCons (eVar 0) aNil)))
/-- the law's number, of the word w with the figures F -/
theorem num_core {w F : Str} {S : Sto} (hF : F.length ≤ 640) (ha : ∀ c ∈ tl F, c < 128) {v : D} (hi : tl F ≠ [] → (tl F).all dig = true → ((tl F).head? ≠ some 48 ∨ w = "0") → intN [.str w] S = .val v S) :
    numBody [some (.str w), some (.str F), none] S =
      .rt (if tl F ≠ [] ∧ (tl F).all dig = true ∧ ((tl F).head? ≠ some 48 ∨ w = "0") then v else .non) S := by
  unfold numBody
  have hs : F.length ≤ sizeLine := Nat.le_trans hF (Nat.le_trans (by decide) big)
  have h0 : 0 ≤ sizeLine := Nat.zero_le _
  have hc : compGo (gSet 2) (bT (eBin (inD true) (eVar 2) (eC (.str "0123456789")))) (eVar 2) [some (.str w), some (.str F), none] (signsD F) S = .val (((tl F).filter fun c => !dig c).map fun c => .str ⟨#[c]⟩) S := comp_not (k := 2) (Γ := [some (.str w), some (.str F), none]) (by simp)
  have hf : ((tl F).filter fun c => !dig c).length ≤ sizeLine := Nat.le_trans (List.length_filter_le _ _) (by rw [lenT]; exact hs)
  have hn : neD (.lst (((tl F).filter fun c => !dig c).map fun c => .str ⟨#[c]⟩)) (.lst []) S = .val (.bl (!decide (((tl F).filter fun c => !dig c) = []))) S := ne_nil_strs fun c hc => ha c (List.mem_filter.mp hc).1
  have hn' : decide (((tl F).filter fun c => !dig c) = []) = (tl F).all dig := by
    rw [Bool.eq_iff_iff, decide_eq_true_eq, fil_nil]
  rw [hn'] at hn
  by_cases e0 : tl F = []
  · have q : (F = "") = True := by rw [str_prop, tE]; exact eq_true e0
    simp [q, e0]
  · have q : (F = "") = False := by rw [str_prop, tE]; exact eq_false e0
    cases hd : (tl F).all dig with
    | false =>
      rw [hd] at hn
      simp [q, hc, hf, hn, h0]
    | true =>
      rw [hd] at hn
      obtain ⟨c, r, hw⟩ := List.exists_cons_of_ne_nil e0
      have ix : L2.atI (tl F) 0 = some c := by rw [hw]; exact s_at0 _ _
      have hh : (tl F).head? = some c := by rw [hw]; rfl
      have e3 : ((⟨#[c]⟩ : Str) = "0") = (c = 48) := by rw [str_prop, t0]; exact propext ⟨fun h => by simpa [tl] using h, fun h => by simp [tl, h]⟩
      by_cases h2 : c = 48
      · subst h2
        have q4 : ((⟨#[48]⟩ : Str) = "0") = True := by rw [e3]; exact eq_true rfl
        by_cases h3 : w = "0"
        · have q5 : (w = "0") = True := eq_true h3
          have := hi e0 hd (.inr h3)
          simp [q, hc, hf, hn, h0, s_ixS, hs, ix, q4, q5, this, e0]
        · have q5 : (w = "0") = False := eq_false h3
          simp [q, hc, hf, hn, h0, s_ixS, hs, ix, q4, q5, hh]
      · have q4 : ((⟨#[c]⟩ : Str) = "0") = False := by rw [e3]; exact eq_false h2
        have hh' : (tl F).head? ≠ some 48 := by rw [hh]; exact fun z => h2 (Option.some.inj z)
        have := hi e0 hd (.inl hh')
        simp [q, hc, hf, hn, h0, s_ixS, hs, ix, q4, this, e0, hh, h2]
theorem mem_joinL {s : List Nat} {c : Nat} : ∀ {ls : List (List Nat)} {x : List Nat}, x ∈ ls → c ∈ x → c ∈ joinL s ls
  | [p], x, hx, hc => by
    rw [List.mem_singleton.mp hx] at hc
    exact hc
  | p :: q :: r, x, hx, hc => by
    show c ∈ p ++ (s ++ joinL s (q :: r))
    rcases List.mem_cons.mp hx with e | e
    · rw [e] at hc
      exact List.mem_append_left _ hc
    · exact List.mem_append_right _ (List.mem_append_right _ (mem_joinL e hc))
theorem part_mem {w y p : Str} (h : p ∈ Txt.split w y) {c : Nat} (hc : c ∈ tl p) : c ∈ tl w := by
  have e := PySem.StrLaws.join_split w y
  rw [← e, tl_join]
  exact mem_joinL (List.mem_map.mpr ⟨p, h, rfl⟩) hc
theorem num_three (l : List Nat) : (∃ n : Nat, wholeL l = some n ∧ numD l = .int n) ∨ (wholeL l = none ∧ numD l = .non) ∨ (wholeL l = none ∧ ∃ n : Nat, 1 ≤ n ∧ numD l = .int (-(n : Int))) := by
  unfold numD
  split
  · rename_i r
    have hw : wholeL (45 :: r) = none := if_neg fun z => by
      have := z.2.1
      rw [List.all_cons] at this
      have d : dig 45 = false := by rw [Bool.eq_false_iff]; intro q; have := dig_iff.mp q; omega
      rw [d] at this
      exact Bool.false_ne_true this
    by_cases c : r ≠ [] ∧ r.all dig = true ∧ r.head? ≠ some 48
    · rw [if_pos c]
      obtain ⟨a, q, rfl⟩ := List.exists_cons_of_ne_nil c.1
      have h1 := alld c.2.1 a List.mem_cons_self
      have h2 : a ≠ 48 := fun z => c.2.2 (by rw [z]; rfl)
      have := NumText.digitsVal_pos (c := a) (cs := q) (by omega)
      exact .inr (.inr ⟨hw, _, this, rfl⟩)
    · rw [if_neg c]
      exact .inr (.inl ⟨hw, rfl⟩)
  · cases h : wholeL l with
    | none => exact .inr (.inl ⟨rfl, rfl⟩)
    | some n => exact .inl ⟨n, rfl, rfl⟩
end K77
namespace K77
open PySem PySem.Spec PyProof.Rows L2 Pv TL
abbrev Sec := Nat × Option Nat
def roomD : Option Nat → D
  | none => .non
  | some r => .int r
def sD (s : Sec) : D := .tup [.int s.1, roomD s.2]
def nS (n : Nat) : Str := Str.ofString (toString ((n : Nat) : Int))
/-- numbers that can be written -/
def NB : Nat := 10 ^ 330
theorem log_ok {n : Nat} (h : n < NB) : ((n : Int).natAbs).log2 < 1920 := by
  rw [Int.natAbs_natCast]
  by_cases h0 : n = 0
  · subst h0
    rw [Nat.log2_zero]
    decide
  · rw [Nat.log2_lt h0]
    exact Nat.lt_trans h (by decide +kernel)
theorem nS_len {n : Nat} (h : n < NB) : (nS n).length ≤ 330 := by
  rw [len_tl]
  unfold nS
  rw [tl_num]
  exact numL_len (by decide) h
theorem empty_pp (x : Str) : Str.empty ++ x = x := ext_tl (by rw [tl_append]; rfl)
theorem fmt_str {m : EM} {x : Str} {Γ : Env'} {S : Sto} (h : m Γ S = .val (.str x) S) (hl : x.length ≤ sizeLine) : eFmt m Γ S = .val (.str x) S := by
  rw [s_eFmt, h, R.bind_val]
  exact s_dec hl _
theorem fmt_nat {m : EM} {n : Nat} {Γ : Env'} {S : Sto} (h : m Γ S = .val (.int (n : Int)) S) (hl : n < NB) : eFmt m Γ S = .val (.str (nS n)) S := by
  rw [s_eFmt, h, R.bind_val]
  exact s_dec (log_ok hl) _
theorem str_nat {n : Nat} {S : Sto} (h : n < NB) : strN [.int (n : Int)] S = .val (.str (nS n)) S := by
  rw [s_strI]
  exact s_dec (log_ok h) _
theorem allStr_map : ∀ l : List Str, allStr (l.map D.str) = some l
  | [] => rfl
  | a :: l => by
    show (allStr (l.map D.str)).map (a :: ·) = _
    rw [allStr_map l]
    rfl
theorem join_ok {l : List Str} {S : Sto} {B n : Nat} (h : ∀ w ∈ l, w.length ≤ B) (hn : l.length ≤ n) (hb : n * (B + 1) ≤ 16777216) : joinD (.str " ") (.lst (l.map D.str)) S = .val (.str (Txt.join " " l)) S := by
  have hs : (l.map (·.length)).sum ≤ l.length * B := by
    clear hn hb
    induction l with
    | nil => simp
    | cons a l ih =>
      have := ih fun w hw => h w (List.mem_cons_of_mem _ hw)
      have := h a List.mem_cons_self
      rw [List.map_cons, List.sum_cons, List.length_cons, Nat.succ_mul]
      omega
  have h1 : (" " : Str).length = 1 := by decide
  have h2 : l.length * (B + 1) ≤ n * (B + 1) := Nat.mul_le_mul_right _ hn
  rw [Nat.mul_succ] at h2
  unfold joinD
  dsimp only [D.items]
  rw [allStr_map]
  dsimp only
  exact s_dec (by rw [h1]; omega) _
def good (s : Sec) : Prop := ∀ r, s.2 = some r → s.1 ≤ r
theorem isSec_good {s : Sec} (h : good s) : isSec (sD s) = true := by
  obtain ⟨b, r⟩ := s
  cases r with
  | none => simp [sD, roomD, isSec]
  | some r =>
    have := h r rfl
    simp [sD, roomD, isSec]
    omega
theorem pl_room (o : Option Nat) : pl (roomD o) = true := by cases o <;> rfl
theorem pl_sD (s : Sec) : pl (sD s) = true := rfl
theorem pl_sD2 (s : Sec) : ∀ a b, sD s = .tup [a, b] → pl a = true ∧ pl b = true := fun a b e => by
  unfold sD at e
  injection e with e
  injection e with e1 e2
  injection e2 with e2 e3
  exact ⟨by rw [← e1]; rfl, by rw [← e2]; exact pl_room _⟩
theorem okv_line (ss : List Sec) : okv (.tup (ss.map sD)) := ⟨rfl, fun xs e x hx => by
  injection e with e
  rw [← e] at hx
  obtain ⟨s, _, rfl⟩ := List.mem_map.mp hx
  exact ⟨pl_sD s, pl_sD2 s⟩⟩
theorem bads_good : ∀ {xs : List D} {n : Nat}, (∀ x ∈ xs, isSec x = true) → (enumGo n xs).filter bad = []
  | [], _, _ => rfl
  | x :: xs, n, h => by
    unfold enumGo
    rw [List.filter_cons_of_neg (by show ¬ (!isSec x) = true; rw [h x List.mem_cons_self]; simp)]
    exact bads_good fun y hy => h y (List.mem_cons_of_mem _ hy)
theorem wrongs_good {ss : List Sec} (h : ∀ s ∈ ss, good s) (h1 : 1 ≤ ss.length) (h2 : ss.length ≤ 12) : wrongs (.tup (ss.map sD)) 1 12 = [] := by
  show (if (1 : Int) ≤ ((ss.map sD).length : Int) ∧ ((ss.map sD).length : Int) ≤ 12 then (bads (ss.map sD)).take 1 else [.non]) = []
  rw [List.length_map, if_pos (by omega)]
  unfold bads
  rw [bads_good (fun x hx => by obtain ⟨s, hs, rfl⟩ := List.mem_map.mp hx; exact isSec_good (h s hs))]
  rfl
theorem digits_bound : ∀ (l : List Nat) (acc : Nat), l.all dig = true → l.foldl (fun a c => a * 10 + (c - 48)) acc < (acc + 1) * 10 ^ l.length
  | [], acc, _ => by simp
  | c :: l, acc, h => by
    rw [List.all_cons, Bool.and_eq_true] at h
    have hc := dig_iff.mp h.1
    have ih := digits_bound l (acc * 10 + (c - 48)) h.2
    rw [List.foldl_cons, List.length_cons, Nat.pow_succ]
    refine Nat.lt_of_lt_of_le ih ?_
    rw [Nat.mul_comm (10 ^ l.length) 10, ← Nat.mul_assoc]
    exact Nat.mul_le_mul_right _ (by omega)
theorem whole_small {l : List Nat} {n : Nat} (h : wholeL l = some n) (hl : l.length ≤ 330) : n < NB := by
  unfold wholeL at h
  split at h
  · rename_i hc
    cases h
    have := digits_bound l 0 hc.2.1
    rw [Nat.zero_add, Nat.one_mul] at this
    exact Nat.lt_of_lt_of_le this (Nat.pow_le_pow_right (by decide) hl)
  · cases h
theorem nS_back {l : List Nat} {n : Nat} (h : wholeL l = some n) : tl (nS n) = l := by
  unfold wholeL at h
  split at h
  · rename_i hc
    cases h
    obtain ⟨h1, h2, h3⟩ := hc
    unfold nS
    rw [tl_num]
    show (Nat.toDigits 10 (NumText.digitsVal l)).map Char.toNat = l
    obtain ⟨c, r, e⟩ := List.exists_cons_of_ne_nil h1
    have ad := alld h2
    rw [NumText.toDigits_digitsVal (l.length - 1) l (by rw [e]; simp) ad (by
      rcases h3 with z | z
      · left; rw [z]; rfl
      · right
        refine ⟨c, r, e, ?_⟩
        have := ad c (by rw [e]; exact List.mem_cons_self)
        have : c ≠ 48 := fun y => z (by rw [e, y]; rfl)
        omega), List.map_map]
    have : ∀ x ∈ l, (Char.toNat ∘ Char.ofNat) x = id x := fun x hx => by
      have := ad x hx
      show (Char.ofNat x).toNat = x
      have e10 : x = 48 ∨ x = 49 ∨ x = 50 ∨ x = 51 ∨ x = 52 ∨ x = 53 ∨ x = 54 ∨ x = 55 ∨ x = 56 ∨ x = 57 := by omega
      rcases e10 with z | z | z | z | z | z | z | z | z | z <;> rw [z] <;> rfl
    rw [List.map_congr_left this, List.map_id]
  · cases h
def roomS : Option Nat → Str
  | none => "-"
  | some r => nS r
def sW (s : Sec) : Str := nS s.1 ++ "/" ++ roomS s.2
def small (s : Sec) : Prop := s.1 < NB ∧ ∀ r, s.2 = some r → r < NB
theorem roomS_len {s : Sec} (h : small s) : (roomS s.2).length ≤ 330 := by
  cases e : s.2 with
  | none => decide
  | some r => exact nS_len (h.2 r e)
theorem lenSl : ("/" : Str).length = 1 := by decide
theorem sW_len {s : Sec} (h : small s) : (sW s).length ≤ 661 := by
  unfold sW
  rw [strLen_append, strLen_append, lenSl]
  have := nS_len h.1
  have := roomS_len h
  omega
theorem js3 {m1 m2 m3 : EM} {x y z : Str} {Γ : Env'} {S : Sto} (h1 : m1 Γ S = .val (.str x) S) (h2 : m2 Γ S = .val (.str y) S) (h3 : m3 Γ S = .val (.str z) S) (hl : (x ++ y ++ z).length ≤ sizeLine) : jsGo [m1, m2, m3] Str.empty Γ S = .val (.str (x ++ y ++ z)) S := by
  have e3 := strLen_append (x ++ y) z
  have e2 := strLen_append x y
  rw [s_jsGo1, h1, R.bind_val]
  dsimp only
  rw [empty_pp, s_dec (by omega), s_jsGo1, h2, R.bind_val]
  dsimp only
  rw [s_dec (by omega), s_jsGo1, h3, R.bind_val]
  dsimp only
  rw [s_dec hl, s_jsGo0]
theorem section_word_ok {s : Sec} {S : Sto} (h : small s) : m_section_word [sD s] S = .val (.str (sW s)) S := by
  have hz : (sW s).length ≤ sizeLine := Nat.le_trans (sW_len h) (by decide)
  have hr : (roomS s.2).length ≤ sizeLine := Nat.le_trans (roomS_len h) (by decide)
  have k4 : ("/" : Str).length ≤ sizeLine := by decide
  have e4 : startD 3 [sD s] = [some (sD s), none, none] := rfl
  have eA : sAsg (eVar 0) (gSeq 2 (gConsM (gSet 1) (gConsM (gSet 2) gNilM))) [some (sD s), none, none] S = .nx [some (sD s), some (.int (s.1 : Int)), some (roomD s.2)] S := by simp [sD]
  have m3 : eFmt (eIf (bT (eBin isND (eVar 2) (eC .non))) (eC (.str "-")) (eVar 2)) [some (sD s), some (.int (s.1 : Int)), some (roomD s.2)] S = .val (.str (roomS s.2)) S := by
    cases e : s.2 with
    | none =>
      rw [e] at hr
      exact fmt_str (by simp [roomD, roomS]) hr
    | some r => exact fmt_nat (by simp [roomD]) (h.2 r e)
  have j := js3 (fmt_nat (m := eVar 1) (Γ := [some (sD s), some (.int (s.1 : Int)), some (roomD s.2)]) (S := S) rfl h.1) (fmt_str (m := eC (.str "/")) rfl k4) m3 hz
  unfold m_section_word
  rw [s_def, e4, s_sSeq, eA, seq_nx, s_sRet, j]
  rfl
/-- the words of a line, in one text -/
def tW (ss : List Sec) : Str := Txt.join " " (ss.map sW)
theorem text_ok {ss : List Sec} {S : Sto} (h : ∀ s ∈ ss, small s) (hn : ss.length ≤ 1000) : m_text_of_line [.tup (ss.map sD)] S = .val (.str (tW ss)) S := by
  have hc : compGo (gSet 1) bTrue (eN (callN 1 m_section_word) (aCons (eVar 1) aNil)) [some (.tup (ss.map sD)), none] (ss.map sD) S = .val ((ss.map sW).map D.str) S := by
    have key : ∀ (l : List Sec), (∀ s ∈ l, small s) → compGo (gSet 1) bTrue (eN (callN 1 m_section_word) (aCons (eVar 1) aNil)) [some (.tup (ss.map sD)), none] (l.map sD) S = .val ((l.map sW).map D.str) S := by
      intro l
      induction l with
      | nil => intro _; rfl
      | cons s l ih =>
        intro hl
        have e1 : eN (callN 1 m_section_word) (aCons (eVar 1) aNil) [some (.tup (ss.map sD)), some (sD s)] S = .val (.str (sW s)) S := by simp [section_word_ok (hl s List.mem_cons_self)]
        have e2 := ih fun x hx => hl x (List.mem_cons_of_mem _ hx)
        show (match eN (callN 1 m_section_word) (aCons (eVar 1) aNil) [some (.tup (ss.map sD)), some (sD s)] S with
          | .val y S3 => (compGo (gSet 1) bTrue (eN (callN 1 m_section_word) (aCons (eVar 1) aNil)) [some (.tup (ss.map sD)), none] (l.map sD) S3).bind fun ys S4 => .val (y :: ys) S4
          | _ => .stuck) = _
        rw [e1]
        dsimp only
        rw [e2, R.bind_val]
        rfl
    exact key ss h
  have hl : ss.length ≤ sizeLine := Nat.le_trans hn big
  have j := join_ok (l := ss.map sW) (S := S) (B := 661) (n := 1000) (fun w hw => by obtain ⟨s, hs, rfl⟩ := List.mem_map.mp hw; exact sW_len (h s hs)) (by rw [List.length_map]; exact hn) (by decide)
  have e4 : startD 2 [.tup (ss.map sD)] = [some (.tup (ss.map sD)), none] := rfl
  have e5 : eLst (fComp (iIt (eVar 0)) (gSet 1) bTrue (eN (callN 1 m_section_word) (aCons (eVar 1) aNil)) [1]) [some (.tup (ss.map sD)), none] S = .val (.lst ((ss.map sW).map D.str)) S := by
    simp only [s_eLst, s_fComp, s_iIt, s_eVar]
    show (((compGo _ _ _ [some (.tup (ss.map sD)), none] (ss.map sD) S).bind fun ys S2 => ifR (decide (ys.length ≤ sizeLine)) (R.val ys S2)).bind fun ds S1 => R.val (D.lst ds) S1) = _
    rw [hc, R.bind_val, s_dec (by rw [List.length_map, List.length_map]; exact hl), R.bind_val]
  unfold m_text_of_line
  rw [s_def, e4, s_sRet, s_strM1, s_eC, R.bind_val]
  dsimp only
  rw [e5, R.bind_val, j]
  rfl
theorem line_text_ok {ss : List Sec} {S : Sto} (h : ∀ s ∈ ss, small s ∧ good s) (h1 : 1 ≤ ss.length) (h2 : ss.length ≤ 12) : m_line_text [.tup (ss.map sD)] S = .val (.str (tW ss)) S := by
  have hc : m_check_line [.tup (ss.map sD)] S = .val .non S := by
    rw [check_line_ok (okv_line ss), wrongs_good (fun s hs => (h s hs).2) h1 h2]
  have ht := text_ok (S := S) (fun s hs => (h s hs).1) (Nat.le_trans h2 (by decide))
  simp [m_line_text, s_def, startD, hc, ht]
theorem line_text_bad {d i : D} {r : List D} {S : Sto} (h : okv d) (hw : wrongs d 1 12 = i :: r) : m_line_text [d] S = .exn ⟨"InvalidLine", [("index", i)]⟩ S := by
  have hc : m_check_line [d] S = .exn ⟨"InvalidLine", [("index", i)]⟩ S := by rw [check_line_ok h, hw]
  simp [m_line_text, s_def, startD, hc]
end K77
namespace K77
open PySem PySem.Spec PyProof.Rows L2 Pv TL
theorem repr_some {d : D} {p : PyData} {S : Sto} (e : d.py = some p) (h1 : p.showable = true) (h2 : p.hasDict = false) (h3 : p.depth ≤ 64) (h4 : p.shown.length ≤ sizeLine) : reprN [d] S = .val (.str p.shown) S := by
  unfold reprN
  dsimp only
  rw [e]
  dsimp only
  exact s_if (by rw [h1, decide_eq_true h2, decide_eq_true h3, decide_eq_true h4]; rfl) _
theorem repr_texts {t : Str} (h : t.length ≤ 100000) (ha : ∀ c ∈ tl t, c < 128) : ∃ z, ∀ S, reprN [.lst [.str t, .str t]] S = .val (.str z) S := by
  have e : D.py (.lst [.str t, .str t]) = some (.list [.str t, .str t]) := rfl
  have hl : (t.cps.toList.all fun c => decide (c < 16 ^ 8)) = true := List.all_eq_true.mpr fun c hc => decide_eq_true (Nat.lt_trans (ha c hc) (by decide))
  have hb := PyData.shown_le_bulk 8 (by decide) (.list [.str t, .str t]) (by simp only [PyData.leavesShort, PyData.leavesShortAll, hl]; rfl)
  refine ⟨_, fun S => repr_some e (by simp [PyData.showable, PyData.showableAll]) (by simp [PyData.hasDict, PyData.hasDictAll]) (by simp [PyData.depth, PyData.depthAll]) (Nat.le_trans hb ?_)⟩
  have h' : t.cps.size ≤ 100000 := h
  simp [PyData.bulk, PyData.bulkAll]
  rw [sizeLine_eq]
  omega
theorem eq_heard {x : Str} {j : Int} {S : Sto} (hx : PyData.strOk x = true) : eqD (.lst [.str x, .int j]) (.lst [.str x, .int j]) S = .val (.bl true) S := by
  have e : D.py (.lst [.str x, .int j]) = some (.list [.str x, .int j]) := rfl
  have s1 : SeqAt.shaped (.list [.str x, .int j]) = true := by
    unfold SeqAt.shaped
    simp [PyData.canLay0, PyData.canLayAll0, PyData.depth, PyData.depthAll, hx]
  unfold eqD
  dsimp only
  rw [e]
  dsimp only
  rw [s1]
  simp [PyData.eqv, PyData.eqvAll]
end K77
namespace K77
open PySem PySem.Spec PyProof.Rows L2 Pv TL
/-! the pool -/
abbrev pl3 (a b c : Int) : Cell := .lst [.int a, .int b, .int c]
theorem pool_get {S0 : Sto} {x : Cell} : (S0 ++ [x])[S0.length]? = some x := by
  rw [List.getElem?_append_right (Nat.le_refl _), Nat.sub_self]
  rfl
theorem pool_set {S0 : Sto} {x y : Cell} : (S0 ++ [x]).set S0.length y = S0 ++ [y] := by
  rw [List.set_append_right _ _ (Nat.le_refl _), Nat.sub_self]
  rfl
theorem bits_le {i : Int} {k : Nat} (h0 : 0 ≤ i) (h : i < 2 ^ k) : Builtin.Int.intBits i ≤ k := by
  obtain ⟨n, rfl⟩ := Int.eq_ofNat_of_zero_le h0
  have hn : n < 2 ^ k := by
    have e : ((2 ^ k : Nat) : Int) = (2 : Int) ^ k := by simp
    rw [← e] at h
    omega
  unfold Builtin.Int.intBits
  by_cases z : n = 0
  · subst z
    exact Nat.zero_le _
  · have : ((n : Int) == 0) = false := by
      rw [beq_eq_false_iff_ne]
      omega
    rw [this]
    show (n : Int).natAbs.log2 + 1 ≤ k
    rw [Int.natAbs_natCast]
    exact (Nat.log2_lt z).mpr hn
def Pool (S0 : Sto) (n : Nat) (S : Sto) : Prop := ∃ a b c : Int, S = S0 ++ [pl3 a b c] ∧ 0 ≤ a ∧ a < 2147483549 ∧ 0 ≤ b ∧ 0 ≤ c ∧ c ≤ n
theorem ixN3 : ∀ k : Nat, k < 3 → ixN 3 (k : Int) = some k := by decide
theorem draw_pos {S0 : Sto} {a b c m : Int} (hb : 0 < b) (h0 : 0 < m) (h1 : m < 1073741824) : m__law_draw [.ref S0.length, .int m] (S0 ++ [pl3 a b c]) = .val (.int (b % m)) (S0 ++ [pl3 a (b / m) c]) := by
  have hn : ixN 3 1 = some 1 := ixN3 1 (by decide)
  simp [m__law_draw, s_def, startD, s_ixR, pool_get, hb, h0, h1, hn, pool_set]
/-- the next seed -/
def seed (a c : Int) : Int := (a * (a % 20011 + 30011) + 70001 * c + 9) % 2147483549
theorem seed_ok (a c : Int) : 0 ≤ seed a c ∧ seed a c < 2147483549 := ⟨Int.emod_nonneg _ (by decide), Int.emod_lt_of_pos _ (by decide)⟩
theorem draw_zero {S0 : Sto} {a b c m : Int} (hb : ¬ 0 < b) (ha0 : 0 ≤ a) (ha : a < 2147483549) (hc0 : 0 ≤ c) (hc : c ≤ 1000000000) (h0 : 0 < m) : m__law_draw [.ref S0.length, .int m] (S0 ++ [pl3 a b c]) = .val (.int (seed a (c + 1) / 128 % m)) (S0 ++ [pl3 (seed a (c + 1)) b (c + 1)]) := by
  have n0 : ixN 3 0 = some 0 := ixN3 0 (by decide)
  have n2 : ixN 3 2 = some 2 := ixN3 2 (by decide)
  have q0 : 0 ≤ a % 20011 := Int.emod_nonneg _ (by decide)
  have q1 : a % 20011 < 20011 := Int.emod_lt_of_pos _ (by decide)
  have b1 : Builtin.Int.intBits a ≤ 32 := bits_le ha0 (Int.lt_trans ha (by decide))
  have b2 : Builtin.Int.intBits (a % 20011 + 30011) ≤ 32 := bits_le (by omega) (Int.lt_trans (b := 100000) (by omega) (by decide))
  have b3 : Builtin.Int.intBits 70001 ≤ 32 := bits_le (by decide) (by decide)
  have b4 : Builtin.Int.intBits (c + 1) ≤ 32 := bits_le (by omega) (Int.lt_of_le_of_lt (b := 1000000001) (by omega) (by decide))
  have c1 : (Builtin.Int.intBits a : Int) + (Builtin.Int.intBits (a % 20011 + 30011) : Int) ≤ 134217728 := by omega
  have c2 : (Builtin.Int.intBits 70001 : Int) + (Builtin.Int.intBits (c + 1) : Int) ≤ 134217728 := by omega
  simp [m__law_draw, s_def, startD, s_ixR, pool_get, hb, h0, n0, n2, pool_set, c1, c2, seed]
theorem draw_ok {S0 S : Sto} {n : Nat} {m : Int} (P : Pool S0 n S) (hn : n ≤ 1000000) (h0 : 0 < m) (h1 : m < 1073741824) : ∃ r S', m__law_draw [.ref S0.length, .int m] S = .val (.int r) S' ∧ 0 ≤ r ∧ r < m ∧ Pool S0 (n + 1) S' := by
  obtain ⟨a, b, c, rfl, ha0, ha, hb, hc0, hc⟩ := P
  by_cases hp : 0 < b
  · exact ⟨_, _, draw_pos hp h0 h1, Int.emod_nonneg _ (by omega), Int.emod_lt_of_pos _ h0, a, b / m, c, rfl, ha0, ha, Int.ediv_nonneg hb (by omega), hc0, by omega⟩
  · obtain ⟨s1, s2⟩ := seed_ok a (c + 1)
    exact ⟨_, _, draw_zero hp ha0 ha hc0 (by omega) h0, Int.emod_nonneg _ (by omega), Int.emod_lt_of_pos _ h0, _, b, c + 1, rfl, s1, s2, hb, by omega, by omega⟩
end K77
namespace K77
open PySem PySem.Spec PyProof.Rows L2 Pv TL
theorem for_inv {gm : GM} {m : SM} {P : Nat → Env' → Sto → Prop} (N : Nat) : ∀ {ds : List D} {i : Nat} {Γ : Env'} {S : Sto}, (∀ j d Γ S, d ∈ ds → j < N → P j Γ S → ∃ Γ1 S1 Γ2 S2, gm d Γ S = .val Γ1 S1 ∧ m Γ1 S1 = .nx Γ2 S2 ∧ P (j + 1) Γ2 S2) → i + ds.length ≤ N → P i Γ S → ∃ Γ' S', forGo gm m ds Γ S = .nx Γ' S' ∧ P (i + ds.length) Γ' S'
  | [], i, Γ, S, _, _, h => ⟨Γ, S, rfl, h⟩
  | d :: ds, i, Γ, S, step, hN, h => by
    rw [List.length_cons] at hN
    obtain ⟨Γ1, S1, Γ2, S2, e1, e2, h2⟩ := step i d Γ S List.mem_cons_self (by omega) h
    obtain ⟨Γ', S', e3, h3⟩ := for_inv N (ds := ds) (fun j x Γ S hx => step j x Γ S (List.mem_cons_of_mem _ hx)) (by omega) h2
    refine ⟨Γ', S', ?_, by rw [List.length_cons, Nat.add_comm ds.length 1, ← Nat.add_assoc]; exact h3⟩
    rw [s_for1, e1]
    dsimp only
    rw [e2]
    exact e3
theorem pick_ok {S0 S : Sto} {n : Nat} {xs : List D} (P : Pool S0 n S) (hn : n ≤ 1000000) (h0 : xs ≠ []) (h1 : xs.length ≤ 100000) : ∃ d S', m__law_pick [.ref S0.length, .lst xs] S = .val d S' ∧ d ∈ xs ∧ Pool S0 (n + 1) S' := by
  have hl : 0 < xs.length := List.length_pos_iff.mpr h0
  obtain ⟨r, S', e, r0, r1, P'⟩ := draw_ok (m := (xs.length : Int)) P hn (by omega) (by omega)
  have hx : xs[r.toNat]? = some (xs[r.toNat]'(by omega)) := List.getElem?_eq_getElem _
  have ix := atI_nat r0 hx
  refine ⟨_, S', ?_, List.mem_of_getElem? hx, P'⟩
  simp [m__law_pick, s_def, startD, e, s_ixL, ix]
def near (s : Sec) : Prop := s.1 ≤ 9 ∧ (∀ r, s.2 = some r → s.1 ≤ r ∧ r ≤ 19)
theorem draw_nat {S0 S : Sto} {n : Nat} {m : Int} (P : Pool S0 n S) (hn : n ≤ 1000000) (h0 : 0 < m) (h1 : m < 1073741824) : ∃ (k : Nat) (S' : Sto), m__law_draw [.ref S0.length, .int m] S = .val (.int (k : Int)) S' ∧ (k : Int) < m ∧ Pool S0 (n + 1) S' := by
  obtain ⟨r, S', e, r0, r1, P'⟩ := draw_ok P hn h0 h1
  obtain ⟨k, rfl⟩ := Int.eq_ofNat_of_zero_le r0
  exact ⟨k, S', e, r1, P'⟩
abbrev llBody : SM := sSeq (sSet 6 (eN (callN 2 m__law_draw) (aCons (eVar 0) (aCons (eBin addD (eVar 3) (eC (.int 1))) aNil))))
 (sSet 4 (eBin addD (eVar 4) (eN tupN (aCons (eN tupN (aCons (eVar 6) (aCons (eN (callN 2 m__law_pick) (aCons (eVar 0) (aCons (eN lstN (aCons (eC .non) (aCons (eC .non) (aCons (eVar 6) (aCons (eBin addD (eVar 6) (eC (.int 1))) (aCons (eBin addD (eVar 6) (eN (callN 2 m__law_draw) (aCons (eVar 0) (aCons (eC (.int 5)) aNil)))) aNil)))))) aNil))) aNil))) aNil))))
theorem ll_step {S0 S : Sto} {n : Nat} {hi : Int} {ss : List Sec} {x y : Option D} {a b c : D} (P : Pool S0 n S) (hn : n ≤ 900000) (h0 : 0 < hi) (h1 : hi ≤ 5) (hl : ss.length ≤ 1000) :
    ∃ (s : Sec) (S' : Sto) (y' : Option D), llBody [some (.ref S0.length), some b, some c, some (.int hi), some (.tup (ss.map sD)), some x', y] S = .nx [some (.ref S0.length), some b, some c, some (.int hi), some (.tup ((ss ++ [s]).map sD)), some x', y'] S' ∧ near s ∧ Pool S0 (n + 3) S' := by
  have z1 : 1 ≤ sizeLine := by decide
  have z2 : 2 ≤ sizeLine := by decide
  have z5 : 5 ≤ sizeLine := by decide
  have zl : ss.length + 1 ≤ sizeLine := Nat.le_trans (Nat.add_le_add_right hl 1) (by decide)
  obtain ⟨k, S1, e1, k1, P1⟩ := draw_nat (m := hi + 1) P (by omega) (by omega) (by omega)
  obtain ⟨j, S2, e2, j1, P2⟩ := draw_nat (m := 5) P1 (by omega) (by decide) (by decide)
  obtain ⟨d, S3, e3, d1, P3⟩ := pick_ok (xs := [.non, .non, .int k, .int (k + 1), .int (k + j)]) P2 (by omega) (by simp) (by simp)
  have hd : ∃ r, d = roomD r ∧ ∀ v, r = some v → k ≤ v ∧ v ≤ 19 := by
    simp only [List.mem_cons, List.not_mem_nil, or_false] at d1
    rcases d1 with z | z | z | z | z
    · exact ⟨none, z, fun v hv => nomatch hv⟩
    · exact ⟨none, z, fun v hv => nomatch hv⟩
    · exact ⟨some k, z, fun v hv => by cases hv; omega⟩
    · exact ⟨some (k + 1), by rw [z]; rfl, fun v hv => by cases hv; omega⟩
    · exact ⟨some (k + j), by rw [z]; rfl, fun v hv => by cases hv; omega⟩
  obtain ⟨r, rfl, hr⟩ := hd
  refine ⟨(k, r), S3, some (.int (k : Int)), ?_, ⟨by show k ≤ 9; omega, hr⟩, P3⟩
  simp [e1, e2, e3, z1, z2, z5, zl, sD]
end K77
namespace K77
open PySem PySem.Spec PyProof.Rows L2 Pv TL
theorem Pool.mono {S0 S : Sto} {n m : Nat} (P : Pool S0 n S) (h : n ≤ m) : Pool S0 m S := by
  obtain ⟨a, b, c, e, h1, h2, h3, h4, h5⟩ := P
  exact ⟨a, b, c, e, h1, h2, h3, h4, by omega⟩
def llA : SM := sPar 3 4 (aCons (eN (callN 2 m__law_pick) (aCons (eVar 0) (aCons (eN lstN (aCons (eC (.int 1)) (aCons (eC (.int 3)) (aCons (eC (.int 5)) aNil)))) aNil))) (aCons (eN tupN aNil) aNil))
def llR : LM := aCons (eBin addD (eVar 1) (eN (callN 2 m__law_draw) (aCons (eVar 0) (aCons (eBin addD (eBin subD (eVar 2) (eVar 1)) (eC (.int 1))) aNil)))) aNil
theorem llE : m__law_line = defM 7 (sSeq llA (sSeq (sFor (iRange1 llR) (gSet 5) llBody) (sRet (eVar 4)))) := rfl
theorem llA_ok {S0 S : Sto} {n : Nat} (P : Pool S0 n S) (hn : n ≤ 900000) : ∃ (hi : Int) (S' : Sto), llA [some (.ref S0.length), some (.int 1), some (.int 12), none, none, none, none] S = .nx [some (.ref S0.length), some (.int 1), some (.int 12), some (.int hi), some (.tup []), none, none] S' ∧ 0 < hi ∧ hi ≤ 5 ∧ Pool S0 (n + 1) S' := by
  have z0 : 0 ≤ sizeLine := Nat.zero_le _
  have z3 : 3 ≤ sizeLine := by decide
  obtain ⟨d, S1, e1, d1, P1⟩ := pick_ok (xs := [.int 1, .int 3, .int 5]) P (by omega) (by simp) (by simp)
  have hd : ∃ hi : Int, d = .int hi ∧ 0 < hi ∧ hi ≤ 5 := by
    simp only [List.mem_cons, List.not_mem_nil, or_false] at d1
    rcases d1 with z | z | z
    · exact ⟨1, z, by decide, by decide⟩
    · exact ⟨3, z, by decide, by decide⟩
    · exact ⟨5, z, by decide, by decide⟩
  obtain ⟨hi, rfl, h1, h2⟩ := hd
  exact ⟨hi, S1, by simp [llA, e1, z0, z3], h1, h2, P1⟩
theorem llR_ok {S0 S : Sto} {n : Nat} {hi : Int} (P : Pool S0 n S) (hn : n ≤ 900000) : ∃ (k : Nat) (S' : Sto), iRange1 llR [some (.ref S0.length), some (.int 1), some (.int 12), some (.int hi), some (.tup []), none, none] S = .val (rangeD 0 k) S' ∧ 1 ≤ k ∧ k ≤ 12 ∧ Pool S0 (n + 1) S' := by
  obtain ⟨k, S1, e1, k1, P1⟩ := draw_nat (m := 12) P (by omega) (by decide) (by decide)
  have e0 : llR [some (.ref S0.length), some (.int 1), some (.int 12), some (.int hi), some (.tup []), none, none] S = .val [.int ((k + 1 : Nat) : Int)] S1 := by
    have : (1 : Int) + (k : Int) = ((k + 1 : Nat) : Int) := by omega
    simp [llR, e1]
    omega
  exact ⟨k + 1, S1, range1_run e0 (Nat.le_trans (show k + 1 ≤ 12 by omega) (by decide)), by omega, by omega, P1⟩
theorem range_len (lo : Int) (n : Nat) : (rangeD lo n).length = n := by
  unfold rangeD
  rw [List.length_map, List.length_range]
theorem law_line_ok {S0 S : Sto} {n : Nat} (P : Pool S0 n S) (hn : n ≤ 800000) : ∃ (ss : List Sec) (S' : Sto), m__law_line [.ref S0.length, .int 1, .int 12] S = .val (.tup (ss.map sD)) S' ∧ 1 ≤ ss.length ∧ ss.length ≤ 12 ∧ (∀ s ∈ ss, near s) ∧ Pool S0 (n + 50) S' := by
  obtain ⟨hi, S1, e1, h1, h2, P1⟩ := llA_ok P (by omega)
  obtain ⟨k, S2, e2, k1, k2, P2⟩ := llR_ok (hi := hi) P1 (by omega)
  obtain ⟨Γ', S3, e3, ss, x, y, rfl, hl, hnr, P3⟩ := for_inv (gm := gSet 5) (m := llBody) (P := fun i Γ S => ∃ (ss : List Sec) (x y : Option D), Γ = [some (.ref S0.length), some (.int 1), some (.int 12), some (.int hi), some (.tup (ss.map sD)), x, y] ∧ ss.length = i ∧ (∀ s ∈ ss, near s) ∧ Pool S0 (n + 2 + 3 * i) S) 12 (ds := rangeD 0 k) (i := 0)
    (Γ := [some (.ref S0.length), some (.int 1), some (.int 12), some (.int hi), some (.tup []), none, none]) (S := S2) (fun j d Γ S hd hj h => by
      obtain ⟨ss, x, y, rfl, hl, hnr, Pj⟩ := h
      obtain ⟨s, S', y', es, hs, Ps⟩ := ll_step (ss := ss) (x' := d) (y := y) (b := .int 1) (c := .int 12) (x := none) (a := .non) Pj (by omega) h1 h2 (by omega)
      refine ⟨_, S, _, S', rfl, es, ss ++ [s], some d, y', rfl, by rw [List.length_append, hl]; rfl, fun z hz => ?_, ?_⟩
      · rcases List.mem_append.mp hz with q | q
        · exact hnr z q
        · rw [List.mem_singleton.mp q]
          exact hs
      · exact Ps.mono (by omega))
    (by rw [range_len]; omega) ⟨[], none, none, rfl, rfl, (fun s hs => by cases hs), P2.mono (by omega)⟩
  rw [range_len, Nat.zero_add] at hl P3
  refine ⟨ss, S3, ?_, by omega, by omega, hnr, P3.mono (by omega)⟩
  have e4 : startD 7 [.ref S0.length, .int 1, .int 12] = [some (.ref S0.length), some (.int 1), some (.int 12), none, none, none, none] := rfl
  rw [llE, s_def, e4, s_sSeq, e1, seq_nx, s_sSeq, s_sFor, e2, s_then_val, e3, seq_nx]
  rfl
end K77
namespace K77
open PySem PySem.Spec PyProof.Rows L2 Pv TL
def tryS (r : SR) (isSub : Str → Option Bool) (i : Nat) (ms : SM) : SR := match r with
  | .xn x Γ1 S1 => (match isSub x.cls with
    | some true => sSuite ms (Γ1.set i (some (.exc x.cls x.args))) S1
    | some false => .xn x Γ1 S1
    | none => .stuck)
  | r => r
theorem s_try (mb : SM) (isSub : Str → Option Bool) (i : Nat) (ms : SM) (Γ : Env') (S : Sto) : sTryAs mb isSub i ms Γ S = tryS (mb Γ S) isSub i ms := rfl
theorem try_nx {Γ : Env'} {S : Sto} (isSub : Str → Option Bool) (i : Nat) (ms : SM) : tryS (.nx Γ S) isSub i ms = .nx Γ S := rfl
theorem try_xn {Γ : Env'} {S : Sto} {x : Exn} {isSub : Str → Option Bool} {i : Nat} {ms : SM} (h : isSub x.cls = some true) : tryS (.xn x Γ S) isSub i ms = sSuite ms (Γ.set i (some (.exc x.cls x.args))) S := by
  show (match isSub x.cls with
    | some true => sSuite ms (Γ.set i (some (.exc x.cls x.args))) S
    | some false => .xn x Γ S
    | none => .stuck) = _
  rw [h]
theorem suite_rt {ms : SM} {Γ : Env'} {S S2 : Sto} {d : D} (h : ms Γ S = .rt d S2) (h1 : noExc d = true) (h2 : S2.all noExcC = true) : sSuite ms Γ S = .rt d S2 := by
  unfold sSuite
  rw [h]
  dsimp only
  rw [h1, h2]
  rfl
def hBody : SM := sIf (bT (eBin eqD (eN lenN (aCons (eVar 1) (aNil))) (eC (.int 1))))
 (sDrop (eCallV 0 tab__law_heard_call (aCons (eBin ixD (eVar 1) (eC (.int 0))) (aNil))))
 (sIf (bT (eBin eqD (eN lenN (aCons (eVar 1) (aNil))) (eC (.int 2))))
 (sDrop (eCallV 0 tab__law_heard_call (aCons (eBin ixD (eVar 1) (eC (.int 0))) (aCons (eBin ixD (eVar 1) (eC (.int 1))) (aNil)))))
 (sIf (bT (eBin eqD (eN lenN (aCons (eVar 1) (aNil))) (eC (.int 3))))
 (sDrop (eCallV 0 tab__law_heard_call (aCons (eBin ixD (eVar 1) (eC (.int 0))) (aCons (eBin ixD (eVar 1) (eC (.int 1))) (aCons (eBin ixD (eVar 1) (eC (.int 2))) (aNil))))))
 (sIf (bT (eBin eqD (eN lenN (aCons (eVar 1) (aNil))) (eC (.int 4))))
 (sDrop (eCallV 0 tab__law_heard_call (aCons (eBin ixD (eVar 1) (eC (.int 0))) (aCons (eBin ixD (eVar 1) (eC (.int 1))) (aCons (eBin ixD (eVar 1) (eC (.int 2))) (aCons (eBin ixD (eVar 1) (eC (.int 3))) (aNil)))))))
 (sDrop (eCallV 0 tab__law_heard_call (aCons (eBin ixD (eVar 1) (eC (.int 0))) (aCons (eBin ixD (eVar 1) (eC (.int 1))) (aCons (eBin ixD (eVar 1) (eC (.int 2))) (aCons (eBin ixD (eVar 1) (eC (.int 3))) (aCons (eBin ixD (eVar 1) (eC (.int 4))) (aNil)))))))))))
def E4 (c w : Str) : Prop := (c = "InvalidLine" ∧ w = "line") ∨ (c = "InvalidCounts" ∧ w = "counts") ∨ (c = "InvalidLog" ∧ w = "log") ∨ (c = "InvalidText" ∧ w = "text")
theorem eA {c w : Str} (h : E4 c w) : etab "AxleError" c = some true := by
  rcases h with ⟨rfl, _⟩ | ⟨rfl, _⟩ | ⟨rfl, _⟩ | ⟨rfl, _⟩ <;> decide
theorem iVT {c w : Str} (h : E4 c w) : ittab "ValueError" c = some true := by
  rcases h with ⟨rfl, _⟩ | ⟨rfl, _⟩ | ⟨rfl, _⟩ | ⟨rfl, _⟩ <;> decide
theorem xT {c w : Str} (h : E4 c w) : xtab "index" c = true := by
  rcases h with ⟨rfl, _⟩ | ⟨rfl, _⟩ | ⟨rfl, _⟩ | ⟨rfl, _⟩ <;> decide
def hSuite : SM := sSeq (sSet 3 (eN lstN aNil))
 (sSeq (sSet 3 (eBin addD (eVar 3) (eIf (bT (eIsX (eVar 2) (itab "InvalidLine"))) (eN lstN (aCons (eN lstN (aCons (eC (.str "line")) (aCons (eXf (eVar 2) "index" (xtab "index")) aNil))) aNil)) (eN lstN aNil))))
 (sSeq (sSet 3 (eBin addD (eVar 3) (eIf (bT (eIsX (eVar 2) (itab "InvalidCounts"))) (eN lstN (aCons (eN lstN (aCons (eC (.str "counts")) (aCons (eXf (eVar 2) "index" (xtab "index")) aNil))) aNil)) (eN lstN aNil))))
 (sSeq (sSet 3 (eBin addD (eVar 3) (eIf (bT (eIsX (eVar 2) (itab "InvalidLog"))) (eN lstN (aCons (eN lstN (aCons (eC (.str "log")) (aCons (eXf (eVar 2) "index" (xtab "index")) aNil))) aNil)) (eN lstN aNil))))
 (sSeq (sSet 3 (eBin addD (eVar 3) (eIf (bT (eIsX (eVar 2) (itab "InvalidText"))) (eN lstN (aCons (eN lstN (aCons (eC (.str "text")) (aCons (eXf (eVar 2) "index" (xtab "index")) aNil))) aNil)) (eN lstN aNil))))
 (sRet (eIf (bAnd (bT (eBin eqD (eN lenN (aCons (eVar 3) aNil)) (eC (.int 1)))) (bT (eIsX (eVar 2) (ittab "ValueError")))) (eBin ixD (eVar 3) (eC (.int 0))) (eN lstN (aCons (eC (.str "another")) (aCons (eVar 3) aNil)))))))))
theorem suite_all {f a : Option D} {c w : Str} {v : D} {S : Sto} (h : E4 c w) : hSuite [f, a, some (.exc c [("index", v)]), none] S = .rt (.lst [.str w, v]) S := by
  have h0 : 0 ≤ sizeLine := Nat.zero_le _
  have h1 : 1 ≤ sizeLine := by decide
  have h2 : 2 ≤ sizeLine := by decide
  have hV := iVT h
  have hX := xT h
  rcases h with ⟨rfl, rfl⟩ | ⟨rfl, rfl⟩ | ⟨rfl, rfl⟩ | ⟨rfl, rfl⟩
  · have i1 : itab "InvalidLine" "InvalidLine" = some true := by decide
    have i2 : itab "InvalidCounts" "InvalidLine" = some false := by decide
    have i3 : itab "InvalidLog" "InvalidLine" = some false := by decide
    have i4 : itab "InvalidText" "InvalidLine" = some false := by decide
    simp [hSuite, h0, h1, h2, i1, i2, i3, i4, hV, hX, s_ixL]
  · have i1 : itab "InvalidLine" "InvalidCounts" = some false := by decide
    have i2 : itab "InvalidCounts" "InvalidCounts" = some true := by decide
    have i3 : itab "InvalidLog" "InvalidCounts" = some false := by decide
    have i4 : itab "InvalidText" "InvalidCounts" = some false := by decide
    simp [hSuite, h0, h1, h2, i1, i2, i3, i4, hV, hX, s_ixL]
  · have i1 : itab "InvalidLine" "InvalidLog" = some false := by decide
    have i2 : itab "InvalidCounts" "InvalidLog" = some false := by decide
    have i3 : itab "InvalidLog" "InvalidLog" = some true := by decide
    have i4 : itab "InvalidText" "InvalidLog" = some false := by decide
    simp [hSuite, h0, h1, h2, i1, i2, i3, i4, hV, hX, s_ixL]
  · have i1 : itab "InvalidLine" "InvalidText" = some false := by decide
    have i2 : itab "InvalidCounts" "InvalidText" = some false := by decide
    have i3 : itab "InvalidLog" "InvalidText" = some false := by decide
    have i4 : itab "InvalidText" "InvalidText" = some true := by decide
    simp [hSuite, h0, h1, h2, i1, i2, i3, i4, hV, hX, s_ixL]
theorem heardE : m__law_heard = defM 4 (sSeq (sTryAs hBody (etab "AxleError") 2 hSuite) (sRet (eN lstN (aCons (eC (.str "told")) (aCons (eC .non) aNil))))) := rfl
theorem hBody_exn {f : Str} {F : PN} {x y : D} {e : Exn} {S S' : Sto} (ht : tab__law_heard_call f = some (2, F)) (h : F [x, y] S = .exn e S') : hBody [some (.fn f), some (.tup [x, y]), none, none] S = .xn e [some (.fn f), some (.tup [x, y]), none, none] S' := by
  simp [hBody, ht, s_ixT, h]
theorem hBody_val {f : Str} {F : PN} {x y v : D} {S S' : Sto} (ht : tab__law_heard_call f = some (2, F)) (h : F [x, y] S = .val v S') : hBody [some (.fn f), some (.tup [x, y]), none, none] S = .nx [some (.fn f), some (.tup [x, y]), none, none] S' := by
  simp [hBody, ht, s_ixT, h]
theorem heard_all {f c w : Str} {F : PN} {x y v : D} {S S' : Sto} (ht : tab__law_heard_call f = some (2, F)) (hc : E4 c w) (h : F [x, y] S = .exn ⟨c, [("index", v)]⟩ S') (hv : noExc v = true) (hS : S'.all noExcC = true) : m__law_heard [.fn f, .tup [x, y]] S = .val (.lst [.str w, v]) S' := by
  have e4 : startD 4 [.fn f, .tup [x, y]] = [some (.fn f), some (.tup [x, y]), none, none] := rfl
  have hs := suite_rt (ms := hSuite) (suite_all (f := some (.fn f)) (a := some (.tup [x, y])) (v := v) (S := S') hc) (by simp [noExc, noExcs, hv]) hS
  rw [heardE, s_def, e4, s_sSeq, s_try, hBody_exn ht h, try_xn (eA hc)]
  show endS (seqS (sSuite hSuite [some (.fn f), some (.tup [x, y]), some (.exc c [("index", v)]), none] S') _) = _
  rw [hs]
  rfl
theorem heard_val {f : Str} {F : PN} {x y v : D} {S S' : Sto} (ht : tab__law_heard_call f = some (2, F)) (h : F [x, y] S = .val v S') : m__law_heard [.fn f, .tup [x, y]] S = .val (.lst [.str "told", .non]) S' := by
  have z2 : decide (2 ≤ sizeLine) = true := by decide
  have e4 : startD 4 [.fn f, .tup [x, y]] = [some (.fn f), some (.tup [x, y]), none, none] := rfl
  rw [heardE, s_def, e4, s_sSeq, s_try, hBody_val ht h, try_nx, seq_nx]
  simp only [s_sRet, s_eN, s_aCons, s_aNil, s_eC, R.bind_val, s_lstN, List.length_cons, List.length_nil, Nat.reduceAdd, z2, s_true, s_then_val, s_endR]
theorem tab_ct : tab__law_heard_call "counts_text" = some (2, m_counts_text) := if_pos rfl
theorem tab_lt : tab__law_heard_call "log_text" = some (2, m_log_text) := by
  unfold tab__law_heard_call
  rw [if_neg (by decide), if_pos rfl]
theorem tab_counts : tab__law_heard_call "read_counts" = some (2, m_read_counts) := by
  unfold tab__law_heard_call
  rw [if_neg (by decide), if_neg (by decide), if_pos rfl]
theorem tab_log : tab__law_heard_call "read_log" = some (2, m_read_log) := by
  unfold tab__law_heard_call
  rw [if_neg (by decide), if_neg (by decide), if_neg (by decide), if_pos rfl]
theorem Pool.noExc {S0 S : Sto} {n : Nat} (P : Pool S0 n S) (h : S0.all noExcC = true) : S.all noExcC = true := by
  obtain ⟨a, b, c, rfl, _⟩ := P
  rw [List.all_append, h]
  rfl

end K77
namespace K77
open PySem PySem.Spec PyProof.Rows L2 Pv TL
theorem comp_some {gm : GM} {c : BM} {m : EM} {Γ : Env'} {P : Nat → Sto → Prop} (N : Nat) : ∀ {ds : List D} {i : Nat} {S : Sto}, (∀ j d S, d ∈ ds → j < N → P j S → ∃ Γ1 b S2, gm d Γ S = .val Γ1 S ∧ c Γ1 S = .val b S2 ∧ m Γ1 S2 = .val d S2 ∧ P (j + 1) S2) → i + ds.length ≤ N → P i S →
    ∃ ys S', compGo gm c m Γ ds S = .val ys S' ∧ (∀ y ∈ ys, y ∈ ds) ∧ ys.length ≤ ds.length ∧ P (i + ds.length) S'
  | [], i, S, _, _, h => ⟨[], S, rfl, (fun y hy => by cases hy), Nat.le_refl _, h⟩
  | d :: ds, i, S, step, hN, h => by
    rw [List.length_cons] at hN
    obtain ⟨Γ1, b, S2, e1, e2, e3, h2⟩ := step i d S List.mem_cons_self (by omega) h
    obtain ⟨ys, S', e4, h4, h5, h6⟩ := comp_some N (ds := ds) (fun j x S hx => step j x S (List.mem_cons_of_mem _ hx)) (by omega) h2
    have hp : P (i + (d :: ds).length) S' := by
      rw [List.length_cons, Nat.add_comm ds.length 1, ← Nat.add_assoc]
      exact h6
    cases b with
    | true =>
      refine ⟨d :: ys, S', ?_, fun y hy => ?_, by rw [List.length_cons, List.length_cons]; omega, hp⟩
      · unfold compGo
        rw [e1]
        dsimp only
        rw [e2]
        dsimp only
        rw [e3]
        dsimp only
        rw [e4, R.bind_val]
      · rcases List.mem_cons.mp hy with z | z
        · rw [z]
          exact List.mem_cons_self
        · exact List.mem_cons_of_mem _ (h4 y z)
    | false =>
      refine ⟨ys, S', ?_, fun y hy => List.mem_cons_of_mem _ (h4 y hy), by rw [List.length_cons]; omega, hp⟩
      unfold compGo
      rw [e1]
      dsimp only
      rw [e2]
      dsimp only
      exact e4
def rrC : BM := bT (eBin eqD (eN (callN 2 m__law_draw) (aCons (eVar 0) (aCons (eC (.int 2)) aNil))) (eC (.int 0)))
def rrL : LM := iIt (eLst (fComp (iIt (eBin ixD (eVar 3) (eVar 4))) (gSet 11) rrC (eVar 11) [11]))
def rrG : GM := gSeq 3 (gConsM (gSet 5) (gConsM (gSet 6) (gConsM (gSet 7) gNilM)))
def rrH : SM := sSet 8 (eN (callN 2 m__law_heard) (aCons (eVar 1) (aCons (eBin addD (eBin addD (eSl (eVar 2) oNone (oSome (eVar 4))) (eN tupN (aCons (eVar 5) aNil))) (eSl (eVar 2) (oSome (eBin addD (eVar 4) (eC (.int 1)))) oNone)) aNil)))
def rrI : SM := sIf (bOr (bT (eBin neD (eBin ixD (eVar 8) (eC (.int 0))) (eVar 6))) (bT (eBin neD (eN reprN (aCons (eBin ixD (eVar 8) (eC (.int 1))) aNil)) (eN reprN (aCons (eVar 7) aNil))))) (sRet (eC (.bl false))) sNil
def rrT : EM := eBin eqD (eBin ixD (eN (callN 2 m__law_heard) (aCons (eVar 1) (aCons (eVar 2) aNil))) (eC (.int 0))) (eC (.str "told"))
theorem repr_kept {d : D} (h : d = .non ∨ ∃ i : Nat, i ≤ 12 ∧ d = .int i) : ∃ z, ∀ S, reprN [d] S = .val (.str z) S := by
  rcases h with e | ⟨i, hi, e⟩
  · subst e
    exact ⟨_, fun S => repr_some (p := .none) rfl (by simp [PyData.showable]) (by simp [PyData.hasDict]) (by simp [PyData.depth]) (by decide +kernel)⟩
  · subst e
    have hl : ((i : Int).natAbs).log2 < 1920 := log_ok (Nat.lt_of_le_of_lt hi (Nat.lt_of_lt_of_le (show 12 < 10 ^ 2 by decide) (Nat.pow_le_pow_right (by decide) (by decide))))
    have hb := PyData.shown_le_bulk 400 (by decide) (.int (i : Int)) (by
      simp only [PyData.leavesShort]
      exact decide_eq_true (Nat.le_trans (nS_len (n := i) (Nat.lt_of_le_of_lt hi (Nat.lt_of_lt_of_le (show 12 < 10 ^ 2 by decide) (Nat.pow_le_pow_right (by decide) (by decide))))) (by decide)))
    exact ⟨_, fun S => repr_some (p := .int i) rfl (by simp only [PyData.showable]; exact decide_eq_true hl) (by simp [PyData.hasDict]) (by simp [PyData.depth]) (Nat.le_trans hb (by simp [PyData.bulk]; decide))⟩
def rrP : SM := sPar 9 10 (aCons (eN (callN 2 m__law_pick) (aCons (eVar 0) (aCons (eBin ixD (eVar 3) (eVar 4)) aNil))) (aCons (eN (callN 2 m__law_pick) (aCons (eVar 0) (aCons (eBin ixD (eVar 3) (eBin addD (eVar 4) (eC (.int 1)))) aNil))) aNil))
def rrQ : SM := sSet 8 (eN (callN 2 m__law_heard) (aCons (eVar 1) (aCons (eBin addD (eBin addD (eSl (eVar 2) oNone (oSome (eVar 4))) (eN tupN (aCons (eBin ixD (eVar 9) (eC (.int 0))) (aCons (eBin ixD (eVar 10) (eC (.int 0))) aNil)))) (eSl (eVar 2) (oSome (eBin addD (eVar 4) (eC (.int 2)))) oNone)) aNil)))
def rrU : SM := sIf (bOr (bT (eBin neD (eBin ixD (eVar 8) (eC (.int 0))) (eBin ixD (eVar 9) (eC (.int 1))))) (bT (eBin neD (eN reprN (aCons (eBin ixD (eVar 8) (eC (.int 1))) aNil)) (eN reprN (aCons (eBin ixD (eVar 9) (eC (.int 2))) aNil))))) (sRet (eC (.bl false))) sNil
theorem rrE : m__law_refused_right = defM 12 (sSeq (sFor (iRange1 (aCons (eN lenN (aCons (eVar 2) aNil)) aNil)) (gSet 4) (sFor rrL rrG (sSeq rrH rrI))) (sSeq (sFor (iRange1 (aCons (eBin subD (eN lenN (aCons (eVar 2) aNil)) (eC (.int 1))) aNil)) (gSet 4) (sSeq rrP (sSeq rrQ rrU))) (sRet rrT))) := rfl
def Kept (d : D) : Prop := d = .non ∨ ∃ i : Nat, i ≤ 12 ∧ d = .int i
theorem Kept.noExc {d : D} (h : Kept d) : noExc d = true := by
  rcases h with e | ⟨i, _, e⟩ <;> rw [e] <;> rfl
/-- what is refused at the place k -/
def Rk (f : Str) (a b : D) (k : Nat) (x : D) : Prop := ∃ (thing kept : D) (w : Str), x = .lst [thing, .str w, kept] ∧ Kept kept ∧ ∀ S : Sto, S.all noExcC = true → m__law_heard [.fn f, .tup ([a, b].take k ++ [thing] ++ [a, b].drop (k + 1))] S = .val (.lst [.str w, kept]) S
theorem inner_ok {S0 S : Sto} {n k : Nat} {f : Str} {a b : D} {SS B : List D} {x5 x6 x7 x8 x9 x10 : Option D} (P : Pool S0 n S) (hn : n ≤ 800000) (h0 : S0.all noExcC = true) (hk : k < 2) (hS : SS[k]? = some (.lst B)) (hl : B.length ≤ 100) (hB : ∀ x ∈ B, Rk f a b k x) :
    ∃ y5 y6 y7 y8 S', sFor rrL rrG (sSeq rrH rrI) [some (.ref S0.length), some (.fn f), some (.tup [a, b]), some (.lst SS), some (.int (k : Int)), x5, x6, x7, x8, x9, x10, none] S = .nx [some (.ref S0.length), some (.fn f), some (.tup [a, b]), some (.lst SS), some (.int (k : Int)), y5, y6, y7, y8, x9, x10, none] S' ∧ Pool S0 (n + 100) S' := by
  have z1 : decide (1 ≤ sizeLine) = true := by decide
  have ix : L2.atI SS (k : Int) = some (.lst B) := atI_nat (by omega) (by rw [Int.toNat_natCast, hS])
  obtain ⟨ys, S1, e1, m1, l1, P1⟩ := comp_some (gm := gSet 11) (c := rrC) (m := eVar 11) (Γ := [some (.ref S0.length), some (.fn f), some (.tup [a, b]), some (.lst SS), some (.int (k : Int)), x5, x6, x7, x8, x9, x10, none]) (P := fun j S => Pool S0 (n + j) S) B.length (ds := B) (i := 0) (S := S) (fun j d S hd hj Pj => by
    obtain ⟨r, S2, e, _, _, P2⟩ := draw_ok (m := 2) Pj (by omega) (by decide) (by decide)
    refine ⟨_, decide (r = 0), S2, rfl, ?_, rfl, P2⟩
    simp only [rrC, s_bT, s_eBin, s_eN, s_aCons, s_aNil, s_eVar, s_eC, List.set_cons_succ, List.set_cons_zero, List.getElem?_cons_zero, R.bind_val, s_callN, List.length_cons, List.length_nil, Nat.reduceAdd, decide_true, s_true, e, s_eqI, s_ofB]) (by omega) P
  rw [Nat.zero_add] at P1
  have hy : ys.length ≤ sizeLine := Nat.le_trans (Nat.le_trans l1 hl) (by decide)
  have EL : rrL [some (.ref S0.length), some (.fn f), some (.tup [a, b]), some (.lst SS), some (.int (k : Int)), x5, x6, x7, x8, x9, x10, none] S = .val ys S1 := by
    unfold rrL
    rw [s_iIt, s_eLst, s_fComp, s_iIt, s_eBin, s_eVar]
    simp only [s_eVar, List.getElem?_cons_zero, List.getElem?_cons_succ, R.bind_val, s_ixL, ix, s_itsL, s_wipe1, s_wipe0, List.set_cons_succ, List.set_cons_zero]
    rw [e1, R.bind_val, s_dec hy, R.bind_val, R.bind_val, s_itsL]
  have step : ∀ (d : D) (x5 x6 x7 x8 : Option D) (S : Sto), Rk f a b k d → S.all noExcC = true → ∃ Γ1 y5 y6 y7 y8, rrG d [some (.ref S0.length), some (.fn f), some (.tup [a, b]), some (.lst SS), some (.int (k : Int)), x5, x6, x7, x8, x9, x10, none] S = .val Γ1 S ∧ sSeq rrH rrI Γ1 S = .nx [some (.ref S0.length), some (.fn f), some (.tup [a, b]), some (.lst SS), some (.int (k : Int)), y5, y6, y7, y8, x9, x10, none] S := by
    intro d x5 x6 x7 x8 S hb hSx
    obtain ⟨thing, kept, w, rfl, hkp, hh⟩ := hb
    have hh := hh S hSx
    obtain ⟨z, hz⟩ := repr_kept hkp
    refine ⟨[some (.ref S0.length), some (.fn f), some (.tup [a, b]), some (.lst SS), some (.int (k : Int)), some thing, some (.str w), some kept, x8, x9, x10, none], some thing, some (.str w), some kept, some (.lst [.str w, kept]), ?_, ?_⟩
    · simp only [rrG, s_gSeqL, s_gCons, s_gSet, s_gNil, R.bind_val, List.set_cons_succ, List.set_cons_zero, List.length_cons, List.length_nil, Nat.reduceAdd, decide_true, s_true]
    · have c1 : Pv.cutD [a, b] none (some (k : Int)) = [a, b].take k := cut_to _ k
      have ek : (k : Int) + 1 = ((k + 1 : Nat) : Int) := by omega
      have c2 : Pv.cutD [a, b] (some ((k + 1 : Nat) : Int)) none = [a, b].drop (k + 1) := cut_from _ (k + 1)
      have l1 : ([a, b].take k).length ≤ 2 := Nat.le_trans (List.length_take_le _ _) (by omega)
      have l2 : ([a, b].drop (k + 1)).length ≤ 2 := by rw [List.length_drop]; show 2 - (k + 1) ≤ 2; omega
      have q1 : ∀ S, addD (.tup ([a, b].take k)) (.tup [thing]) S = .val (.tup ([a, b].take k ++ [thing])) S := fun S => by
        rw [s_addT]
        exact s_dec (Nat.le_trans (show _ ≤ 3 by rw [List.length_singleton]; omega) (by decide)) _
      have q2 : ∀ S, addD (.tup ([a, b].take k ++ [thing])) (.tup ([a, b].drop (k + 1))) S = .val (.tup ([a, b].take k ++ [thing] ++ [a, b].drop (k + 1))) S := fun S => by
        rw [s_addT]
        exact s_dec (Nat.le_trans (show _ ≤ 5 by rw [List.length_append, List.length_singleton]; omega) (by decide)) _
      have E1 : rrH [some (.ref S0.length), some (.fn f), some (.tup [a, b]), some (.lst SS), some (.int (k : Int)), some thing, some (.str w), some kept, x8, x9, x10, none] S = .nx [some (.ref S0.length), some (.fn f), some (.tup [a, b]), some (.lst SS), some (.int (k : Int)), some thing, some (.str w), some kept, some (.lst [.str w, kept]), x9, x10, none] S := by
        unfold rrH
        rw [s_sSet, s_eN, s_aCons, s_eVar]
        simp only [s_eVar, List.getElem?_cons_zero, List.getElem?_cons_succ, R.bind_val, s_aCons, s_aNil, s_eBin, s_eSl, s_oNone, s_oSome, s_slT, c1, s_eN, s_tupN, z1, s_true, List.length_cons, List.length_nil, Nat.reduceAdd, q1, s_eC, s_addI, ek, c2, q2, s_callN, decide_true, hh, s_then_val, List.set_cons_succ, List.set_cons_zero]
      rw [s_sSeq, E1, seq_nx]
      simp only [rrI, s_sIf, s_bOr, s_bT, s_eBin, s_eN, s_aCons, s_aNil, s_eVar, s_eC, List.getElem?_cons_zero, List.getElem?_cons_succ, R.bind_val, s_ixL, s_at0, s_at1, s_neS, s_ofB, decide_true, Bool.not_true, Bool.false_eq_true, if_false, hz, ite_false, s_then_val, s_sNil]
  obtain ⟨Γ', S2, e2, y5, y6, y7, y8, rfl, P2⟩ := for_inv (gm := rrG) (m := sSeq rrH rrI) (P := fun j Γ S => ∃ x5 x6 x7 x8, Γ = [some (.ref S0.length), some (.fn f), some (.tup [a, b]), some (.lst SS), some (.int (k : Int)), x5, x6, x7, x8, x9, x10, none] ∧ Pool S0 (n + B.length) S) ys.length (ds := ys) (i := 0) (Γ := [some (.ref S0.length), some (.fn f), some (.tup [a, b]), some (.lst SS), some (.int (k : Int)), x5, x6, x7, x8, x9, x10, none]) (S := S1) (fun j d Γ S hd hj h => by
    obtain ⟨x5, x6, x7, x8, rfl, Pj⟩ := h
    obtain ⟨Γ1, y5, y6, y7, y8, f1, f2⟩ := step d x5 x6 x7 x8 S (hB d (m1 d hd)) (Pj.noExc h0)
    exact ⟨Γ1, S, _, S, f1, f2, y5, y6, y7, y8, rfl, Pj⟩) (by omega) ⟨x5, x6, x7, x8, rfl, P1⟩
  refine ⟨y5, y6, y7, y8, S2, ?_, P2.mono (by omega)⟩
  rw [s_sFor, EL, s_then_val, e2]
/-- the first of two -/
def R2 (f : Str) (x y : D) : Prop := ∀ (t1 k1 t2 k2 : D) (w1 w2 : Str), x = .lst [t1, .str w1, k1] → y = .lst [t2, .str w2, k2] → ∀ S : Sto, S.all noExcC = true → m__law_heard [.fn f, .tup [t1, t2]] S = .val (.lst [.str w1, k1]) S
theorem refused_ok {S0 S : Sto} {n : Nat} {f : Str} {a b : D} {A B : List D} (P : Pool S0 n S) (hn : n ≤ 700000) (h0 : S0.all noExcC = true) (hA : ∀ x ∈ A, Rk f a b 0 x) (hB : ∀ x ∈ B, Rk f a b 1 x) (hAB : ∀ x ∈ A, ∀ y ∈ B, R2 f x y) (lA : A.length ≤ 100) (lB : B.length ≤ 100) (nA : A ≠ []) (nB : B ≠ [])
    (ht : ∀ S : Sto, S.all noExcC = true → m__law_heard [.fn f, .tup [a, b]] S = .val (.lst [.str "told", .non]) S) : ∃ S', m__law_refused_right [.ref S0.length, .fn f, .tup [a, b], .lst [.lst A, .lst B]] S = .val (.bl true) S' ∧ Pool S0 (n + 300) S' := by
  have z2 : decide (2 ≤ sizeLine) = true := by decide
  obtain ⟨Γ', S1, e1, x4, x5, x6, x7, x8, rfl, P1⟩ := for_inv (gm := gSet 4) (m := sFor rrL rrG (sSeq rrH rrI)) (P := fun j Γ S => ∃ x4 x5 x6 x7 x8, Γ = [some (.ref S0.length), some (.fn f), some (.tup [a, b]), some (.lst [.lst A, .lst B]), x4, x5, x6, x7, x8, none, none, none] ∧ Pool S0 (n + 100 * j) S) 2 (ds := rangeD 0 2) (i := 0) (Γ := [some (.ref S0.length), some (.fn f), some (.tup [a, b]), some (.lst [.lst A, .lst B]), none, none, none, none, none, none, none, none]) (S := S) (fun j d Γ S hd hj h => by
    obtain ⟨x4, x5, x6, x7, x8, rfl, Pj⟩ := h
    unfold rangeD at hd
    obtain ⟨k, hk, rfl⟩ := List.mem_map.mp hd
    rw [List.mem_range] at hk
    have go : ∃ y5 y6 y7 y8 S', sFor rrL rrG (sSeq rrH rrI) [some (.ref S0.length), some (.fn f), some (.tup [a, b]), some (.lst [.lst A, .lst B]), some (.int (k : Int)), x5, x6, x7, x8, none, none, none] S = .nx [some (.ref S0.length), some (.fn f), some (.tup [a, b]), some (.lst [.lst A, .lst B]), some (.int (k : Int)), y5, y6, y7, y8, none, none, none] S' ∧ Pool S0 (n + 100 * j + 100) S' := by
      match k, hk with
      | 0, _ => exact inner_ok Pj (by omega) h0 (by decide) rfl lA hA
      | 1, _ => exact inner_ok Pj (by omega) h0 (by decide) rfl lB hB
    obtain ⟨y5, y6, y7, y8, S', e, P'⟩ := go
    exact ⟨_, S, _, S', by rw [s_gSet, Int.zero_add]; rfl, e, some (.int (k : Int)), y5, y6, y7, y8, rfl, P'.mono (by omega)⟩) (by decide) ⟨none, none, none, none, none, rfl, P⟩
  have hS1 := P1.noExc h0
  obtain ⟨d1, S2, p1, m1, P2⟩ := pick_ok (xs := A) P1 (by rw [range_len]; omega) nA (by omega)
  obtain ⟨d2, S3, p2, m2, P3⟩ := pick_ok (xs := B) P2 (by rw [range_len]; omega) nB (by omega)
  have hS3 := P3.noExc h0
  obtain ⟨t1, k1, w1, rfl, kp1, _⟩ := hA d1 m1
  obtain ⟨t2, k2, w2, rfl, kp2, _⟩ := hB d2 m2
  have hh := hAB _ m1 _ m2 t1 k1 t2 k2 w1 w2 rfl rfl S3 hS3
  obtain ⟨z, hz⟩ := repr_kept kp1
  have told := ht S3 hS3
  refine ⟨S3, ?_, P3.mono (by rw [range_len]; omega)⟩
  have e0 : startD 12 [.ref S0.length, .fn f, .tup [a, b], .lst [.lst A, .lst B]] = [some (.ref S0.length), some (.fn f), some (.tup [a, b]), some (.lst [.lst A, .lst B]), none, none, none, none, none, none, none, none] := rfl
  have r1 : ∀ S, iRange1 (aCons (eN lenN (aCons (eVar 2) aNil)) aNil) [some (.ref S0.length), some (.fn f), some (.tup [a, b]), some (.lst [.lst A, .lst B]), none, none, none, none, none, none, none, none] S = .val (rangeD 0 2) S := fun S => range1_run (n := 2) rfl (by decide)
  have r2 : ∀ S, iRange1 (aCons (eBin subD (eN lenN (aCons (eVar 2) aNil)) (eC (.int 1))) aNil) [some (.ref S0.length), some (.fn f), some (.tup [a, b]), some (.lst [.lst A, .lst B]), x4, x5, x6, x7, x8, none, none, none] S = .val [.int 0] S := fun S => range1_run (n := 1) rfl (by decide)
  have EP : rrP [some (.ref S0.length), some (.fn f), some (.tup [a, b]), some (.lst [.lst A, .lst B]), some (.int 0), x5, x6, x7, x8, none, none, none] S1 = .nx [some (.ref S0.length), some (.fn f), some (.tup [a, b]), some (.lst [.lst A, .lst B]), some (.int 0), x5, x6, x7, x8, some (.lst [t1, .str w1, k1]), some (.lst [t2, .str w2, k2]), none] S3 := by
    have i1 : (0 : Int) + 1 = 1 := rfl
    simp only [rrP, s_sPar, s_aCons, s_aNil, s_eN, s_eVar, s_eBin, s_eC, List.getElem?_cons_zero, List.getElem?_cons_succ, R.bind_val, s_ixL, s_at0, s_at1, s_addI, i1, s_callN, List.length_cons, List.length_nil, Nat.reduceAdd, decide_true, s_true, p1, p2, s_then_val, List.set_cons_succ, List.set_cons_zero]
  have EQ : rrQ [some (.ref S0.length), some (.fn f), some (.tup [a, b]), some (.lst [.lst A, .lst B]), some (.int 0), x5, x6, x7, x8, some (.lst [t1, .str w1, k1]), some (.lst [t2, .str w2, k2]), none] S3 = .nx [some (.ref S0.length), some (.fn f), some (.tup [a, b]), some (.lst [.lst A, .lst B]), some (.int 0), x5, x6, x7, some (.lst [.str w1, k1]), some (.lst [t1, .str w1, k1]), some (.lst [t2, .str w2, k2]), none] S3 := by
    have c1 : Pv.cutD [a, b] none (some 0) = [] := cut_to _ 0
    have c2 : Pv.cutD [a, b] (some (0 + 2)) none = [] := cut_from _ 2
    have z20 : decide (2 + 0 ≤ sizeLine) = true := by decide
    have z02 : decide (0 + 2 ≤ sizeLine) = true := by decide
    simp only [rrQ, s_sSet, s_eN, s_aCons, s_aNil, s_eVar, s_eC, s_eBin, s_eSl, s_oNone, s_oSome, s_slT, c1, c2, s_tupN, s_addI, s_addT, s_ixL, s_at0, s_callN, List.length_cons, List.length_nil, Nat.reduceAdd, decide_true, z2, z20, z02, s_true, R.bind_val, List.getElem?_cons_zero, List.getElem?_cons_succ, List.set_cons_succ, List.set_cons_zero, List.nil_append, List.append_nil, hh, s_then_val]
  have EU : rrU [some (.ref S0.length), some (.fn f), some (.tup [a, b]), some (.lst [.lst A, .lst B]), some (.int 0), x5, x6, x7, some (.lst [.str w1, k1]), some (.lst [t1, .str w1, k1]), some (.lst [t2, .str w2, k2]), none] S3 = .nx [some (.ref S0.length), some (.fn f), some (.tup [a, b]), some (.lst [.lst A, .lst B]), some (.int 0), x5, x6, x7, some (.lst [.str w1, k1]), some (.lst [t1, .str w1, k1]), some (.lst [t2, .str w2, k2]), none] S3 := by
    have at2 : ∀ (x y z : D), L2.atI [x, y, z] 2 = some z := fun _ _ _ => rfl
    simp only [rrU, s_sIf, s_bOr, s_bT, s_eBin, s_eN, s_aCons, s_aNil, s_eVar, s_eC, List.getElem?_cons_zero, List.getElem?_cons_succ, R.bind_val, s_ixL, s_at0, s_at1, at2, s_neS, s_ofB, decide_true, Bool.not_true, Bool.false_eq_true, if_false, hz, ite_false, s_then_val, s_sNil]
  rw [rrE, s_def, e0, s_sSeq, s_sFor, r1, s_then_val, e1, seq_nx, s_sSeq, s_sFor, r2, s_then_val, s_for1]
  simp only [s_gSet, List.set_cons_succ, List.set_cons_zero]
  rw [s_sSeq, EP, seq_nx, s_sSeq, EQ, seq_nx, EU]
  dsimp only
  rw [s_for0, seq_nx, s_sRet]
  simp only [rrT, s_eBin, s_eN, s_aCons, s_aNil, s_eVar, s_eC, R.bind_val, List.getElem?_cons_zero, List.getElem?_cons_succ, s_callN, List.length_cons, List.length_nil, Nat.reduceAdd, decide_true, s_true, told, s_ixL, s_at0, s_eqS, s_then_val, s_endR]

end K77
namespace K77
open PySem PySem.Spec PyProof.Rows L2 Pv TL
/-- plain signs, n at most -/
structure Sh (n : Nat) (t : Str) : Prop where
  len : t.length ≤ n
  asc : ∀ c ∈ tl t, c < 128
theorem Sh.tx {n : Nat} {t : Str} (h : Sh n t) (hn : n ≤ 330) : Tx t := ⟨Nat.le_trans h.len (Nat.le_trans hn (by decide)), fun w hw => Nat.le_trans (part_short hw) (Nat.le_trans h.len hn), h.asc⟩
theorem Sh.app {n m : Nat} {x y : Str} (h : Sh n x) (g : Sh m y) : Sh (n + m) (x ++ y) := ⟨by rw [strLen_append]; exact Nat.add_le_add h.len g.len, fun c hc => by
  rw [tl_append] at hc
  exact (List.mem_append.mp hc).elim (h.asc c) (g.asc c)⟩
theorem Sh.cut {n : Nat} {x : Str} (h : Sh n x) (lo hi : Option Int) : Sh n (cutS x lo hi) := ⟨Nat.le_trans (cutS_length x lo hi) h.len, fun c hc => h.asc c (by
  rw [cutS_tl] at hc
  exact List.mem_of_mem_drop (List.mem_of_mem_take hc))⟩
theorem Sh.mono {n m : Nat} {x : Str} (h : Sh n x) (hn : n ≤ m) : Sh m x := ⟨Nat.le_trans h.len hn, h.asc⟩
theorem Sh.rev {n : Nat} {x : Str} (h : Sh n x) : Sh n (revS x) := ⟨Nat.le_trans (revS_le x) h.len, fun c hc => h.asc c (by
  have e : tl (revS x) = (Builtin.Str.strSliceIndices none none (-1) x.length).filterMap (x.cps[·]?) := rfl
  rw [e] at hc
  obtain ⟨i, _, hi⟩ := List.mem_filterMap.mp hc
  exact Array.mem_toList_iff.mpr (Array.mem_of_getElem? hi))⟩
end K77
namespace K77
open PySem PySem.Spec PyProof.Rows L2 Pv TL
theorem of_joinL {s : List Nat} {c : Nat} : ∀ {ls : List (List Nat)}, c ∈ joinL s ls → c ∈ s ∨ ∃ l ∈ ls, c ∈ l
  | [], h => by cases h
  | [p], h => .inr ⟨p, by simp, h⟩
  | p :: q :: r, h => by
    have h' : c ∈ p ++ (s ++ joinL s (q :: r)) := h
    rcases List.mem_append.mp h' with z | z
    · exact .inr ⟨p, by simp, z⟩
    · rcases List.mem_append.mp z with y | y
      · exact .inl y
      · rcases of_joinL y with w | ⟨l, hl, w⟩
        · exact .inl w
        · exact .inr ⟨l, List.mem_cons_of_mem _ hl, w⟩
theorem blank_eq : (" " : Str) = ⟨#[32]⟩ := ext_tl tS
theorem Sh.repl {n m : Nat} {x z : Str} (h : Sh n x) (g : Sh m z) : Sh (n + (n + 1) * m) (Txt.replace x " " z) := ⟨Nat.le_trans (TK.replace_len x " " z) (Nat.add_le_add h.len (Nat.mul_le_mul (Nat.add_le_add_right h.len 1) g.len)), fun c hc => by
  rw [blank_eq, PySem.StrLaws.replace_one, tl_join] at hc
  rcases of_joinL hc with q | ⟨l, hl, q⟩
  · exact g.asc c q
  · obtain ⟨p, hp, rfl⟩ := List.mem_map.mp hl
    exact h.asc c (part_mem hp q)⟩
theorem Sh.join {n k : Nat} {l : List Str} (h : ∀ w ∈ l, Sh n w) (hk : l.length ≤ k) : Sh (k * (n + 1)) (Txt.join " " l) := by
  refine ⟨?_, fun c hc => ?_⟩
  · rw [join_eq]
    have h1 := PySem.StrLaws.join_length_le " " l
    have hs : (l.map (·.length)).sum ≤ l.length * n := by
      clear hk h1
      induction l with
      | nil => simp
      | cons a l ih =>
        have := ih fun w hw => h w (List.mem_cons_of_mem _ hw)
        have := (h a List.mem_cons_self).len
        rw [List.map_cons, List.sum_cons, List.length_cons, Nat.succ_mul]
        omega
    have h2 : (" " : Str).length = 1 := by decide
    rw [h2] at h1
    have h3 : l.length * (n + 1) ≤ k * (n + 1) := Nat.mul_le_mul_right _ hk
    rw [Nat.mul_succ] at h3
    omega
  · rw [join_eq, tl_join] at hc
    rcases of_joinL hc with q | ⟨p, hp, q⟩
    · rw [tS] at q
      rw [List.mem_singleton.mp q]
      decide
    · obtain ⟨w, hw, rfl⟩ := List.mem_map.mp hp
      exact (h w hw).asc c q
end K77
namespace K77
open PySem PySem.Spec PyProof.Rows L2 Pv TL
theorem nS_sh {n k : Nat} (hk : 0 < k) (h : n < 10 ^ k) : Sh k (nS n) := ⟨by
  rw [len_tl]
  unfold nS
  rw [tl_num]
  exact numL_len hk h, fun c hc => by
  unfold nS at hc
  rw [tl_num] at hc
  have := numL_digits n c hc
  omega⟩
theorem slash_sh : Sh 1 "/" := ⟨by decide, fun c hc => by
  rw [tB] at hc
  rw [List.mem_singleton.mp hc]
  decide⟩
theorem dash_sh : Sh 1 "-" := ⟨by decide, fun c hc => by
  rw [tD] at hc
  rw [List.mem_singleton.mp hc]
  decide⟩
end K77
namespace K77
open PySem PySem.Spec PyProof.Rows L2 Pv TL
/-- a text of many words -/
theorem tx_words {l : List Str} (hl : l ≠ []) (h : ∀ w ∈ l, Sh 330 w ∧ 32 ∉ tl w) (hk : l.length ≤ 300) : Tx (Txt.join " " l) := by
  have j := Sh.join (n := 330) (k := 300) (fun w hw => (h w hw).1) hk
  have e : Txt.split (Txt.join " " l) " " = l := split_join (y := " ") (s := 32) (S := []) tS (by decide +kernel) hl fun p hp => (h p hp).2
  exact ⟨Nat.le_trans j.len (by decide), fun w hw => by
    rw [e] at hw
    exact (h w hw).1.len, j.asc⟩
theorem split_sh {n : Nat} {t w : Str} (h : Sh n t) (hw : w ∈ Txt.split t " ") : Sh n w ∧ 32 ∉ tl w := by
  refine ⟨⟨Nat.le_trans (part_short hw) h.len, fun c hc => h.asc c (part_mem hw hc)⟩, ?_⟩
  rw [blank_eq] at hw
  exact PySem.StrLaws.split_free t 32 w hw
end K77
namespace K77
open PySem PySem.Spec PyProof.Rows L2 Pv TL
/-! signed numbers -/
def sgD (l : List Nat) : D := match l with
  | 45 :: r => (match wholeL r with
    | some n => if n = 0 then .non else .int (-(n : Int))
    | none => .non)
  | l => wNum (wholeL l)
theorem sg_cons {c : Nat} {r : List Nat} (h : c ≠ 45) : sgD (c :: r) = wNum (wholeL (c :: r)) := by
  unfold sgD
  split
  · rename_i e
    injection e with e _
    exact absurd e h
  · rfl
theorem sg_dash (r : List Nat) : sgD (45 :: r) = (match wholeL r with
    | some n => if n = 0 then .non else .int (-(n : Int))
    | none => .non) := rfl
theorem one_dash (c : Nat) : ((⟨#[c]⟩ : Str) = "-") ↔ c = 45 := by
  rw [str_prop, tD]
  show [c] = [45] ↔ _
  simp
theorem signed_ok {w : Str} {S : Sto} (hl : w.length ≤ 640) : m_signed_in [.str w] S = .val (sgD (tl w)) S := by
  have hz : w.length ≤ sizeLine := Nat.le_trans hl (by decide)
  have e0 : startD 2 [.str w] = [some (.str w), none] := rfl
  have w0 : ∀ S, m_whole_in [.str w] S = .val (wNum (wholeL (tl w))) S := fun S => whole_ok hl
  have w1 : ∀ S, m_whole_in [.str (cutS w (some 1) none)] S = .val (wNum (wholeL ((tl w).drop 1))) S := fun S => by
    rw [whole_ok (Nat.le_trans (cutS_length w (some 1) none) hl), cut_f1]
  have sl : ∀ S, sliceD (.str w) (some 1) none S = .val (.str (cutS w (some 1) none)) S := fun S => by rw [s_slS, s_dec hz]
  unfold m_signed_in
  rw [s_def, e0]
  cases e : tl w with
  | nil =>
    have hw : w = "" := ext_tl e
    rw [e] at w0
    simp only [s_sSeq, s_sIf, s_bOr, s_bT, s_eBin, s_eVar, s_eC, List.getElem?_cons_zero, R.bind_val, s_eqS, hw, decide_true, s_ofB, if_true, s_sRet, s_eN, s_aCons, s_aNil, s_callN, List.length_cons, List.length_nil, Nat.reduceAdd, s_true, s_then_val]
    rw [hw] at w0
    rw [w0]
    rfl
  | cons c r =>
    have hne : decide (w = "") = false := decide_eq_false fun z => by
      rw [z] at e
      cases e
    have ix : ∀ S, ixD (.str w) (.int 0) S = .val (.str ⟨#[c]⟩) S := fun S => by
      have e' : w.cps.toList = c :: r := e
      rw [s_ixS, e', s_at0, s_dec hz]
    by_cases hc : c = 45
    · have hd : decide ((⟨#[c]⟩ : Str) = "-") = true := decide_eq_true ((one_dash c).mpr hc)
      rw [e] at w1
      subst hc
      simp only [s_sSeq, s_sIf, s_bOr, s_bT, s_eBin, s_eVar, s_eC, List.getElem?_cons_zero, R.bind_val, s_eqS, hne, s_ofB, Bool.false_eq_true, if_false, ite_false, ix, s_neS, hd, Bool.not_true, s_then_val, s_sNil, seq_nx, s_sSet, s_eN, s_aCons, s_aNil, s_eSl, s_oSome, s_oNone, sl, s_callN, List.length_cons, List.length_nil, Nat.reduceAdd, decide_true, s_true, w1, List.drop_succ_cons, List.drop_zero, List.set_cons_succ, List.set_cons_zero, s_sRet, s_eIf, s_bAnd, List.getElem?_cons_succ, s_notN]
      rw [sg_dash]
      cases ew : wholeL r with
      | none => rfl
      | some n =>
        by_cases hn : n = 0
        · subst hn
          simp only [wNum, s_nonI, Bool.not_false, if_true, ite_true, s_neI, R.bind_val, s_ofB, Int.ofNat_eq_natCast, Int.natCast_zero, decide_true, Bool.not_true, Bool.false_eq_true, if_false, ite_false, s_then_val, s_endR]
        · have : decide ((n : Int) = 0) = false := decide_eq_false (by omega)
          simp only [wNum, s_nonI, Bool.not_false, if_true, ite_true, s_neI, R.bind_val, s_ofB, this, s_negM, s_eVar, List.getElem?_cons_zero, List.getElem?_cons_succ, s_then_val, s_endR, hn, if_false, ite_false]
    · have hd : decide ((⟨#[c]⟩ : Str) = "-") = false := decide_eq_false fun z => hc ((one_dash c).mp z)
      rw [e] at w0
      simp only [s_sSeq, s_sIf, s_bOr, s_bT, s_eBin, s_eVar, s_eC, List.getElem?_cons_zero, R.bind_val, s_eqS, hne, s_ofB, Bool.false_eq_true, if_false, ite_false, ix, s_neS, hd, Bool.not_false, s_then_val, if_true, ite_true, s_sRet, s_eN, s_aCons, s_aNil, s_callN, List.length_cons, List.length_nil, Nat.reduceAdd, decide_true, s_true, w0]
      rw [sg_cons hc]
      rfl
theorem num_dash (r : List Nat) : numD (45 :: r) = if r ≠ [] ∧ r.all dig = true ∧ r.head? ≠ some 48 then .int (-((NumText.digitsVal r : Nat) : Int)) else .non := rfl
theorem num_cons {c : Nat} {r : List Nat} (h : c ≠ 45) : numD (c :: r) = wNum (wholeL (c :: r)) := by
  unfold numD
  split
  · rename_i e
    injection e with e _
    exact absurd e h
  · rfl
theorem sg_num : ∀ l : List Nat, sgD l = numD l
  | [] => rfl
  | c :: r => by
    by_cases hc : c = 45
    · subst hc
      rw [sg_dash, num_dash]
      unfold wholeL
      by_cases h : r ≠ [] ∧ r.all dig = true ∧ (r = [48] ∨ r.head? ≠ some 48)
      · rw [if_pos h]
        dsimp only
        by_cases h2 : r.head? = some 48
        · rcases h.2.2 with z | z
          · subst z
            rfl
          · exact absurd h2 z
        · rw [if_pos (And.intro h.1 (And.intro h.2.1 h2))]
          have : NumText.digitsVal r ≠ 0 := by
            obtain ⟨c, q, e⟩ := List.exists_cons_of_ne_nil h.1
            have ad := alld h.2.1
            have hc := ad c (by rw [e]; exact List.mem_cons_self)
            have hc2 : c ≠ 48 := fun y => h2 (by rw [e, y]; rfl)
            intro z
            have hp := NumText.digitsVal_pos (c := c) (cs := q) (by omega)
            rw [← e] at hp
            omega
          rw [if_neg this]
      · rw [if_neg h]
        dsimp only
        rw [if_neg fun z : r ≠ [] ∧ r.all dig = true ∧ r.head? ≠ some 48 => h ⟨z.1, z.2.1, .inr z.2.2⟩]
    · rw [sg_cons hc, num_cons hc]
/-! a number and its text -/
def iS (i : Int) : Str := Str.ofString (toString i)
theorem iS_nat (n : Nat) : iS (n : Int) = nS n := rfl
theorem iS_neg (n : Nat) (h : n ≠ 0) : tl (iS (-(n : Int))) = 45 :: tl (nS n) := by
  obtain ⟨m, rfl⟩ := Nat.exists_eq_succ_of_ne_zero h
  have e : (-((m + 1 : Nat) : Int)) = Int.negSucc m := by omega
  have e1 : toString (Int.negSucc m) = "-" ++ toString (m + 1) := rfl
  have e2 : toString ((m + 1 : Nat) : Int) = toString (m + 1) := rfl
  show tl (iS (-((m + 1 : Nat) : Int))) = 45 :: tl (nS (m + 1))
  rw [e]
  unfold iS nS
  rw [e1, e2]
  show (Str.ofString ("-" ++ toString (m + 1))).cps.toList = 45 :: (Str.ofString (toString (m + 1))).cps.toList
  rw [PyProof.Rows.signs_ofString, PyProof.Rows.signs_ofString, String.toList_append, List.map_append]
  rfl
/-- what is read of a word, written again -/
theorem num_back {w : Str} {i : Int} (hl : w.length ≤ 330) (h : numD (tl w) = .int i) : iS i = w ∧ i.natAbs < NB := by
  rw [← sg_num] at h
  cases e : tl w with
  | nil =>
    rw [e] at h
    have : sgD [] = .non := rfl
    rw [this] at h
    cases h
  | cons c r =>
    rw [e] at h
    rw [len_tl, e] at hl
    by_cases hc : c = 45
    · subst hc
      rw [sg_dash] at h
      cases ew : wholeL r with
      | none => rw [ew] at h; cases h
      | some n =>
        rw [ew] at h
        dsimp only at h
        by_cases hn : n = 0
        · rw [if_pos hn] at h
          cases h
        · rw [if_neg hn] at h
          cases h
          refine ⟨ext_tl ?_, ?_⟩
          · rw [iS_neg n hn, nS_back ew, e]
          · rw [Int.natAbs_neg, Int.natAbs_natCast]
            exact whole_small ew (by simp at hl; omega)
    · rw [sg_cons hc] at h
      cases ew : wholeL (c :: r) with
      | none => rw [ew] at h; cases h
      | some n =>
        rw [ew] at h
        cases h
        exact ⟨ext_tl (by rw [iS_nat, nS_back ew, e]), by rw [Int.natAbs_natCast]; exact whole_small ew hl⟩
end K77
namespace K77
open PySem PySem.Spec PyProof.Rows L2 Pv TL
/-! words read one by one -/
theorem s_dec2 {p : Prop} [Decidable p] (h : p) {α : Type} (r : R α) : ifR (!false && decide p) r = r := by rw [decide_eq_true h]; rfl
theorem comp_mapG {α : Type} {i : Nat} {m : EM} {Γ : Env'} {g f : α → D} {S : Sto} : ∀ {l : List α}, (∀ x ∈ l, m (Γ.set i (some (g x))) S = .val (f x) S) → compGo (gSet i) bTrue m Γ (l.map g) S = .val (l.map f) S
  | [], _ => rfl
  | x :: l, h => by
    have ih := comp_mapG (l := l) fun y hy => h y (List.mem_cons_of_mem _ hy)
    show (match m (Γ.set i (some (g x))) S with
      | .val y S3 => (compGo (gSet i) bTrue m Γ (l.map g) S3).bind fun ys S4 => .val (y :: ys) S4
      | _ => .stuck) = _
    rw [h x List.mem_cons_self]
    dsimp only
    rw [ih, R.bind_val]
    rfl
theorem range_zero (lo : Int) : rangeD lo 0 = [] := rfl
theorem range_succ (lo : Int) (n : Nat) : rangeD lo (n + 1) = .int lo :: rangeD (lo + 1) n := by
  unfold rangeD
  rw [List.range_succ_eq_map, List.map_cons, List.map_map]
  congr 1
  · show D.int (lo + ((0 : Nat) : Int)) = _
    congr 1
    omega
  · refine List.map_congr_left fun i _ => ?_
    show D.int (lo + ((i + 1 : Nat) : Int)) = D.int (lo + 1 + (i : Int))
    congr 1
    omega
def rdG (rdr : Str → D) (most : Nat) : Nat → List Str → List D → Sum Nat (List D)
  | _, [], f => .inr f
  | i, w :: ws, f => if (rdr w).isNon = true ∨ i = most then .inl i else rdG rdr most (i + 1) ws (f ++ [rdr w])
theorem rdG_inr {rdr : Str → D} {most : Nat} : ∀ {ws : List Str} {i : Nat} {f g : List D}, rdG rdr most i ws f = .inr g → g = f ++ ws.map rdr ∧ (∀ w ∈ ws, (rdr w).isNon = false) ∧ (i ≤ most → i + ws.length ≤ most)
  | [], i, f, g, h => by
    cases h
    exact ⟨by simp, (fun w hw => by cases hw), fun hi => by simpa using hi⟩
  | w :: ws, i, f, g, h => by
    unfold rdG at h
    split at h
    · cases h
    · rename_i hn
      obtain ⟨h1, h2, h3⟩ := rdG_inr h
      refine ⟨by rw [h1]; simp, fun x hx => ?_, fun hi => ?_⟩
      · rcases List.mem_cons.mp hx with e | e
        · rw [e]
          exact Bool.eq_false_iff.mpr fun z => hn (.inl z)
        · exact h2 x e
      · have : i ≠ most := fun z => hn (.inr z)
        have := h3 (by omega)
        rw [List.length_cons]
        omega
theorem rdG_of {rdr : Str → D} {most : Nat} : ∀ {ws : List Str} {i : Nat} {f : List D}, (∀ w ∈ ws, (rdr w).isNon = false) → i + ws.length ≤ most → rdG rdr most i ws f = .inr (f ++ ws.map rdr)
  | [], i, f, _, _ => by simp [rdG]
  | w :: ws, i, f, h, hm => by
    rw [List.length_cons] at hm
    unfold rdG
    rw [if_neg (by
      rintro (z | z)
      · rw [h w List.mem_cons_self] at z
        cases z
      · omega), rdG_of (fun x hx => h x (List.mem_cons_of_mem _ hx)) (by omega)]
    simp
abbrev rwB : SM := sSeq (sSet 6 (eCallU 2 tab_read_words_read tabC_read_words_read (aCons (eVar 5) aNil)))
 (sSeq (sIf (bOr (bT (eBin isND (eVar 6) (eC .non))) (bT (eBin eqD (eVar 4) (eVar 1)))) (sRet (eN tupN (aCons (eN tupN aNil) (aCons (eVar 4) aNil)))) sNil) (sAppend 3 (eVar 6)))
theorem rw_loop (rf W : D) (rdr : Str → D) (most : Nat) (S : Sto) : ∀ (ws : List Str) (i : Nat) (f : List D) (a b c : Option D), (∀ w ∈ ws, ∀ Γ : Env', Γ[2]? = some (some rf) → Γ[5]? = some (some (.str w)) → eCallU 2 tab_read_words_read tabC_read_words_read (aCons (eVar 5) aNil) Γ S = .val (rdr w) S) → f.length + ws.length ≤ sizeLine →
    ∃ a' b' c', forGo (gSeq 2 (gConsM (gSet 4) (gConsM (gSet 5) gNilM))) rwB (enumGo i (ws.map .str)) [some W, some (.int (most : Int)), some rf, some (.lst f), a, b, c] S =
      (match rdG rdr most i ws f with | .inl j => .rt (.tup [.tup [], .int j]) S | .inr g => .nx [some W, some (.int (most : Int)), some rf, some (.lst g), a', b', c'] S)
  | [], i, f, a, b, c, _, _ => ⟨a, b, c, rfl⟩
  | w :: ws, i, f, a, b, c, hc, hz => by
    have z0 : decide (0 ≤ sizeLine) = true := by decide
    have z2 : decide (2 ≤ sizeLine) = true := by decide
    have hf : f.length < sizeLine := by rw [List.length_cons] at hz; omega
    have hcall := hc w List.mem_cons_self [some W, some (.int (most : Int)), some rf, some (.lst f), some (.int (i : Int)), some (.str w), c] rfl rfl
    have step : forGo (gSeq 2 (gConsM (gSet 4) (gConsM (gSet 5) gNilM))) rwB (enumGo i ((w :: ws).map .str)) [some W, some (.int (most : Int)), some rf, some (.lst f), a, b, c] S = (match rwB [some W, some (.int (most : Int)), some rf, some (.lst f), some (.int (i : Int)), some (.str w), c] S with
      | .nx Γ2 S2 => forGo (gSeq 2 (gConsM (gSet 4) (gConsM (gSet 5) gNilM))) rwB (enumGo (i + 1) (ws.map .str)) Γ2 S2
      | .ct Γ2 S2 => forGo (gSeq 2 (gConsM (gSet 4) (gConsM (gSet 5) gNilM))) rwB (enumGo (i + 1) (ws.map .str)) Γ2 S2
      | .bk Γ2 S2 => .nx Γ2 S2
      | .rt d S2 => .rt d S2
      | .xn x Γ2 S2 => .xn x Γ2 S2
      | .stuck => .stuck) := by
      show forGo _ rwB (.tup [.int (i : Int), .str w] :: enumGo (i + 1) (ws.map .str)) _ S = _
      rw [s_for1]
      rfl
    have B : rwB [some W, some (.int (most : Int)), some rf, some (.lst f), some (.int (i : Int)), some (.str w), c] S = (if (rdr w).isNon = true ∨ i = most then .rt (.tup [.tup [], .int i]) S else .nx [some W, some (.int (most : Int)), some rf, some (.lst (f ++ [rdr w])), some (.int (i : Int)), some (.str w), some (rdr w)] S) := by
      rw [rwB, s_sSeq, s_sSet, hcall, s_then_val, seq_nx]
      simp only [List.set_cons_succ, List.set_cons_zero]
      by_cases h1 : (rdr w).isNon = true
      · rw [if_pos (.inl h1)]
        simp only [s_sSeq, s_sIf, s_bOr, s_bT, s_eBin, s_eVar, s_eC, List.getElem?_cons_zero, List.getElem?_cons_succ, R.bind_val, s_isN, h1, s_ofB, if_true, ite_true, s_then_val, s_sRet, s_eN, s_aCons, s_aNil, s_tupN, List.length_cons, List.length_nil, Nat.reduceAdd, z0, z2, s_true, seq_rt]
      · have h1' : (rdr w).isNon = false := Bool.eq_false_iff.mpr h1
        by_cases h2 : i = most
        · rw [if_pos (.inr h2)]
          have h3 : decide ((i : Int) = (most : Int)) = true := decide_eq_true (by omega)
          simp only [s_sSeq, s_sIf, s_bOr, s_bT, s_eBin, s_eVar, s_eC, List.getElem?_cons_zero, List.getElem?_cons_succ, R.bind_val, s_isN, h1', s_ofB, Bool.false_eq_true, if_false, ite_false, s_eqI, h3, if_true, ite_true, s_then_val, s_sRet, s_eN, s_aCons, s_aNil, s_tupN, List.length_cons, List.length_nil, Nat.reduceAdd, z0, z2, s_true, seq_rt]
        · rw [if_neg (by rintro (z | z) <;> contradiction)]
          have h3 : decide ((i : Int) = (most : Int)) = false := decide_eq_false (by omega)
          simp only [s_sSeq, s_sIf, s_bOr, s_bT, s_eBin, s_eVar, s_eC, List.getElem?_cons_zero, List.getElem?_cons_succ, R.bind_val, s_isN, h1', s_ofB, Bool.false_eq_true, if_false, ite_false, s_eqI, h3, s_then_val, s_sNil, seq_nx, s_sAppend, hf, if_true, ite_true, List.set_cons_succ, List.set_cons_zero]
    unfold rdG
    by_cases h : (rdr w).isNon = true ∨ i = most
    · refine ⟨a, b, c, ?_⟩
      rw [step, B, if_pos h, if_pos h]
    · obtain ⟨a', b', c', ih⟩ := rw_loop rf W rdr most S ws (i + 1) (f ++ [rdr w]) (some (.int (i : Int))) (some (.str w)) (some (rdr w)) (fun x hx => hc x (List.mem_cons_of_mem _ hx)) (by rw [List.length_append, List.length_singleton]; rw [List.length_cons] at hz; omega)
      refine ⟨a', b', c', ?_⟩
      rw [step, B, if_neg h, if_neg h]
      exact ih
theorem read_words_ok {rf : D} {rdr : Str → D} {most : Nat} {ws : List Str} {S : Sto} (hc : ∀ w ∈ ws, ∀ Γ : Env', Γ[2]? = some (some rf) → Γ[5]? = some (some (.str w)) → eCallU 2 tab_read_words_read tabC_read_words_read (aCons (eVar 5) aNil) Γ S = .val (rdr w) S) (hz : ws.length ≤ sizeLine) :
    m_read_words [.lst (ws.map .str), .int (most : Int), rf] S = .val (match rdG rdr most 0 ws [] with | .inl j => .tup [.tup [], .int j] | .inr g => .tup [.tup g, .non]) S := by
  have z0 : decide (0 ≤ sizeLine) = true := by decide
  have z2 : decide (2 ≤ sizeLine) = true := by decide
  obtain ⟨a', b', c', h⟩ := rw_loop rf (.lst (ws.map .str)) rdr most S ws 0 [] none none none hc (by simpa using hz)
  have e0 : startD 7 [.lst (ws.map .str), .int (most : Int), rf] = [some (.lst (ws.map .str)), some (.int (most : Int)), some rf, none, none, none, none] := rfl
  unfold m_read_words
  rw [s_def, e0, s_sSeq, s_sOwn, s_fLst, s_aNil, R.bind_val, s_dec (by decide), s_then_val, seq_nx]
  simp only [List.set_cons_succ, List.set_cons_zero]
  rw [s_sSeq, s_sFor]
  have ei : ∀ x, iEnum' (aCons (eVar 0) aNil) [some (.lst (ws.map .str)), some (.int (most : Int)), some rf, x, none, none, none] S = .val (enumGo 0 (ws.map .str)) S := fun x => rfl
  rw [ei, s_then_val, h]
  cases rdG rdr most 0 ws [] with
  | inl j => rfl
  | inr g =>
    dsimp only
    simp only [seq_nx, s_sRet, s_eN, s_aCons, s_aNil, s_eVar, s_eC, List.getElem?_cons_zero, List.getElem?_cons_succ, R.bind_val, s_tupleL, s_tupN, List.length_cons, List.length_nil, Nat.reduceAdd, z2, s_true, s_then_val, s_endR]
/-! the law's own reading: for k in range(len(words)): if k > n or what words[k] tells is None -/
end K77
namespace K77
open PySem PySem.Spec PyProof.Rows L2 Pv TL
/-! counts read -/
def numR (w : Str) : D := numD (tl w)
theorem call_signed {w : Str} {Γ : Env'} {S : Sto} (hl : w.length ≤ 640) (h2 : Γ[2]? = some (some (.fn "signed_in"))) (h5 : Γ[5]? = some (some (.str w))) : eCallU 2 tab_read_words_read tabC_read_words_read (aCons (eVar 5) aNil) Γ S = .val (numR w) S := by
  have ht : tab_read_words_read "signed_in" = some (1, m_signed_in) := if_pos rfl
  unfold eCallU
  rw [h2]
  dsimp only
  rw [ht]
  dsimp only
  rw [s_aCons, s_eVar, h5]
  dsimp only
  rw [R.bind_val, s_aNil, R.bind_val, R.bind_val, s_callN, s_dec (show [D.str w].length = 1 from rfl), signed_ok hl, sg_num]
  rfl
def rcS (n : Nat) (t : Str) : Sum Nat (List D) := match rdG numR (n + 1) 0 (Txt.split t " ") [] with
  | .inl j => .inl j
  | .inr g => if g.length ≤ n then .inl g.length else .inr g
theorem Tx.wds {t : Str} (h : Tx t) : ∀ w ∈ Txt.split t " ", w.length ≤ 640 ∧ ∀ c ∈ tl w, c < 128 := fun w hw => ⟨h.wd6 w hw, fun c hc => h.asc c (part_mem hw hc)⟩
theorem split_ok {t : Str} {i : Nat} {Γ : Env'} {S : Sto} (h : Tx t) (hg : Γ[i]? = some (some (.str t))) : eLst (fSplit (eVar i) (eC (.str " "))) Γ S = .val (.lst ((Txt.split t " ").map .str)) S := by
  rw [s_eLst, s_fSplit, s_eVar, hg]
  dsimp only
  rw [R.bind_val]
  dsimp only
  rw [s_eC, R.bind_val]
  dsimp only
  rw [lenS, s_dec2 h.fits]
  rfl
theorem counts_in_ok {n : Nat} {ls : List D} {t : Str} {S : Sto} (hn : ls.length = n) (h12 : n ≤ 1000) (h : Tx t) :
    m_counts_in [.tup ls, .str t] S = .val (match rcS n t with | .inl j => .tup [.tup (match rdG numR (n + 1) 0 (Txt.split t " ") [] with | .inl _ => [] | .inr g => g), .int j] | .inr g => .tup [.tup g, .non]) S := by
  have z2 : decide (2 ≤ sizeLine) = true := by decide
  have e0 : startD 4 [.tup ls, .str t] = [some (.tup ls), some (.str t), none, none] := rfl
  have en : (ls.length : Int) + 1 = ((n + 1 : Nat) : Int) := by omega
  have rw1 := read_words_ok (S := S) (rf := .fn "signed_in") (rdr := numR) (most := n + 1) (ws := Txt.split t " ") (fun w hw Γ h2 h5 => call_signed (h.wd6 w hw) h2 h5) h.many
  have sp := split_ok (i := 1) (Γ := [some (.tup ls), some (.str t), none, none]) (S := S) h rfl
  unfold m_counts_in
  rw [s_def, e0, s_sSeq, s_sAsg, s_eN, s_aCons, sp, R.bind_val]
  simp only [s_aCons, s_eBin, s_eN, s_aNil, s_eVar, s_eC, List.getElem?_cons_zero, R.bind_val, s_lenT, s_addI, en, s_callN, List.length_cons, List.length_nil, Nat.reduceAdd, decide_true, s_true, rw1, s_then_val]
  unfold rcS
  cases hr : rdG numR (n + 1) 0 (Txt.split t " ") [] with
  | inl j =>
    simp only [s_gSeqT, s_gCons, s_gSet, s_gNil, List.length_cons, List.length_nil, Nat.reduceAdd, decide_true, s_true, R.bind_val, List.set_cons_succ, List.set_cons_zero, seq_nx, s_sRet, s_eN, s_aCons, s_aNil, s_eVar, List.getElem?_cons_zero, List.getElem?_cons_succ, s_eIf, s_bAnd, s_bT, s_eBin, s_eC, s_isN, s_nonI, s_ofB, Bool.false_eq_true, if_false, ite_false, s_tupN, z2, s_then_val, s_endR]
  | inr g =>
    by_cases hg : g.length ≤ n
    · have hd : decide ((g.length : Int) ≤ (ls.length : Int)) = true := decide_eq_true (by omega)
      simp only [s_gSeqT, s_gCons, s_gSet, s_gNil, List.length_cons, List.length_nil, Nat.reduceAdd, decide_true, s_true, R.bind_val, List.set_cons_succ, List.set_cons_zero, seq_nx, s_sRet, s_eN, s_aCons, s_aNil, s_eVar, List.getElem?_cons_zero, List.getElem?_cons_succ, s_eIf, s_bAnd, s_bT, s_eBin, s_eC, s_isN, s_non, s_ofB, if_true, ite_true, s_lenT, s_cmp, hd, s_tupN, z2, s_then_val, s_endR, if_pos hg]
    · have hd : decide ((g.length : Int) ≤ (ls.length : Int)) = false := decide_eq_false (by omega)
      simp only [s_gSeqT, s_gCons, s_gSet, s_gNil, List.length_cons, List.length_nil, Nat.reduceAdd, decide_true, s_true, R.bind_val, List.set_cons_succ, List.set_cons_zero, seq_nx, s_sRet, s_eN, s_aCons, s_aNil, s_eVar, List.getElem?_cons_zero, List.getElem?_cons_succ, s_eIf, s_bAnd, s_bT, s_eBin, s_eC, s_isN, s_non, s_ofB, if_true, ite_true, s_lenT, s_cmp, hd, Bool.false_eq_true, if_false, ite_false, s_tupN, z2, s_then_val, s_endR, if_neg hg]
/-- a line -/
structure Ln (ss : List Sec) : Prop where
  ok : ∀ s ∈ ss, good s
  lo : 1 ≤ ss.length
  hi : ss.length ≤ 12
theorem check_ok {ss : List Sec} {S : Sto} (h : Ln ss) : m_check_line [.tup (ss.map sD)] S = .val .non S := by
  rw [check_line_ok (okv_line ss), wrongs_good h.ok h.lo h.hi]
theorem check_text_ok {t : Str} {S : Sto} : m_check_text [.str t] S = .val .non S := by
  simp [m_check_text, s_def, startD, is_text_ok (show pl (.str t) = true from rfl), isStr]
theorem check_text_odd {d : D} {S : Sto} (h : pl d = true) (hn : isStr d = false) : m_check_text [d] S = .exn ⟨"InvalidText", [("index", .non)]⟩ S := by simp [m_check_text, s_def, startD, is_text_ok h, hn]
theorem check_read_non {S : Sto} : m_check_read [.non] S = .val .non S := by simp [m_check_read, s_def, startD]
theorem check_read_int {S : Sto} {j : Int} : m_check_read [.int j] S = .exn ⟨"InvalidText", [("index", .int j)]⟩ S := by simp [m_check_read, s_def, startD]
theorem read_counts_ok {ss : List Sec} {t : Str} {S : Sto} (hl : Ln ss) (h : Tx t) : m_read_counts [.tup (ss.map sD), .str t] S = (match rcS ss.length t with | .inl j => .exn ⟨"InvalidText", [("index", .int j)]⟩ S | .inr g => .val (.tup g) S) := by
  have e0 : startD 4 [.tup (ss.map sD), .str t] = [some (.tup (ss.map sD)), some (.str t), none, none] := rfl
  have ci := counts_in_ok (n := ss.length) (ls := ss.map sD) (S := S) (by rw [List.length_map]) (Nat.le_trans hl.hi (by decide)) h
  have ck := check_ok (S := S) hl
  have ct := check_text_ok (t := t) (S := S)
  unfold m_read_counts
  rw [s_def, e0]
  simp only [s_sSeq, s_sDrop, s_eN, s_aCons, s_aNil, s_eVar, List.getElem?_cons_zero, List.getElem?_cons_succ, R.bind_val, s_callN, List.length_cons, List.length_nil, Nat.reduceAdd, decide_true, s_true, ck, ct, s_then_val, seq_nx, s_sAsg, ci]
  cases rcS ss.length t with
  | inl j => simp only [s_gSeqT, s_gCons, s_gSet, s_gNil, List.length_cons, List.length_nil, Nat.reduceAdd, decide_true, s_true, R.bind_val, List.set_cons_succ, List.set_cons_zero, seq_nx, s_sSeq, s_sDrop, s_eN, s_aCons, s_aNil, s_eVar, List.getElem?_cons_zero, List.getElem?_cons_succ, s_callN, check_read_int, s_then_exn, seq_xn, s_endX, R.bind_exn]
  | inr g => simp only [s_gSeqT, s_gCons, s_gSet, s_gNil, List.length_cons, List.length_nil, Nat.reduceAdd, decide_true, s_true, R.bind_val, List.set_cons_succ, List.set_cons_zero, seq_nx, s_sSeq, s_sDrop, s_eN, s_aCons, s_aNil, s_eVar, List.getElem?_cons_zero, List.getElem?_cons_succ, s_callN, check_read_non, s_then_val, s_sRet, s_eVar, s_endR]
theorem read_counts_odd {ss : List Sec} {d : D} {S : Sto} (hl : Ln ss) (h : pl d = true) (hn : isStr d = false) : m_read_counts [.tup (ss.map sD), d] S = .exn ⟨"InvalidText", [("index", .non)]⟩ S := by
  have e0 : startD 4 [.tup (ss.map sD), d] = [some (.tup (ss.map sD)), some d, none, none] := rfl
  have ck := check_ok (S := S) hl
  have ct := check_text_odd (S := S) h hn
  unfold m_read_counts
  rw [s_def, e0]
  simp only [s_sSeq, s_sDrop, s_eN, s_aCons, s_aNil, s_eVar, List.getElem?_cons_zero, List.getElem?_cons_succ, R.bind_val, s_callN, List.length_cons, List.length_nil, Nat.reduceAdd, decide_true, s_true, ck, ct, s_then_val, s_then_exn, seq_nx, seq_xn, s_endX]
/-! the law's reading of counts -/
end K77
namespace K77
open PySem PySem.Spec PyProof.Rows L2 Pv TL
/-! right counts, right logs -/
theorem comp_none {Γ : Env'} {gm : GM} {c : BM} {m : EM} {S : Sto} {ds : List D} (h : ∀ d ∈ ds, ∃ Γ1, gm d Γ S = .val Γ1 S ∧ c Γ1 S = .val false S) : compGo gm c m Γ ds S = .val [] S := by
  have := comp_pure (Γ := Γ) (gm := gm) (c := c) (m := m) (p := fun _ => false) (f := fun d => d) (S := S) (ds := ds) fun d hd => by
    obtain ⟨Γ1, h1, h2⟩ := h d hd
    exact ⟨Γ1, h1, h2, fun z => by cases z⟩
  rw [this, List.filter_eq_nil_iff.mpr (fun _ _ => Bool.false_ne_true)]
  rfl
theorem numbers_none {cs : List Int} {S : Sto} (h : cs.length ≤ 1000) : m_wrong_in_numbers [.tup (cs.map .int), .int (cs.length : Int)] S = .val (.lst []) S := by
  have z0 : decide (0 ≤ sizeLine) = true := by decide
  have e0 : startD 4 [.tup (cs.map .int), .int (cs.length : Int)] = [some (.tup (cs.map .int)), some (.int (cs.length : Int)), none, none] := rfl
  have t0 : ∀ S, m_is_tuple_of [.tup (cs.map .int), .int (cs.length : Int)] S = .val (.bl true) S := fun S => by
    simp [m_is_tuple_of, s_def, startD, is_tup_ok (show pl (.tup (cs.map .int)) = true from rfl)]
  have c := comp_none (Γ := [some (.tup (cs.map .int)), some (.int (cs.length : Int)), none, none]) (gm := gSeq 2 (gConsM (gSet 2) (gConsM (gSet 3) gNilM))) (c := bNot (bT (eN (callN 1 m_is_whole) (aCons (eVar 3) aNil)))) (m := eVar 2) (S := S) (ds := enumGo 0 (cs.map .int)) fun d hd => by
    obtain ⟨i, x, rfl, hx⟩ := enum_mem hd
    obtain ⟨z, _, rfl⟩ := List.mem_map.mp hx
    refine ⟨[some (.tup (cs.map .int)), some (.int (cs.length : Int)), some (.int i), some (.int z)], rfl, ?_⟩
    simp only [s_bNot, s_bT, s_eN, s_aCons, s_aNil, s_eVar, List.getElem?_cons_zero, List.getElem?_cons_succ, R.bind_val, s_callN, List.length_cons, List.length_nil, Nat.reduceAdd, decide_true, s_true, is_whole_ok (show pl (.int z) = true from rfl), isInt, s_ofB, Bool.not_true]
  unfold m_wrong_in_numbers
  rw [s_def, e0]
  simp only [s_sSeq, s_sIf, s_bNot, s_bT, s_eN, s_aCons, s_aNil, s_eVar, List.getElem?_cons_zero, List.getElem?_cons_succ, R.bind_val, s_callN, List.length_cons, List.length_nil, Nat.reduceAdd, decide_true, s_true, t0, s_ofB, Bool.not_true, s_then_val, Bool.false_eq_true, if_false, ite_false, s_sNil, seq_nx, s_sRet, s_eSl, s_eLst, s_fComp, s_iEnum, s_itemT, s_wipe1, s_wipe0, List.set_cons_succ, List.set_cons_zero, c, z0, s_oNone, s_oSome, s_eC, s_slL, s_endR]
  rfl
theorem in_counts_ok {ls : List D} {cs : List Int} {S : Sto} (h : cs.length = ls.length + 1) (h2 : cs.length ≤ 1000) : m_wrong_in_counts [.tup ls, .tup (cs.map .int)] S = .val (.lst []) S := by
  have e : (ls.length : Int) + 1 = (cs.length : Int) := by omega
  have nn := numbers_none (cs := cs) (S := S) h2
  simp only [m_wrong_in_counts, s_def, startD, List.map_cons, List.map_nil, List.length_cons, List.length_nil, Nat.reduceAdd, Nat.sub_self, List.replicate_zero, List.append_nil, s_sRet, s_eN, s_aCons, s_aNil, s_eVar, s_eBin, s_eC, List.getElem?_cons_zero, List.getElem?_cons_succ, R.bind_val, s_lenT, s_addI, e, s_callN, decide_true, s_true, nn, s_then_val, s_endR]
theorem check_counts_ok {ls : List D} {cs : List Int} {S : Sto} (h : cs.length = ls.length + 1) (h2 : cs.length ≤ 1000) : m_check_counts [.tup ls, .tup (cs.map .int)] S = .val .non S := by
  have nn := in_counts_ok (S := S) h h2
  have e0 : startD 3 [.tup ls, .tup (cs.map .int)] = [some (.tup ls), some (.tup (cs.map .int)), none] := rfl
  unfold m_check_counts
  rw [s_def, e0]
  simp only [s_sFor, s_iIt, s_eN, s_aCons, s_aNil, s_eVar, List.getElem?_cons_zero, List.getElem?_cons_succ, R.bind_val, s_callN, List.length_cons, List.length_nil, Nat.reduceAdd, decide_true, s_true, nn, s_itsL, s_then_val, s_for0, s_endN]
/-! the text of counts -/
theorem iS_len {i : Int} (h : i.natAbs < NB) : (iS i).length ≤ 331 := by
  rcases Int.natAbs_eq i with e | e
  · rw [e, iS_nat]
    exact Nat.le_trans (nS_len h) (by decide)
  · by_cases h0 : i.natAbs = 0
    · rw [e, h0]
      show (iS (0 : Nat)).length ≤ 331
      rw [iS_nat]
      exact Nat.le_trans (nS_len (by unfold NB; exact Nat.pow_pos (by decide))) (by decide)
    · rw [e, len_tl, iS_neg _ h0, List.length_cons, ← len_tl]
      have := nS_len h
      omega
theorem str_int {i : Int} {S : Sto} (h : i.natAbs < NB) : strN [.int i] S = .val (.str (iS i)) S := by
  rw [s_strI]
  refine s_dec ?_ _
  have := log_ok h
  rwa [Int.natAbs_natCast] at this
def cW (cs : List Int) : Str := Txt.join " " (cs.map iS)
theorem join_texts {α : Type} {i : Nat} {m : EM} {Γ : Env'} {g : α → D} {f : α → Str} {S : Sto} {l : List α} {B n : Nat} (hm : ∀ x ∈ l, m ((wipeD Γ [i]).set i (some (g x))) S = .val (.str (f x)) S) (hb : ∀ x ∈ l, (f x).length ≤ B) (hn : l.length ≤ n) (hz : n * (B + 1) ≤ 16777216) {ml : EM} (hl : ml Γ S = .val (.tup (l.map g)) S ∨ ml Γ S = .val (.lst (l.map g)) S) :
    strM1 joinD (eC (.str " ")) (eLst (fComp (iIt ml) (gSet i) bTrue m [i])) Γ S = .val (.str (Txt.join " " (l.map f))) S := by
  have c := comp_mapG (i := i) (m := m) (Γ := wipeD Γ [i]) (g := g) (f := fun x => .str (f x)) (S := S) (l := l) hm
  have c' : compGo (gSet i) bTrue m (wipeD Γ [i]) (l.map g) S = .val ((l.map f).map D.str) S := by
    rw [c, List.map_map]
    rfl
  have h16 : (16777216 : Nat) = sizeLine := sizeLine_eq.symm
  have hle : l.length ≤ sizeLine := by
    rw [← h16]
    refine Nat.le_trans hn (Nat.le_trans ?_ hz)
    exact Nat.le_mul_of_pos_right n (Nat.succ_pos _)
  have j := join_ok (l := l.map f) (S := S) (B := B) (n := n) (fun w hw => by obtain ⟨x, hx, rfl⟩ := List.mem_map.mp hw; exact hb x hx) (by rw [List.length_map]; exact hn) hz
  have it : iIt ml Γ S = .val (l.map g) S := by
    rw [s_iIt]
    rcases hl with e | e <;> rw [e, R.bind_val] <;> rfl
  rw [s_strM1, s_eC, R.bind_val]
  dsimp only
  rw [s_eLst, s_fComp, it, R.bind_val, c', R.bind_val, s_dec (by rw [List.length_map, List.length_map]; exact hle), R.bind_val, R.bind_val, j]
theorem counts_text_ok {ss : List Sec} {cs : List Int} {S : Sto} (hl : Ln ss) (h : cs.length = ss.length + 1) (hb : ∀ c ∈ cs, c.natAbs < NB) : m_counts_text [.tup (ss.map sD), .tup (cs.map .int)] S = .val (.str (cW cs)) S := by
  have h13 : cs.length ≤ 13 := by have := hl.hi; omega
  have ck := check_ok (S := S) hl
  have cc := check_counts_ok (S := S) (ls := ss.map sD) (cs := cs) (by rw [List.length_map]; exact h) (by omega)
  have e0 : startD 2 [.tup (ss.map sD), .tup (cs.map .int)] = [some (.tup (ss.map sD)), some (.tup (cs.map .int))] := rfl
  have e1 : startD 2 [.tup (cs.map .int)] = [some (.tup (cs.map .int)), none] := rfl
  have tx : m_text_of_numbers [.tup (cs.map .int)] S = .val (.str (cW cs)) S := by
    have j := join_texts (i := 1) (m := eN strN (aCons (eVar 1) aNil)) (Γ := [some (.tup (cs.map .int)), none]) (g := D.int) (f := iS) (S := S) (l := cs) (B := 331) (n := 13) (fun x hx => by
      simp only [s_wipe1, s_wipe0, List.set_cons_succ, List.set_cons_zero, s_eN, s_aCons, s_aNil, s_eVar, List.getElem?_cons_zero, List.getElem?_cons_succ, R.bind_val, str_int (hb x hx)]) (fun x hx => iS_len (hb x hx)) h13 (by decide) (ml := eVar 0) (.inl rfl)
    unfold m_text_of_numbers
    rw [s_def, e1, s_sRet, j]
    rfl
  unfold m_counts_text
  rw [s_def, e0]
  simp only [s_sSeq, s_sDrop, s_sRet, s_eN, s_aCons, s_aNil, s_eVar, List.getElem?_cons_zero, List.getElem?_cons_succ, R.bind_val, s_callN, List.length_cons, List.length_nil, Nat.reduceAdd, decide_true, s_true, ck, cc, s_then_val, seq_nx, tx, s_endR]
/-- what is read of a text of counts -/
theorem nums_back : ∀ {ws : List Str}, (∀ w ∈ ws, w.length ≤ 330) → (∀ w ∈ ws, (numR w).isNon = false) → ∃ cs : List Int, ws.map numR = cs.map D.int ∧ cs.map iS = ws ∧ ∀ c ∈ cs, c.natAbs < NB
  | [], _, _ => ⟨[], rfl, rfl, fun c h => by cases h⟩
  | w :: ws, h1, h2 => by
    have hw := h2 w List.mem_cons_self
    have hi : ∃ i, numR w = .int i := by
      unfold numR at hw ⊢
      rcases num_three (tl w) with ⟨n, _, e⟩ | ⟨_, e⟩ | ⟨_, n, _, e⟩
      · exact ⟨_, e⟩
      · rw [e] at hw
        cases hw
      · exact ⟨_, e⟩
    obtain ⟨i, e⟩ := hi
    obtain ⟨b1, b2⟩ := num_back (h1 w List.mem_cons_self) e
    obtain ⟨cs, f1, f2, f3⟩ := nums_back (fun x hx => h1 x (List.mem_cons_of_mem _ hx)) fun x hx => h2 x (List.mem_cons_of_mem _ hx)
    refine ⟨i :: cs, by rw [List.map_cons, List.map_cons, e, f1], by rw [List.map_cons, b1, f2], fun c hc => ?_⟩
    rcases List.mem_cons.mp hc with z | z
    · rw [z]
      exact b2
    · exact f3 c z
theorem counts_back {n : Nat} {t : Str} {g : List D} (h : Tx t) (hr : rcS n t = .inr g) : ∃ cs : List Int, g = cs.map D.int ∧ cW cs = t ∧ (∀ c ∈ cs, c.natAbs < NB) ∧ cs.length = n + 1 := by
  unfold rcS at hr
  split at hr
  · cases hr
  · rename_i g' e
    split at hr
    · cases hr
    · rename_i hg
      cases hr
      obtain ⟨e1, e2, e3⟩ := rdG_inr e
      rw [List.nil_append] at e1
      obtain ⟨cs, f1, f2, f3⟩ := nums_back h.wd e2
      have hlen : cs.length = (Txt.split t " ").length := by rw [← f2, List.length_map]
      have h3 := e3 (by omega)
      have hgl : g.length = cs.length := by rw [e1, f1, List.length_map]
      refine ⟨cs, by rw [e1, f1], ?_, f3, by omega⟩
      unfold cW
      rw [f2, join_eq]
      exact PySem.StrLaws.join_split t " "
end K77
namespace K77
open PySem PySem.Spec PyProof.Rows L2 Pv TL
theorem sh_sum {l : List Str} {n : Nat} (h : ∀ w ∈ l, ∀ c ∈ tl w, c < 128) (hs : (l.map (·.length)).sum + l.length ≤ n) : Sh n (Txt.join " " l) := by
  refine ⟨?_, fun c hc => ?_⟩
  · rw [join_eq]
    have h1 := PySem.StrLaws.join_length_le " " l
    have h2 : (" " : Str).length = 1 := by decide
    rw [h2] at h1
    omega
  · rw [join_eq, tl_join] at hc
    rcases of_joinL hc with q | ⟨p, hp, q⟩
    · rw [tS] at q
      rw [List.mem_singleton.mp q]
      decide
    · obtain ⟨w, hw, rfl⟩ := List.mem_map.mp hp
      exact h w hw c q
theorem sum_le {α : Type} {l : List α} {f : α → Nat} {k : Nat} (h : ∀ x ∈ l, f x ≤ k) : (l.map f).sum ≤ l.length * k := by
  induction l with
  | nil => simp
  | cons a l ih =>
    have := ih fun w hw => h w (List.mem_cons_of_mem _ hw)
    have := h a List.mem_cons_self
    rw [List.map_cons, List.sum_cons, List.length_cons, Nat.succ_mul]
    omega
theorem comp_inv {gm : GM} {m : EM} {Γ : Env'} {P : Nat → Sto → Prop} {Q : D → Prop} (N : Nat) : ∀ {ds : List D} {i : Nat} {S : Sto}, (∀ j d S, d ∈ ds → j < N → P j S → ∃ Γ1 y S2, gm d Γ S = .val Γ1 S ∧ m Γ1 S = .val y S2 ∧ Q y ∧ P (j + 1) S2) → i + ds.length ≤ N → P i S →
    ∃ ys S', compGo gm bTrue m Γ ds S = .val ys S' ∧ (∀ y ∈ ys, Q y) ∧ ys.length = ds.length ∧ P (i + ds.length) S'
  | [], i, S, _, _, h => ⟨[], S, rfl, (fun y hy => by cases hy), rfl, h⟩
  | d :: ds, i, S, step, hN, h => by
    rw [List.length_cons] at hN
    obtain ⟨Γ1, y, S2, e1, e2, q, h2⟩ := step i d S List.mem_cons_self (by omega) h
    obtain ⟨ys, S', e4, h4, h5, h6⟩ := comp_inv N (ds := ds) (fun j x S hx => step j x S (List.mem_cons_of_mem _ hx)) (by omega) h2
    refine ⟨y :: ys, S', ?_, fun z hz => ?_, by rw [List.length_cons, List.length_cons, h5], by rw [List.length_cons, Nat.add_comm ds.length 1, ← Nat.add_assoc]; exact h6⟩
    · unfold compGo
      rw [e1]
      dsimp only
      rw [s_bTrue]
      dsimp only
      rw [e2]
      dsimp only
      rw [e4, R.bind_val]
    · rcases List.mem_cons.mp hz with w | w
      · rw [w]
        exact q
      · exact h4 z w
theorem as_map {α : Type} {g : α → D} {Q : α → Prop} : ∀ {ys : List D}, (∀ y ∈ ys, ∃ x, y = g x ∧ Q x) → ∃ xs : List α, ys = xs.map g ∧ ∀ x ∈ xs, Q x
  | [], _ => ⟨[], rfl, fun x h => by cases h⟩
  | y :: ys, h => by
    obtain ⟨x, e, q⟩ := h y List.mem_cons_self
    obtain ⟨xs, f, r⟩ := as_map (ys := ys) fun z hz => h z (List.mem_cons_of_mem _ hz)
    refine ⟨x :: xs, by rw [List.map_cons, e, f], fun z hz => ?_⟩
    rcases List.mem_cons.mp hz with w | w
    · rw [w]
      exact q
    · exact r z w
theorem mul_run {i j : Int} {S : Sto} (h : Builtin.Int.intBits i ≤ 60000000) (g : Builtin.Int.intBits j ≤ 60000000) : mulD (.int i) (.int j) S = .val (.int (i * j)) S := by
  rw [s_mulI]
  exact s_dec (by omega) _
theorem small_bits {i : Int} (h0 : 0 ≤ i) (h : i < 4294967296) : Builtin.Int.intBits i ≤ 60000000 := Nat.le_trans (bits_le (k := 32) h0 (Int.lt_of_lt_of_le h (by decide))) (by decide)
theorem iS_sh {c : Int} (h : c.natAbs < 10 ^ 19) : Sh 20 (iS c) ∧ 32 ∉ tl (iS c) := by
  have nat : ∀ v : Nat, v < 10 ^ 19 → Sh 19 (nS v) ∧ 32 ∉ tl (nS v) := fun v hv => ⟨nS_sh (by decide) hv, fun q => by
    unfold nS at q
    rw [tl_num] at q
    have := numL_digits v 32 q
    omega⟩
  rcases Int.natAbs_eq c with e | e
  · rw [e, iS_nat]
    obtain ⟨a, b⟩ := nat c.natAbs h
    exact ⟨a.mono (by decide), b⟩
  · by_cases h0 : c.natAbs = 0
    · rw [e, h0]
      show Sh 20 (iS (0 : Nat)) ∧ 32 ∉ tl (iS (0 : Nat))
      rw [iS_nat]
      obtain ⟨a, b⟩ := nat 0 (by decide)
      exact ⟨a.mono (by decide), b⟩
    · obtain ⟨a, b⟩ := nat c.natAbs h
      rw [e]
      refine ⟨⟨?_, fun x hx => ?_⟩, fun hx => ?_⟩
      · have := a.len
        rw [len_tl, iS_neg _ h0, List.length_cons, ← len_tl]
        omega
      · rw [iS_neg _ h0] at hx
        rcases List.mem_cons.mp hx with z | z
        · omega
        · exact a.asc x z
      · rw [iS_neg _ h0] at hx
        rcases List.mem_cons.mp hx with z | z
        · cases z
        · exact b z
theorem cW_sh {cs : List Int} (h : ∀ c ∈ cs, c.natAbs < 10 ^ 19) (hn : cs.length ≤ 13) : Sh 300 (cW cs) := by
  refine sh_sum (fun w hw c hc => ?_) ?_
  · obtain ⟨x, hx, rfl⟩ := List.mem_map.mp hw
    exact (iS_sh (h x hx)).1.asc c hc
  · rw [List.length_map, List.map_map]
    have := sum_le (l := cs) (f := (fun w : Str => w.length) ∘ iS) (k := 20) fun x hx => (iS_sh (h x hx)).1.len
    omega
theorem cW_split {cs : List Int} (h : ∀ c ∈ cs, c.natAbs < 10 ^ 19) (hne : cs ≠ []) : Txt.split (cW cs) " " = cs.map iS := split_join (y := " ") (s := 32) (S := []) tS (by decide +kernel) (by simpa using hne) fun p hp => by
  obtain ⟨x, hx, rfl⟩ := List.mem_map.mp hp
  exact (iS_sh (h x hx)).2
theorem nb19 : 10 ^ 19 ≤ NB := Nat.pow_le_pow_right (by decide) (by decide)
end K77
namespace K77
open PySem PySem.Spec PyProof.Rows L2 Pv TL
/-! entries of logs -/
theorem cut_init {α : Type} (xs : List α) : Pv.cutD xs none (some (-1)) = xs.dropLast := by
  unfold Pv.cutD HT.sIx
  simp only []
  rw [if_pos (by decide), List.drop_zero, List.dropLast_eq_take, List.take_eq_take_iff]
  omega
theorem cut_last {α : Type} (xs : List α) : Pv.cutD xs (some (-1)) none = xs.drop (xs.length - 1) := by
  unfold Pv.cutD HT.sIx
  simp only []
  rw [if_pos (by decide)]
  have : (-1 + (xs.length : Int)).toNat = xs.length - 1 := by omega
  rw [this]
  exact List.take_of_length_le (by rw [List.length_drop]; exact Nat.le_refl _)
def ent : Option Nat → Int → D
  | some j, s => .tup [.int j, .int s]
  | none, _ => .non
def entL (l : List Nat) : D := match l.getLast? with
  | some 43 => ent (wholeL l.dropLast) 1
  | some 45 => ent (wholeL l.dropLast) (-1)
  | _ => .non
def entR (w : Str) : D := entL (tl w)
/-- one sign, none -/
theorem last_cases (w : Str) : (tl w = [] ∧ cutS w (some (-1)) none = "") ∨ ∃ i c, tl w = i ++ [c] ∧ cutS w (some (-1)) none = ⟨#[c]⟩ ∧ tl (cutS w none (some (-1))) = i := by
  rcases List.eq_nil_or_concat (tl w) with e | ⟨i, c, e⟩
  · exact .inl ⟨e, ext_tl (by rw [cutS_tl, cut_last, e]; rfl)⟩
  · refine .inr ⟨i, c, by rw [e, List.concat_eq_append], ext_tl ?_, ?_⟩
    · rw [cutS_tl, cut_last, e, List.concat_eq_append, List.length_append, List.length_singleton, Nat.add_sub_cancel, List.drop_left]
    · rw [cutS_tl, cut_init, e, List.concat_eq_append, List.dropLast_concat]
theorem one_plus (c : Nat) : ((⟨#[c]⟩ : Str) = "+") ↔ c = 43 := by
  have : tl ("+" : Str) = [43] := by decide +kernel
  rw [str_prop, this]
  show [c] = [43] ↔ _
  simp
theorem step_in_ok {x : Str} {S : Sto} : m_step_in [.str x] S = .val (if x = "+" then .int 1 else if x = "-" then .int (-1) else .non) S := by
  have e0 : startD 1 [.str x] = [some (.str x)] := rfl
  unfold m_step_in
  rw [s_def, e0]
  by_cases h1 : x = "+"
  · simp only [s_sRet, s_eIf, s_bT, s_eBin, s_eVar, s_eC, List.getElem?_cons_zero, R.bind_val, s_eqS, decide_eq_true h1, s_ofB, if_true, ite_true, s_then_val, s_endR, if_pos h1]
  · by_cases h2 : x = "-"
    · simp only [s_sRet, s_eIf, s_bT, s_eBin, s_eVar, s_eC, List.getElem?_cons_zero, R.bind_val, s_eqS, decide_eq_false h1, decide_eq_true h2, s_ofB, Bool.false_eq_true, if_false, ite_false, if_true, ite_true, s_negM, s_then_val, s_endR, if_neg h1, if_pos h2]
    · simp only [s_sRet, s_eIf, s_bT, s_eBin, s_eVar, s_eC, List.getElem?_cons_zero, R.bind_val, s_eqS, decide_eq_false h1, decide_eq_false h2, s_ofB, Bool.false_eq_true, if_false, ite_false, s_then_val, s_endR, if_neg h1, if_neg h2]
theorem entry_in_ok {w : Str} {S : Sto} (hl : w.length ≤ 640) : m_entry_in [.str w] S = .val (entR w) S := by
  have hz : w.length ≤ sizeLine := Nat.le_trans hl (by decide)
  have z2 : decide (2 ≤ sizeLine) = true := by decide
  have e0 : startD 3 [.str w] = [some (.str w), none, none] := rfl
  have s1 : ∀ S, sliceD (.str w) none (some (-1)) S = .val (.str (cutS w none (some (-1)))) S := fun S => by rw [s_slS, s_dec hz]
  have s2 : ∀ S, sliceD (.str w) (some (-1)) none S = .val (.str (cutS w (some (-1)) none)) S := fun S => by rw [s_slS, s_dec hz]
  have w1 : ∀ S, m_whole_in [.str (cutS w none (some (-1)))] S = .val (wNum (wholeL (tl (cutS w none (some (-1)))))) S := fun S => whole_ok (Nat.le_trans (cutS_length w _ _) hl)
  have run : m_entry_in [.str w] S = endS ((sRet (eIf (bAnd (bT (eBin notND (eVar 1) (eC .non))) (bT (eBin notND (eVar 2) (eC .non)))) (eN tupN (aCons (eVar 1) (aCons (eVar 2) aNil))) (eC .non))) [some (.str w), some (wNum (wholeL (tl (cutS w none (some (-1)))))), some (if cutS w (some (-1)) none = "+" then .int 1 else if cutS w (some (-1)) none = "-" then .int (-1) else .non)] S) := by
    unfold m_entry_in
    rw [s_def, e0]
    simp only [s_sSeq, s_sPar, s_aCons, s_aNil, s_eN, s_eSl, s_eVar, s_eC, s_negM, s_oNone, s_oSome, List.getElem?_cons_zero, List.getElem?_cons_succ, R.bind_val, s1, s2, s_callN, List.length_cons, List.length_nil, Nat.reduceAdd, decide_true, s_true, w1, step_in_ok, s_then_val, List.set_cons_succ, List.set_cons_zero, seq_nx]
  rw [run]
  unfold entR
  rcases last_cases w with ⟨h1, h2⟩ | ⟨i, c, h1, h2, h3⟩
  · have n1 : ¬ (("" : Str) = "+") := by decide
    have n2 : ¬ (("" : Str) = "-") := by decide
    rw [h1, h2, if_neg n1, if_neg n2]
    simp only [s_sRet, s_eIf, s_bAnd, s_bT, s_eBin, s_eVar, s_eC, List.getElem?_cons_zero, List.getElem?_cons_succ, R.bind_val, s_notN, s_ofB, s_non, Bool.not_true, Bool.false_eq_true, if_false, ite_false, s_then_val, s_endR]
    cases wNum (wholeL (tl (cutS w none (some (-1))))) <;> rfl
  · rw [h2, h3, h1]
    have el : entL (i ++ [c]) = (if c = 43 then ent (wholeL i) 1 else if c = 45 then ent (wholeL i) (-1) else .non) := by
      unfold entL
      rw [List.getLast?_concat, List.dropLast_concat]
      by_cases k1 : c = 43
      · subst k1
        rfl
      · by_cases k2 : c = 45
        · subst k2
          rfl
        · rw [if_neg k1, if_neg k2]
          split
          · rename_i e
            exact absurd (Option.some.inj e) k1
          · rename_i e
            exact absurd (Option.some.inj e) k2
          · rfl
    rw [el]
    have es : (if (⟨#[c]⟩ : Str) = "+" then D.int 1 else if (⟨#[c]⟩ : Str) = "-" then .int (-1) else .non) = (if c = 43 then D.int 1 else if c = 45 then .int (-1) else .non) := by
      by_cases k1 : c = 43
      · rw [if_pos ((one_plus c).mpr k1), if_pos k1]
      · rw [if_neg (fun z => k1 ((one_plus c).mp z)), if_neg k1]
        by_cases k2 : c = 45
        · rw [if_pos ((one_dash c).mpr k2), if_pos k2]
        · rw [if_neg (fun z => k2 ((one_dash c).mp z)), if_neg k2]
    rw [es]
    cases hw : wholeL i with
    | none =>
      by_cases k1 : c = 43
      · rw [if_pos k1, if_pos k1]
        rfl
      · by_cases k2 : c = 45
        · rw [if_neg k1, if_neg k1, if_pos k2, if_pos k2]
          rfl
        · rw [if_neg k1, if_neg k1, if_neg k2, if_neg k2]
          rfl
    | some n =>
      by_cases k1 : c = 43
      · rw [if_pos k1, if_pos k1]
        simp only [wNum, ent, s_sRet, s_eIf, s_bAnd, s_bT, s_eBin, s_eVar, s_eC, s_eN, s_aCons, s_aNil, List.getElem?_cons_zero, List.getElem?_cons_succ, R.bind_val, s_notN, s_ofB, s_nonI, Bool.not_false, if_true, ite_true, s_tupN, List.length_cons, List.length_nil, Nat.reduceAdd, z2, s_true, s_then_val, s_endR]
      · by_cases k2 : c = 45
        · rw [if_neg k1, if_neg k1, if_pos k2, if_pos k2]
          simp only [wNum, ent, s_sRet, s_eIf, s_bAnd, s_bT, s_eBin, s_eVar, s_eC, s_eN, s_aCons, s_aNil, List.getElem?_cons_zero, List.getElem?_cons_succ, R.bind_val, s_notN, s_ofB, s_nonI, Bool.not_false, if_true, ite_true, s_tupN, List.length_cons, List.length_nil, Nat.reduceAdd, z2, s_true, s_then_val, s_endR]
        · rw [if_neg k1, if_neg k1, if_neg k2, if_neg k2]
          simp only [wNum, s_sRet, s_eIf, s_bAnd, s_bT, s_eBin, s_eVar, s_eC, List.getElem?_cons_zero, List.getElem?_cons_succ, R.bind_val, s_notN, s_ofB, s_nonI, s_non, Bool.not_false, Bool.not_true, if_true, ite_true, Bool.false_eq_true, if_false, ite_false, s_then_val, s_endR]
end K77
namespace K77
open PySem PySem.Spec PyProof.Rows L2 Pv TL
theorem ent_cases (o : Option Nat) (s : Int) : ent o s = .non ∨ ∃ j : Nat, o = some j ∧ ent o s = .tup [.int j, .int s] := by
  cases o with
  | none => exact .inl rfl
  | some j => exact .inr ⟨j, rfl, rfl⟩
theorem entL_cases (l : List Nat) : entL l = .non ∨ ∃ (j : Nat) (b : Bool), l = l.dropLast ++ [if b then 43 else 45] ∧ wholeL l.dropLast = some j ∧ entL l = .tup [.int j, .int (if b then 1 else -1)] := by
  rcases List.eq_nil_or_concat l with e | ⟨i, c, e⟩
  · exact .inl (by rw [e]; rfl)
  · rw [List.concat_eq_append] at e
    rw [e]
    have h1 : (i ++ [c]).dropLast = i := List.dropLast_concat
    have h2 : (i ++ [c]).getLast? = some c := List.getLast?_concat
    unfold entL
    rw [h1, h2]
    by_cases k1 : c = 43
    · subst k1
      rcases ent_cases (wholeL i) 1 with z | ⟨j, z1, z2⟩
      · exact .inl z
      · exact .inr ⟨j, true, rfl, z1, z2⟩
    · by_cases k2 : c = 45
      · subst k2
        rcases ent_cases (wholeL i) (-1) with z | ⟨j, z1, z2⟩
        · exact .inl z
        · exact .inr ⟨j, false, rfl, z1, z2⟩
      · left
        split
        · rename_i e
          exact absurd (Option.some.inj e) k1
        · rename_i e
          exact absurd (Option.some.inj e) k2
        · rfl
/-- an entry on a line of n sections -/
def entO (n : Nat) (w : Str) : D := match entR w with
  | .tup [.int j, s] => if j ≤ (n : Int) then .tup [.int j, s] else .non
  | _ => .non
theorem entry_on_ok {ls : List D} {w : Str} {S : Sto} (hl : w.length ≤ 640) : m_entry_on [.tup ls, .str w] S = .val (entO ls.length w) S := by
  have e0 : startD 3 [.tup ls, .str w] = [some (.tup ls), some (.str w), none] := rfl
  have e1 := entry_in_ok (S := S) hl
  unfold m_entry_on entO
  rw [s_def, e0]
  rcases entL_cases (tl w) with h | ⟨j, b, _, _, h⟩
  · have h' : entR w = .non := h
    rw [h'] at e1 ⊢
    simp only [s_sSeq, s_sSet, s_eN, s_aCons, s_aNil, s_eVar, s_eC, List.getElem?_cons_zero, List.getElem?_cons_succ, R.bind_val, s_callN, List.length_cons, List.length_nil, Nat.reduceAdd, decide_true, s_true, e1, s_then_val, List.set_cons_succ, List.set_cons_zero, seq_nx, s_sRet, s_eIf, s_bAnd, s_bT, s_eBin, s_notN, s_non, Bool.not_true, s_ofB, Bool.false_eq_true, if_false, ite_false, s_endR]
  · have h' : entR w = .tup [.int j, .int (if b then 1 else -1)] := h
    rw [h'] at e1 ⊢
    dsimp only
    by_cases hj : (j : Int) ≤ (ls.length : Int)
    · rw [if_pos hj]
      simp only [s_sSeq, s_sSet, s_eN, s_aCons, s_aNil, s_eVar, s_eC, List.getElem?_cons_zero, List.getElem?_cons_succ, R.bind_val, s_callN, List.length_cons, List.length_nil, Nat.reduceAdd, decide_true, s_true, e1, s_then_val, List.set_cons_succ, List.set_cons_zero, seq_nx, s_sRet, s_eIf, s_bAnd, s_bT, s_eBin, s_notN, s_nonT, Bool.not_false, s_ofB, if_true, ite_true, s_ixT, s_at0, s_lenT, s_cmp, decide_eq_true hj, s_endR]
    · rw [if_neg hj]
      simp only [s_sSeq, s_sSet, s_eN, s_aCons, s_aNil, s_eVar, s_eC, List.getElem?_cons_zero, List.getElem?_cons_succ, R.bind_val, s_callN, List.length_cons, List.length_nil, Nat.reduceAdd, decide_true, s_true, e1, s_then_val, List.set_cons_succ, List.set_cons_zero, seq_nx, s_sRet, s_eIf, s_bAnd, s_bT, s_eBin, s_notN, s_nonT, Bool.not_false, s_ofB, if_true, ite_true, s_ixT, s_at0, s_lenT, s_cmp, decide_eq_false hj, Bool.false_eq_true, if_false, ite_false, s_endR]
theorem call_log {ls : List D} {w : Str} {Γ : Env'} {S : Sto} (hl : w.length ≤ 640) (h2 : Γ[2]? = some (some (.clo "log_in" [.tup ls]))) (h5 : Γ[5]? = some (some (.str w))) : eCallU 2 tab_read_words_read tabC_read_words_read (aCons (eVar 5) aNil) Γ S = .val (entO ls.length w) S := by
  have ht : tabC_read_words_read "log_in" = some (1, fun ds S => ml_log_in (startD 2 ds) S) := if_pos rfl
  have e0 : startD 2 ([D.str w] ++ [D.tup ls]) = [some (.str w), some (.tup ls)] := rfl
  unfold eCallU
  rw [h2]
  dsimp only
  rw [ht]
  dsimp only
  rw [s_aCons, s_eVar, h5]
  dsimp only
  rw [R.bind_val, s_aNil, R.bind_val, R.bind_val, s_dec (show [D.str w].length = 1 from rfl), e0]
  simp only [ml_log_in, s_eN, s_aCons, s_aNil, s_eVar, List.getElem?_cons_zero, List.getElem?_cons_succ, R.bind_val, s_callN, List.length_cons, List.length_nil, Nat.reduceAdd, decide_true, s_true, entry_on_ok hl]
/-! the law's entry -/
end K77
namespace K77
open PySem PySem.Spec PyProof.Rows L2 Pv TL
theorem entO_cases (n : Nat) (w : Str) : entO n w = .non ∨ ∃ (j : Nat) (b : Bool), j ≤ n ∧ tl w = (tl w).dropLast ++ [if b then 43 else 45] ∧ wholeL (tl w).dropLast = some j ∧ entO n w = .tup [.int j, .int (if b then 1 else -1)] := by
  unfold entO
  rcases entL_cases (tl w) with h | ⟨j, b, h1, h2, h⟩
  · have h' : entR w = .non := h
    rw [h']
    exact .inl rfl
  · have h' : entR w = .tup [.int j, .int (if b then 1 else -1)] := h
    rw [h']
    dsimp only
    by_cases hj : (j : Int) ≤ (n : Int)
    · rw [if_pos hj]
      exact .inr ⟨j, b, by omega, h1, h2, rfl⟩
    · rw [if_neg hj]
      exact .inl rfl
theorem noExcs_entO (n : Nat) : ∀ ws : List Str, noExcs (ws.map (entO n)) = true
  | [] => rfl
  | w :: ws => by
    have ih := noExcs_entO n ws
    rw [List.map_cons]
    unfold noExcs
    rw [ih]
    rcases entO_cases n w with h | ⟨j, b, _, _, _, h⟩
    · rw [h]
      rfl
    · rw [h]
      rfl
def rlS (n : Nat) (t : Str) : Sum Nat (List D) := if t = "" then .inr [] else rdG (entO n) 100 0 (Txt.split t " ") []
theorem log_in_ok {ls : List D} {t : Str} {S : Sto} (hS : S.all noExcC = true) (h : Tx t) : m_log_in [.tup ls, .str t] S = .val (match rlS ls.length t with | .inl j => .tup [.tup [], .int j] | .inr g => .tup [.tup g, .non]) S := by
  have z0 : decide (0 ≤ sizeLine) = true := by decide
  have e0 : startD 3 [.tup ls, .str t] = [some (.tup ls), some (.str t), none] := rfl
  have run : ∀ ws : List Str, (∀ w ∈ ws, w.length ≤ 640) → ws.length ≤ sizeLine → eCallL 3 m_read_words "log_in" [0] (aCons (eVar 2) (aCons (eC (.int 100)) aNil)) [some (.tup ls), some (.str t), some (.lst (ws.map .str))] S = .val (match rdG (entO ls.length) 100 0 ws [] with | .inl j => .tup [.tup [], .int j] | .inr g => .tup [.tup g, .non]) S := fun ws hw hz => by
    have rw1 := read_words_ok (S := S) (rf := .clo "log_in" [.tup ls]) (rdr := entO ls.length) (most := 100) (ws := ws) (fun w hm Γ h2 h5 => call_log (hw w hm) h2 h5) hz
    have rw2 : m_read_words ([.lst (ws.map .str), .int 100] ++ [.clo "log_in" [.tup ls]]) S = .val (match rdG (entO ls.length) 100 0 ws [] with | .inl j => .tup [.tup [], .int j] | .inr g => .tup [.tup g, .non]) S := rw1
    have hs : slotsD [some (.tup ls), some (.str t), some (.lst (ws.map .str))] [0] = some [.tup ls] := rfl
    have ha : aCons (eVar 2) (aCons (eC (.int 100)) aNil) [some (.tup ls), some (.str t), some (.lst (ws.map .str))] S = .val [.lst (ws.map .str), .int 100] S := rfl
    unfold eCallL
    rw [hs]
    dsimp only
    rw [ha, R.bind_val, s_dec (show [D.lst (ws.map .str), .int 100].length + 1 = 3 from rfl), rw2]
    unfold sealR
    dsimp only
    refine s_if ?_ _
    rw [hS, Bool.and_true]
    cases hr : rdG (entO ls.length) 100 0 ws [] with
    | inl j => rfl
    | inr g =>
      obtain ⟨eg, _, _⟩ := rdG_inr hr
      rw [List.nil_append] at eg
      rw [eg]
      have := noExcs_entO ls.length ws
      show noExcs [.tup (ws.map (entO ls.length)), .non] = true
      unfold noExcs
      show (noExcs (ws.map (entO ls.length)) && noExcs [.non]) = true
      rw [this]
      rfl
  unfold m_log_in rlS
  rw [s_def, e0, s_sSeq, s_sSet]
  by_cases ht : t = ""
  · rw [if_pos ht]
    have r0 := run [] (fun w hw => by cases hw) (Nat.zero_le _)
    have first : eIf (bT (eBin neD (eVar 1) (eC (.str "")))) (eLst (fSplit (eVar 1) (eC (.str " ")))) (eN lstN aNil) [some (.tup ls), some (.str t), none] S = .val (.lst []) S := by
      simp only [s_eIf, s_bT, s_eBin, s_eVar, s_eC, List.getElem?_cons_zero, List.getElem?_cons_succ, R.bind_val, s_neS, decide_eq_true ht, Bool.not_true, s_ofB, Bool.false_eq_true, if_false, ite_false, s_eN, s_aNil, s_lstN, List.length_nil, z0, s_true]
    rw [first, s_then_val, seq_nx]
    simp only [List.set_cons_succ, List.set_cons_zero]
    rw [s_sRet]
    have r0' : eCallL 3 m_read_words "log_in" [0] (aCons (eVar 2) (aCons (eC (.int 100)) aNil)) [some (.tup ls), some (.str t), some (.lst [])] S = .val (.tup [.tup [], .non]) S := r0
    rw [r0']
    rfl
  · rw [if_neg ht]
    have r1 := run (Txt.split t " ") (fun w hw => h.wd6 w hw) h.many
    have sp := split_ok (i := 1) (Γ := [some (.tup ls), some (.str t), none]) (S := S) h rfl
    have first : eIf (bT (eBin neD (eVar 1) (eC (.str "")))) (eLst (fSplit (eVar 1) (eC (.str " ")))) (eN lstN aNil) [some (.tup ls), some (.str t), none] S = .val (.lst ((Txt.split t " ").map .str)) S := by
      rw [s_eIf, s_bT, s_eBin]
      simp only [s_eVar, s_eC, List.getElem?_cons_zero, List.getElem?_cons_succ, R.bind_val, s_neS, decide_eq_false ht, Bool.not_false, s_ofB, if_true, ite_true]
      exact sp
    rw [first, s_then_val, seq_nx]
    simp only [List.set_cons_succ, List.set_cons_zero]
    rw [s_sRet, r1]
    rfl
theorem read_log_ok {ss : List Sec} {t : Str} {S : Sto} (hS : S.all noExcC = true) (hl : Ln ss) (h : Tx t) : m_read_log [.tup (ss.map sD), .str t] S = (match rlS ss.length t with | .inl j => .exn ⟨"InvalidText", [("index", .int j)]⟩ S | .inr g => .val (.tup g) S) := by
  have e0 : startD 4 [.tup (ss.map sD), .str t] = [some (.tup (ss.map sD)), some (.str t), none, none] := rfl
  have ci := log_in_ok (ls := ss.map sD) hS h
  rw [List.length_map] at ci
  have ck := check_ok (S := S) hl
  have ct := check_text_ok (t := t) (S := S)
  unfold m_read_log
  rw [s_def, e0]
  simp only [s_sSeq, s_sDrop, s_eN, s_aCons, s_aNil, s_eVar, List.getElem?_cons_zero, List.getElem?_cons_succ, R.bind_val, s_callN, List.length_cons, List.length_nil, Nat.reduceAdd, decide_true, s_true, ck, ct, s_then_val, seq_nx, s_sAsg, ci]
  cases rlS ss.length t with
  | inl j => simp only [s_gSeqT, s_gCons, s_gSet, s_gNil, List.length_cons, List.length_nil, Nat.reduceAdd, decide_true, s_true, R.bind_val, List.set_cons_succ, List.set_cons_zero, seq_nx, s_sSeq, s_sDrop, s_eN, s_aCons, s_aNil, s_eVar, List.getElem?_cons_zero, List.getElem?_cons_succ, s_callN, check_read_int, s_then_exn, seq_xn, s_endX, R.bind_exn]
  | inr g => simp only [s_gSeqT, s_gCons, s_gSet, s_gNil, List.length_cons, List.length_nil, Nat.reduceAdd, decide_true, s_true, R.bind_val, List.set_cons_succ, List.set_cons_zero, seq_nx, s_sSeq, s_sDrop, s_eN, s_aCons, s_aNil, s_eVar, List.getElem?_cons_zero, List.getElem?_cons_succ, s_callN, check_read_non, s_then_val, s_sRet, s_eVar, s_endR]
theorem read_log_odd {ss : List Sec} {d : D} {S : Sto} (hl : Ln ss) (h : pl d = true) (hn : isStr d = false) : m_read_log [.tup (ss.map sD), d] S = .exn ⟨"InvalidText", [("index", .non)]⟩ S := by
  have e0 : startD 4 [.tup (ss.map sD), d] = [some (.tup (ss.map sD)), some d, none, none] := rfl
  have ck := check_ok (S := S) hl
  have ct := check_text_odd (S := S) h hn
  unfold m_read_log
  rw [s_def, e0]
  simp only [s_sSeq, s_sDrop, s_eN, s_aCons, s_aNil, s_eVar, List.getElem?_cons_zero, List.getElem?_cons_succ, R.bind_val, s_callN, List.length_cons, List.length_nil, Nat.reduceAdd, decide_true, s_true, ck, ct, s_then_val, s_then_exn, seq_nx, seq_xn, s_endX]
/-! the law's reading of logs -/
end K77
namespace K77
open PySem PySem.Spec PyProof.Rows L2 Pv TL
theorem py_ints : ∀ cs : List Int, (∀ c ∈ cs, c.natAbs < NB) → pyAll (cs.map D.int) = some (cs.map PyData.int) ∧ PyData.showableAll (cs.map PyData.int) = true ∧ PyData.hasDictAll (cs.map PyData.int) = false ∧ PyData.depthAll (cs.map PyData.int) = 0 ∧ PyData.leavesShortAll 400 (cs.map PyData.int) = true ∧ PyData.bulkAll (cs.map PyData.int) ≤ 10 * cs.length
  | [], _ => ⟨rfl, by simp [PyData.showableAll], by simp [PyData.hasDictAll], by simp [PyData.depthAll], by simp [PyData.leavesShortAll], by simp [PyData.bulkAll]⟩
  | c :: cs, h => by
    obtain ⟨h1, h2, h3, h4, h5, h6⟩ := py_ints cs fun x hx => h x (List.mem_cons_of_mem _ hx)
    have hc := h c List.mem_cons_self
    have s1 : PyData.showable (.int c) = true := by
      simp only [PyData.showable]
      have := log_ok hc
      rw [Int.natAbs_natCast] at this
      exact decide_eq_true this
    have s2 : PyData.leavesShort 400 (.int c) = true := by
      simp only [PyData.leavesShort]
      exact decide_eq_true (Nat.le_trans (iS_len hc) (by decide))
    refine ⟨?_, by simp [PyData.showableAll, h2, s1], by simp [PyData.hasDictAll, PyData.hasDict, h3], by simp [PyData.depthAll, PyData.depth, h4], by simp [PyData.leavesShortAll, h5, s2], by simp [PyData.bulkAll, PyData.bulk]; omega⟩
    show (match D.py (.int c), pyAll (cs.map D.int) with | some x, some xs => some (x :: xs) | _, _ => none) = _
    rw [h1]
    rfl
theorem repr_counts {cs : List Int} (h : ∀ c ∈ cs, c.natAbs < NB) (hn : cs.length ≤ 1000) : ∃ z, ∀ S, reprN [.lst [.tup (cs.map D.int), .tup (cs.map D.int)]] S = .val (.str z) S := by
  obtain ⟨h1, h2, h3, h4, h5, h6⟩ := py_ints cs h
  have e1 : D.py (.tup (cs.map D.int)) = some (.tuple (cs.map PyData.int)) := by
    show (pyAll (cs.map D.int)).map PyData.tuple = _
    rw [h1]
    rfl
  have e : D.py (.lst [.tup (cs.map D.int), .tup (cs.map D.int)]) = some (.list [.tuple (cs.map PyData.int), .tuple (cs.map PyData.int)]) := by
    show (pyAll [.tup (cs.map D.int), .tup (cs.map D.int)]).map PyData.list = _
    simp [pyAll, e1]
  have hb := PyData.shown_le_bulk 400 (by decide) (.list [.tuple (cs.map PyData.int), .tuple (cs.map PyData.int)]) (by simp [PyData.leavesShort, PyData.leavesShortAll, h5])
  refine ⟨_, fun S => repr_some e (by simp [PyData.showable, PyData.showableAll, h2]) (by simp [PyData.hasDict, PyData.hasDictAll, h3]) (by simp [PyData.depth, PyData.depthAll, h4]) (Nat.le_trans hb ?_)⟩
  simp [PyData.bulk, PyData.bulkAll]
  rw [sizeLine_eq]
  omega

abbrev En := Nat × Bool
def stepI (b : Bool) : Int := if b then 1 else -1
def eD (e : En) : D := .tup [.int e.1, .int (stepI e.2)]
def sgS (b : Bool) : Str := if b then "+" else "-"
def eW (e : En) : Str := nS e.1 ++ sgS e.2
def lW (es : List En) : Str := Txt.join " " (es.map eW)
theorem sg_tl (b : Bool) : tl (sgS b) = [if b then 43 else 45] := by cases b <;> decide +kernel
theorem entO_back {n : Nat} {w : Str} (hl : w.length ≤ 330) (h : (entO n w).isNon = false) : ∃ e : En, entO n w = eD e ∧ e.1 ≤ n ∧ e.1 < NB ∧ eW e = w := by
  rcases entO_cases n w with z | ⟨j, b, h1, h2, h3, z⟩
  · rw [z] at h
    cases h
  · refine ⟨(j, b), z, h1, ?_, ext_tl ?_⟩
    · refine whole_small h3 ?_
      rw [len_tl] at hl
      rw [List.length_dropLast]
      omega
    · show tl (nS j ++ sgS b) = tl w
      rw [tl_append, nS_back h3, sg_tl, ← h2]
theorem ents_back {n : Nat} : ∀ {ws : List Str}, (∀ w ∈ ws, w.length ≤ 330) → (∀ w ∈ ws, (entO n w).isNon = false) → ∃ es : List En, ws.map (entO n) = es.map eD ∧ es.map eW = ws ∧ ∀ e ∈ es, e.1 ≤ n ∧ e.1 < NB
  | [], _, _ => ⟨[], rfl, rfl, fun c h => by cases h⟩
  | w :: ws, h1, h2 => by
    obtain ⟨e, b0, b1, b2, b3⟩ := entO_back (h1 w List.mem_cons_self) (h2 w List.mem_cons_self)
    obtain ⟨es, f1, f2, f3⟩ := ents_back (fun x hx => h1 x (List.mem_cons_of_mem _ hx)) fun x hx => h2 x (List.mem_cons_of_mem _ hx)
    refine ⟨e :: es, by rw [List.map_cons, List.map_cons, b0, f1], by rw [List.map_cons, b3, f2], fun c hc => ?_⟩
    rcases List.mem_cons.mp hc with z | z
    · rw [z]
      exact ⟨b1, b2⟩
    · exact f3 c z
theorem log_back {n : Nat} {t : Str} {g : List D} (h : Tx t) (hr : rlS n t = .inr g) : ∃ es : List En, g = es.map eD ∧ lW es = t ∧ (∀ e ∈ es, e.1 ≤ n ∧ e.1 < NB) ∧ es.length ≤ 100 := by
  unfold rlS at hr
  by_cases ht : t = ""
  · rw [if_pos ht] at hr
    cases hr
    exact ⟨[], rfl, ht.symm ▸ rfl, (fun e he => by cases he), Nat.zero_le _⟩
  · rw [if_neg ht] at hr
    obtain ⟨e1, e2, e3⟩ := rdG_inr hr
    rw [List.nil_append] at e1
    obtain ⟨es, f1, f2, f3⟩ := ents_back h.wd e2
    have hlen : es.length = (Txt.split t " ").length := by rw [← f2, List.length_map]
    have h3 := e3 (by decide)
    refine ⟨es, by rw [e1, f1], ?_, f3, by omega⟩
    unfold lW
    rw [f2, join_eq]
    exact PySem.StrLaws.join_split t " "
/-! right logs -/
theorem in_steps {b : Bool} {S : Sto} : inD false (.int (stepI b)) (.tup [.int 1, .int (-1)]) S = .val (.bl true) S := by cases b <;> rfl
theorem is_between_ok {i lo hi : Int} {S : Sto} (h1 : lo ≤ i) (h2 : i ≤ hi) : m_is_between [.int i, .int lo, .int hi] S = .val (.bl true) S := by
  have e0 : startD 3 [.int i, .int lo, .int hi] = [some (.int i), some (.int lo), some (.int hi)] := rfl
  unfold m_is_between
  rw [s_def, e0]
  simp only [s_sRet, s_eAnd, s_eN, s_aCons, s_aNil, s_eVar, List.getElem?_cons_zero, List.getElem?_cons_succ, R.bind_val, s_callN, List.length_cons, List.length_nil, Nat.reduceAdd, decide_true, s_true, is_whole_ok (show pl (.int i) = true from rfl), isInt, s_ofB, if_true, ite_true, s_chain, s_cmp, decide_eq_true h1, decide_eq_true h2, s_then_val, s_endR]
theorem is_up_ok {i hi : Int} {S : Sto} (h1 : 0 ≤ i) (h2 : i ≤ hi) : m_is_up_to [.int i, .int hi] S = .val (.bl true) S := by
  have e0 : startD 2 [.int i, .int hi] = [some (.int i), some (.int hi)] := rfl
  unfold m_is_up_to
  rw [s_def, e0]
  simp only [s_sRet, s_eN, s_aCons, s_aNil, s_eVar, s_eC, List.getElem?_cons_zero, List.getElem?_cons_succ, R.bind_val, s_callN, List.length_cons, List.length_nil, Nat.reduceAdd, decide_true, s_true, is_between_ok h1 h2, s_then_val, s_endR]
theorem is_entry_ok {ls : List D} {e : En} {S : Sto} (h : e.1 ≤ ls.length) : m_is_entry_of [.tup ls, eD e] S = .val (.bl true) S := by
  have z2 : decide (2 ≤ sizeLine) = true := by decide
  have e0 : startD 2 [.tup ls, eD e] = [some (.tup ls), some (eD e)] := rfl
  have p := is_pair_ok (d := eD e) (S := S) rfl
  have p' : m_is_pair [eD e] S = .val (.bl true) S := p
  have u := is_up_ok (i := (e.1 : Int)) (hi := (ls.length : Int)) (S := S) (by omega) (by omega)
  have jo : m_is_joint_of [.tup ls, .int (e.1 : Int)] S = .val (.bl true) S := by
    have e1 : startD 2 [.tup ls, .int (e.1 : Int)] = [some (.tup ls), some (.int (e.1 : Int))] := rfl
    unfold m_is_joint_of
    rw [s_def, e1]
    simp only [s_sRet, s_eN, s_aCons, s_aNil, s_eVar, List.getElem?_cons_zero, List.getElem?_cons_succ, R.bind_val, s_lenT, s_callN, List.length_cons, List.length_nil, Nat.reduceAdd, decide_true, s_true, u, s_then_val, s_endR]
  have x0 : ∀ S, ixD (eD e) (.int 0) S = .val (.int (e.1 : Int)) S := fun S => rfl
  have x1 : ∀ S, ixD (eD e) (.int 1) S = .val (.int (stepI e.2)) S := fun S => rfl
  unfold m_is_entry_of
  rw [s_def, e0]
  simp only [s_sSeq, s_sIf, s_bOr, s_bNot, s_bT, s_eN, s_aCons, s_aNil, s_eVar, s_eC, s_eBin, List.getElem?_cons_zero, List.getElem?_cons_succ, R.bind_val, s_callN, List.length_cons, List.length_nil, Nat.reduceAdd, decide_true, s_true, p', s_ofB, Bool.not_true, Bool.false_eq_true, if_false, ite_false, x0, x1, jo, is_whole_ok (show pl (.int (stepI e.2)) = true from rfl), isInt, s_then_val, s_sNil, seq_nx, s_sRet, s_tupN, z2, in_steps, s_endR]
theorem check_log_ok {ls : List D} {es : List En} {S : Sto} (h : ∀ e ∈ es, e.1 ≤ ls.length) (h2 : es.length ≤ 100) : m_check_log [.tup ls, .tup (es.map eD)] S = .val .non S := by
  have z0 : decide (0 ≤ sizeLine) = true := by decide
  have e0 : startD 4 [.tup ls, .tup (es.map eD)] = [some (.tup ls), some (.tup (es.map eD)), none, none] := rfl
  have t0 := is_tup_ok (d := .tup (es.map eD)) (lo := 0) (hi := 100) (S := S) rfl
  have t1 : m_is_tuple_up_to [.tup (es.map eD), .int 0, .int 100] S = .val (.bl true) S := by
    rw [t0]
    dsimp only
    rw [List.length_map, decide_eq_true (show (0 : Int) ≤ (es.length : Int) by omega), decide_eq_true (show (es.length : Int) ≤ 100 by omega)]
    rfl
  have c := comp_none (Γ := [some (.tup ls), some (.tup (es.map eD)), none, none]) (gm := gSeq 2 (gConsM (gSet 2) (gConsM (gSet 3) gNilM))) (c := bNot (bT (eN (callN 2 m_is_entry_of) (aCons (eVar 0) (aCons (eVar 3) aNil))))) (m := eVar 2) (S := S) (ds := enumGo 0 (es.map eD)) fun d hd => by
    obtain ⟨i, x, rfl, hx⟩ := enum_mem hd
    obtain ⟨e, he, rfl⟩ := List.mem_map.mp hx
    refine ⟨[some (.tup ls), some (.tup (es.map eD)), some (.int i), some (eD e)], rfl, ?_⟩
    simp only [s_bNot, s_bT, s_eN, s_aCons, s_aNil, s_eVar, List.getElem?_cons_zero, List.getElem?_cons_succ, R.bind_val, s_callN, List.length_cons, List.length_nil, Nat.reduceAdd, decide_true, s_true, is_entry_ok (h e he), s_ofB, Bool.not_true]
  have w : m_wrong_in_log [.tup ls, .tup (es.map eD)] S = .val (.lst []) S := by
    unfold m_wrong_in_log
    rw [s_def, e0]
    simp only [s_sSeq, s_sIf, s_bNot, s_bT, s_eN, s_aCons, s_aNil, s_eVar, s_eC, List.getElem?_cons_zero, List.getElem?_cons_succ, R.bind_val, s_callN, List.length_cons, List.length_nil, Nat.reduceAdd, decide_true, s_true, t1, s_ofB, Bool.not_true, s_then_val, Bool.false_eq_true, if_false, ite_false, s_sNil, seq_nx, s_sRet, s_eSl, s_eLst, s_fComp, s_iEnum, s_itemT, s_wipe1, s_wipe0, List.set_cons_succ, List.set_cons_zero, c, z0, s_oNone, s_oSome, s_slL, s_endR]
    rfl
  have e1 : startD 3 [.tup ls, .tup (es.map eD)] = [some (.tup ls), some (.tup (es.map eD)), none] := rfl
  unfold m_check_log
  rw [s_def, e1]
  simp only [s_sFor, s_iIt, s_eN, s_aCons, s_aNil, s_eVar, List.getElem?_cons_zero, List.getElem?_cons_succ, R.bind_val, s_callN, List.length_cons, List.length_nil, Nat.reduceAdd, decide_true, s_true, w, s_itsL, s_then_val, s_for0, s_endN]
/-! the text of a log -/
theorem nb1000 : 1000 ≤ NB := Nat.le_trans (show 1000 ≤ 10 ^ 3 by decide) (Nat.pow_le_pow_right (by decide) (by decide))
theorem js2 {m1 m2 : EM} {x y : Str} {Γ : Env'} {S : Sto} (h1 : m1 Γ S = .val (.str x) S) (h2 : m2 Γ S = .val (.str y) S) (hl : (x ++ y).length ≤ sizeLine) : jsGo [m1, m2] Str.empty Γ S = .val (.str (x ++ y)) S := by
  have e2 := strLen_append x y
  rw [s_jsGo1, h1, R.bind_val]
  dsimp only
  rw [empty_pp, s_dec (by omega), s_jsGo1, h2, R.bind_val]
  dsimp only
  rw [s_dec hl, s_jsGo0]
theorem step_word_ok {b : Bool} {S : Sto} : m_step_word [.int (stepI b)] S = .val (.str (sgS b)) S := by
  have e0 : startD 1 [.int (stepI b)] = [some (.int (stepI b))] := rfl
  unfold m_step_word
  rw [s_def, e0]
  cases b
  · rfl
  · rfl
theorem sg_len (b : Bool) : (sgS b).length = 1 := by rw [len_tl, sg_tl]; rfl
theorem eW_len {e : En} (h : e.1 < NB) : (eW e).length ≤ 331 := by
  unfold eW
  rw [strLen_append, sg_len]
  have := nS_len h
  omega
theorem entry_word_ok {e : En} {S : Sto} (h : e.1 < NB) : m_entry_word [eD e] S = .val (.str (eW e)) S := by
  have e0 : startD 1 [eD e] = [some (eD e)] := rfl
  have m1 : eFmt (eBin ixD (eVar 0) (eC (.int 0))) [some (eD e)] S = .val (.str (nS e.1)) S := fmt_nat rfl h
  have m2 : eFmt (eN (callN 1 m_step_word) (aCons (eBin ixD (eVar 0) (eC (.int 1))) aNil)) [some (eD e)] S = .val (.str (sgS e.2)) S := fmt_str (by
    have x1 : ∀ S, ixD (eD e) (.int 1) S = .val (.int (stepI e.2)) S := fun S => rfl
    simp only [s_eN, s_aCons, s_aNil, s_eBin, s_eVar, s_eC, List.getElem?_cons_zero, R.bind_val, x1, s_callN, List.length_cons, List.length_nil, Nat.reduceAdd, decide_true, s_true, step_word_ok]) (by rw [sg_len]; decide)
  unfold m_entry_word
  rw [s_def, e0, s_sRet, js2 m1 m2 (Nat.le_trans (eW_len h) (by decide))]
  rfl
theorem log_text_ok {ss : List Sec} {es : List En} {S : Sto} (hl : Ln ss) (h : ∀ e ∈ es, e.1 ≤ ss.length) (h2 : es.length ≤ 100) : m_log_text [.tup (ss.map sD), .tup (es.map eD)] S = .val (.str (lW es)) S := by
  have hb : ∀ e ∈ es, e.1 < NB := fun e he => by
    have := h e he
    have := hl.hi
    have := nb1000
    omega
  have ck := check_ok (S := S) hl
  have cc := check_log_ok (S := S) (ls := ss.map sD) (es := es) (fun e he => by rw [List.length_map]; exact h e he) h2
  have e0 : startD 2 [.tup (ss.map sD), .tup (es.map eD)] = [some (.tup (ss.map sD)), some (.tup (es.map eD))] := rfl
  have e1 : startD 2 [.tup (es.map eD)] = [some (.tup (es.map eD)), none] := rfl
  have tx : m_text_of_log [.tup (es.map eD)] S = .val (.str (lW es)) S := by
    have j := join_texts (i := 1) (m := eN (callN 1 m_entry_word) (aCons (eVar 1) aNil)) (Γ := [some (.tup (es.map eD)), none]) (g := eD) (f := eW) (S := S) (l := es) (B := 331) (n := 100) (fun x hx => by
      simp only [s_wipe1, s_wipe0, List.set_cons_succ, List.set_cons_zero, s_eN, s_aCons, s_aNil, s_eVar, List.getElem?_cons_zero, List.getElem?_cons_succ, R.bind_val, s_callN, List.length_cons, List.length_nil, Nat.reduceAdd, decide_true, s_true, entry_word_ok (hb x hx)]) (fun x hx => eW_len (hb x hx)) h2 (by decide) (ml := eVar 0) (.inl rfl)
    unfold m_text_of_log
    rw [s_def, e1, s_sRet, j]
    rfl
  unfold m_log_text
  rw [s_def, e0]
  simp only [s_sSeq, s_sDrop, s_sRet, s_eN, s_aCons, s_aNil, s_eVar, List.getElem?_cons_zero, List.getElem?_cons_succ, R.bind_val, s_callN, List.length_cons, List.length_nil, Nat.reduceAdd, decide_true, s_true, ck, cc, s_then_val, seq_nx, tx, s_endR]
/-! repr of logs -/
def eP (e : En) : PyData := .tuple [.int e.1, .int (stepI e.2)]
theorem py_ents : ∀ es : List En, (∀ e ∈ es, e.1 < NB) → pyAll (es.map eD) = some (es.map eP) ∧ PyData.showableAll (es.map eP) = true ∧ PyData.hasDictAll (es.map eP) = false ∧ PyData.depthAll (es.map eP) ≤ 1 ∧ PyData.leavesShortAll 400 (es.map eP) = true ∧ PyData.bulkAll (es.map eP) ≤ 10 * es.length
  | [], _ => ⟨rfl, by simp [PyData.showableAll], by simp [PyData.hasDictAll], by simp [PyData.depthAll], by simp [PyData.leavesShortAll], by simp [PyData.bulkAll]⟩
  | e :: es, h => by
    obtain ⟨h1, h2, h3, h4, h5, h6⟩ := py_ents es fun x hx => h x (List.mem_cons_of_mem _ hx)
    have hc := h e List.mem_cons_self
    have hs : (stepI e.2).natAbs < NB := by
      have := nb1000
      cases e.2 <;> simp [stepI] <;> omega
    obtain ⟨i1, i2, i3, i4, i5, i6⟩ := py_ints [(e.1 : Int), stepI e.2] (fun c hc' => by
      rcases List.mem_cons.mp hc' with z | z
      · rw [z, Int.natAbs_natCast]
        exact hc
      · rw [List.mem_singleton.mp z]
        exact hs)
    have a1 : pyAll [D.int (e.1 : Int), D.int (stepI e.2)] = some [.int e.1, .int (stepI e.2)] := i1
    have j2 : PyData.showableAll [.int (e.1 : Int), .int (stepI e.2)] = true := i2
    have j3 : PyData.hasDictAll [.int (e.1 : Int), .int (stepI e.2)] = false := i3
    have j4 : PyData.depthAll [.int (e.1 : Int), .int (stepI e.2)] = 0 := i4
    have j5 : PyData.leavesShortAll 400 [.int (e.1 : Int), .int (stepI e.2)] = true := i5
    have ed : D.py (eD e) = some (eP e) := by
      show (pyAll [D.int (e.1 : Int), D.int (stepI e.2)]).map PyData.tuple = _
      rw [a1]
      rfl
    rw [List.map_cons, List.map_cons]
    refine ⟨?_, ?_, ?_, ?_, ?_, ?_⟩
    · show (match D.py (eD e), pyAll (es.map eD) with | some x, some xs => some (x :: xs) | _, _ => none) = _
      rw [ed, h1]
    · simp [PyData.showableAll, PyData.showable, eP, h2] at j2 ⊢
      exact j2
    · simp [PyData.hasDictAll, PyData.hasDict, eP, h3]
    · simp [PyData.depthAll, PyData.depth, eP, j4]
      omega
    · simp [PyData.leavesShortAll, PyData.leavesShort, eP, h5] at j5 ⊢
      exact j5
    · simp [PyData.bulkAll, PyData.bulk, eP]
      omega
theorem repr_log {es : List En} (h : ∀ e ∈ es, e.1 < NB) (hn : es.length ≤ 1000) : ∃ z, ∀ S, reprN [.lst [.tup (es.map eD), .tup (es.map eD)]] S = .val (.str z) S := by
  obtain ⟨h1, h2, h3, h4, h5, h6⟩ := py_ents es h
  have e1 : D.py (.tup (es.map eD)) = some (.tuple (es.map eP)) := by
    show (pyAll (es.map eD)).map PyData.tuple = _
    rw [h1]
    rfl
  have e : D.py (.lst [.tup (es.map eD), .tup (es.map eD)]) = some (.list [.tuple (es.map eP), .tuple (es.map eP)]) := by
    show (pyAll [.tup (es.map eD), .tup (es.map eD)]).map PyData.list = _
    simp [pyAll, e1]
  have hb := PyData.shown_le_bulk 400 (by decide) (.list [.tuple (es.map eP), .tuple (es.map eP)]) (by simp [PyData.leavesShort, PyData.leavesShortAll, h5])
  refine ⟨_, fun S => repr_some e (by simp [PyData.showable, PyData.showableAll, h2]) (by simp [PyData.hasDict, PyData.hasDictAll, h3]) (by simp [PyData.depth, PyData.depthAll]; omega) (Nat.le_trans hb ?_)⟩
  simp [PyData.bulk, PyData.bulkAll]
  rw [sizeLine_eq]
  omega
end K77
namespace K77
open PySem PySem.Spec PyProof.Rows L2 Pv TL
/-! drawn logs -/
theorem Pool.noLst {S0 S : Sto} {n : Nat} (P : Pool S0 n S) (h : S0.all noLstC = true) : S.all noLstC = true := by
  obtain ⟨a, b, c, rfl, _⟩ := P
  rw [List.all_append, h]
  rfl
/-! entries of a line, read again -/
theorem nS13 : ∀ j : Nat, j < 13 → wholeL (tl (nS j)) = some j := by decide +kernel
theorem nS13_sh : ∀ j : Nat, j < 14 → ((tl (nS j)).all (fun c => decide (c < 128) && decide (c ≠ 32)) && decide ((nS j).length ≤ 2)) = true := by decide +kernel
theorem entO_eW {n : Nat} {e : En} (h : e.1 ≤ n) (h12 : n ≤ 12) : entO n (eW e) = eD e := by
  have t : tl (eW e) = tl (nS e.1) ++ [if e.2 then 43 else 45] := by
    show tl (nS e.1 ++ sgS e.2) = _
    rw [tl_append, sg_tl]
  have h1 : (tl (eW e)).dropLast = tl (nS e.1) := by rw [t]; exact List.dropLast_concat
  have h2 : (tl (eW e)).getLast? = some (if e.2 then 43 else 45) := by rw [t]; exact List.getLast?_concat
  have w := nS13 e.1 (by omega)
  have r : entR (eW e) = .tup [.int (e.1 : Int), .int (stepI e.2)] := by
    show entL (tl (eW e)) = _
    unfold entL
    rw [h1, h2, w]
    cases e.2 <;> rfl
  unfold entO
  rw [r]
  dsimp only
  rw [if_pos (by omega)]
  rfl
theorem eW_sh {e : En} (h : e.1 ≤ 12) : Sh 3 (eW e) ∧ 32 ∉ tl (eW e) := by
  have t : tl (eW e) = tl (nS e.1) ++ [if e.2 then 43 else 45] := by
    show tl (nS e.1 ++ sgS e.2) = _
    rw [tl_append, sg_tl]
  have s := nS13_sh e.1 (by omega)
  rw [Bool.and_eq_true] at s
  have s1 := List.all_eq_true.mp s.1
  have s2 := of_decide_eq_true s.2
  refine ⟨⟨?_, fun c hc => ?_⟩, fun hc => ?_⟩
  · show (nS e.1 ++ sgS e.2).length ≤ 3
    rw [strLen_append, sg_len]
    omega
  · rw [t] at hc
    rcases List.mem_append.mp hc with q | q
    · have := s1 c q
      rw [Bool.and_eq_true] at this
      exact of_decide_eq_true this.1
    · rw [List.mem_singleton.mp q]
      cases e.2 <;> decide
  · rw [t] at hc
    rcases List.mem_append.mp hc with q | q
    · have := s1 32 q
      rw [Bool.and_eq_true] at this
      exact absurd rfl (of_decide_eq_true this.2)
    · have := List.mem_singleton.mp q
      revert this
      cases e.2 <;> decide
theorem lW_sh {es : List En} (h : ∀ e ∈ es, e.1 ≤ 12) (hn : es.length ≤ 20) : Sh 300 (lW es) := by
  refine sh_sum (fun w hw c hc => ?_) ?_
  · obtain ⟨x, hx, rfl⟩ := List.mem_map.mp hw
    exact (eW_sh (h x hx)).1.asc c hc
  · rw [List.length_map, List.map_map]
    have := sum_le (l := es) (f := (fun w : Str => w.length) ∘ eW) (k := 3) fun x hx => (eW_sh (h x hx)).1.len
    omega
theorem lW_split {es : List En} (h : ∀ e ∈ es, e.1 ≤ 12) (hne : es ≠ []) : Txt.split (lW es) " " = es.map eW := split_join (y := " ") (s := 32) (S := []) tS (by decide +kernel) (by simpa using hne) fun p hp => by
  obtain ⟨x, hx, rfl⟩ := List.mem_map.mp hp
  exact (eW_sh (h x hx)).2
theorem split_empty : Txt.split ("" : Str) " " = [("" : Str)] := by decide +kernel
theorem lW_many {es : List En} (h : ∀ e ∈ es, e.1 ≤ 12) (hn : es.length ≤ 20) : (Txt.split (lW es) " ").length ≤ 21 := by
  by_cases hne : es = []
  · subst hne
    show (Txt.split ("" : Str) " ").length ≤ 21
    rw [split_empty]
    decide
  · rw [lW_split h hne, List.length_map]
    omega
theorem eD_isNon (e : En) : (eD e).isNon = false := rfl
theorem rlS_lW {n : Nat} {es : List En} (h : ∀ e ∈ es, e.1 ≤ n) (h12 : n ≤ 12) (hn : es.length ≤ 100) : rlS n (lW es) = .inr (es.map eD) := by
  have h' : ∀ e ∈ es, e.1 ≤ 12 := fun e he => Nat.le_trans (h e he) h12
  unfold rlS
  by_cases hne : es = []
  · subst hne
    exact if_pos rfl
  · have sp := lW_split h' hne
    have ne : lW es ≠ "" := fun z => by
      rw [z, split_empty] at sp
      obtain ⟨e, r, rfl⟩ := List.exists_cons_of_ne_nil hne
      rw [List.map_cons] at sp
      injection sp with s1 _
      have := congrArg (fun w : Str => w.length) s1
      have a : (eW e).length = (nS e.1).length + 1 := by
        show (nS e.1 ++ sgS e.2).length = _
        rw [strLen_append, sg_len]
      have b : ("" : Str).length = 0 := rfl
      omega
    rw [if_neg ne, sp, rdG_of (fun w hw => by
      obtain ⟨e, he, rfl⟩ := List.mem_map.mp hw
      rw [entO_eW (h e he) h12]
      rfl) (by rw [List.length_map]; omega), List.nil_append, List.map_map]
    congr 1
    exact List.map_congr_left fun e he => entO_eW (h e he) h12
end K77
namespace K77
open PySem PySem.Spec PyProof.Rows L2 Pv TL
/-- a thing that is refused, with what is told -/
def Bad (x : D) : Prop := ∃ (thing kept : D) (r : List D), x = .lst [thing, .str "line", kept] ∧ okv thing ∧ wrongs thing 1 12 = kept :: r ∧ (kept = .non ∨ ∃ i : Nat, i ≤ 12 ∧ kept = .int i)
theorem bad_one {thing : D} (h : okv thing) (hw : wrongs thing 1 12 = [.non]) : Bad (.lst [thing, .str "line", .non]) := ⟨thing, .non, [], rfl, h, hw, .inl rfl⟩
theorem okv_plain {d : D} (h : pl d = true) (ht : ∀ xs, d ≠ .tup xs) : okv d := ⟨h, fun xs e => absurd e (ht xs)⟩
/-- the last section is wrong -/
theorem enum_app : ∀ (xs : List D) (n : Nat) (y : D), enumGo n (xs ++ [y]) = enumGo n xs ++ [.tup [.int ((n + xs.length : Nat) : Int), y]]
  | [], n, y => rfl
  | x :: xs, n, y => by
    show .tup [.int n, x] :: enumGo (n + 1) (xs ++ [y]) = .tup [.int n, x] :: (enumGo (n + 1) xs ++ _)
    rw [enum_app xs (n + 1) y, List.length_cons]
    congr 4
    congr 2
    congr 1
    omega
theorem bad_last {ss : List Sec} {each : D} (h : ∀ s ∈ ss, good s) (hl : ss.length ≤ 11) (hp : pl each = true) (hp2 : ∀ a b, each = .tup [a, b] → pl a = true ∧ pl b = true) (hb : isSec each = false) :
    Bad (.lst [.tup (ss.map sD ++ [each]), .str "line", .int (ss.length : Int)]) := by
  refine ⟨_, _, [], rfl, ⟨rfl, fun xs e x hx => ?_⟩, ?_, .inr ⟨ss.length, by omega, rfl⟩⟩
  · injection e with e
    rw [← e] at hx
    rcases List.mem_append.mp hx with q | q
    · obtain ⟨s, _, rfl⟩ := List.mem_map.mp q
      exact ⟨pl_sD s, pl_sD2 s⟩
    · rw [List.mem_singleton.mp q]
      exact ⟨hp, hp2⟩
  · show (if (1 : Int) ≤ ((ss.map sD ++ [each]).length : Int) ∧ ((ss.map sD ++ [each]).length : Int) ≤ 12 then (bads (ss.map sD ++ [each])).take 1 else [.non]) = _
    rw [List.length_append, List.length_map, List.length_singleton, if_pos (by omega)]
    unfold bads
    rw [enum_app, List.filter_append, bads_good (fun x hx => by obtain ⟨s, hs, rfl⟩ := List.mem_map.mp hx; exact isSec_good (h s hs))]
    have : bad (.tup [.int ((0 + (ss.map sD).length : Nat) : Int), each]) = true := by
      show (!isSec each) = true
      rw [hb]
      rfl
    rw [List.nil_append, List.filter_cons_of_pos this]
    show [fstD _] = _
    simp [fstD]
end K77
namespace K77
open PySem PySem.Spec PyProof.Rows L2 Pv TL
def odds : List D := [.non, .int 5, .tup [], .tup [.int 1], .tup [.int 1, .int 2, .int 3], .lst [.int 1, .int 2], .tup [.int (-1), .non], .tup [.int 2, .int 1], .tup [.bl true, .non], .tup [.int 1, .bl true], .tup [.str "1", .non], .tup [.int 1, .str "2"], .tup [.non, .non], .tup [.int 0, .int (-1)], .tup [.int 1, .tup [.int 2]]]
def things (ss : List Sec) : List D := [.non, .tup [], .int 0, .str "line", .bl true, .lst (ss.map sD), .dic [], .tup (List.replicate 13 [D.tup [.int 1, .non]]).flatten]
theorem odds_bad : ∀ x ∈ odds, pl x = true ∧ isSec x = false ∧ ∀ a b, x = .tup [a, b] → pl a = true ∧ pl b = true := by
  intro x hx
  simp only [odds, List.mem_cons, List.not_mem_nil, or_false] at hx
  rcases hx with z | z | z | z | z | z | z | z | z | z | z | z | z | z | z <;> subst z <;> refine ⟨rfl, by first | rfl | decide, fun a b e => ?_⟩ <;> first | (cases e; exact ⟨rfl, rfl⟩) | (injection e with e; simp at e; done) | (cases e)
theorem things_bad (ss : List Sec) : ∀ x ∈ things ss, Bad (.lst [x, .str "line", .non]) := by
  intro x hx
  simp only [things, List.mem_cons, List.not_mem_nil, or_false] at hx
  rcases hx with z | z | z | z | z | z | z | z <;> subst z
  · exact bad_one (okv_plain rfl fun xs e => by cases e) rfl
  · exact bad_one ⟨rfl, fun xs e y hy => by cases e; cases hy⟩ rfl
  · exact bad_one (okv_plain rfl fun xs e => by cases e) rfl
  · exact bad_one (okv_plain rfl fun xs e => by cases e) rfl
  · exact bad_one (okv_plain rfl fun xs e => by cases e) rfl
  · exact bad_one (okv_plain rfl fun xs e => by cases e) rfl
  · exact bad_one (okv_plain rfl fun xs e => by cases e) rfl
  · refine bad_one ⟨rfl, fun xs e y hy => ?_⟩ rfl
    cases e
    simp at hy
    subst hy
    exact ⟨rfl, fun a b e => by cases e; exact ⟨rfl, rfl⟩⟩
end K77
namespace K77
open PySem PySem.Spec PyProof.Rows L2 Pv TL
def thE : EM := eN lstN (aCons (eC .non) (aCons (eN tupN (aNil)) (aCons (eC (.int 0)) (aCons (eC (.str "line")) (aCons (eC (.bl true)) (aCons (eLst (fN listF (aCons (eVar 0) (aNil)))) (aCons (eC (.dic [])) (aCons (eBin mulD (eN tupN (aCons (eN tupN (aCons (eC (.int 1)) (aCons (eC .non) (aNil)))) (aNil))) (eBin addD (eVar 1) (eC (.int 1)))) (aNil)))))))))
def odE : EM := eN lstN (aCons (eC .non) (aCons (eC (.int 5)) (aCons (eN tupN (aNil)) (aCons (eN tupN (aCons (eC (.int 1)) (aNil))) (aCons (eN tupN (aCons (eC (.int 1)) (aCons (eC (.int 2)) (aCons (eC (.int 3)) (aNil))))) (aCons (eN lstN (aCons (eC (.int 1)) (aCons (eC (.int 2)) (aNil)))) (aCons (eN tupN (aCons (negM (eC (.int 1))) (aCons (eC .non) (aNil)))) (aCons (eN tupN (aCons (eC (.int 2)) (aCons (eC (.int 1)) (aNil)))) (aCons (eN tupN (aCons (eC (.bl true)) (aCons (eC .non) (aNil)))) (aCons (eN tupN (aCons (eC (.int 1)) (aCons (eC (.bl true)) (aNil)))) (aCons (eN tupN (aCons (eC (.str "1")) (aCons (eC .non) (aNil)))) (aCons (eN tupN (aCons (eC (.int 1)) (aCons (eC (.str "2")) (aNil)))) (aCons (eN tupN (aCons (eC .non) (aCons (eC .non) (aNil)))) (aCons (eN tupN (aCons (eC (.int 0)) (aCons (negM (eC (.int 1))) (aNil)))) (aCons (eN tupN (aCons (eC (.int 1)) (aCons (eN tupN (aCons (eC (.int 2)) (aNil))) (aNil)))) (aNil))))))))))))))))
theorem blE : m__law_bad_lines = defM 7 (sSeq (sSet 2 (eBin subD (eN lenN (aCons (eVar 0) aNil)) (eC (.int 1))))
 (sSeq (sSet 3 (eLst (fComp (iIt thE) (gSet 5) bTrue (eN lstN (aCons (eVar 5) (aCons (eC (.str "line")) (aCons (eC .non) aNil)))) [5])))
 (sSeq (sSet 4 odE) (sRet (eBin addD (eVar 3) (eLst (fComp (iIt (eVar 4)) (gSet 6) bTrue (eN lstN (aCons (eBin addD (eSl (eVar 0) oNone (oSome (eVar 2))) (eN tupN (aCons (eVar 6) aNil))) (aCons (eC (.str "line")) (aCons (eVar 2) aNil)))) [6]))))))) := rfl
theorem odE_ok {Γ : Env'} {S : Sto} : odE Γ S = .val (.lst odds) S := by
  have z1 : 1 ≤ sizeLine := by decide
  have z0 : 0 ≤ sizeLine := by decide
  have z2 : 2 ≤ sizeLine := by decide
  have z3 : 3 ≤ sizeLine := by decide
  have z15 : 15 ≤ sizeLine := by decide
  simp [odE, odds, z0, z1, z2, z3, z15]
theorem mul13 {S : Sto} : mulD (.tup [.tup [.int 1, .non]]) (.int 13) S = .val (.tup (List.replicate 13 [D.tup [.int 1, .non]]).flatten) S := by
  unfold mulD
  exact s_dec ⟨by simp, by decide, by decide, by decide⟩ _
theorem thE_ok {ss : List Sec} {l : Option D} {S : Sto} : thE [some (.tup (ss.map sD)), some (.int 12), l, none, none, none, none] S = .val (.lst (things ss)) S := by
  have z1 : 1 ≤ sizeLine := by decide
  have z0 : 0 ≤ sizeLine := by decide
  have z2 : 2 ≤ sizeLine := by decide
  have z8 : 8 ≤ sizeLine := by decide
  simp only [thE, things, s_eN, s_aCons, s_aNil, s_eC, s_tupN, s_lstN, R.bind_val, s_eBin, s_eVar, s_addI, s_eLst, s_fN, s_listT, List.length_cons, List.length_nil, List.getElem?_cons_zero, List.getElem?_cons_succ]
  simp [z0, z1, z2, z8]
  rw [mul13]
  simp [z8]
theorem bad_lines_ok {ss : List Sec} {S : Sto} (h : ∀ s ∈ ss, good s) (h1 : 1 ≤ ss.length) (h2 : ss.length ≤ 12) : ∃ L, m__law_bad_lines [.tup (ss.map sD), .int 12] S = .val (.lst L) S ∧ (∀ x ∈ L, Bad x) ∧ L.length = 23 := by
  have z1 : 1 ≤ sizeLine := by decide
  have z3 : 3 ≤ sizeLine := by decide
  have zl : ss.length - 1 + 1 ≤ sizeLine := Nat.le_trans (show ss.length - 1 + 1 ≤ 12 by omega) (by decide)
  have e4 : startD 7 [.tup (ss.map sD), .int 12] = [some (.tup (ss.map sD)), some (.int 12), none, none, none, none, none] := rfl
  have el : (ss.length : Int) - 1 = ((ss.length - 1 : Nat) : Int) := by omega
  have ct : Pv.cutD (ss.map sD) none (some ((ss.length - 1 : Nat) : Int)) = (ss.take (ss.length - 1)).map sD := by rw [cut_to, List.map_take]
  have l0 : (ss.take (ss.length - 1)).length = ss.length - 1 := by rw [List.length_take]; omega
  have g0 : ∀ s ∈ ss.take (ss.length - 1), good s := fun s hs => h s (List.mem_of_mem_take hs)
  have c1 : compGo (gSet 5) bTrue (eN lstN (aCons (eVar 5) (aCons (eC (.str "line")) (aCons (eC .non) aNil)))) [some (.tup (ss.map sD)), some (.int 12), some (.int ((ss.length - 1 : Nat) : Int)), none, none, none, none] (things ss) S = .val ((things ss).map fun x => .lst [x, .str "line", .non]) S :=
    comp_map fun d _ => ⟨_, rfl, by simp [z3]⟩
  have c2 : ∀ F, compGo (gSet 6) bTrue (eN lstN (aCons (eBin addD (eSl (eVar 0) oNone (oSome (eVar 2))) (eN tupN (aCons (eVar 6) aNil))) (aCons (eC (.str "line")) (aCons (eVar 2) aNil)))) [some (.tup (ss.map sD)), some (.int 12), some (.int ((ss.length - 1 : Nat) : Int)), some F, some (.lst odds), none, none] odds S = .val (odds.map fun x => .lst [.tup ((ss.take (ss.length - 1)).map sD ++ [x]), .str "line", .int ((ss.length - 1 : Nat) : Int)]) S :=
    fun F => comp_map fun d _ => ⟨_, rfl, by
      have zz : ((ss.take (ss.length - 1)).map sD).length + [d].length ≤ sizeLine := by rw [List.length_map, l0]; exact zl
      have a1 : addD (.tup ((ss.take (ss.length - 1)).map sD)) (.tup [d]) S = .val (.tup ((ss.take (ss.length - 1)).map sD ++ [d])) S := by rw [s_addT]; exact s_dec zz _
      simp only [s_eN, s_aCons, s_aNil, s_eC, s_eBin, s_eSl, s_eVar, s_oNone, s_oSome, R.bind_val, List.set_cons_succ, List.set_cons_zero, List.getElem?_cons_zero, List.getElem?_cons_succ, s_slT, ct, s_tupN, s_lstN]
      rw [s_dec (show [d].length ≤ sizeLine from z1), R.bind_val, a1, R.bind_val, R.bind_val]
      exact s_dec z3 _⟩
  refine ⟨((things ss).map fun x => .lst [x, .str "line", .non]) ++ (odds.map fun x => .lst [.tup ((ss.take (ss.length - 1)).map sD ++ [x]), .str "line", .int ((ss.length - 1 : Nat) : Int)]), ?_, fun x hx => ?_, by simp [things, odds]⟩
  · have A : eBin subD (eN lenN (aCons (eVar 0) aNil)) (eC (.int 1)) [some (.tup (ss.map sD)), some (.int 12), none, none, none, none, none] S = .val (.int ((ss.length - 1 : Nat) : Int)) S := by
      rw [← el]
      simp
    have B : eLst (fComp (iIt thE) (gSet 5) bTrue (eN lstN (aCons (eVar 5) (aCons (eC (.str "line")) (aCons (eC .non) aNil)))) [5]) [some (.tup (ss.map sD)), some (.int 12), some (.int ((ss.length - 1 : Nat) : Int)), none, none, none, none] S = .val (.lst ((things ss).map fun x => .lst [x, .str "line", .non])) S := by
      rw [s_eLst, s_fComp, s_iIt, thE_ok, R.bind_val]
      rw [s_itsL]
      dsimp only
      rw [R.bind_val, s_wipe1, s_wipe0]
      simp only [List.set_cons_succ, List.set_cons_zero]
      rw [c1, R.bind_val, s_dec (by simp [things]; decide), R.bind_val]
    have C : ∀ F, eLst (fComp (iIt (eVar 4)) (gSet 6) bTrue (eN lstN (aCons (eBin addD (eSl (eVar 0) oNone (oSome (eVar 2))) (eN tupN (aCons (eVar 6) aNil))) (aCons (eC (.str "line")) (aCons (eVar 2) aNil)))) [6]) [some (.tup (ss.map sD)), some (.int 12), some (.int ((ss.length - 1 : Nat) : Int)), some F, some (.lst odds), none, none] S = .val (.lst (odds.map fun x => .lst [.tup ((ss.take (ss.length - 1)).map sD ++ [x]), .str "line", .int ((ss.length - 1 : Nat) : Int)])) S := fun F => by
      rw [s_eLst, s_fComp, s_iIt, s_eVar]
      simp only [List.getElem?_cons_zero, List.getElem?_cons_succ]
      rw [R.bind_val, s_itsL]
      dsimp only
      rw [R.bind_val, s_wipe1, s_wipe0]
      simp only [List.set_cons_succ, List.set_cons_zero]
      rw [c2, R.bind_val, s_dec (by simp [odds]; decide), R.bind_val]
    rw [blE, s_def, e4, s_sSeq, s_sSet, A, s_then_val, seq_nx, s_sSeq, s_sSet]
    show endS (seqS (thenS (eLst (fComp (iIt thE) (gSet 5) bTrue _ [5]) [some (.tup (ss.map sD)), some (.int 12), some (.int ((ss.length - 1 : Nat) : Int)), none, none, none, none] S) _ _) _) = _
    rw [B, s_then_val, seq_nx, s_sSeq, s_sSet, odE_ok, s_then_val, seq_nx, s_sRet, s_eBin]
    show endS (thenS (((R.val (D.lst ((things ss).map fun x => .lst [x, .str "line", .non])) S : R D)).bind fun x S1 => (eLst (fComp (iIt (eVar 4)) (gSet 6) bTrue _ [6]) [some (.tup (ss.map sD)), some (.int 12), some (.int ((ss.length - 1 : Nat) : Int)), some (.lst ((things ss).map fun x => .lst [x, .str "line", .non])), some (.lst odds), none, none] S1).bind fun y S2 => addD x y S2) _ _) = _
    rw [R.bind_val, C, R.bind_val, s_addL, s_dec (by simp [things, odds]; decide)]
    rfl
  · rcases List.mem_append.mp hx with q | q
    · obtain ⟨y, hy, rfl⟩ := List.mem_map.mp q
      exact things_bad ss y hy
    · obtain ⟨y, hy, rfl⟩ := List.mem_map.mp q
      obtain ⟨p1, p2, p3⟩ := odds_bad y hy
      have := bad_last (ss := ss.take (ss.length - 1)) (each := y) g0 (by rw [l0]; omega) p1 p3 p2
      rw [l0] at this
      exact this
end K77
namespace K77
open PySem PySem.Spec PyProof.Rows L2 Pv TL
/-! wrong lines, counts, logs are refused -/
theorem ck_bad {d i : D} {r : List D} {S : Sto} (h : okv d) (hw : wrongs d 1 12 = i :: r) : m_check_line [d] S = .exn ⟨"InvalidLine", [("index", i)]⟩ S := by rw [check_line_ok h, hw]
theorem ct_bad {d y i : D} {r : List D} {S : Sto} (h : okv d) (hw : wrongs d 1 12 = i :: r) : m_counts_text [d, y] S = .exn ⟨"InvalidLine", [("index", i)]⟩ S := by
  have e0 : startD 2 [d, y] = [some d, some y] := rfl
  unfold m_counts_text
  rw [s_def, e0]
  simp only [s_sSeq, s_sDrop, s_eN, s_aCons, s_aNil, s_eVar, List.getElem?_cons_zero, List.getElem?_cons_succ, R.bind_val, s_callN, List.length_cons, List.length_nil, Nat.reduceAdd, decide_true, s_true, ck_bad h hw, s_then_exn, seq_xn, s_endX]
theorem lt_bad {d y i : D} {r : List D} {S : Sto} (h : okv d) (hw : wrongs d 1 12 = i :: r) : m_log_text [d, y] S = .exn ⟨"InvalidLine", [("index", i)]⟩ S := by
  have e0 : startD 2 [d, y] = [some d, some y] := rfl
  unfold m_log_text
  rw [s_def, e0]
  simp only [s_sSeq, s_sDrop, s_eN, s_aCons, s_aNil, s_eVar, List.getElem?_cons_zero, List.getElem?_cons_succ, R.bind_val, s_callN, List.length_cons, List.length_nil, Nat.reduceAdd, decide_true, s_true, ck_bad h hw, s_then_exn, seq_xn, s_endX]
theorem rc_bad {d y i : D} {r : List D} {S : Sto} (h : okv d) (hw : wrongs d 1 12 = i :: r) : m_read_counts [d, y] S = .exn ⟨"InvalidLine", [("index", i)]⟩ S := by
  have e0 : startD 4 [d, y] = [some d, some y, none, none] := rfl
  unfold m_read_counts
  rw [s_def, e0]
  simp only [s_sSeq, s_sDrop, s_eN, s_aCons, s_aNil, s_eVar, List.getElem?_cons_zero, List.getElem?_cons_succ, R.bind_val, s_callN, List.length_cons, List.length_nil, Nat.reduceAdd, decide_true, s_true, ck_bad h hw, s_then_exn, seq_xn, s_endX]
theorem rl_bad {d y i : D} {r : List D} {S : Sto} (h : okv d) (hw : wrongs d 1 12 = i :: r) : m_read_log [d, y] S = .exn ⟨"InvalidLine", [("index", i)]⟩ S := by
  have e0 : startD 4 [d, y] = [some d, some y, none, none] := rfl
  unfold m_read_log
  rw [s_def, e0]
  simp only [s_sSeq, s_sDrop, s_eN, s_aCons, s_aNil, s_eVar, List.getElem?_cons_zero, List.getElem?_cons_succ, R.bind_val, s_callN, List.length_cons, List.length_nil, Nat.reduceAdd, decide_true, s_true, ck_bad h hw, s_then_exn, seq_xn, s_endX]
theorem comp_last {Γ : Env'} {gm : GM} {c : BM} {m : EM} {S : Sto} {x v : D} : ∀ {ds : List D}, (∀ d ∈ ds, ∃ Γ1, gm d Γ S = .val Γ1 S ∧ c Γ1 S = .val false S) → (∃ Γ1, gm x Γ S = .val Γ1 S ∧ c Γ1 S = .val true S ∧ m Γ1 S = .val v S) → compGo gm c m Γ (ds ++ [x]) S = .val [v] S
  | [], _, ⟨Γ1, h1, h2, h3⟩ => by
    show compGo gm c m Γ [x] S = _
    unfold compGo
    rw [h1]
    dsimp only
    rw [h2]
    dsimp only
    rw [h3]
    rfl
  | d :: ds, h, hx => by
    obtain ⟨Γ1, h1, h2⟩ := h d List.mem_cons_self
    show compGo gm c m Γ (d :: (ds ++ [x])) S = _
    unfold compGo
    rw [h1]
    dsimp only
    rw [h2]
    dsimp only
    exact comp_last (fun y hy => h y (List.mem_cons_of_mem _ hy)) hx
/-- no tuple of n -/
def noTup (n : Nat) (d : D) : Bool := match d with | .tup xs => !decide (xs.length = n) | _ => true
theorem tup_of_no {d : D} {n : Nat} {S : Sto} (h : pl d = true) (hn : noTup n d = true) : m_is_tuple_of [d, .int (n : Int)] S = .val (.bl false) S := by
  have e0 : startD 2 [d, .int (n : Int)] = [some d, some (.int (n : Int))] := rfl
  have t : m_is_tuple_up_to [d, .int (n : Int), .int (n : Int)] S = .val (.bl false) S := by
    rw [is_tup_ok h]
    cases d with
    | tup xs =>
      have h1 : (!decide (xs.length = n)) = true := hn
      have h2 : ¬ xs.length = n := by simpa using h1
      have h3 : (decide ((n : Int) ≤ xs.length) && decide ((xs.length : Int) ≤ n)) = false := by
        rw [Bool.and_eq_false_iff, decide_eq_false_iff_not, decide_eq_false_iff_not]
        omega
      show R.val (D.bl (decide ((n : Int) ≤ xs.length) && decide ((xs.length : Int) ≤ n))) S = _
      rw [h3]
    | _ => rfl
  unfold m_is_tuple_of
  rw [s_def, e0]
  simp only [s_sRet, s_eN, s_aCons, s_aNil, s_eVar, List.getElem?_cons_zero, List.getElem?_cons_succ, R.bind_val, s_callN, List.length_cons, List.length_nil, Nat.reduceAdd, decide_true, s_true, t, s_then_val, s_endR]
theorem numbers_no {d : D} {n : Nat} {S : Sto} (h : pl d = true) (hn : noTup n d = true) : m_wrong_in_numbers [d, .int (n : Int)] S = .val (.lst [.non]) S := by
  have z1 : decide (1 ≤ sizeLine) = true := by decide
  have e0 : startD 4 [d, .int (n : Int)] = [some d, some (.int (n : Int)), none, none] := rfl
  have t := tup_of_no (S := S) h hn
  unfold m_wrong_in_numbers
  rw [s_def, e0]
  simp only [s_sSeq, s_sIf, s_bNot, s_bT, s_eN, s_aCons, s_aNil, s_eVar, s_eC, List.getElem?_cons_zero, List.getElem?_cons_succ, R.bind_val, s_callN, List.length_cons, List.length_nil, Nat.reduceAdd, decide_true, s_true, t, s_ofB, Bool.not_false, s_then_val, if_true, ite_true, s_sRet, s_lstN, z1, seq_rt, s_endR]
theorem numbers_last {cs : List Int} {y : D} {S : Sto} (h : cs.length ≤ 1000) (hp : pl y = true) (hy : isInt y = false) : m_wrong_in_numbers [.tup (cs.map .int ++ [y]), .int ((cs.length + 1 : Nat) : Int)] S = .val (.lst [.int (cs.length : Int)]) S := by
  have z1 : decide (1 ≤ sizeLine) = true := by decide
  have e0 : startD 4 [.tup (cs.map .int ++ [y]), .int ((cs.length + 1 : Nat) : Int)] = [some (.tup (cs.map .int ++ [y])), some (.int ((cs.length + 1 : Nat) : Int)), none, none] := rfl
  have t0 : ∀ S, m_is_tuple_of [.tup (cs.map .int ++ [y]), .int ((cs.length + 1 : Nat) : Int)] S = .val (.bl true) S := fun S => by
    simp [m_is_tuple_of, s_def, startD, is_tup_ok (show pl (.tup (cs.map D.int ++ [y])) = true from rfl)]
  have c := comp_last (Γ := [some (.tup (cs.map .int ++ [y])), some (.int ((cs.length + 1 : Nat) : Int)), none, none]) (gm := gSeq 2 (gConsM (gSet 2) (gConsM (gSet 3) gNilM))) (c := bNot (bT (eN (callN 1 m_is_whole) (aCons (eVar 3) aNil)))) (m := eVar 2) (S := S) (x := .tup [.int ((0 + (cs.map D.int).length : Nat) : Int), y]) (v := .int (cs.length : Int)) (ds := enumGo 0 (cs.map .int)) (fun d hd => by
    obtain ⟨i, x, rfl, hx⟩ := enum_mem hd
    obtain ⟨z, _, rfl⟩ := List.mem_map.mp hx
    refine ⟨[some (.tup (cs.map .int ++ [y])), some (.int ((cs.length + 1 : Nat) : Int)), some (.int i), some (.int z)], rfl, ?_⟩
    simp only [s_bNot, s_bT, s_eN, s_aCons, s_aNil, s_eVar, List.getElem?_cons_zero, List.getElem?_cons_succ, R.bind_val, s_callN, List.length_cons, List.length_nil, Nat.reduceAdd, decide_true, s_true, is_whole_ok (show pl (.int z) = true from rfl), isInt, s_ofB, Bool.not_true])
    ⟨[some (.tup (cs.map .int ++ [y])), some (.int ((cs.length + 1 : Nat) : Int)), some (.int ((0 + (cs.map D.int).length : Nat) : Int)), some y], rfl, by
      simp only [s_bNot, s_bT, s_eN, s_aCons, s_aNil, s_eVar, List.getElem?_cons_zero, List.getElem?_cons_succ, R.bind_val, s_callN, List.length_cons, List.length_nil, Nat.reduceAdd, decide_true, s_true, is_whole_ok hp, hy, s_ofB, Bool.not_false], by
      rw [s_eVar]
      simp only [List.getElem?_cons_zero, List.getElem?_cons_succ, List.length_map, Nat.zero_add]⟩
  rw [← enum_app] at c
  unfold m_wrong_in_numbers
  rw [s_def, e0]
  simp only [s_sSeq, s_sIf, s_bNot, s_bT, s_eN, s_aCons, s_aNil, s_eVar, List.getElem?_cons_zero, List.getElem?_cons_succ, R.bind_val, s_callN, List.length_cons, List.length_nil, Nat.reduceAdd, decide_true, s_true, t0, s_ofB, Bool.not_true, s_then_val, Bool.false_eq_true, if_false, ite_false, s_sNil, seq_nx, s_sRet, s_eSl, s_eLst, s_fComp, s_iEnum, s_itemT, s_wipe1, s_wipe0, List.set_cons_succ, List.set_cons_zero, c, z1, s_oNone, s_oSome, s_eC, s_slL, s_endR]
  rfl
/-- counts of a line of n sections that are refused -/
def CBad (n : Nat) (t k : D) : Prop := (k = .non ∧ pl t = true ∧ noTup (n + 1) t = true) ∨ (∃ (cs : List Int) (y : D), t = .tup (cs.map .int ++ [y]) ∧ cs.length = n ∧ k = .int (cs.length : Int) ∧ pl y = true ∧ isInt y = false)
theorem counts_bad {ss : List Sec} {t k : D} {S : Sto} (hl : Ln ss) (h : CBad ss.length t k) : m_counts_text [.tup (ss.map sD), t] S = .exn ⟨"InvalidCounts", [("index", k)]⟩ S := by
  have ek : ((ss.map sD).length : Int) + 1 = ((ss.length + 1 : Nat) : Int) := by rw [List.length_map]; omega
  have e0 : startD 2 [.tup (ss.map sD), t] = [some (.tup (ss.map sD)), some t] := rfl
  have e1 : startD 3 [.tup (ss.map sD), t] = [some (.tup (ss.map sD)), some t, none] := rfl
  have ck := check_ok (S := S) hl
  have nn : m_wrong_in_numbers [t, .int ((ss.length + 1 : Nat) : Int)] S = .val (.lst [k]) S := by
    rcases h with ⟨rfl, h1, h2⟩ | ⟨cs, y, rfl, h1, rfl, h2, h3⟩
    · exact numbers_no h1 h2
    · rw [← h1]
      exact numbers_last (by have := hl.hi; omega) h2 h3
  have wc : m_wrong_in_counts [.tup (ss.map sD), t] S = .val (.lst [k]) S := by
    unfold m_wrong_in_counts
    rw [s_def, e0]
    simp only [s_sRet, s_eN, s_aCons, s_aNil, s_eVar, s_eBin, s_eC, List.getElem?_cons_zero, List.getElem?_cons_succ, R.bind_val, s_lenT, s_addI, ek, s_callN, List.length_cons, List.length_nil, Nat.reduceAdd, decide_true, s_true, nn, s_then_val, s_endR]
  have cc : m_check_counts [.tup (ss.map sD), t] S = .exn ⟨"InvalidCounts", [("index", k)]⟩ S := by
    unfold m_check_counts
    rw [s_def, e1]
    simp only [s_sFor, s_iIt, s_eN, s_aCons, s_aNil, s_eVar, List.getElem?_cons_zero, List.getElem?_cons_succ, R.bind_val, s_callN, List.length_cons, List.length_nil, Nat.reduceAdd, decide_true, s_true, wc, s_itsL, s_then_val, s_for1, s_gSet, List.set_cons_succ, List.set_cons_zero, s_sRaise, s_endX]
  unfold m_counts_text
  rw [s_def, e0]
  simp only [s_sSeq, s_sDrop, s_eN, s_aCons, s_aNil, s_eVar, List.getElem?_cons_zero, List.getElem?_cons_succ, R.bind_val, s_callN, List.length_cons, List.length_nil, Nat.reduceAdd, decide_true, s_true, ck, cc, s_then_val, s_then_exn, seq_nx, seq_xn, s_endX]
end K77
namespace K77
open PySem PySem.Spec PyProof.Rows L2 Pv TL
/-! wrong logs -/
def joint (n : Nat) (a : D) : Bool := match a with | .int i => decide (0 ≤ i) && decide (i ≤ (n : Int)) | _ => false
theorem between_ok {a : D} {hi : Int} {S : Sto} (h : pl a = true) : m_is_between [a, .int 0, .int hi] S = .val (.bl (match a with | .int i => decide (0 ≤ i) && decide (i ≤ hi) | _ => false)) S := by
  have e0 : startD 3 [a, .int 0, .int hi] = [some a, some (.int 0), some (.int hi)] := rfl
  have w := is_whole_ok (S := S) h
  unfold m_is_between
  rw [s_def, e0]
  cases a with
  | int i =>
    have w' : m_is_whole [.int i] S = .val (.bl true) S := w
    by_cases h1 : (0 : Int) ≤ i
    · simp only [s_sRet, s_eAnd, s_eN, s_aCons, s_aNil, s_eVar, List.getElem?_cons_zero, List.getElem?_cons_succ, R.bind_val, s_callN, List.length_cons, List.length_nil, Nat.reduceAdd, decide_true, s_true, w', s_ofB, if_true, ite_true, s_chain, s_cmp, decide_eq_true h1, Bool.true_and, s_then_val, s_endR]
    · simp only [s_sRet, s_eAnd, s_eN, s_aCons, s_aNil, s_eVar, List.getElem?_cons_zero, List.getElem?_cons_succ, R.bind_val, s_callN, List.length_cons, List.length_nil, Nat.reduceAdd, decide_true, s_true, w', s_ofB, if_true, ite_true, s_chain, s_cmp, decide_eq_false h1, Bool.false_and, Bool.false_eq_true, if_false, ite_false, s_then_val, s_endR]
  | _ =>
    first
    | (simp [pl, kind] at h; done)
    | simp only [s_sRet, s_eAnd, s_eN, s_aCons, s_aNil, s_eVar, List.getElem?_cons_zero, List.getElem?_cons_succ, R.bind_val, s_callN, List.length_cons, List.length_nil, Nat.reduceAdd, decide_true, s_true, w, isInt, s_ofB, Bool.false_eq_true, if_false, ite_false, s_then_val, s_endR]
theorem joint_of_ok {ls : List D} {a : D} {S : Sto} (h : pl a = true) : m_is_joint_of [.tup ls, a] S = .val (.bl (joint ls.length a)) S := by
  have e1 : startD 2 [.tup ls, a] = [some (.tup ls), some a] := rfl
  have e2 : startD 2 [a, .int (ls.length : Int)] = [some a, some (.int (ls.length : Int))] := rfl
  have b := between_ok (hi := (ls.length : Int)) (S := S) h
  have b' : m_is_between [a, .int 0, .int (ls.length : Int)] S = .val (.bl (joint ls.length a)) S := by
    rw [b]
    cases a <;> rfl
  have u : m_is_up_to [a, .int (ls.length : Int)] S = .val (.bl (joint ls.length a)) S := by
    unfold m_is_up_to
    rw [s_def, e2]
    simp only [s_sRet, s_eN, s_aCons, s_aNil, s_eVar, s_eC, List.getElem?_cons_zero, List.getElem?_cons_succ, R.bind_val, s_callN, List.length_cons, List.length_nil, Nat.reduceAdd, decide_true, s_true, b', s_then_val, s_endR]
  unfold m_is_joint_of
  rw [s_def, e1]
  simp only [s_sRet, s_eN, s_aCons, s_aNil, s_eVar, List.getElem?_cons_zero, List.getElem?_cons_succ, R.bind_val, s_lenT, s_callN, List.length_cons, List.length_nil, Nat.reduceAdd, decide_true, s_true, u, s_then_val, s_endR]
def badE (n : Nat) (y : D) : Bool := match y with
  | .tup [a, b] => !(joint n a) || (match b with | .int z => !(decide (z = 1) || decide (z = -1)) | _ => true)
  | _ => true
theorem in_pm {z : Int} {S : Sto} : inD false (.int z) (.tup [.int 1, .int (-1)]) S = .val (.bl (decide (z = 1) || decide (z = -1))) S := by
  show R.val (D.bl (if false = true then !inV (.int z) [.int 1, .int (-1)] else inV (.int z) [.int 1, .int (-1)])) S = _
  rw [if_neg Bool.false_ne_true]
  have : inV (.int z) [.int 1, .int (-1)] = (decide (z = 1) || decide (z = -1)) := by
    show (((1 : Int) == z) || (((-1 : Int) == z) || false)) = _
    rw [Bool.or_false]
    have a : ∀ y : Int, (y == z) = decide (z = y) := fun y => by
      rw [Bool.eq_iff_iff, beq_iff_eq, decide_eq_true_iff]
      exact eq_comm
    rw [a, a]
  rw [this]
theorem entry_bad {ls : List D} {y : D} {S : Sto} (h : pl y = true) (h2 : ∀ a b, y = .tup [a, b] → pl a = true ∧ pl b = true) (hb : badE ls.length y = true) : m_is_entry_of [.tup ls, y] S = .val (.bl false) S := by
  have z2 : decide (2 ≤ sizeLine) = true := by decide
  have e0 : startD 2 [.tup ls, y] = [some (.tup ls), some y] := rfl
  have p := is_pair_ok (S := S) h
  by_cases hp : ∃ a b, y = .tup [a, b]
  · obtain ⟨a, b, rfl⟩ := hp
    obtain ⟨pa, pb⟩ := h2 a b rfl
    have p' : m_is_pair [.tup [a, b]] S = .val (.bl true) S := p
    have jo := joint_of_ok (ls := ls) (S := S) pa
    have w := is_whole_ok (S := S) pb
    have x0 : ∀ S, ixD (.tup [a, b]) (.int 0) S = .val a S := fun S => rfl
    have x1 : ∀ S, ixD (.tup [a, b]) (.int 1) S = .val b S := fun S => rfl
    unfold m_is_entry_of
    rw [s_def, e0]
    cases hj : joint ls.length a with
    | false =>
      rw [hj] at jo
      simp only [s_sSeq, s_sIf, s_bOr, s_bNot, s_bT, s_eN, s_aCons, s_aNil, s_eVar, s_eC, s_eBin, List.getElem?_cons_zero, List.getElem?_cons_succ, R.bind_val, s_callN, List.length_cons, List.length_nil, Nat.reduceAdd, decide_true, s_true, p', s_ofB, Bool.not_true, Bool.false_eq_true, if_false, ite_false, x0, jo, Bool.not_false, if_true, ite_true, s_then_val, s_sRet, seq_rt, s_endR]
    | true =>
      rw [hj] at jo
      cases hi : isInt b with
      | false =>
        rw [hi] at w
        simp only [s_sSeq, s_sIf, s_bOr, s_bNot, s_bT, s_eN, s_aCons, s_aNil, s_eVar, s_eC, s_eBin, List.getElem?_cons_zero, List.getElem?_cons_succ, R.bind_val, s_callN, List.length_cons, List.length_nil, Nat.reduceAdd, decide_true, s_true, p', s_ofB, Bool.not_true, Bool.false_eq_true, if_false, ite_false, x0, x1, jo, w, Bool.not_false, if_true, ite_true, s_then_val, s_sRet, seq_rt, s_endR]
      | true =>
        cases b with
        | int z =>
          have hz : (decide (z = 1) || decide (z = -1)) = false := by
            have : (!(joint ls.length a) || !(decide (z = 1) || decide (z = -1))) = true := hb
            rw [hj] at this
            simpa using this
          have w' : m_is_whole [.int z] S = .val (.bl true) S := w
          have ip := in_pm (z := z) (S := S)
          rw [hz] at ip
          simp only [s_sSeq, s_sIf, s_bOr, s_bNot, s_bT, s_eN, s_aCons, s_aNil, s_eVar, s_eC, s_eBin, List.getElem?_cons_zero, List.getElem?_cons_succ, R.bind_val, s_callN, List.length_cons, List.length_nil, Nat.reduceAdd, decide_true, s_true, p', s_ofB, Bool.not_true, Bool.false_eq_true, if_false, ite_false, x0, x1, jo, w', s_then_val, s_sNil, seq_nx, s_sRet, s_tupN, z2, ip, s_endR]
        | _ => cases hi
  · have p' : m_is_pair [y] S = .val (.bl false) S := by
      rw [p]
      congr 2
      split
      · rename_i a b _
        exact absurd ⟨a, b, rfl⟩ hp
      · rfl
    unfold m_is_entry_of
    rw [s_def, e0]
    simp only [s_sSeq, s_sIf, s_bOr, s_bNot, s_bT, s_eN, s_aCons, s_aNil, s_eVar, s_eC, s_eBin, List.getElem?_cons_zero, List.getElem?_cons_succ, R.bind_val, s_callN, List.length_cons, List.length_nil, Nat.reduceAdd, decide_true, s_true, p', s_ofB, Bool.not_false, if_true, ite_true, s_then_val, s_sRet, seq_rt, s_endR]
def noTup100 (d : D) : Bool := match d with | .tup xs => !decide (xs.length ≤ 100) | _ => true
/-- logs that are refused -/
def LBad (n : Nat) (t k : D) : Prop := (k = .non ∧ pl t = true ∧ noTup100 t = true) ∨ (∃ (es : List En) (y : D), t = .tup (es.map eD ++ [y]) ∧ es.length ≤ 12 ∧ (∀ e ∈ es, e.1 ≤ n) ∧ k = .int (es.length : Int) ∧ pl y = true ∧ (∀ a b, y = .tup [a, b] → pl a = true ∧ pl b = true) ∧ badE n y = true)
theorem logs_bad {ss : List Sec} {t k : D} {S : Sto} (hl : Ln ss) (h : LBad ss.length t k) : m_log_text [.tup (ss.map sD), t] S = .exn ⟨"InvalidLog", [("index", k)]⟩ S := by
  have z1 : decide (1 ≤ sizeLine) = true := by decide
  have e0 : startD 2 [.tup (ss.map sD), t] = [some (.tup (ss.map sD)), some t] := rfl
  have e1 : startD 3 [.tup (ss.map sD), t] = [some (.tup (ss.map sD)), some t, none] := rfl
  have e4 : startD 4 [.tup (ss.map sD), t] = [some (.tup (ss.map sD)), some t, none, none] := rfl
  have ck := check_ok (S := S) hl
  have nn : m_wrong_in_log [.tup (ss.map sD), t] S = .val (.lst [k]) S := by
    rcases h with ⟨rfl, h1, h2⟩ | ⟨es, y, rfl, h1, h2, rfl, h3, h4, h5⟩
    · have t1 : m_is_tuple_up_to [t, .int 0, .int 100] S = .val (.bl false) S := by
        rw [is_tup_ok h1]
        cases t with
        | tup xs =>
          have q1 : (!decide (xs.length ≤ 100)) = true := h2
          have q2 : ¬ xs.length ≤ 100 := by simpa using q1
          have q3 : (decide ((0 : Int) ≤ xs.length) && decide ((xs.length : Int) ≤ 100)) = false := by
            rw [Bool.and_eq_false_iff, decide_eq_false_iff_not, decide_eq_false_iff_not]
            omega
          show R.val (D.bl (decide ((0 : Int) ≤ xs.length) && decide ((xs.length : Int) ≤ 100))) S = _
          rw [q3]
        | _ => rfl
      unfold m_wrong_in_log
      rw [s_def, e4]
      simp only [s_sSeq, s_sIf, s_bNot, s_bT, s_eN, s_aCons, s_aNil, s_eVar, s_eC, List.getElem?_cons_zero, List.getElem?_cons_succ, R.bind_val, s_callN, List.length_cons, List.length_nil, Nat.reduceAdd, decide_true, s_true, t1, s_ofB, Bool.not_false, s_then_val, if_true, ite_true, s_sRet, s_lstN, z1, seq_rt, s_endR]
    · have t0 := is_tup_ok (d := .tup (es.map eD ++ [y])) (lo := 0) (hi := 100) (S := S) rfl
      have t1 : m_is_tuple_up_to [.tup (es.map eD ++ [y]), .int 0, .int 100] S = .val (.bl true) S := by
        rw [t0]
        dsimp only
        rw [List.length_append, List.length_map, List.length_singleton, decide_eq_true (show (0 : Int) ≤ ((es.length + 1 : Nat) : Int) by omega), decide_eq_true (show ((es.length + 1 : Nat) : Int) ≤ 100 by omega)]
        rfl
      have c := comp_last (Γ := [some (.tup (ss.map sD)), some (.tup (es.map eD ++ [y])), none, none]) (gm := gSeq 2 (gConsM (gSet 2) (gConsM (gSet 3) gNilM))) (c := bNot (bT (eN (callN 2 m_is_entry_of) (aCons (eVar 0) (aCons (eVar 3) aNil))))) (m := eVar 2) (S := S) (x := .tup [.int ((0 + (es.map eD).length : Nat) : Int), y]) (v := .int (es.length : Int)) (ds := enumGo 0 (es.map eD)) (fun d hd => by
        obtain ⟨i, x, rfl, hx⟩ := enum_mem hd
        obtain ⟨e, he, rfl⟩ := List.mem_map.mp hx
        refine ⟨[some (.tup (ss.map sD)), some (.tup (es.map eD ++ [y])), some (.int i), some (eD e)], rfl, ?_⟩
        simp only [s_bNot, s_bT, s_eN, s_aCons, s_aNil, s_eVar, List.getElem?_cons_zero, List.getElem?_cons_succ, R.bind_val, s_callN, List.length_cons, List.length_nil, Nat.reduceAdd, decide_true, s_true, is_entry_ok (ls := ss.map sD) (show e.1 ≤ (ss.map sD).length by rw [List.length_map]; exact h2 e he), s_ofB, Bool.not_true])
        ⟨[some (.tup (ss.map sD)), some (.tup (es.map eD ++ [y])), some (.int ((0 + (es.map eD).length : Nat) : Int)), some y], rfl, by
          simp only [s_bNot, s_bT, s_eN, s_aCons, s_aNil, s_eVar, List.getElem?_cons_zero, List.getElem?_cons_succ, R.bind_val, s_callN, List.length_cons, List.length_nil, Nat.reduceAdd, decide_true, s_true, entry_bad (ls := ss.map sD) h3 h4 (by rw [List.length_map]; exact h5), s_ofB, Bool.not_false], by
          rw [s_eVar]
          simp only [List.getElem?_cons_zero, List.getElem?_cons_succ, List.length_map, Nat.zero_add]⟩
      rw [← enum_app] at c
      unfold m_wrong_in_log
      rw [s_def, e4]
      simp only [s_sSeq, s_sIf, s_bNot, s_bT, s_eN, s_aCons, s_aNil, s_eVar, s_eC, List.getElem?_cons_zero, List.getElem?_cons_succ, R.bind_val, s_callN, List.length_cons, List.length_nil, Nat.reduceAdd, decide_true, s_true, t1, s_ofB, Bool.not_true, s_then_val, Bool.false_eq_true, if_false, ite_false, s_sNil, seq_nx, s_sRet, s_eSl, s_eLst, s_fComp, s_iEnum, s_itemT, s_wipe1, s_wipe0, List.set_cons_succ, List.set_cons_zero, c, z1, s_oNone, s_oSome, s_slL, s_endR]
      rfl
  have cc : m_check_log [.tup (ss.map sD), t] S = .exn ⟨"InvalidLog", [("index", k)]⟩ S := by
    unfold m_check_log
    rw [s_def, e1]
    simp only [s_sFor, s_iIt, s_eN, s_aCons, s_aNil, s_eVar, List.getElem?_cons_zero, List.getElem?_cons_succ, R.bind_val, s_callN, List.length_cons, List.length_nil, Nat.reduceAdd, decide_true, s_true, nn, s_itsL, s_then_val, s_for1, s_gSet, List.set_cons_succ, List.set_cons_zero, s_sRaise, s_endX]
  unfold m_log_text
  rw [s_def, e0]
  simp only [s_sSeq, s_sDrop, s_eN, s_aCons, s_aNil, s_eVar, List.getElem?_cons_zero, List.getElem?_cons_succ, R.bind_val, s_callN, List.length_cons, List.length_nil, Nat.reduceAdd, decide_true, s_true, ck, cc, s_then_val, s_then_exn, seq_nx, seq_xn, s_endX]
end K77
namespace K77
open PySem PySem.Spec PyProof.Rows L2 Pv TL
/-! the law's wrong counts -/
def BadK (w : Str) (C : D → D → Prop) (x : D) : Prop := ∃ t k : D, x = .lst [t, .str w, k] ∧ C t k
def btE : EM := eN lstN (aCons (eC .non) (aCons (eN tupN aNil) (aCons (eC (.int 0)) (aCons (eC (.str "counts")) (aCons (eC (.bl true)) (aCons (eLst (fN listF (aCons (eVar 0) aNil))) (aCons (eC (.dic [])) (aCons (eSl (eVar 0) (oSome (eC (.int 1))) oNone) (aCons (eBin addD (eVar 0) (eN tupN (aCons (eC (.int 0)) aNil))) aNil)))))))))
def boE : EM := eN lstN (aCons (eC .non) (aCons (eC (.bl true)) (aCons (eC (.bl false)) (aCons (eC (.str "1")) (aCons (eN tupN (aCons (eC (.int 1)) aNil)) (aCons (eN lstN (aCons (eC (.int 1)) aNil)) aNil))))))
def bcM : EM := eN lstN (aCons (eBin addD (eSl (eVar 0) oNone (oSome (eVar 1))) (eN tupN (aCons (eVar 4) aNil))) (aCons (eC (.str "counts")) (aCons (eVar 1) aNil)))
theorem bcE : m__law_bad_counts = defM 5 (sSeq (sSet 1 (eBin subD (eN lenN (aCons (eVar 0) aNil)) (eC (.int 1))))
 (sSeq (sSet 2 (eLst (fComp (iIt btE) (gSet 3) bTrue (eN lstN (aCons (eVar 3) (aCons (eC (.str "counts")) (aCons (eC .non) aNil)))) [3])))
 (sRet (eBin addD (eVar 2) (eLst (fComp (iIt boE) (gSet 4) bTrue bcM [4])))))) := rfl
def cThings (cs : List Int) : List D := [.non, .tup [], .int 0, .str "counts", .bl true, .lst (cs.map .int), .dic [], .tup ((cs.map D.int).drop 1), .tup (cs.map D.int ++ [.int 0])]
def cOdds : List D := [.non, .bl true, .bl false, .str "1", .tup [.int 1], .lst [.int 1]]
theorem bad_counts_ok {cs : List Int} {n : Nat} {S : Sto} (hc : cs.length = n + 1) (h1 : 1 ≤ n) (h12 : n ≤ 12) : ∃ L, m__law_bad_counts [.tup (cs.map .int)] S = .val (.lst L) S ∧ (∀ x ∈ L, BadK "counts" (CBad n) x) ∧ L.length = 15 := by
  have z0 : decide (0 ≤ sizeLine) = true := by decide
  have z1 : decide (1 ≤ sizeLine) = true := by decide
  have z3 : decide (3 ≤ sizeLine) = true := by decide
  have z6 : decide (6 ≤ sizeLine) = true := by decide
  have z9 : decide (9 ≤ sizeLine) = true := by decide
  have z15 : 15 ≤ sizeLine := by decide
  have e0 : startD 5 [.tup (cs.map .int)] = [some (.tup (cs.map .int)), none, none, none, none] := rfl
  have el : (cs.length : Int) - 1 = (n : Int) := by omega
  have a0 : ∀ (xs : List D) (y : D), xs.length ≤ 14 → addD (.tup xs) (.tup [y]) S = .val (.tup (xs ++ [y])) S := fun xs y h => by
    rw [s_addT]
    exact s_dec (Nat.le_trans (show _ ≤ 15 by rw [List.length_singleton]; omega) z15) _
  have lc : (cs.map D.int).length ≤ 14 := by rw [List.length_map]; omega
  have cf : Pv.cutD (cs.map D.int) (some 1) none = (cs.map D.int).drop 1 := cut_from _ 1
  have T : ∀ x2, btE [some (.tup (cs.map .int)), some (.int (n : Int)), x2, none, none] S = .val (.lst (cThings cs)) S := fun x2 => by
    simp only [btE, cThings, s_eN, s_aCons, s_aNil, s_eC, s_tupN, s_lstN, R.bind_val, s_eBin, s_eVar, s_eLst, s_fN, s_listT, s_eSl, s_oSome, s_oNone, s_slT, cf, List.length_cons, List.length_nil, Nat.reduceAdd, List.getElem?_cons_zero, z0, z1, z9, s_true, a0 _ _ lc]
  have c1 : ∀ x2, compGo (gSet 3) bTrue (eN lstN (aCons (eVar 3) (aCons (eC (.str "counts")) (aCons (eC .non) aNil)))) [some (.tup (cs.map .int)), some (.int (n : Int)), x2, none, none] (cThings cs) S = .val ((cThings cs).map fun x => .lst [x, .str "counts", .non]) S := fun x2 =>
    comp_map fun d _ => ⟨_, rfl, by
      simp only [s_eN, s_aCons, s_aNil, s_eC, s_eVar, List.set_cons_succ, List.set_cons_zero, List.getElem?_cons_zero, List.getElem?_cons_succ, R.bind_val, s_lstN, List.length_cons, List.length_nil, Nat.reduceAdd, z3, s_true]⟩
  have ct : Pv.cutD (cs.map D.int) none (some (n : Int)) = (cs.take n).map D.int := by rw [cut_to, List.map_take]
  have lt : ((cs.take n).map D.int).length ≤ 14 := by rw [List.length_map, List.length_take]; omega
  have B : boE [some (.tup (cs.map .int)), some (.int (n : Int)), some (.lst ((cThings cs).map fun x => .lst [x, .str "counts", .non])), none, none] S = .val (.lst cOdds) S := by
    simp only [boE, cOdds, s_eN, s_aCons, s_aNil, s_eC, s_tupN, s_lstN, R.bind_val, List.length_cons, List.length_nil, Nat.reduceAdd, z1, z6, s_true]
  have c2 : ∀ F, compGo (gSet 4) bTrue bcM [some (.tup (cs.map .int)), some (.int (n : Int)), some F, none, none] cOdds S = .val (cOdds.map fun x => .lst [.tup ((cs.take n).map D.int ++ [x]), .str "counts", .int (n : Int)]) S := fun F =>
    comp_map fun d _ => ⟨_, rfl, by
      simp only [bcM, s_eN, s_aCons, s_aNil, s_eC, s_eBin, s_eSl, s_eVar, s_oNone, s_oSome, R.bind_val, List.set_cons_succ, List.set_cons_zero, List.getElem?_cons_zero, List.getElem?_cons_succ, s_slT, ct, s_tupN, s_lstN, List.length_cons, List.length_nil, Nat.reduceAdd, z1, z3, s_true, a0 _ _ lt]⟩
  refine ⟨((cThings cs).map fun x => .lst [x, .str "counts", .non]) ++ (cOdds.map fun x => .lst [.tup ((cs.take n).map D.int ++ [x]), .str "counts", .int (n : Int)]), ?_, fun x hx => ?_, by simp [cThings, cOdds]⟩
  · have A : eBin subD (eN lenN (aCons (eVar 0) aNil)) (eC (.int 1)) [some (.tup (cs.map .int)), none, none, none, none] S = .val (.int (n : Int)) S := by
      simp only [s_eBin, s_eN, s_aCons, s_aNil, s_eVar, s_eC, List.getElem?_cons_zero, R.bind_val, s_lenT, List.length_map, s_subI, el]
    have E2 : eLst (fComp (iIt btE) (gSet 3) bTrue (eN lstN (aCons (eVar 3) (aCons (eC (.str "counts")) (aCons (eC .non) aNil)))) [3]) [some (.tup (cs.map .int)), some (.int (n : Int)), none, none, none] S = .val (.lst ((cThings cs).map fun x => .lst [x, .str "counts", .non])) S := by
      rw [s_eLst, s_fComp, s_iIt, T, R.bind_val, s_itsL]
      dsimp only
      rw [R.bind_val, s_wipe1, s_wipe0]
      simp only [List.set_cons_succ, List.set_cons_zero]
      rw [c1, R.bind_val, s_dec (by simp [cThings]; decide), R.bind_val]
    have E3 : eLst (fComp (iIt boE) (gSet 4) bTrue bcM [4]) [some (.tup (cs.map .int)), some (.int (n : Int)), some (.lst ((cThings cs).map fun x => .lst [x, .str "counts", .non])), none, none] S = .val (.lst (cOdds.map fun x => .lst [.tup ((cs.take n).map D.int ++ [x]), .str "counts", .int (n : Int)])) S := by
      rw [s_eLst, s_fComp, s_iIt, B, R.bind_val, s_itsL]
      dsimp only
      rw [R.bind_val, s_wipe1, s_wipe0]
      simp only [List.set_cons_succ, List.set_cons_zero]
      rw [c2, R.bind_val, s_dec (by simp [cOdds]; decide), R.bind_val]
    rw [bcE, s_def, e0, s_sSeq, s_sSet, A, s_then_val, seq_nx]
    simp only [List.set_cons_succ, List.set_cons_zero]
    rw [s_sSeq, s_sSet, E2, s_then_val, seq_nx]
    simp only [List.set_cons_succ, List.set_cons_zero]
    rw [s_sRet, s_eBin, s_eVar]
    simp only [List.getElem?_cons_zero, List.getElem?_cons_succ]
    rw [R.bind_val, E3, R.bind_val, s_addL, s_dec (by simp [cThings, cOdds]; decide)]
    rfl
  · rcases List.mem_append.mp hx with q | q
    · obtain ⟨t, ht, rfl⟩ := List.mem_map.mp q
      refine ⟨t, .non, rfl, .inl ⟨rfl, ?_⟩⟩
      simp only [cThings, List.mem_cons, List.not_mem_nil, or_false] at ht
      rcases ht with z | z | z | z | z | z | z | z | z <;> subst z
      · exact ⟨rfl, rfl⟩
      · exact ⟨rfl, by show (!decide (0 = n + 1)) = true; rw [decide_eq_false (by omega)]; rfl⟩
      · exact ⟨rfl, rfl⟩
      · exact ⟨rfl, rfl⟩
      · exact ⟨rfl, rfl⟩
      · exact ⟨rfl, rfl⟩
      · exact ⟨rfl, rfl⟩
      · exact ⟨rfl, by show (!decide (((cs.map D.int).drop 1).length = n + 1)) = true; rw [List.length_drop, List.length_map, decide_eq_false (by omega)]; rfl⟩
      · exact ⟨rfl, by show (!decide ((cs.map D.int ++ [D.int 0]).length = n + 1)) = true; rw [List.length_append, List.length_map, List.length_singleton, decide_eq_false (by omega)]; rfl⟩
    · obtain ⟨y, hy, rfl⟩ := List.mem_map.mp q
      have l0 : (cs.take n).length = n := by rw [List.length_take]; omega
      refine ⟨_, _, rfl, .inr ⟨cs.take n, y, rfl, l0, by rw [l0], ?_⟩⟩
      simp only [cOdds, List.mem_cons, List.not_mem_nil, or_false] at hy
      rcases hy with z | z | z | z | z | z <;> subst z <;> exact ⟨rfl, rfl⟩
end K77
namespace K77
open PySem PySem.Spec PyProof.Rows L2 Pv TL
/-! the law's wrong logs -/
def gtE : EM := eN lstN (aCons (eC .non) (aCons (eC (.int 0)) (aCons (eC (.str "log")) (aCons (eC (.bl true)) (aCons (eLst (fN listF (aCons (eVar 1) aNil))) (aCons (eC (.dic [])) (aCons (eBin mulD (eN tupN (aCons (eN tupN (aCons (eC (.int 0)) (aCons (eC (.int 1)) aNil))) aNil)) (eC (.int 101))) aNil)))))))
def goE : EM := eN lstN (aCons (eC .non) (aCons (eC (.int 5)) (aCons (eN tupN aNil) (aCons (eN tupN (aCons (eC (.int 0)) aNil)) (aCons (eN tupN (aCons (eC (.int 0)) (aCons (eC (.int 1)) (aCons (eC (.int 1)) aNil)))) (aCons (eN lstN (aCons (eC (.int 0)) (aCons (eC (.int 1)) aNil))) (aCons (eN tupN (aCons (eBin addD (eN lenN (aCons (eVar 0) aNil)) (eC (.int 1))) (aCons (eC (.int 1)) aNil))) (aCons (eN tupN (aCons (negM (eC (.int 1))) (aCons (eC (.int 1)) aNil))) (aCons (eN tupN (aCons (eC (.int 0)) (aCons (eC (.int 0)) aNil))) (aCons (eN tupN (aCons (eC (.int 0)) (aCons (eC (.int 2)) aNil))) (aCons (eN tupN (aCons (eC (.int 0)) (aCons (eC (.bl true)) aNil))) (aCons (eN tupN (aCons (eC (.bl false)) (aCons (eC (.int 1)) aNil))) (aCons (eN tupN (aCons (eC (.str "0")) (aCons (eC (.int 1)) aNil))) (aCons (eN tupN (aCons (eC (.int 0)) (aCons (eC (.str "+")) aNil))) aNil))))))))))))))
def glM : EM := eN lstN (aCons (eBin addD (eVar 1) (eN tupN (aCons (eVar 6) aNil))) (aCons (eC (.str "log")) (aCons (eVar 2) aNil)))
theorem bgE : m__law_bad_logs = defM 7 (sSeq (sSet 2 (eN lenN (aCons (eVar 1) aNil)))
 (sSeq (sSet 3 (eLst (fComp (iIt gtE) (gSet 5) bTrue (eN lstN (aCons (eVar 5) (aCons (eC (.str "log")) (aCons (eC .non) aNil)))) [5])))
 (sSeq (sSet 4 goE) (sRet (eBin addD (eVar 3) (eLst (fComp (iIt (eVar 4)) (gSet 6) bTrue glM [6]))))))) := rfl
def gThings (es : List En) : List D := [.non, .int 0, .str "log", .bl true, .lst (es.map eD), .dic [], .tup (List.replicate 101 [D.tup [.int 0, .int 1]]).flatten]
def gOdds (n : Nat) : List D := [.non, .int 5, .tup [], .tup [.int 0], .tup [.int 0, .int 1, .int 1], .lst [.int 0, .int 1], .tup [.int ((n : Int) + 1), .int 1], .tup [.int (-1), .int 1], .tup [.int 0, .int 0], .tup [.int 0, .int 2], .tup [.int 0, .bl true], .tup [.bl false, .int 1], .tup [.str "0", .int 1], .tup [.int 0, .str "+"]]
theorem mul101 {S : Sto} : mulD (.tup [.tup [.int 0, .int 1]]) (.int 101) S = .val (.tup (List.replicate 101 [D.tup [.int 0, .int 1]]).flatten) S := by
  unfold mulD
  exact s_dec ⟨by simp, by decide, by decide, by decide⟩ _
theorem bad_logs_ok {ls : List D} {es : List En} {S : Sto} (hl : ∀ e ∈ es, e.1 ≤ ls.length) (h12 : es.length ≤ 12) : ∃ L, m__law_bad_logs [.tup ls, .tup (es.map eD)] S = .val (.lst L) S ∧ (∀ x ∈ L, BadK "log" (LBad ls.length) x) ∧ L.length = 21 := by
  have z0 : decide (0 ≤ sizeLine) = true := by decide
  have z1 : decide (1 ≤ sizeLine) = true := by decide
  have z2 : decide (2 ≤ sizeLine) = true := by decide
  have z3 : decide (3 ≤ sizeLine) = true := by decide
  have z7 : decide (7 ≤ sizeLine) = true := by decide
  have z14 : decide (14 ≤ sizeLine) = true := by decide
  have z15 : 15 ≤ sizeLine := by decide
  have e0 : startD 7 [.tup ls, .tup (es.map eD)] = [some (.tup ls), some (.tup (es.map eD)), none, none, none, none, none] := rfl
  have a0 : ∀ (y : D), addD (.tup (es.map eD)) (.tup [y]) S = .val (.tup (es.map eD ++ [y])) S := fun y => by
    rw [s_addT]
    exact s_dec (Nat.le_trans (show _ ≤ 15 by rw [List.length_singleton, List.length_map]; omega) z15) _
  have T : ∀ x3 x4, gtE [some (.tup ls), some (.tup (es.map eD)), some (.int (es.length : Int)), x3, x4, none, none] S = .val (.lst (gThings es)) S := fun x3 x4 => by
    simp only [gtE, gThings, s_eN, s_aCons, s_aNil, s_eC, s_tupN, s_lstN, R.bind_val, s_eBin, s_eVar, s_eLst, s_fN, s_listT, List.length_cons, List.length_nil, Nat.reduceAdd, List.getElem?_cons_zero, List.getElem?_cons_succ, z1, z2, z7, s_true, mul101]
  have c1 : ∀ x3 x4, compGo (gSet 5) bTrue (eN lstN (aCons (eVar 5) (aCons (eC (.str "log")) (aCons (eC .non) aNil)))) [some (.tup ls), some (.tup (es.map eD)), some (.int (es.length : Int)), x3, x4, none, none] (gThings es) S = .val ((gThings es).map fun x => .lst [x, .str "log", .non]) S := fun x3 x4 =>
    comp_map fun d _ => ⟨_, rfl, by
      simp only [s_eN, s_aCons, s_aNil, s_eC, s_eVar, List.set_cons_succ, List.set_cons_zero, List.getElem?_cons_zero, List.getElem?_cons_succ, R.bind_val, s_lstN, List.length_cons, List.length_nil, Nat.reduceAdd, z3, s_true]⟩
  have B : ∀ x3 x4, goE [some (.tup ls), some (.tup (es.map eD)), some (.int (es.length : Int)), x3, x4, none, none] S = .val (.lst (gOdds ls.length)) S := fun x3 x4 => by
    simp only [goE, gOdds, s_eN, s_aCons, s_aNil, s_eC, s_eBin, s_eVar, s_negM, s_addI, s_lenT, List.getElem?_cons_zero, s_tupN, s_lstN, R.bind_val, List.length_cons, List.length_nil, Nat.reduceAdd, z0, z1, z2, z3, z14, s_true]
  have c2 : ∀ F, compGo (gSet 6) bTrue glM [some (.tup ls), some (.tup (es.map eD)), some (.int (es.length : Int)), some F, some (.lst (gOdds ls.length)), none, none] (gOdds ls.length) S = .val ((gOdds ls.length).map fun x => .lst [.tup (es.map eD ++ [x]), .str "log", .int (es.length : Int)]) S := fun F =>
    comp_map fun d _ => ⟨_, rfl, by
      simp only [glM, s_eN, s_aCons, s_aNil, s_eC, s_eBin, s_eVar, R.bind_val, List.set_cons_succ, List.set_cons_zero, List.getElem?_cons_zero, List.getElem?_cons_succ, s_tupN, s_lstN, List.length_cons, List.length_nil, Nat.reduceAdd, z1, z3, s_true, a0]⟩
  refine ⟨((gThings es).map fun x => .lst [x, .str "log", .non]) ++ ((gOdds ls.length).map fun x => .lst [.tup (es.map eD ++ [x]), .str "log", .int (es.length : Int)]), ?_, fun x hx => ?_, by simp [gThings, gOdds]⟩
  · have A : eN lenN (aCons (eVar 1) aNil) [some (.tup ls), some (.tup (es.map eD)), none, none, none, none, none] S = .val (.int (es.length : Int)) S := by
      simp only [s_eN, s_aCons, s_aNil, s_eVar, List.getElem?_cons_zero, List.getElem?_cons_succ, R.bind_val, s_lenT, List.length_map]
    have E2 : eLst (fComp (iIt gtE) (gSet 5) bTrue (eN lstN (aCons (eVar 5) (aCons (eC (.str "log")) (aCons (eC .non) aNil)))) [5]) [some (.tup ls), some (.tup (es.map eD)), some (.int (es.length : Int)), none, none, none, none] S = .val (.lst ((gThings es).map fun x => .lst [x, .str "log", .non])) S := by
      rw [s_eLst, s_fComp, s_iIt, T, R.bind_val, s_itsL]
      dsimp only
      rw [R.bind_val, s_wipe1, s_wipe0]
      simp only [List.set_cons_succ, List.set_cons_zero]
      rw [c1, R.bind_val, s_dec (by simp [gThings]; decide), R.bind_val]
    have E3 : ∀ F, eLst (fComp (iIt (eVar 4)) (gSet 6) bTrue glM [6]) [some (.tup ls), some (.tup (es.map eD)), some (.int (es.length : Int)), some F, some (.lst (gOdds ls.length)), none, none] S = .val (.lst ((gOdds ls.length).map fun x => .lst [.tup (es.map eD ++ [x]), .str "log", .int (es.length : Int)])) S := fun F => by
      rw [s_eLst, s_fComp, s_iIt, s_eVar]
      simp only [List.getElem?_cons_zero, List.getElem?_cons_succ]
      rw [R.bind_val, s_itsL]
      dsimp only
      rw [R.bind_val, s_wipe1, s_wipe0]
      simp only [List.set_cons_succ, List.set_cons_zero]
      rw [c2, R.bind_val, s_dec (by simp [gOdds]; decide), R.bind_val]
    rw [bgE, s_def, e0, s_sSeq, s_sSet, A, s_then_val, seq_nx]
    simp only [List.set_cons_succ, List.set_cons_zero]
    rw [s_sSeq, s_sSet, E2, s_then_val, seq_nx]
    simp only [List.set_cons_succ, List.set_cons_zero]
    rw [s_sSeq, s_sSet, B, s_then_val, seq_nx]
    simp only [List.set_cons_succ, List.set_cons_zero]
    rw [s_sRet, s_eBin, s_eVar]
    simp only [List.getElem?_cons_zero, List.getElem?_cons_succ]
    rw [R.bind_val, E3, R.bind_val, s_addL, s_dec (by simp [gThings, gOdds]; decide)]
    rfl
  · rcases List.mem_append.mp hx with q | q
    · obtain ⟨t, ht, rfl⟩ := List.mem_map.mp q
      refine ⟨t, .non, rfl, .inl ⟨rfl, ?_⟩⟩
      simp only [gThings, List.mem_cons, List.not_mem_nil, or_false] at ht
      rcases ht with z | z | z | z | z | z | z <;> subst z <;> exact ⟨rfl, rfl⟩
    · obtain ⟨y, hy, rfl⟩ := List.mem_map.mp q
      refine ⟨_, _, rfl, .inr ⟨es, y, rfl, h12, hl, rfl, ?_⟩⟩
      have j0 : joint ls.length (.int 0) = true := by
        show (decide ((0 : Int) ≤ 0) && decide ((0 : Int) ≤ (ls.length : Int))) = true
        rw [decide_eq_true (by omega), decide_eq_true (by omega)]
        rfl
      simp only [gOdds, List.mem_cons, List.not_mem_nil, or_false] at hy
      rcases hy with z | z | z | z | z | z | z | z | z | z | z | z | z | z <;> subst z
      · exact ⟨rfl, (fun a b e => by cases e), rfl⟩
      · exact ⟨rfl, (fun a b e => by cases e), rfl⟩
      · exact ⟨rfl, (fun a b e => by cases e), rfl⟩
      · exact ⟨rfl, (fun a b e => by cases e), rfl⟩
      · exact ⟨rfl, (fun a b e => by cases e), rfl⟩
      · exact ⟨rfl, (fun a b e => by cases e), rfl⟩
      · refine ⟨rfl, (fun a b e => by cases e; exact ⟨rfl, rfl⟩), ?_⟩
        have : joint ls.length (.int ((ls.length : Int) + 1)) = false := by
          show (decide ((0 : Int) ≤ (ls.length : Int) + 1) && decide ((ls.length : Int) + 1 ≤ (ls.length : Int))) = false
          rw [decide_eq_false (show ¬ (ls.length : Int) + 1 ≤ (ls.length : Int) by omega), Bool.and_false]
        show (!(joint ls.length (.int ((ls.length : Int) + 1))) || _) = true
        rw [this]
        rfl
      · exact ⟨rfl, (fun a b e => by cases e; exact ⟨rfl, rfl⟩), rfl⟩
      · refine ⟨rfl, (fun a b e => by cases e; exact ⟨rfl, rfl⟩), ?_⟩
        show (!(joint ls.length (.int 0)) || _) = true
        rw [j0]
        rfl
      · refine ⟨rfl, (fun a b e => by cases e; exact ⟨rfl, rfl⟩), ?_⟩
        show (!(joint ls.length (.int 0)) || _) = true
        rw [j0]
        rfl
      · refine ⟨rfl, (fun a b e => by cases e; exact ⟨rfl, rfl⟩), ?_⟩
        show (!(joint ls.length (.int 0)) || _) = true
        rw [j0]
        rfl
      · exact ⟨rfl, (fun a b e => by cases e; exact ⟨rfl, rfl⟩), rfl⟩
      · exact ⟨rfl, (fun a b e => by cases e; exact ⟨rfl, rfl⟩), rfl⟩
      · refine ⟨rfl, (fun a b e => by cases e; exact ⟨rfl, rfl⟩), ?_⟩
        show (!(joint ls.length (.int 0)) || _) = true
        rw [j0]
        rfl
end K77
namespace K77
open PySem PySem.Spec PyProof.Rows L2 Pv TL
/-! what is refused, heard -/
theorem e_line : E4 "InvalidLine" "line" := .inl ⟨rfl, rfl⟩
theorem e_counts : E4 "InvalidCounts" "counts" := .inr (.inl ⟨rfl, rfl⟩)
theorem e_log : E4 "InvalidLog" "log" := .inr (.inr (.inl ⟨rfl, rfl⟩))
theorem e_text : E4 "InvalidText" "text" := .inr (.inr (.inr ⟨rfl, rfl⟩))
theorem rk0 {f : Str} {F : PN} {a b x : D} (ht : tab__law_heard_call f = some (2, F)) (hF : ∀ (d i y : D) (r : List D) (S : Sto), okv d → wrongs d 1 12 = i :: r → F [d, y] S = .exn ⟨"InvalidLine", [("index", i)]⟩ S) (h : Bad x) : Rk f a b 0 x := by
  obtain ⟨thing, kept, r, rfl, ok, hw, hk⟩ := h
  exact ⟨thing, kept, "line", rfl, hk, fun S hS => heard_all ht e_line (hF thing kept b r S ok hw) (Kept.noExc hk) hS⟩
theorem r2_ok {f : Str} {F : PN} {x y : D} (ht : tab__law_heard_call f = some (2, F)) (hF : ∀ (d i y : D) (r : List D) (S : Sto), okv d → wrongs d 1 12 = i :: r → F [d, y] S = .exn ⟨"InvalidLine", [("index", i)]⟩ S) (h : Bad x) : R2 f x y := by
  obtain ⟨thing, kept, r, rfl, ok, hw, hk⟩ := h
  intro t1 k1 t2 k2 w1 w2 e1 _ S hS
  injection e1 with e1
  injection e1 with p1 e1
  injection e1 with p2 e1
  injection e1 with p3 e1
  injection p2 with p2
  subst p1 p2 p3
  exact heard_all ht e_line (hF thing kept t2 r S ok hw) (Kept.noExc hk) hS
theorem rk1 {f w c : Str} {F : PN} {a b x : D} {C : D → D → Prop} (ht : tab__law_heard_call f = some (2, F)) (hc : E4 c w) (hC : ∀ t k, C t k → Kept k ∧ ∀ S : Sto, S.all noExcC = true → F [a, t] S = .exn ⟨c, [("index", k)]⟩ S) (h : BadK w C x) : Rk f a b 1 x := by
  obtain ⟨t, k, rfl, hk⟩ := h
  obtain ⟨h1, h2⟩ := hC t k hk
  exact ⟨t, k, w, rfl, h1, fun S hS => heard_all ht hc (h2 S hS) h1.noExc hS⟩
theorem kept_c {n : Nat} {t k : D} (hn : n ≤ 12) (h : CBad n t k) : Kept k := by
  rcases h with ⟨rfl, _⟩ | ⟨cs, y, _, h1, rfl, _⟩
  · exact .inl rfl
  · exact .inr ⟨cs.length, by omega, rfl⟩
theorem kept_l {n : Nat} {t k : D} (h : LBad n t k) : Kept k := by
  rcases h with ⟨rfl, _⟩ | ⟨es, y, _, h1, _, rfl, _⟩
  · exact .inl rfl
  · exact .inr ⟨es.length, h1, rfl⟩
/-- texts that are none -/
def TBad (rd : Str → Sum Nat (List D)) (t k : D) : Prop := (k = .non ∧ pl t = true ∧ isStr t = false) ∨ (∃ (s : Str) (j : Nat), t = .str s ∧ k = .int (j : Int) ∧ j ≤ 12 ∧ Tx s ∧ rd s = .inl j)
theorem kept_t {rd : Str → Sum Nat (List D)} {t k : D} (h : TBad rd t k) : Kept k := by
  rcases h with ⟨rfl, _⟩ | ⟨s, j, _, rfl, h1, _⟩
  · exact .inl rfl
  · exact .inr ⟨j, h1, rfl⟩
theorem rc_tbad {ss : List Sec} {t k : D} {S : Sto} (hl : Ln ss) (h : TBad (rcS ss.length) t k) : m_read_counts [.tup (ss.map sD), t] S = .exn ⟨"InvalidText", [("index", k)]⟩ S := by
  rcases h with ⟨rfl, h1, h2⟩ | ⟨s, j, rfl, rfl, h1, h2, h3⟩
  · exact read_counts_odd hl h1 h2
  · have r := read_counts_ok (S := S) hl h2
    rw [h3] at r
    exact r
theorem rl_tbad {ss : List Sec} {t k : D} {S : Sto} (hl : Ln ss) (hS : S.all noExcC = true) (h : TBad (rlS ss.length) t k) : m_read_log [.tup (ss.map sD), t] S = .exn ⟨"InvalidText", [("index", k)]⟩ S := by
  rcases h with ⟨rfl, h1, h2⟩ | ⟨s, j, rfl, rfl, h1, h2, h3⟩
  · exact read_log_odd hl h1 h2
  · have r := read_log_ok (S := S) hS hl h2
    rw [h3] at r
    exact r
theorem all_sh {x : Str} {n : Nat} (h : x.length ≤ n) (h2 : (tl x).all (fun c => decide (c < 128)) = true) : Sh n x := ⟨h, fun c hc => of_decide_eq_true (List.all_eq_true.mp h2 c hc)⟩
theorem tx_all {x : Str} (h : x.length ≤ 330) (h2 : (tl x).all (fun c => decide (c < 128)) = true) : Tx x := (all_sh h h2).tx (Nat.le_refl _)
theorem rdG_0 {rdr : Str → D} {most : Nat} {w : Str} {ws : List Str} (h : (rdr w).isNon = true) : rdG rdr most 0 (w :: ws) [] = .inl 0 := by
  unfold rdG
  rw [if_pos (.inl h)]
theorem rdG_1 {rdr : Str → D} {most : Nat} {v w : Str} {ws : List Str} (h0 : (rdr v).isNon = false) (hm : 0 < most) (h : (rdr w).isNon = true) : rdG rdr most 0 (v :: w :: ws) [] = .inl 1 := by
  unfold rdG
  rw [if_neg (by
    rintro (z | z)
    · rw [h0] at z
      cases z
    · omega)]
  unfold rdG
  rw [if_pos (.inl h)]
theorem sp_x : Txt.split ("x" : Str) " " = [("x" : Str)] := by decide +kernel
theorem sp_0x : Txt.split ("0 x" : Str) " " = [("0" : Str), "x"] := by decide +kernel
theorem sp_0px : Txt.split ("0+ x" : Str) " " = [("0+" : Str), "x"] := by decide +kernel
theorem num_x : (numR "x").isNon = true := by decide +kernel
theorem num_0 : (numR "0").isNon = false := by decide +kernel
theorem ent_x (n : Nat) : (entO n "x").isNon = true := by
  have h : entR "x" = .non := by
    have t : tl ("x" : Str) = [120] := by decide +kernel
    unfold entR
    rw [t]
    rfl
  unfold entO
  rw [h]
  rfl
theorem ent_0 (n : Nat) (h12 : n ≤ 12) : (entO n "0+").isNon = false := by
  have e : eW (0, true) = "0+" := by decide +kernel
  have := entO_eW (n := n) (e := (0, true)) (Nat.zero_le _) h12
  rw [e] at this
  rw [this]
  rfl
theorem rc_x (n : Nat) : rcS n "x" = .inl 0 := by
  unfold rcS
  rw [sp_x, rdG_0 num_x]
theorem rc_0x (n : Nat) : rcS n "0 x" = .inl 1 := by
  unfold rcS
  rw [sp_0x, rdG_1 num_0 (Nat.succ_pos _) num_x]
theorem rl_x (n : Nat) : rlS n "x" = .inl 0 := by
  unfold rlS
  rw [if_neg (by decide +kernel), sp_x, rdG_0 (ent_x n)]
theorem rl_0x {n : Nat} (h : n ≤ 12) : rlS n "0+ x" = .inl 1 := by
  unfold rlS
  rw [if_neg (by decide +kernel), sp_0px, rdG_1 (ent_0 n h) (by decide) (ent_x n)]
def odd6 : List D := [.non, .int 0, .bl true, .lst [], .tup [.str "0"], .dic []]
def txs6 : List D := odd6.map fun x => .lst [x, .str "text", .non]
def txsC : List D := txs6 ++ [.lst [.str "x", .str "text", .int 0], .lst [.str "0 x", .str "text", .int 1]]
def txsL : List D := txs6 ++ [.lst [.str "x", .str "text", .int 0], .lst [.str "0+ x", .str "text", .int 1]]
theorem txs6_bad {rd : Str → Sum Nat (List D)} : ∀ x ∈ txs6, BadK "text" (TBad rd) x := by
  intro x hx
  obtain ⟨d, hd, rfl⟩ := List.mem_map.mp hx
  refine ⟨d, .non, rfl, .inl ⟨rfl, ?_⟩⟩
  simp only [odd6, List.mem_cons, List.not_mem_nil, or_false] at hd
  rcases hd with z | z | z | z | z | z <;> subst z <;> exact ⟨rfl, rfl⟩
theorem txsC_bad {n : Nat} : ∀ x ∈ txsC, BadK "text" (TBad (rcS n)) x := by
  intro x hx
  rcases List.mem_append.mp hx with q | q
  · exact txs6_bad x q
  · simp only [List.mem_cons, List.not_mem_nil, or_false] at q
    rcases q with z | z <;> subst z
    · exact ⟨_, _, rfl, .inr ⟨"x", 0, rfl, rfl, by decide, tx_all (by decide +kernel) (by decide +kernel), rc_x n⟩⟩
    · exact ⟨_, _, rfl, .inr ⟨"0 x", 1, rfl, rfl, by decide, tx_all (by decide +kernel) (by decide +kernel), rc_0x n⟩⟩
theorem txsL_bad {n : Nat} (h : n ≤ 12) : ∀ x ∈ txsL, BadK "text" (TBad (rlS n)) x := by
  intro x hx
  rcases List.mem_append.mp hx with q | q
  · exact txs6_bad x q
  · simp only [List.mem_cons, List.not_mem_nil, or_false] at q
    rcases q with z | z <;> subst z
    · exact ⟨_, _, rfl, .inr ⟨"x", 0, rfl, rfl, by decide, tx_all (by decide +kernel) (by decide +kernel), rl_x n⟩⟩
    · exact ⟨_, _, rfl, .inr ⟨"0+ x", 1, rfl, rfl, by decide, tx_all (by decide +kernel) (by decide +kernel), rl_0x h⟩⟩
/-! the four of them -/
section
variable {S0 S : Sto} {n : Nat} {ss : List Sec} {A B : List D} {b : D}
theorem ref_ct (P : Pool S0 n S) (hn : n ≤ 700000) (h0 : S0.all noExcC = true) (hl : Ln ss) (hA : ∀ x ∈ A, Bad x) (lA : A.length = 23) (hB : ∀ x ∈ B, BadK "counts" (CBad ss.length) x) (lB : B.length = 15) (ht : ∀ S : Sto, ∃ v, m_counts_text [.tup (ss.map sD), b] S = .val v S) :
    ∃ S', m__law_refused_right [.ref S0.length, .fn "counts_text", .tup [.tup (ss.map sD), b], .lst [.lst A, .lst B]] S = .val (.bl true) S' ∧ Pool S0 (n + 300) S' :=
  refused_ok P hn h0 (fun x hx => rk0 tab_ct (fun d i y r S ok hw => ct_bad ok hw) (hA x hx)) (fun x hx => rk1 tab_ct e_counts (fun t k h => ⟨kept_c hl.hi h, fun S _ => counts_bad hl h⟩) (hB x hx)) (fun x hx y _ => r2_ok tab_ct (fun d i y r S ok hw => ct_bad ok hw) (hA x hx)) (by omega) (by omega) (fun z => by rw [z] at lA; cases lA) (fun z => by rw [z] at lB; cases lB)
    fun S hS => by
      obtain ⟨v, e⟩ := ht S
      exact heard_val tab_ct e
theorem ref_lt (P : Pool S0 n S) (hn : n ≤ 700000) (h0 : S0.all noExcC = true) (hl : Ln ss) (hA : ∀ x ∈ A, Bad x) (lA : A.length = 23) (hB : ∀ x ∈ B, BadK "log" (LBad ss.length) x) (lB : B.length = 21) (ht : ∀ S : Sto, ∃ v, m_log_text [.tup (ss.map sD), b] S = .val v S) :
    ∃ S', m__law_refused_right [.ref S0.length, .fn "log_text", .tup [.tup (ss.map sD), b], .lst [.lst A, .lst B]] S = .val (.bl true) S' ∧ Pool S0 (n + 300) S' :=
  refused_ok P hn h0 (fun x hx => rk0 tab_lt (fun d i y r S ok hw => lt_bad ok hw) (hA x hx)) (fun x hx => rk1 tab_lt e_log (fun t k h => ⟨kept_l h, fun S _ => logs_bad hl h⟩) (hB x hx)) (fun x hx y _ => r2_ok tab_lt (fun d i y r S ok hw => lt_bad ok hw) (hA x hx)) (by omega) (by omega) (fun z => by rw [z] at lA; cases lA) (fun z => by rw [z] at lB; cases lB)
    fun S hS => by
      obtain ⟨v, e⟩ := ht S
      exact heard_val tab_lt e
theorem ref_rc (P : Pool S0 n S) (hn : n ≤ 700000) (h0 : S0.all noExcC = true) (hl : Ln ss) (hA : ∀ x ∈ A, Bad x) (lA : A.length = 23) (ht : ∀ S : Sto, ∃ v, m_read_counts [.tup (ss.map sD), b] S = .val v S) :
    ∃ S', m__law_refused_right [.ref S0.length, .fn "read_counts", .tup [.tup (ss.map sD), b], .lst [.lst A, .lst txsC]] S = .val (.bl true) S' ∧ Pool S0 (n + 300) S' :=
  refused_ok P hn h0 (fun x hx => rk0 tab_counts (fun d i y r S ok hw => rc_bad ok hw) (hA x hx)) (fun x hx => rk1 tab_counts e_text (fun t k h => ⟨kept_t h, fun S _ => rc_tbad hl h⟩) (txsC_bad x hx)) (fun x hx y _ => r2_ok tab_counts (fun d i y r S ok hw => rc_bad ok hw) (hA x hx)) (by omega) (by decide) (fun z => by rw [z] at lA; cases lA) (fun z => by cases z)
    fun S hS => by
      obtain ⟨v, e⟩ := ht S
      exact heard_val tab_counts e
theorem ref_rl (P : Pool S0 n S) (hn : n ≤ 700000) (h0 : S0.all noExcC = true) (hl : Ln ss) (hA : ∀ x ∈ A, Bad x) (lA : A.length = 23) (ht : ∀ S : Sto, S.all noExcC = true → ∃ v, m_read_log [.tup (ss.map sD), b] S = .val v S) :
    ∃ S', m__law_refused_right [.ref S0.length, .fn "read_log", .tup [.tup (ss.map sD), b], .lst [.lst A, .lst txsL]] S = .val (.bl true) S' ∧ Pool S0 (n + 300) S' :=
  refused_ok P hn h0 (fun x hx => rk0 tab_log (fun d i y r S ok hw => rl_bad ok hw) (hA x hx)) (fun x hx => rk1 tab_log e_text (fun t k h => ⟨kept_t h, fun S hS => rl_tbad hl hS h⟩) (txsL_bad hl.hi x hx)) (fun x hx y _ => r2_ok tab_log (fun d i y r S ok hw => rl_bad ok hw) (hA x hx)) (by omega) (by decide) (fun z => by rw [z] at lA; cases lA) (fun z => by cases z)
    fun S hS => by
      obtain ⟨v, e⟩ := ht S hS
      exact heard_val tab_log e
end
end K77
namespace K77
open PySem PySem.Spec PyProof.Rows L2 Pv TL
/-- what a word says -/
def secOf (ps : List Str) : D := match ps with
  | [p, q] => (match wholeL (tl p), wholeL (tl q) with
    | some b, some r => if (b : Int) ≤ (r : Int) then .tup [.int b, .int r] else .non
    | some b, none => if q = "-" then .tup [.int b, .non] else .non
    | none, _ => .non)
  | _ => .non
def secD (w : Str) : D := secOf (Txt.split w "/")
theorem part_len {w p : Str} {n : Nat} (h : p ∈ Txt.split w "/") (hl : w.length ≤ n) : p.length ≤ n := Nat.le_trans (part_short h) hl
theorem s_wN {o : Option Nat} : D.isNon (wNum o) = decide (o = none) := by cases o <;> rfl
theorem lenb : (("/" : Str).length == 0) = false := by decide
theorem section_in_ok {w : Str} {S : Sto} (hl : w.length ≤ 640) : m_section_in [.str w] S = .val (secD w) S := by
  have hs : w.length + 2 ≤ sizeLine := Nat.le_trans (Nat.add_le_add_right hl 2) (Nat.le_trans (by decide) big)
  have h2 : 2 ≤ sizeLine := by decide
  have hp : ∀ p ∈ Txt.split w "/", p.length ≤ 640 := fun p h => part_len h hl
  unfold secD
  generalize hps : Txt.split w "/" = ps at hp
  match ps, hp with
  | [], _ => simp [m_section_in, s_def, startD, hs, lenb, hps, secOf]
  | [_], _ => simp [m_section_in, s_def, startD, hs, lenb, hps, secOf]
  | _ :: _ :: _ :: r, _ =>
    have : ¬ ((r.length : Int) + 1 + 1 + 1 = 2) := by omega
    simp [m_section_in, s_def, startD, hs, lenb, hps, secOf, this]
  | [p, q], hp =>
    have w1 : ∀ S, m_whole_in [.str p] S = .val (wNum (wholeL (tl p))) S := fun S => whole_ok (hp p (by simp))
    have w2 : ∀ S, m_whole_in [.str q] S = .val (wNum (wholeL (tl q))) S := fun S => whole_ok (hp q (by simp))
    cases hb : wholeL (tl p) with
    | none => simp [m_section_in, s_def, startD, hs, lenb, hps, secOf, s_ixL, w1, w2, hb, wNum]
    | some b =>
      cases hr : wholeL (tl q) with
      | none =>
        by_cases hd : (q = "-") = True
        · simp [m_section_in, s_def, startD, hs, lenb, hps, secOf, s_ixL, w1, w2, hb, hr, wNum, hd, h2]
        · have hd' : (q = "-") = False := by simpa using hd
          simp [m_section_in, s_def, startD, hs, lenb, hps, secOf, s_ixL, w1, w2, hb, hr, wNum, hd']
      | some r =>
        by_cases hle : (b : Int) ≤ (r : Int)
        · have hle' : b ≤ r := by omega
          simp [m_section_in, s_def, startD, hs, lenb, hps, secOf, s_ixL, w1, w2, hb, hr, wNum, hle', h2]
        · have hle' : ¬ b ≤ r := by omega
          simp [m_section_in, s_def, startD, hs, lenb, hps, secOf, s_ixL, w1, w2, hb, hr, wNum, hle']
end K77
namespace K77
open PySem PySem.Spec PyProof.Rows L2 Pv TL
/-! lines, told and read -/
theorem call_section {w : Str} {Γ : Env'} {S : Sto} (hl : w.length ≤ 640) (h2 : Γ[2]? = some (some (.fn "section_in"))) (h5 : Γ[5]? = some (some (.str w))) : eCallU 2 tab_read_words_read tabC_read_words_read (aCons (eVar 5) aNil) Γ S = .val (secD w) S := by
  have ht : tab_read_words_read "section_in" = some (1, m_section_in) := by
    unfold tab_read_words_read
    rw [if_neg (by decide), if_pos rfl]
  unfold eCallU
  rw [h2]
  dsimp only
  rw [ht]
  dsimp only
  rw [s_aCons, s_eVar, h5]
  dsimp only
  rw [R.bind_val, s_aNil, R.bind_val, R.bind_val, s_callN, s_dec (show [D.str w].length = 1 from rfl), section_in_ok hl]
def rnS (t : Str) : Sum Nat (List D) := rdG secD 12 0 (Txt.split t " ") []
theorem line_in_ok {t : Str} {S : Sto} (h : Tx t) : m_line_in [.str t] S = .val (match rnS t with | .inl j => .tup [.tup [], .int j] | .inr g => .tup [.tup g, .non]) S := by
  have e0 : startD 1 [.str t] = [some (.str t)] := rfl
  have rw1 := read_words_ok (S := S) (rf := .fn "section_in") (rdr := secD) (most := 12) (ws := Txt.split t " ") (fun w hw Γ h2 h5 => call_section (h.wd6 w hw) h2 h5) h.many
  have rw2 : m_read_words [.lst ((Txt.split t " ").map .str), .int 12, .fn "section_in"] S = .val (match rdG secD 12 0 (Txt.split t " ") [] with | .inl j => .tup [.tup [], .int j] | .inr g => .tup [.tup g, .non]) S := rw1
  have sp := split_ok (i := 0) (Γ := [some (.str t)]) (S := S) h rfl
  unfold m_line_in
  rw [s_def, e0, s_sRet, s_eN, s_aCons, sp, R.bind_val]
  simp only [s_aCons, s_aNil, s_eC, R.bind_val, s_callN, List.length_cons, List.length_nil, Nat.reduceAdd, decide_true, s_true, rw2, s_then_val, s_endR]
  rfl
theorem read_line_ok {t : Str} {g : List D} {S : Sto} (h : Tx t) (hr : rnS t = .inr g) : m_read_line [.str t] S = .val (.tup g) S := by
  have e0 : startD 3 [.str t] = [some (.str t), none, none] := rfl
  have li := line_in_ok (S := S) h
  rw [hr] at li
  dsimp only at li
  have ct := check_text_ok (t := t) (S := S)
  unfold m_read_line
  rw [s_def, e0]
  simp only [s_sSeq, s_sDrop, s_eN, s_aCons, s_aNil, s_eVar, List.getElem?_cons_zero, List.getElem?_cons_succ, R.bind_val, s_callN, List.length_cons, List.length_nil, Nat.reduceAdd, decide_true, s_true, ct, s_then_val, seq_nx, s_sAsg, li, s_gSeqT, s_gCons, s_gSet, s_gNil, List.set_cons_succ, List.set_cons_zero, check_read_non, s_sRet, s_endR]
/-! drawn sections -/
theorem whole20 : ∀ j : Nat, j < 20 → wholeL (tl (nS j)) = some j := by decide +kernel
theorem sec_dash : ∀ b : Nat, b < 10 → Txt.split (nS b ++ "/" ++ ("-" : Str)) "/" = [nS b, ("-" : Str)] := by decide +kernel
theorem sec_room : ∀ b : Nat, b < 10 → ∀ r : Nat, r < 20 → Txt.split (nS b ++ "/" ++ nS r) "/" = [nS b, nS r] := by decide +kernel
theorem dash_none : wholeL (tl ("-" : Str)) = none := by decide +kernel
theorem sec_sh1 : ∀ b : Nat, b < 10 → (decide ((nS b ++ "/" ++ ("-" : Str)).length ≤ 5) && (tl (nS b ++ "/" ++ ("-" : Str))).all (fun c => decide (c < 128) && decide (c ≠ 32))) = true := by decide +kernel
theorem sec_sh2 : ∀ b : Nat, b < 10 → ∀ r : Nat, r < 20 → (decide ((nS b ++ "/" ++ nS r).length ≤ 5) && (tl (nS b ++ "/" ++ nS r)).all (fun c => decide (c < 128) && decide (c ≠ 32))) = true := by decide +kernel
theorem sec_near {s : Sec} (h : near s) : secD (sW s) = sD s := by
  obtain ⟨b, o⟩ := s
  obtain ⟨h1, h2⟩ := h
  have h1 : b ≤ 9 := h1
  cases o with
  | none =>
    show secOf (Txt.split (nS b ++ "/" ++ ("-" : Str)) "/") = _
    rw [sec_dash b (by omega)]
    unfold secOf
    dsimp only
    rw [whole20 b (by omega), dash_none]
    rfl
  | some r =>
    obtain ⟨h3, h4⟩ := h2 r rfl
    have h3 : b ≤ r := h3
    show secOf (Txt.split (nS b ++ "/" ++ nS r) "/") = _
    rw [sec_room b (by omega) r (by omega)]
    unfold secOf
    dsimp only
    rw [whole20 b (by omega), whole20 r (by omega)]
    dsimp only
    rw [if_pos (by omega)]
    rfl
theorem sW_sh {s : Sec} (h : near s) : Sh 5 (sW s) ∧ 32 ∉ tl (sW s) := by
  have go : ∀ w : Str, (decide (w.length ≤ 5) && (tl w).all (fun c => decide (c < 128) && decide (c ≠ 32))) = true → Sh 5 w ∧ 32 ∉ tl w := fun w q => by
    rw [Bool.and_eq_true] at q
    have q1 := List.all_eq_true.mp q.2
    refine ⟨⟨of_decide_eq_true q.1, fun c hc => ?_⟩, fun hc => ?_⟩
    · have := q1 c hc
      rw [Bool.and_eq_true] at this
      exact of_decide_eq_true this.1
    · have := q1 32 hc
      rw [Bool.and_eq_true] at this
      exact absurd rfl (of_decide_eq_true this.2)
  obtain ⟨b, o⟩ := s
  obtain ⟨h1, h2⟩ := h
  have h1 : b ≤ 9 := h1
  cases o with
  | none => exact go _ (sec_sh1 b (by omega))
  | some r =>
    obtain ⟨h3, h4⟩ := h2 r rfl
    exact go _ (sec_sh2 b (by omega) r (by omega))
theorem tW_sh {ss : List Sec} (h : ∀ s ∈ ss, near s) (hn : ss.length ≤ 12) : Sh 300 (tW ss) := by
  refine sh_sum (fun w hw c hc => ?_) ?_
  · obtain ⟨x, hx, rfl⟩ := List.mem_map.mp hw
    exact (sW_sh (h x hx)).1.asc c hc
  · rw [List.length_map, List.map_map]
    have := sum_le (l := ss) (f := (fun w : Str => w.length) ∘ sW) (k := 5) fun x hx => (sW_sh (h x hx)).1.len
    omega
theorem tW_split {ss : List Sec} (h : ∀ s ∈ ss, near s) (hne : ss ≠ []) : Txt.split (tW ss) " " = ss.map sW := split_join (y := " ") (s := 32) (S := []) tS (by decide +kernel) (by simpa using hne) fun p hp => by
  obtain ⟨x, hx, rfl⟩ := List.mem_map.mp hp
  exact (sW_sh (h x hx)).2
theorem read_near {ss : List Sec} {S : Sto} (h : ∀ s ∈ ss, near s) (h1 : 1 ≤ ss.length) (h12 : ss.length ≤ 12) : m_read_line [.str (tW ss)] S = .val (.tup (ss.map sD)) S := by
  refine read_line_ok ((tW_sh h h12).tx (by decide)) ?_
  have hne : ss ≠ [] := fun z => by rw [z] at h1; cases h1
  unfold rnS
  rw [tW_split h hne, rdG_of (fun w hw => by
    obtain ⟨s, hs, rfl⟩ := List.mem_map.mp hw
    rw [sec_near (h s hs)]
    rfl) (by rw [List.length_map]; omega), List.nil_append, List.map_map]
  congr 1
  exact List.map_congr_left fun s hs => sec_near (h s hs)
theorem ln_near {ss : List Sec} (h : ∀ s ∈ ss, near s) (h1 : 1 ≤ ss.length) (h2 : ss.length ≤ 12) : Ln ss := ⟨fun s hs r hr => ((h s hs).2 r hr).1, h1, h2⟩
theorem line_near {ss : List Sec} {S : Sto} (h : ∀ s ∈ ss, near s) (h1 : 1 ≤ ss.length) (h12 : ss.length ≤ 12) : m_line_text [.tup (ss.map sD)] S = .val (.str (tW ss)) S := by
  have nb := nb1000
  refine line_text_ok (fun s hs => ⟨⟨?_, fun r hr => ?_⟩, fun r hr => ((h s hs).2 r hr).1⟩) h1 h12
  · have := (h s hs).1
    omega
  · have := ((h s hs).2 r hr).2
    omega
end K77
namespace K77
open PySem PySem.Spec PyProof.Rows L2 Pv TL
def sumAt (es : List En) (j : Nat) : Int := ((es.filter fun e => e.1 == j).map fun e => stepI e.2).sum
def sums (n : Nat) (es : List En) : List Int := (List.range (n + 1)).map (sumAt es)
theorem sums_len (n : Nat) (es : List En) : (sums n es).length = n + 1 := by
  unfold sums
  rw [List.length_map, List.length_range]
theorem sums_get {n : Nat} {es : List En} {j : Nat} (h : j ≤ n) : (sums n es)[j]? = some (sumAt es j) := by
  unfold sums
  rw [List.getElem?_map, List.getElem?_range (by omega)]
  rfl
theorem sumAt_snoc (es : List En) (e : En) (j : Nat) : sumAt (es ++ [e]) j = sumAt es j + (if e.1 == j then stepI e.2 else 0) := by
  unfold sumAt
  rw [List.filter_append, List.map_append, List.sum_append]
  congr 1
  by_cases h : (e.1 == j) = true
  · rw [if_pos h]
    simp only [List.filter_cons, List.filter_nil, h, if_true, List.map_cons, List.map_nil, List.sum_cons, List.sum_nil, Int.add_zero]
  · rw [if_neg h]
    simp only [List.filter_cons, List.filter_nil, h, if_false, List.map_nil, List.sum_nil, Bool.false_eq_true]
theorem sums_snoc {n : Nat} {es : List En} {e : En} (h : e.1 ≤ n) : (sums n es).set e.1 (sumAt es e.1 + stepI e.2) = sums n (es ++ [e]) := by
  refine List.ext_getElem? fun i => ?_
  by_cases hi : i ≤ n
  · rw [sums_get hi, sumAt_snoc]
    by_cases he : e.1 = i
    · subst he
      rw [List.getElem?_set_self (by rw [sums_len]; omega), if_pos (beq_self_eq_true _)]
    · rw [List.getElem?_set_ne he, sums_get hi, if_neg (by simpa using he), Int.add_zero]
  · rw [List.getElem?_eq_none (by rw [List.length_set, sums_len]; omega), List.getElem?_eq_none (by rw [sums_len]; omega)]
def cbB : SM := sAsg (eBin addD (eLend (eBin ixD (eVar 3) (eVar 4))) (eVar 5)) (gOwn 3 (eVar 4))
def cbG : GM := gSeq 2 (gConsM (gSet 4) (gConsM (gSet 5) gNilM))
theorem cb_step {n : Nat} {l lg nm : D} {pre : List En} {e : En} {a b : Option D} {S : Sto} (hS : S.all noLstC = true) (h : e.1 ≤ n) :
    ∃ Γ1, cbG (eD e) [some l, some lg, some nm, some (.lst ((sums n pre).map .int)), a, b] S = .val Γ1 S ∧ cbB Γ1 S = .nx [some l, some lg, some nm, some (.lst ((sums n (pre ++ [e])).map .int)), some (.int (e.1 : Int)), some (.int (stepI e.2))] S := by
  refine ⟨[some l, some lg, some nm, some (.lst ((sums n pre).map .int)), some (.int (e.1 : Int)), some (.int (stepI e.2))], rfl, ?_⟩
  have ix : L2.atI ((sums n pre).map D.int) (e.1 : Int) = some (.int (sumAt pre e.1)) := atI_nat (by omega) (by rw [Int.toNat_natCast, List.getElem?_map, sums_get h]; rfl)
  have ld : eLend (eBin ixD (eVar 3) (eVar 4)) [some l, some lg, some nm, some (.lst ((sums n pre).map .int)), some (.int (e.1 : Int)), some (.int (stepI e.2))] S = .val (.int (sumAt pre e.1)) S := by
    have e1 : eBin ixD (eVar 3) (eVar 4) [some l, some lg, some nm, some (.lst ((sums n pre).map .int)), some (.int (e.1 : Int)), some (.int (stepI e.2))] S = .val (.int (sumAt pre e.1)) S := by
      simp only [s_eBin, s_eVar, List.getElem?_cons_zero, List.getElem?_cons_succ, R.bind_val, s_ixL, ix]
    unfold eLend
    rw [e1]
    exact s_if (by rw [hS]; rfl) _
  have gw : ∀ z : Int, gOwn 3 (eVar 4) (.int z) [some l, some lg, some nm, some (.lst ((sums n pre).map .int)), some (.int (e.1 : Int)), some (.int (stepI e.2))] S = .val [some l, some lg, some nm, some (.lst (((sums n pre).map .int).set e.1 (.int z))), some (.int (e.1 : Int)), some (.int (stepI e.2))] S := fun z => by
    have hx : ixN ((sums n pre).map D.int).length (e.1 : Int) = some e.1 := by
      unfold ixN
      rw [if_pos (by omega), List.length_map, sums_len, if_pos (by omega), Int.toNat_natCast]
    unfold gOwn
    rw [s_eVar]
    simp only [List.getElem?_cons_zero, List.getElem?_cons_succ, R.bind_val, hx, List.set_cons_succ, List.set_cons_zero]
  unfold cbB
  rw [s_sAsg, s_eBin, ld, R.bind_val, s_eVar]
  simp only [List.getElem?_cons_zero, List.getElem?_cons_succ, R.bind_val, s_addI, s_then_val, gw]
  have : ((sums n pre).map D.int).set e.1 (.int (sumAt pre e.1 + stepI e.2)) = (sums n (pre ++ [e])).map D.int := by
    rw [← sums_snoc h, List.map_set]
  rw [this]
theorem cb_loop {n : Nat} {l lg nm : D} {S : Sto} (hS : S.all noLstC = true) : ∀ (es pre : List En) (a b : Option D), (∀ e ∈ es, e.1 ≤ n) → ∃ a' b', forGo cbG cbB (es.map eD) [some l, some lg, some nm, some (.lst ((sums n pre).map .int)), a, b] S = .nx [some l, some lg, some nm, some (.lst ((sums n (pre ++ es)).map .int)), a', b'] S
  | [], pre, a, b, _ => ⟨a, b, by rw [List.append_nil]; rfl⟩
  | e :: es, pre, a, b, h => by
    obtain ⟨Γ1, e1, e2⟩ := cb_step (l := l) (lg := lg) (nm := nm) (pre := pre) (a := a) (b := b) hS (h e List.mem_cons_self)
    obtain ⟨a', b', ih⟩ := cb_loop (n := n) (l := l) (lg := lg) (nm := nm) hS es (pre ++ [e]) (some (.int (e.1 : Int))) (some (.int (stepI e.2))) fun x hx => h x (List.mem_cons_of_mem _ hx)
    refine ⟨a', b', ?_⟩
    rw [List.map_cons, s_for1, e1]
    dsimp only
    rw [e2]
    dsimp only
    rw [ih, List.append_assoc]
    rfl
theorem sums_nil (n : Nat) : (List.replicate (n + 1) [D.int 0]).flatten = (sums n []).map D.int := by
  have : sums n [] = List.replicate (n + 1) 0 := by
    unfold sums
    have : sumAt [] = fun _ => 0 := by
      funext j
      rfl
    rw [this, List.map_const', List.length_range]
  rw [this, List.map_replicate]
  generalize n + 1 = k
  induction k with
  | zero => rfl
  | succ k ih =>
    rw [List.replicate_succ, List.flatten_cons, ih]
    rfl
theorem eq_ints {zs : List Int} {S : Sto} : eqD (.tup (zs.map .int)) (.tup (zs.map .int)) S = .val (.bl true) S := by
  have p : ∀ zs : List Int, pyAll (zs.map D.int) = some (zs.map PyData.int) ∧ PyData.canLayAll0 (zs.map PyData.int) = true ∧ PyData.depthAll (zs.map PyData.int) = 0 ∧ PyData.eqvAll (zs.map PyData.int) (zs.map PyData.int) = true := fun zs => by
    induction zs with
    | nil => exact ⟨rfl, by simp [PyData.canLayAll0], by simp [PyData.depthAll], by simp [PyData.eqvAll]⟩
    | cons z zs ih =>
      obtain ⟨h1, h2, h3, h4⟩ := ih
      refine ⟨?_, by simp [PyData.canLayAll0, PyData.canLay0, h2], by simp [PyData.depthAll, PyData.depth, h3], by simp [PyData.eqvAll, PyData.eqv, h4]⟩
      show (match D.py (.int z), pyAll (zs.map D.int) with | some x, some xs => some (x :: xs) | _, _ => none) = _
      rw [h1]
      rfl
  obtain ⟨h1, h2, h3, h4⟩ := p zs
  have e : D.py (.tup (zs.map .int)) = some (.tuple (zs.map PyData.int)) := by
    show (pyAll (zs.map D.int)).map PyData.tuple = _
    rw [h1]
    rfl
  have s1 : SeqAt.shaped (.tuple (zs.map PyData.int)) = true := by
    unfold SeqAt.shaped
    simp [PyData.canLay0, PyData.depth, h2, h3]
  unfold eqD
  dsimp only
  rw [e]
  dsimp only
  rw [s1]
  simp [PyData.eqv, h4]
end K77
namespace K77
open PySem PySem.Spec PyProof.Rows L2 Pv TL
/-! drawn counts, told and read -/
theorem num_tab : ∀ k : Nat, k < 20 → (match numR (iS ((k : Int) - 4)) with | .int z => decide (z = (k : Int) - 4) | _ => false) = true := by decide +kernel
theorem num_small {c : Int} (h1 : -4 ≤ c) (h2 : c ≤ 15) : numR (iS c) = .int c := by
  have t := num_tab (c + 4).toNat (by omega)
  have e : (((c + 4).toNat : Nat) : Int) - 4 = c := by omega
  rw [e] at t
  cases hx : numR (iS c) with
  | int z =>
    rw [hx] at t
    rw [of_decide_eq_true (show decide (z = c) = true from t)]
  | _ =>
    rw [hx] at t
    cases t
def Dr (cs : List Int) : Prop := ∀ c ∈ cs, -4 ≤ c ∧ c ≤ 15
theorem Dr.abs {cs : List Int} (h : Dr cs) : ∀ c ∈ cs, c.natAbs < 10 ^ 19 := fun c hc => by
  have := h c hc
  have : c.natAbs ≤ 15 := by omega
  exact Nat.lt_of_le_of_lt this (by decide)
theorem Dr.nb {cs : List Int} (h : Dr cs) : ∀ c ∈ cs, c.natAbs < NB := fun c hc => Nat.lt_of_lt_of_le (h.abs c hc) nb19
theorem rcS_cW {cs : List Int} {n : Nat} (h : Dr cs) (hn : cs.length = n + 1) (h12 : n ≤ 12) : rcS n (cW cs) = .inr (cs.map D.int) := by
  have hne : cs ≠ [] := fun z => by rw [z] at hn; cases hn
  unfold rcS
  rw [cW_split h.abs hne, rdG_of (fun w hw => by
    obtain ⟨c, hc, rfl⟩ := List.mem_map.mp hw
    rw [num_small (h c hc).1 (h c hc).2]
    rfl) (by rw [List.length_map]; omega), List.nil_append, List.map_map]
  have e : cs.map (numR ∘ iS) = cs.map D.int := List.map_congr_left fun c hc => num_small (h c hc).1 (h c hc).2
  rw [e]
  dsimp only
  rw [List.length_map, if_neg (by omega)]
theorem read_drawn {ss : List Sec} {cs : List Int} {S : Sto} (hl : Ln ss) (h : Dr cs) (hn : cs.length = ss.length + 1) : m_read_counts [.tup (ss.map sD), .str (cW cs)] S = .val (.tup (cs.map D.int)) S := by
  have h12 := hl.hi
  have r := read_counts_ok (S := S) (t := cW cs) hl ((cW_sh h.abs (by omega)).tx (by decide))
  rw [rcS_cW h hn h12] at r
  exact r
/-! loads -/
def ldI (ss : List Sec) (cs : List Int) (k : Nat) : Int := ((ss.getD k (0, none)).1 : Int) + cs.getD k 0 - cs.getD (k + 1) 0
def lds (ss : List Sec) (cs : List Int) : List Int := (List.range ss.length).map (ldI ss cs)
theorem at_map {α : Type} {f : α → D} {l : List α} {d : α} {k : Nat} (h : k < l.length) : L2.atI (l.map f) (k : Int) = some (f (l.getD k d)) := atI_nat (by omega) (by
  rw [Int.toNat_natCast, List.getElem?_map, List.getElem?_eq_getElem h, List.getD_eq_getElem?_getD, List.getElem?_eq_getElem h]
  rfl)
theorem at_fst (s : Sec) : L2.atI [D.int (s.1 : Int), roomD s.2] 0 = some (.int (s.1 : Int)) := rfl
theorem joint_ok {cs : List Int} {k : Nat} {S : Sto} (h : k + 1 < cs.length) : m_joint_behind [.tup (cs.map .int), .int (k : Int)] S = .val (.int ((k + 1 : Nat) : Int)) S := by
  have e0 : startD 2 [.tup (cs.map .int), .int (k : Int)] = [some (.tup (cs.map .int)), some (.int (k : Int))] := rfl
  have ek : (k : Int) + 1 = ((k + 1 : Nat) : Int) := by omega
  have md : modD (.int ((k + 1 : Nat) : Int)) (.int (cs.length : Int)) S = .val (.int ((k + 1 : Nat) : Int)) S := by
    rw [s_mod, s_dec (by omega), Int.emod_eq_of_lt (by omega) (by omega)]
  unfold m_joint_behind
  rw [s_def, e0]
  simp only [s_sRet, s_eBin, s_eN, s_aCons, s_aNil, s_eVar, s_eC, List.getElem?_cons_zero, List.getElem?_cons_succ, R.bind_val, s_addI, ek, s_intI, s_lenT, List.length_map, md, s_then_val, s_endR]
theorem load_ok {ss : List Sec} {cs : List Int} {k : Nat} {S : Sto} (h : k < ss.length) (hn : cs.length = ss.length + 1) : m_load_of [.tup (ss.map sD), .tup (cs.map .int), .int (k : Int)] S = .val (.int (ldI ss cs k)) S := by
  have e0 : startD 3 [.tup (ss.map sD), .tup (cs.map .int), .int (k : Int)] = [some (.tup (ss.map sD)), some (.tup (cs.map .int)), some (.int (k : Int))] := rfl
  have a1 : L2.atI (ss.map sD) (k : Int) = some (sD (ss.getD k (0, none))) := at_map h
  have a2 : L2.atI (cs.map D.int) (k : Int) = some (.int (cs.getD k 0)) := at_map (by omega)
  have a3 : L2.atI (cs.map D.int) ((k + 1 : Nat) : Int) = some (.int (cs.getD (k + 1) 0)) := at_map (by omega)
  have jb := joint_ok (cs := cs) (k := k) (S := S) (by omega)
  unfold m_load_of
  rw [s_def, e0]
  simp only [s_sRet, s_eBin, s_eN, s_aCons, s_aNil, s_eVar, s_eC, List.getElem?_cons_zero, List.getElem?_cons_succ, R.bind_val, s_ixT, a1, a2, a3, sD, at_fst, s_addI, s_subI, s_callN, List.length_cons, List.length_nil, Nat.reduceAdd, decide_true, s_true, jb, s_then_val, s_endR]
  rfl
theorem range_nat (n : Nat) : rangeD 0 n = (List.range n).map fun j : Nat => D.int (j : Int) := by
  unfold rangeD
  refine List.map_congr_left fun j _ => ?_
  rw [Int.zero_add]
theorem loads_by_ok {ss : List Sec} {cs : List Int} {S : Sto} (h12 : ss.length ≤ 12) (hn : cs.length = ss.length + 1) : m_loads_by [.tup (ss.map sD), .tup (cs.map .int)] S = .val (.lst ((lds ss cs).map .int)) S := by
  have e0 : startD 3 [.tup (ss.map sD), .tup (cs.map .int)] = [some (.tup (ss.map sD)), some (.tup (cs.map .int)), none] := rfl
  have rg : iRange1 (aCons (eN lenN (aCons (eVar 0) aNil)) aNil) [some (.tup (ss.map sD)), some (.tup (cs.map .int)), none] S = .val (rangeD 0 ss.length) S := range1_run (by
    simp only [s_eN, s_aCons, s_aNil, s_eVar, List.getElem?_cons_zero, R.bind_val, s_lenT, List.length_map]) (Nat.le_trans h12 (by decide))
  have c := comp_mapG (i := 2) (m := eN (callN 3 m_load_of) (aCons (eVar 0) (aCons (eVar 1) (aCons (eVar 2) aNil)))) (Γ := [some (.tup (ss.map sD)), some (.tup (cs.map .int)), none]) (g := fun j : Nat => D.int (j : Int)) (f := fun j => D.int (ldI ss cs j)) (S := S) (l := List.range ss.length) fun j hj => by
    have ld := load_ok (S := S) (List.mem_range.mp hj) hn
    simp only [s_eN, s_aCons, s_aNil, s_eVar, List.set_cons_succ, List.set_cons_zero, List.getElem?_cons_zero, List.getElem?_cons_succ, R.bind_val, s_callN, List.length_cons, List.length_nil, Nat.reduceAdd, decide_true, s_true, ld]
  have e2 : (List.range ss.length).map (fun j => D.int (ldI ss cs j)) = (lds ss cs).map D.int := by
    unfold lds
    rw [List.map_map]
    rfl
  rw [← range_nat, e2] at c
  have hz : ((lds ss cs).map D.int).length ≤ sizeLine := by
    unfold lds
    rw [List.length_map, List.length_map, List.length_range]
    exact Nat.le_trans h12 (by decide)
  unfold m_loads_by
  rw [s_def, e0, s_sRet, s_eLst, s_fComp, rg, R.bind_val, s_wipe1, s_wipe0]
  simp only [List.set_cons_succ, List.set_cons_zero]
  rw [c, R.bind_val, s_dec hz, R.bind_val, s_then_val, s_endR]
theorem loads_ok {ss : List Sec} {cs : List Int} {S : Sto} (hl : Ln ss) (hn : cs.length = ss.length + 1) : m_loads [.tup (ss.map sD), .tup (cs.map .int)] S = .val (.tup ((lds ss cs).map .int)) S := by
  have h12 := hl.hi
  have e0 : startD 2 [.tup (ss.map sD), .tup (cs.map .int)] = [some (.tup (ss.map sD)), some (.tup (cs.map .int))] := rfl
  have ck := check_ok (S := S) hl
  have cc := check_counts_ok (S := S) (ls := ss.map sD) (cs := cs) (by rw [List.length_map]; exact hn) (by omega)
  have lb := loads_by_ok (S := S) h12 hn
  have ct : m_check_told_lines [.tup (ss.map sD), .tup (cs.map .int)] S = .val .non S := by
    unfold m_check_told_lines
    rw [s_def, e0]
    simp only [s_sSeq, s_sDrop, s_eN, s_aCons, s_aNil, s_eVar, List.getElem?_cons_zero, List.getElem?_cons_succ, R.bind_val, s_callN, List.length_cons, List.length_nil, Nat.reduceAdd, decide_true, s_true, ck, cc, s_then_val, seq_nx, s_endN]
  unfold m_loads
  rw [s_def, e0]
  simp only [s_sSeq, s_sDrop, s_sRet, s_eN, s_aCons, s_aNil, s_eVar, List.getElem?_cons_zero, List.getElem?_cons_succ, R.bind_val, s_callN, List.length_cons, List.length_nil, Nat.reduceAdd, decide_true, s_true, ct, s_then_val, seq_nx, lb, s_tupleL, s_endR]
theorem law_loads_ok {ss : List Sec} {cs : List Int} {S : Sto} (h12 : ss.length ≤ 12) (hn : cs.length = ss.length + 1) : m__law_loads [.tup (ss.map sD), .tup (cs.map .int)] S = .val (.tup ((lds ss cs).map .int)) S := by
  have e0 : startD 3 [.tup (ss.map sD), .tup (cs.map .int)] = [some (.tup (ss.map sD)), some (.tup (cs.map .int)), none] := rfl
  have rg : iRange1 (aCons (eN lenN (aCons (eVar 0) aNil)) aNil) [some (.tup (ss.map sD)), some (.tup (cs.map .int)), none] S = .val (rangeD 0 ss.length) S := range1_run (by
    simp only [s_eN, s_aCons, s_aNil, s_eVar, List.getElem?_cons_zero, R.bind_val, s_lenT, List.length_map]) (Nat.le_trans h12 (by decide))
  have c := comp_mapG (i := 2) (m := eBin subD (eBin addD (eBin ixD (eBin ixD (eVar 0) (eVar 2)) (eC (.int 0))) (eBin ixD (eVar 1) (eVar 2))) (eBin ixD (eVar 1) (eBin addD (eVar 2) (eC (.int 1))))) (Γ := [some (.tup (ss.map sD)), some (.tup (cs.map .int)), none]) (g := fun j : Nat => D.int (j : Int)) (f := fun j => D.int (ldI ss cs j)) (S := S) (l := List.range ss.length) fun j hj => by
    have hj := List.mem_range.mp hj
    have ek : (j : Int) + 1 = ((j + 1 : Nat) : Int) := by omega
    have a1 : L2.atI (ss.map sD) (j : Int) = some (sD (ss.getD j (0, none))) := at_map hj
    have a2 : L2.atI (cs.map D.int) (j : Int) = some (.int (cs.getD j 0)) := at_map (by omega)
    have a3 : L2.atI (cs.map D.int) ((j + 1 : Nat) : Int) = some (.int (cs.getD (j + 1) 0)) := at_map (by omega)
    simp only [s_eBin, s_eVar, s_eC, List.set_cons_succ, List.set_cons_zero, List.getElem?_cons_zero, List.getElem?_cons_succ, R.bind_val, s_ixT, a1, a2, s_addI, ek, a3, sD, at_fst, s_subI]
    rfl
  have e2 : (List.range ss.length).map (fun j => D.int (ldI ss cs j)) = (lds ss cs).map D.int := by
    unfold lds
    rw [List.map_map]
    rfl
  rw [← range_nat, e2] at c
  have hz : ((lds ss cs).map D.int).length ≤ sizeLine := by
    unfold lds
    rw [List.length_map, List.length_map, List.length_range]
    exact Nat.le_trans h12 (by decide)
  unfold m__law_loads
  rw [s_def, e0, s_sRet, s_eN, s_aCons, s_eLst, s_fComp, rg, R.bind_val, s_wipe1, s_wipe0]
  simp only [List.set_cons_succ, List.set_cons_zero]
  rw [c, R.bind_val, s_dec hz, R.bind_val, R.bind_val, s_aNil, R.bind_val, R.bind_val, s_tupleL, s_then_val, s_endR]
end K77
namespace K77
open PySem PySem.Spec PyProof.Rows L2 Pv TL
/-! backward -/
theorem line_back_ok {ss : List Sec} {S : Sto} (hl : Ln ss) : m_line_backward [.tup (ss.map sD)] S = .val (.tup (ss.reverse.map sD)) S := by
  have e0 : startD 1 [.tup (ss.map sD)] = [some (.tup (ss.map sD))] := rfl
  have ck := check_ok (S := S) hl
  have lb : m_line_backward_by [.tup (ss.map sD)] S = .val (.tup (ss.reverse.map sD)) S := by
    unfold m_line_backward_by
    rw [s_def, e0]
    simp only [s_sRet, s_eRev, s_eVar, List.getElem?_cons_zero, R.bind_val, s_then_val, s_endR, List.map_reverse]
  unfold m_line_backward
  rw [s_def, e0]
  simp only [s_sSeq, s_sDrop, s_sRet, s_eN, s_aCons, s_aNil, s_eVar, List.getElem?_cons_zero, R.bind_val, s_callN, List.length_cons, List.length_nil, Nat.reduceAdd, decide_true, s_true, ck, s_then_val, seq_nx, lb, s_endR]
def bk (cs : List Int) : List Int := cs.reverse.map fun c => -c
theorem bk_len (cs : List Int) : (bk cs).length = cs.length := by
  unfold bk
  rw [List.length_map, List.length_reverse]
theorem counts_back_ok {ss : List Sec} {cs : List Int} {S : Sto} (hl : Ln ss) (hn : cs.length = ss.length + 1) : m_counts_backward [.tup (ss.map sD), .tup (cs.map .int)] S = .val (.tup ((bk cs).map .int)) S := by
  have h12 := hl.hi
  have e0 : startD 2 [.tup (ss.map sD), .tup (cs.map .int)] = [some (.tup (ss.map sD)), some (.tup (cs.map .int))] := rfl
  have e1 : startD 2 [.tup (cs.map .int)] = [some (.tup (cs.map .int)), none] := rfl
  have ck := check_ok (S := S) hl
  have cc := check_counts_ok (S := S) (ls := ss.map sD) (cs := cs) (by rw [List.length_map]; exact hn) (by omega)
  have ct : m_check_told_changes [.tup (ss.map sD), .tup (cs.map .int)] S = .val .non S := by
    unfold m_check_told_changes
    rw [s_def, e0]
    simp only [s_sSeq, s_sDrop, s_eN, s_aCons, s_aNil, s_eVar, List.getElem?_cons_zero, List.getElem?_cons_succ, R.bind_val, s_callN, List.length_cons, List.length_nil, Nat.reduceAdd, decide_true, s_true, ck, cc, s_then_val, seq_nx, s_endN]
  have c := comp_mapG (i := 1) (m := negM (eVar 1)) (Γ := [some (.tup (cs.map .int)), none]) (g := D.int) (f := fun c => D.int (-c)) (S := S) (l := cs.reverse) fun x _ => by
    simp only [s_negM, s_eVar, List.set_cons_succ, List.set_cons_zero, List.getElem?_cons_zero, List.getElem?_cons_succ, R.bind_val]
  have e2 : cs.reverse.map (fun c => D.int (-c)) = (bk cs).map D.int := by
    unfold bk
    rw [List.map_map]
    rfl
  rw [e2] at c
  have hz : ((bk cs).map D.int).length ≤ sizeLine := by
    rw [List.length_map, bk_len]
    exact Nat.le_trans (show cs.length ≤ 13 by omega) (by decide)
  have er : (cs.map D.int).reverse = cs.reverse.map D.int := List.map_reverse.symm
  have cb : m_counts_backward_by [.tup (cs.map .int)] S = .val (.tup ((bk cs).map .int)) S := by
    unfold m_counts_backward_by
    rw [s_def, e1, s_sRet, s_eN, s_aCons, s_eLst, s_fComp, s_iIt, s_eRev, s_eVar]
    simp only [List.getElem?_cons_zero, R.bind_val, s_itsT, s_wipe1, s_wipe0, List.set_cons_succ, List.set_cons_zero, er]
    rw [c, R.bind_val, s_dec hz, R.bind_val, R.bind_val, s_aNil, R.bind_val, R.bind_val, s_tupleL, s_then_val, s_endR]
  unfold m_counts_backward
  rw [s_def, e0]
  simp only [s_sSeq, s_sDrop, s_sRet, s_eN, s_aCons, s_aNil, s_eVar, List.getElem?_cons_zero, List.getElem?_cons_succ, R.bind_val, s_callN, List.length_cons, List.length_nil, Nat.reduceAdd, decide_true, s_true, ct, s_then_val, seq_nx, cb, s_endR]
theorem getD_rev {α : Type} {l : List α} {d : α} {k : Nat} (h : k < l.length) : l.reverse.getD k d = l.getD (l.length - 1 - k) d := by
  rw [List.getD_eq_getElem?_getD, List.getD_eq_getElem?_getD, List.getElem?_reverse h]
theorem getD_neg {l : List Int} {k : Nat} (h : k < l.length) : (l.map fun c => -c).getD k 0 = -(l.getD k 0) := by
  rw [List.getD_eq_getElem?_getD, List.getD_eq_getElem?_getD, List.getElem?_map, List.getElem?_eq_getElem h]
  rfl
theorem lds_back {ss : List Sec} {cs : List Int} (hn : cs.length = ss.length + 1) : lds ss.reverse (bk cs) = (lds ss cs).reverse := by
  refine List.ext_getElem? fun i => ?_
  unfold lds
  rw [List.length_reverse]
  by_cases hi : i < ss.length
  · rw [List.getElem?_reverse (by rw [List.length_map, List.length_range]; exact hi), List.length_map, List.length_range, List.getElem?_map, List.getElem?_map, List.getElem?_range hi, List.getElem?_range (by omega)]
    show some (ldI ss.reverse (bk cs) i) = some (ldI ss cs (ss.length - 1 - i))
    congr 1
    unfold ldI bk
    rw [getD_rev hi, getD_neg (by rw [List.length_reverse]; omega), getD_neg (by rw [List.length_reverse]; omega), getD_rev (by omega), getD_rev (by omega)]
    have e1 : cs.length - 1 - i = ss.length - 1 - i + 1 := by omega
    have e2 : cs.length - 1 - (i + 1) = ss.length - 1 - i := by omega
    rw [e1, e2]
    omega
  · rw [List.getElem?_eq_none (by rw [List.length_map, List.length_range]; omega), List.getElem?_eq_none (by rw [List.length_reverse, List.length_map, List.length_range]; omega)]
/-! lawful or not: it is told -/
theorem has_room_ok {s : Sec} {i : Int} {S : Sto} : ∃ b, m_has_room [sD s, .int i] S = .val (.bl b) S := by
  have e0 : startD 2 [sD s, .int i] = [some (sD s), some (.int i)] := rfl
  have x1 : ∀ S, ixD (sD s) (.int 1) S = .val (roomD s.2) S := fun S => rfl
  unfold m_has_room
  rw [s_def, e0]
  by_cases h : (0 : Int) ≤ i
  · cases hs : s.2 with
    | none =>
      rw [hs] at x1
      have x1 : ∀ S, ixD (sD s) (.int 1) S = .val .non S := x1
      exact ⟨true, by simp only [s_sRet, s_eAnd, s_eOr, s_eBin, s_eVar, s_eC, List.getElem?_cons_zero, List.getElem?_cons_succ, R.bind_val, s_cmp, decide_eq_true h, s_ofB, if_true, ite_true, x1, s_isN, s_non, s_then_val, s_endR]⟩
    | some r =>
      rw [hs] at x1
      have x1 : ∀ S, ixD (sD s) (.int 1) S = .val (.int (r : Int)) S := x1
      exact ⟨decide (i ≤ (r : Int)), by simp only [s_sRet, s_eAnd, s_eOr, s_eBin, s_eVar, s_eC, List.getElem?_cons_zero, List.getElem?_cons_succ, R.bind_val, s_cmp, decide_eq_true h, s_ofB, if_true, ite_true, x1, s_isN, s_nonI, Bool.false_eq_true, if_false, ite_false, s_then_val, s_endR]⟩
  · exact ⟨false, by simp only [s_sRet, s_eAnd, s_eBin, s_eVar, s_eC, List.getElem?_cons_zero, List.getElem?_cons_succ, R.bind_val, s_cmp, decide_eq_false h, s_ofB, Bool.false_eq_true, if_false, ite_false, s_then_val, s_endR]⟩
end K77
namespace K77
open PySem PySem.Spec PyProof.Rows L2 Pv TL
theorem comp_ex {gm : GM} {c : BM} {m : EM} {Γ : Env'} {S : Sto} {Q : D → Prop} : ∀ {ds : List D}, (∀ d ∈ ds, ∃ Γ1 b y, gm d Γ S = .val Γ1 S ∧ c Γ1 S = .val b S ∧ m Γ1 S = .val y S ∧ Q y) → ∃ ys, compGo gm c m Γ ds S = .val ys S ∧ (∀ y ∈ ys, Q y) ∧ ys.length ≤ ds.length
  | [], _ => ⟨[], rfl, (fun y hy => by cases hy), Nat.le_refl _⟩
  | d :: ds, h => by
    obtain ⟨Γ1, b, y, e1, e2, e3, q⟩ := h d List.mem_cons_self
    obtain ⟨ys, e4, h4, h5⟩ := comp_ex fun x hx => h x (List.mem_cons_of_mem _ hx)
    cases b with
    | true =>
      refine ⟨y :: ys, ?_, fun z hz => ?_, by rw [List.length_cons, List.length_cons]; omega⟩
      · unfold compGo
        rw [e1]
        dsimp only
        rw [e2]
        dsimp only
        rw [e3]
        dsimp only
        rw [e4, R.bind_val]
      · rcases List.mem_cons.mp hz with w | w
        · rw [w]
          exact q
        · exact h4 z w
    | false =>
      refine ⟨ys, ?_, h4, by rw [List.length_cons]; omega⟩
      unfold compGo
      rw [e1]
      dsimp only
      rw [e2]
      dsimp only
      exact e4
theorem enum_lt : ∀ {xs : List D} {n : Nat} {d : D}, d ∈ enumGo n xs → ∃ (i : Nat) (x : D), d = .tup [.int (i : Int), x] ∧ i < n + xs.length ∧ x ∈ xs
  | [], n, d, h => by cases h
  | y :: ys, n, d, h => by
    have h : d ∈ D.tup [.int (n : Int), y] :: enumGo (n + 1) ys := h
    rcases List.mem_cons.mp h with z | z
    · exact ⟨n, y, z, by rw [List.length_cons]; omega, List.mem_cons_self⟩
    · obtain ⟨i, x, e, h1, h2⟩ := enum_lt z
      exact ⟨i, x, e, by rw [List.length_cons]; omega, List.mem_cons_of_mem _ h2⟩
theorem eq_empty {zs : List Int} {S : Sto} : ∃ b, eqD (.lst (zs.map .int)) (.lst []) S = .val (.bl b) S := by
  have p : ∀ zs : List Int, pyAll (zs.map D.int) = some (zs.map PyData.int) ∧ PyData.canLayAll0 (zs.map PyData.int) = true ∧ PyData.depthAll (zs.map PyData.int) = 0 := fun zs => by
    induction zs with
    | nil => exact ⟨rfl, by simp [PyData.canLayAll0], by simp [PyData.depthAll]⟩
    | cons z zs ih =>
      obtain ⟨h1, h2, h3⟩ := ih
      refine ⟨?_, by simp [PyData.canLayAll0, PyData.canLay0, h2], by simp [PyData.depthAll, PyData.depth, h3]⟩
      show (match D.py (.int z), pyAll (zs.map D.int) with | some x, some xs => some (x :: xs) | _, _ => none) = _
      rw [h1]
      rfl
  obtain ⟨h1, h2, h3⟩ := p zs
  have e : D.py (.lst (zs.map .int)) = some (.list (zs.map PyData.int)) := by
    show (pyAll (zs.map D.int)).map PyData.list = _
    rw [h1]
    rfl
  have e2 : D.py (.lst []) = some (.list []) := rfl
  have s1 : SeqAt.shaped (.list (zs.map PyData.int)) = true := by
    unfold SeqAt.shaped
    simp [PyData.canLay0, PyData.depth, h2, h3]
  have s2 : SeqAt.shaped (.list []) = true := by
    unfold SeqAt.shaped
    simp [PyData.canLay0, PyData.depth, PyData.canLayAll0, PyData.depthAll]
  refine ⟨PyData.eqv (.list (zs.map PyData.int)) (.list []), ?_⟩
  unfold eqD
  dsimp only
  rw [e, e2]
  dsimp only
  rw [s1, s2]
  rfl
theorem can_be_ok {ss : List Sec} {cs : List Int} {S : Sto} (h12 : ss.length ≤ 12) (hn : cs.length = ss.length + 1) : ∃ b, m_can_be_by [.tup (ss.map sD), .tup (cs.map .int)] S = .val (.bl b) S := by
  have z0 : decide (0 ≤ sizeLine) = true := by decide
  have e0 : startD 4 [.tup (ss.map sD), .tup (cs.map .int)] = [some (.tup (ss.map sD)), some (.tup (cs.map .int)), none, none] := rfl
  have e2 : startD 2 [.tup (ss.map sD), .tup (cs.map .int)] = [some (.tup (ss.map sD)), some (.tup (cs.map .int))] := rfl
  have lb := loads_by_ok (S := S) h12 hn
  have ll : ((lds ss cs).map D.int).length = ss.length := by
    unfold lds
    rw [List.length_map, List.length_map, List.length_range]
  obtain ⟨ys, c, hq, hlen⟩ := comp_ex (gm := gSeq 2 (gConsM (gSet 2) (gConsM (gSet 3) gNilM))) (c := bNot (bT (eN (callN 2 m_has_room) (aCons (eBin ixD (eVar 0) (eVar 2)) (aCons (eVar 3) aNil))))) (m := eVar 2) (Γ := [some (.tup (ss.map sD)), some (.tup (cs.map .int)), none, none]) (S := S) (Q := fun y => ∃ z : Int, y = .int z ∧ True) (ds := enumGo 0 ((lds ss cs).map .int)) fun d hd => by
    obtain ⟨i, x, rfl, hi, hx⟩ := enum_lt hd
    obtain ⟨z, _, rfl⟩ := List.mem_map.mp hx
    rw [ll] at hi
    have a1 : L2.atI (ss.map sD) (i : Int) = some (sD (ss.getD i (0, none))) := at_map (by omega)
    obtain ⟨b, hr⟩ := has_room_ok (s := ss.getD i (0, none)) (i := z) (S := S)
    refine ⟨[some (.tup (ss.map sD)), some (.tup (cs.map .int)), some (.int (i : Int)), some (.int z)], !b, .int (i : Int), rfl, ?_, rfl, _, rfl, trivial⟩
    simp only [s_bNot, s_bT, s_eBin, s_eN, s_aCons, s_aNil, s_eVar, List.getElem?_cons_zero, List.getElem?_cons_succ, R.bind_val, s_ixT, a1, s_callN, List.length_cons, List.length_nil, Nat.reduceAdd, decide_true, s_true, hr, s_ofB]
  obtain ⟨zs, rfl, _⟩ := as_map hq
  have hz : (zs.map D.int).length ≤ sizeLine := by
    refine Nat.le_trans hlen ?_
    have : (enumGo 0 ((lds ss cs).map D.int)).length = ((lds ss cs).map D.int).length := by
      generalize (lds ss cs).map D.int = l
      have : ∀ (l : List D) (n : Nat), (enumGo n l).length = l.length := fun l => by
        induction l with
        | nil => intro n; rfl
        | cons a l ih => intro n; show (enumGo (n + 1) l).length + 1 = _; rw [ih, List.length_cons]
      exact this l 0
    rw [this, ll]
    exact Nat.le_trans h12 (by decide)
  have ws : m_wrong_sections_by [.tup (ss.map sD), .tup (cs.map .int)] S = .val (.lst (zs.map .int)) S := by
    unfold m_wrong_sections_by
    rw [s_def, e0, s_sRet, s_eLst, s_fComp, s_iEnum]
    simp only [s_eN, s_aCons, s_aNil, s_eVar, List.getElem?_cons_zero, List.getElem?_cons_succ, R.bind_val, s_callN, List.length_cons, List.length_nil, Nat.reduceAdd, decide_true, s_true, lb, s_itemL, s_wipe1, s_wipe0, List.set_cons_succ, List.set_cons_zero]
    rw [c, R.bind_val, s_dec hz, R.bind_val, s_then_val, s_endR]
  obtain ⟨b, hb⟩ := eq_empty (zs := zs) (S := S)
  refine ⟨b, ?_⟩
  unfold m_can_be_by
  rw [s_def, e2]
  simp only [s_sRet, s_eBin, s_eN, s_aCons, s_aNil, s_eVar, List.getElem?_cons_zero, List.getElem?_cons_succ, R.bind_val, s_callN, List.length_cons, List.length_nil, Nat.reduceAdd, decide_true, s_true, ws, s_lstN, z0, hb, s_then_val, s_endR]
/-! counts behind a part of a log -/
theorem behind_k {ls : List D} {es : List En} {k : Nat} {S : Sto} (hS : S.all noLstC = true) (h12 : ls.length ≤ 12) (h : ∀ e ∈ es, e.1 ≤ ls.length) : m_counts_behind_by [.tup ls, .tup (es.map eD), .int (k : Int)] S = .val (.tup ((sums ls.length (es.take k)).map .int)) S := by
  have z1 : decide (1 ≤ sizeLine) = true := by decide
  have e0 : startD 6 [.tup ls, .tup (es.map eD), .int (k : Int)] = [some (.tup ls), some (.tup (es.map eD)), some (.int (k : Int)), none, none, none] := rfl
  have en : (ls.length : Int) + 1 = ((ls.length + 1 : Nat) : Int) := by omega
  have fr : fRep (eN lstN (aCons (eC (.int 0)) aNil)) (eBin addD (eN lenN (aCons (eVar 0) aNil)) (eC (.int 1))) [some (.tup ls), some (.tup (es.map eD)), some (.int (k : Int)), none, none, none] S = .val ((sums ls.length []).map .int) S := by
    unfold fRep
    simp only [s_eN, s_aCons, s_aNil, s_eC, s_eBin, s_eVar, List.getElem?_cons_zero, R.bind_val, s_lstN, List.length_cons, List.length_nil, Nat.reduceAdd, z1, s_true, s_lenT, s_addI, en]
    rw [s_dec ⟨by omega, by omega, by rw [Int.toNat_natCast, Nat.one_mul]; exact Nat.le_trans (show ls.length + 1 ≤ 13 by omega) (by decide)⟩, Int.toNat_natCast, sums_nil]
  have sl : sliceD (.tup (es.map eD)) none (some (k : Int)) S = .val (.tup ((es.take k).map eD)) S := by
    rw [s_slT, cut_to, List.map_take]
  obtain ⟨a', b', lp⟩ := cb_loop (n := ls.length) (l := .tup ls) (lg := .tup (es.map eD)) (nm := .int (k : Int)) hS (es.take k) [] none none fun e he => h e (List.mem_of_mem_take he)
  have E : m_counts_behind_by = defM 6 (sSeq (sOwn 3 (fRep (eN lstN (aCons (eC (.int 0)) aNil)) (eBin addD (eN lenN (aCons (eVar 0) aNil)) (eC (.int 1))))) (sSeq (sFor (iIt (eSl (eVar 1) oNone (oSome (eVar 2)))) cbG cbB) (sRet (eN tupleN (aCons (eVar 3) aNil))))) := rfl
  rw [E, s_def, e0, s_sSeq, s_sOwn, fr, s_then_val, seq_nx]
  simp only [List.set_cons_succ, List.set_cons_zero]
  rw [s_sSeq, s_sFor]
  simp only [s_iIt, s_eSl, s_eVar, s_oNone, s_oSome, List.getElem?_cons_zero, List.getElem?_cons_succ, R.bind_val, sl, s_itsT, s_then_val]
  rw [lp, List.nil_append, seq_nx]
  rfl
theorem all_counts_ok {ls : List D} {es : List En} {S : Sto} (hS : S.all noLstC = true) (h12 : ls.length ≤ 12) (h20 : es.length ≤ 20) (h : ∀ e ∈ es, e.1 ≤ ls.length) : m_all_counts [.tup ls, .tup (es.map eD)] S = .val (.lst ((List.range (es.length + 1)).map fun k => D.tup ((sums ls.length (es.take k)).map .int))) S := by
  have e0 : startD 3 [.tup ls, .tup (es.map eD)] = [some (.tup ls), some (.tup (es.map eD)), none] := rfl
  have en : (es.length : Int) + 1 = ((es.length + 1 : Nat) : Int) := by omega
  have rg : iRange1 (aCons (eBin addD (eN lenN (aCons (eVar 1) aNil)) (eC (.int 1))) aNil) [some (.tup ls), some (.tup (es.map eD)), none] S = .val (rangeD 0 (es.length + 1)) S := range1_run (by
    simp only [s_eN, s_aCons, s_aNil, s_eVar, s_eBin, s_eC, List.getElem?_cons_zero, List.getElem?_cons_succ, R.bind_val, s_lenT, List.length_map, s_addI, en]) (Nat.le_trans (show es.length + 1 ≤ 21 by omega) (by decide))
  have c := comp_mapG (i := 2) (m := eN (callN 3 m_counts_behind_by) (aCons (eVar 0) (aCons (eVar 1) (aCons (eVar 2) aNil)))) (Γ := [some (.tup ls), some (.tup (es.map eD)), none]) (g := fun j : Nat => D.int (j : Int)) (f := fun k => D.tup ((sums ls.length (es.take k)).map .int)) (S := S) (l := List.range (es.length + 1)) fun j _ => by
    have bh := behind_k (k := j) hS h12 h
    simp only [s_eN, s_aCons, s_aNil, s_eVar, List.set_cons_succ, List.set_cons_zero, List.getElem?_cons_zero, List.getElem?_cons_succ, R.bind_val, s_callN, List.length_cons, List.length_nil, Nat.reduceAdd, decide_true, s_true, bh]
  rw [← range_nat] at c
  have hz : ((List.range (es.length + 1)).map fun k => D.tup ((sums ls.length (es.take k)).map .int)).length ≤ sizeLine := by
    rw [List.length_map, List.length_range]
    exact Nat.le_trans (show es.length + 1 ≤ 21 by omega) (by decide)
  unfold m_all_counts
  rw [s_def, e0, s_sRet, s_eLst, s_fComp, rg, R.bind_val, s_wipe1, s_wipe0]
  simp only [List.set_cons_succ, List.set_cons_zero]
  rw [c, R.bind_val, s_dec hz, R.bind_val, s_then_val, s_endR]
end K77
namespace K77
open PySem PySem.Spec PyProof.Rows L2 Pv TL
def fuG : GM := gSeq 2 (gConsM (gSet 2) (gConsM (gSet 3) gNilM))
def fuB : SM := sIf (bNot (bT (eN (callN 2 m_can_be_by) (aCons (eVar 0) (aCons (eVar 3) aNil))))) (sRet (eVar 2)) sNil
theorem fuE : m_first_unlawful_by = defM 4 (sSeq (sFor (iEnum' (aCons (eN (callN 2 m_all_counts) (aCons (eVar 0) (aCons (eVar 1) aNil))) aNil)) fuG fuB) (sRet (eC .non))) := rfl
theorem fu_go {i : Int} {x l lg : D} {a b : Option D} {S : Sto} : fuG (.tup [.int i, x]) [some l, some lg, a, b] S = .val [some l, some lg, some (.int i), some x] S := by
  simp only [fuG, s_gSeqT, s_gCons, s_gSet, s_gNil, List.length_cons, List.length_nil, Nat.reduceAdd, decide_true, s_true, R.bind_val, List.set_cons_succ, List.set_cons_zero]
theorem fu_yes {i : Int} {x l lg : D} {S : Sto} (ht : m_can_be_by [l, x] S = .val (.bl true) S) : fuB [some l, some lg, some (.int i), some x] S = .nx [some l, some lg, some (.int i), some x] S := by
  simp only [fuB, s_sIf, s_bNot, s_bT, s_eN, s_aCons, s_aNil, s_eVar, List.getElem?_cons_zero, List.getElem?_cons_succ, R.bind_val, s_callN, List.length_cons, List.length_nil, Nat.reduceAdd, decide_true, s_true, ht, s_ofB, Bool.not_true, s_then_val, Bool.false_eq_true, if_false, ite_false, s_sNil]
theorem fu_no {i : Int} {x l lg : D} {S : Sto} (ht : m_can_be_by [l, x] S = .val (.bl false) S) : fuB [some l, some lg, some (.int i), some x] S = .rt (.int i) S := by
  simp only [fuB, s_sIf, s_bNot, s_bT, s_eN, s_aCons, s_aNil, s_eVar, List.getElem?_cons_zero, List.getElem?_cons_succ, R.bind_val, s_callN, List.length_cons, List.length_nil, Nat.reduceAdd, decide_true, s_true, ht, s_ofB, Bool.not_false, s_then_val, if_true, ite_true, s_sRet]
theorem for_nx {gm : GM} {m : SM} {d : D} {ds : List D} {Γ Γ1 Γ2 : Env'} {S : Sto} (e1 : gm d Γ S = .val Γ1 S) (e2 : m Γ1 S = .nx Γ2 S) : forGo gm m (d :: ds) Γ S = forGo gm m ds Γ2 S := by
  rw [s_for1, e1]
  dsimp only
  rw [e2]
theorem for_rt {gm : GM} {m : SM} {d v : D} {ds : List D} {Γ Γ1 : Env'} {S : Sto} (e1 : gm d Γ S = .val Γ1 S) (e2 : m Γ1 S = .rt v S) : forGo gm m (d :: ds) Γ S = .rt v S := by
  rw [s_for1, e1]
  dsimp only
  rw [e2]
theorem fu_loop {ss : List Sec} {lg : D} {S : Sto} (h12 : ss.length ≤ 12) (ds : List D) : ∀ (a b : Option D), (∀ d ∈ ds, ∃ (i : Nat) (cs : List Int), d = .tup [.int (i : Int), .tup (cs.map .int)] ∧ cs.length = ss.length + 1) →
    (∃ i : Nat, forGo fuG fuB ds [some (.tup (ss.map sD)), some lg, a, b] S = .rt (.int (i : Int)) S) ∨ (∃ a' b', forGo fuG fuB ds [some (.tup (ss.map sD)), some lg, a, b] S = .nx [some (.tup (ss.map sD)), some lg, a', b'] S) := by
  induction ds with
  | nil => exact fun a b _ => .inr ⟨a, b, s_for0 _ _⟩
  | cons d ds ih =>
    intro a b h
    obtain ⟨i, cs, rfl, hn⟩ := h d List.mem_cons_self
    obtain ⟨t, ht⟩ := can_be_ok (S := S) h12 hn
    cases t with
    | true =>
      rw [for_nx fu_go (fu_yes ht)]
      exact ih _ _ fun x hx => h x (List.mem_cons_of_mem _ hx)
    | false => exact .inl ⟨i, for_rt fu_go (fu_no ht)⟩
theorem lawful_ok {ss : List Sec} {es : List En} {S : Sto} (hS : S.all noLstC = true) (hl : Ln ss) (h20 : es.length ≤ 20) (h : ∀ e ∈ es, e.1 ≤ ss.length) : ∃ b, m_is_lawful [.tup (ss.map sD), .tup (es.map eD)] S = .val (.bl b) S := by
  have h12 := hl.hi
  have h' : ∀ e ∈ es, e.1 ≤ (ss.map sD).length := fun e he => by rw [List.length_map]; exact h e he
  have e0 : startD 2 [.tup (ss.map sD), .tup (es.map eD)] = [some (.tup (ss.map sD)), some (.tup (es.map eD))] := rfl
  have e4 : startD 4 [.tup (ss.map sD), .tup (es.map eD)] = [some (.tup (ss.map sD)), some (.tup (es.map eD)), none, none] := rfl
  have ck := check_ok (S := S) hl
  have cc := check_log_ok (S := S) (ls := ss.map sD) (es := es) h' (by omega)
  have lg : m_check_logged [.tup (ss.map sD), .tup (es.map eD)] S = .val .non S := by
    unfold m_check_logged
    rw [s_def, e0]
    simp only [s_sSeq, s_sDrop, s_eN, s_aCons, s_aNil, s_eVar, List.getElem?_cons_zero, List.getElem?_cons_succ, R.bind_val, s_callN, List.length_cons, List.length_nil, Nat.reduceAdd, decide_true, s_true, ck, cc, s_then_val, seq_nx, s_endN]
  have ac := all_counts_ok (ls := ss.map sD) (es := es) hS (by rw [List.length_map]; exact h12) h20 h'
  have lp := fu_loop (ss := ss) (lg := .tup (es.map eD)) (S := S) h12 (enumGo 0 ((List.range (es.length + 1)).map fun k => D.tup ((sums (ss.map sD).length (es.take k)).map .int))) none none fun d hd => by
    obtain ⟨i, x, rfl, _, hx⟩ := enum_lt hd
    obtain ⟨k, _, rfl⟩ := List.mem_map.mp hx
    exact ⟨i, _, rfl, by rw [sums_len, List.length_map]⟩
  have fu : ∃ v : D, m_first_unlawful_by [.tup (ss.map sD), .tup (es.map eD)] S = .val v S ∧ (v = .non ∨ ∃ i : Int, v = .int i) := by
    rcases lp with ⟨i, e⟩ | ⟨a', b', e⟩
    · refine ⟨.int (i : Int), ?_, .inr ⟨_, rfl⟩⟩
      rw [fuE, s_def, e4, s_sSeq, s_sFor, s_iEnum]
      simp only [s_eN, s_aCons, s_aNil, s_eVar, List.getElem?_cons_zero, List.getElem?_cons_succ, R.bind_val, s_callN, List.length_cons, List.length_nil, Nat.reduceAdd, decide_true, s_true, ac, s_itemL, s_then_val]
      rw [e]
      rfl
    · refine ⟨.non, ?_, .inl rfl⟩
      rw [fuE, s_def, e4, s_sSeq, s_sFor, s_iEnum]
      simp only [s_eN, s_aCons, s_aNil, s_eVar, List.getElem?_cons_zero, List.getElem?_cons_succ, R.bind_val, s_callN, List.length_cons, List.length_nil, Nat.reduceAdd, decide_true, s_true, ac, s_itemL, s_then_val]
      rw [e]
      rfl
  obtain ⟨v, ev, hv⟩ := fu
  have iv : ∃ b, isND v .non S = .val (.bl b) S := by
    rcases hv with z | ⟨i, z⟩
    · exact ⟨true, by rw [z]; rfl⟩
    · exact ⟨false, by rw [z]; rfl⟩
  obtain ⟨b, hb⟩ := iv
  refine ⟨b, ?_⟩
  unfold m_is_lawful
  rw [s_def, e0]
  simp only [s_sSeq, s_sDrop, s_sRet, s_eBin, s_eN, s_aCons, s_aNil, s_eVar, s_eC, List.getElem?_cons_zero, List.getElem?_cons_succ, R.bind_val, s_callN, List.length_cons, List.length_nil, Nat.reduceAdd, decide_true, s_true, lg, s_then_val, seq_nx, ev, hb, s_endR]
/-! drawn counts -/
theorem law_counts_ok {S0 S : Sto} {n k : Nat} (P : Pool S0 n S) (hn : n ≤ 700000) (hk : k ≤ 13) : ∃ (cs : List Int) (S' : Sto), m__law_counts [.ref S0.length, .int (k : Int), .int 9] S = .val (.tup (cs.map .int)) S' ∧ cs.length = k ∧ Dr cs ∧ Pool S0 (n + 20) S' := by
  have e0 : startD 5 [.ref S0.length, .int (k : Int), .int 9] = [some (.ref S0.length), some (.int (k : Int)), some (.int 9), none, none] := rfl
  obtain ⟨r, S1, e1, r0, r1, P1⟩ := draw_ok (m := 4) P (by omega) (by decide) (by decide)
  have rg : iRange1 (aCons (eVar 1) aNil) [some (.ref S0.length), some (.int (k : Int)), some (.int 9), some (.int (r - 3)), none] S1 = .val (rangeD 0 k) S1 := range1_run rfl (Nat.le_trans hk (by decide))
  obtain ⟨ys, S2, ec, hq, hl, P2⟩ := comp_inv (gm := gSet 4) (m := eBin addD (eVar 3) (eN (callN 2 m__law_draw) (aCons (eVar 0) (aCons (eBin addD (eVar 2) (eC (.int 1))) aNil)))) (Γ := [some (.ref S0.length), some (.int (k : Int)), some (.int 9), some (.int (r - 3)), none]) (P := fun j S => Pool S0 (n + 1 + j) S) (Q := fun y => ∃ c : Int, y = .int c ∧ (-4 ≤ c ∧ c ≤ 15)) 13 (ds := rangeD 0 k) (i := 0) (S := S1) (fun j d S hd hj Pj => by
      obtain ⟨v, S2, g1, g2, g3, P2⟩ := draw_ok (m := 10) Pj (by omega) (by decide) (by decide)
      have i1 : (9 : Int) + 1 = 10 := rfl
      refine ⟨_, .int (r - 3 + v), S2, rfl, ?_, ⟨_, rfl, by omega, by omega⟩, P2⟩
      simp only [s_eBin, s_eN, s_aCons, s_aNil, s_eVar, s_eC, List.set_cons_succ, List.set_cons_zero, List.getElem?_cons_zero, List.getElem?_cons_succ, R.bind_val, s_addI, i1, s_callN, List.length_cons, List.length_nil, Nat.reduceAdd, decide_true, s_true, g1]) (by rw [range_len]; omega) P1
  obtain ⟨cs, rfl, hc⟩ := as_map hq
  rw [range_len] at hl P2
  rw [List.length_map] at hl
  refine ⟨cs, S2, ?_, hl, hc, P2.mono (by omega)⟩
  have hz : (cs.map D.int).length ≤ sizeLine := by
    rw [List.length_map, hl]
    exact Nat.le_trans hk (by decide)
  unfold m__law_counts
  rw [s_def, e0, s_sSeq, s_sSet]
  simp only [s_eBin, s_eN, s_aCons, s_aNil, s_eVar, s_eC, List.getElem?_cons_zero, List.getElem?_cons_succ, R.bind_val, s_callN, List.length_cons, List.length_nil, Nat.reduceAdd, decide_true, s_true, e1, s_subI, s_then_val, List.set_cons_succ, List.set_cons_zero, seq_nx]
  rw [s_sRet, s_eN, s_aCons, s_eLst, s_fComp, rg, R.bind_val, s_wipe1, s_wipe0]
  simp only [List.set_cons_succ, List.set_cons_zero]
  rw [ec, R.bind_val, s_dec hz, R.bind_val, R.bind_val, s_aNil, R.bind_val, R.bind_val, s_tupleL, s_then_val, s_endR]
end K77
namespace K77
open PySem PySem.Spec PyProof.Rows L2 Pv TL
theorem pow_run {j : Nat} {S : Sto} (h : j ≤ 1000) : powD (.int 10) (.int (j : Int)) S = .val (.int (10 ^ j)) S := by
  show ifR (decide ((0 : Int) ≤ (j : Int) ∧ (j : Int) ≤ 1000000 ∧ (10 : Int).natAbs < 2 ^ 64)) (R.val (D.int ((10 : Int) ^ ((j : Int)).toNat)) S) = _
  rw [Int.toNat_natCast]
  exact s_dec ⟨by omega, by omega, by decide⟩ _
theorem cutD_map {α β : Type} (f : α → β) (xs : List α) (lo hi : Option Int) : Pv.cutD (xs.map f) lo hi = (Pv.cutD xs lo hi).map f := by
  unfold Pv.cutD
  rw [List.length_map, List.map_take, List.map_drop]
theorem cutD_sub {α : Type} (xs : List α) (lo hi : Option Int) : (∀ x ∈ Pv.cutD xs lo hi, x ∈ xs) ∧ (Pv.cutD xs lo hi).length ≤ xs.length := by
  unfold Pv.cutD
  refine ⟨fun x hx => List.mem_of_mem_drop (List.mem_of_mem_take hx), ?_⟩
  rw [List.length_take, List.length_drop]
  omega
/-! a new pool -/
def poB : SM := sSet 3 (eBin modD (eN intN (aCons (eBin addD (eBin addD (eBin mulD (eVar 3) (eC (.int 48271))) (eBin modD (eN intN (aCons (eVar 4) aNil)) (eC (.int 2147483549)))) (eC (.int 423))) aNil)) (eC (.int 2147483549)))
def poA1 : EM := eIf (bT (eBin (cmpD fun i j => decide (i < j)) (eVar 1) (eN lenN (aCons (eVar 0) aNil)))) (eN intN (aCons (eBin ixD (eVar 0) (eVar 1)) aNil)) (eBin addD (eBin mulD (eC (.int 70001)) (eVar 1)) (eC (.int 2247)))
def poA2 : EM := eBin addD (eC (.int 652918)) (eBin mulD (eC (.int 5087)) (eVar 1))
def poR1 : EM := eBin modD (eN intN (aCons (eBin addD (eVar 3) (eBin mulD (eVar 2) (eC (.int 1013)))) aNil)) (eC (.int 2147483549))
def poR2 : EM := eIf (bOr (bT (eBin (cmpD fun i j => decide (i < j)) (eVar 2) (eC (.int 0)))) (bT (eBin (cmpD fun i j => decide (j ≤ i)) (eVar 2) (eBin powD (eC (.int 10)) (eC (.int 18)))))) (eN absN (aCons (eVar 2) aNil)) (eC (.int 0))
theorem poolE : m__law_pool = defM 5 (sSeq (sPar 2 3 (aCons poA1 (aCons poA2 aNil))) (sSeq (sFor (iIt (eSl (eVar 0) oNone (oSome (eC (.int 63))))) (gSet 4) poB) (sRet (eCell (fLst (aCons poR1 (aCons poR2 (aCons (eC (.int 0)) aNil)))))))) := rfl
theorem s_len3 (ds : List D) {S : Sto} : lenN [.frz ds] S = .val (.int ds.length) S := rfl
theorem poA1_ok {ns : List Int} {t : Nat} (hb : ∀ z ∈ ns, Builtin.Int.intBits z ≤ 1048576) (ht : t ≤ 3) : ∃ own : Int, (∀ x2 x3 x4 S, poA1 [some (.frz (ns.map D.int)), some (.int (t : Int)), x2, x3, x4] S = .val (.int own) S) ∧ Builtin.Int.intBits own ≤ 1048576 := by
  by_cases hlt : t < ns.length
  · refine ⟨ns[t], fun x2 x3 x4 S => ?_, hb _ (List.getElem_mem hlt)⟩
    have d1 : decide ((t : Int) < (ns.length : Int)) = true := decide_eq_true (by omega)
    have ix : L2.atI (ns.map D.int) (t : Int) = some (.int ns[t]) := atI_nat (by omega) (by rw [Int.toNat_natCast, List.getElem?_map, List.getElem?_eq_getElem hlt]; rfl)
    simp only [poA1, s_eIf, s_bT, s_eBin, s_eVar, s_eN, s_aCons, s_aNil, R.bind_val, List.getElem?_cons_zero, List.getElem?_cons_succ, s_len3, List.length_map, s_cmp, d1, s_ofB, if_true, s_ixF, ix, s_intI, ite_true]
  · refine ⟨70001 * (t : Int) + 2247, fun x2 x3 x4 S => ?_, Nat.le_trans (bits_le (k := 32) (by omega) (Int.lt_of_le_of_lt (b := 300000) (by omega) (by decide))) (by decide)⟩
    have d1 : decide ((t : Int) < (ns.length : Int)) = false := decide_eq_false (by omega)
    have mr : ∀ S, mulD (.int 70001) (.int (t : Int)) S = .val (.int (70001 * (t : Int))) S := fun S => mul_run (small_bits (by decide) (by decide)) (small_bits (by omega) (by omega))
    simp only [poA1, s_eIf, s_bT, s_eBin, s_eVar, s_eC, s_eN, s_aCons, s_aNil, R.bind_val, List.getElem?_cons_zero, List.getElem?_cons_succ, s_len3, List.length_map, s_cmp, d1, s_ofB, mr, s_addI, Bool.false_eq_true, if_false, ite_false]
theorem poA2_ok {ns : List Int} {t : Nat} (ht : t ≤ 3) : ∀ x2 x3 x4 S, poA2 [some (.frz (ns.map D.int)), some (.int (t : Int)), x2, x3, x4] S = .val (.int (652918 + 5087 * (t : Int))) S := fun x2 x3 x4 S => by
  have mr : ∀ S, mulD (.int 5087) (.int (t : Int)) S = .val (.int (5087 * (t : Int))) S := fun S => mul_run (small_bits (by decide) (by decide)) (small_bits (by omega) (by omega))
  simp only [poA2, s_eBin, s_eVar, s_eC, R.bind_val, List.getElem?_cons_zero, List.getElem?_cons_succ, mr, s_addI]
theorem pm {i : Int} {S : Sto} : modD (.int i) (.int 2147483549) S = .val (.int (i % 2147483549)) S := by
  rw [s_mod, s_dec (by decide)]
theorem ev0 {a b c d : D} {x : Option D} {S : Sto} : eVar 2 [some a, some b, some c, some d, x] S = .val c S := rfl
theorem ev3 {a b c d : D} {x : Option D} {S : Sto} : eVar 3 [some a, some b, some c, some d, x] S = .val d S := rfl
theorem ev4 {a b c d x : D} {S : Sto} : eVar 4 [some a, some b, some c, some d, some x] S = .val x S := rfl
theorem poB_ok {f t : D} {own st z : Int} {S : Sto} (h0 : 0 ≤ st) (h1 : st < 2147483549) : poB [some f, some t, some (.int own), some (.int st), some (.int z)] S = .nx [some f, some t, some (.int own), some (.int ((st * 48271 + z % 2147483549 + 423) % 2147483549)), some (.int z)] S := by
  have mr : ∀ S, mulD (.int st) (.int 48271) S = .val (.int (st * 48271)) S := fun S => mul_run (small_bits h0 (Int.lt_trans h1 (by decide))) (small_bits (by decide) (by decide))
  unfold poB
  rw [s_sSet, s_eBin, s_eN, s_aCons, s_eBin, s_eBin, s_eBin, ev3, R.bind_val, s_eC, R.bind_val, mr, R.bind_val, s_eBin, s_eN, s_aCons, ev4, R.bind_val, s_aNil, R.bind_val, R.bind_val, s_intI, R.bind_val, s_eC, R.bind_val, pm, R.bind_val, s_addI, R.bind_val, s_eC, R.bind_val, s_addI, R.bind_val, s_aNil, R.bind_val, R.bind_val, s_intI, R.bind_val, s_eC, R.bind_val, pm, s_then_val]
  rfl
theorem poR1_ok {f t : D} {own st : Int} {x4 : Option D} {S : Sto} (hob : Builtin.Int.intBits own ≤ 1048576) : poR1 [some f, some t, some (.int own), some (.int st), x4] S = .val (.int ((st + own * 1013) % 2147483549)) S := by
  have mr : ∀ S, mulD (.int own) (.int 1013) S = .val (.int (own * 1013)) S := fun S => mul_run (Nat.le_trans hob (by decide)) (small_bits (by decide) (by decide))
  unfold poR1
  rw [s_eBin, s_eN, s_aCons, s_eBin, ev3, R.bind_val, s_eBin, ev0, R.bind_val, s_eC, R.bind_val, mr, R.bind_val, s_addI, R.bind_val, s_aNil, R.bind_val, R.bind_val, s_intI, R.bind_val, s_eC, R.bind_val, pm]
theorem poR2_ok {f t : D} {own : Int} {x3 x4 : Option D} {S : Sto} : ∃ b : Int, poR2 [some f, some t, some (.int own), x3, x4] S = .val (.int b) S ∧ 0 ≤ b := by
  have p18 : ∀ S, powD (.int 10) (.int 18) S = .val (.int 1000000000000000000) S := fun S => pow_run (j := 18) (by decide)
  by_cases q1 : own < 0
  · refine ⟨-own, ?_, by omega⟩
    simp only [poR2, s_eIf, s_bOr, s_bT, s_eBin, s_eVar, s_eC, s_eN, s_aCons, s_aNil, R.bind_val, List.getElem?_cons_zero, List.getElem?_cons_succ, s_cmp, decide_eq_true q1, s_ofB, if_true, ite_true, s_abs, if_pos q1]
  · by_cases q2 : 1000000000000000000 ≤ own
    · refine ⟨own, ?_, by omega⟩
      simp only [poR2, s_eIf, s_bOr, s_bT, s_eBin, s_eVar, s_eC, s_eN, s_aCons, s_aNil, R.bind_val, List.getElem?_cons_zero, List.getElem?_cons_succ, s_cmp, decide_eq_false q1, decide_eq_true q2, s_ofB, p18, if_true, ite_true, s_abs, if_neg q1, Bool.false_eq_true, if_false, ite_false]
    · refine ⟨0, ?_, by omega⟩
      simp only [poR2, s_eIf, s_bOr, s_bT, s_eBin, s_eVar, s_eC, s_eN, s_aCons, s_aNil, R.bind_val, List.getElem?_cons_zero, List.getElem?_cons_succ, s_cmp, decide_eq_false q1, decide_eq_false q2, s_ofB, p18, Bool.false_eq_true, if_false, ite_false]
theorem pool_ok {ns : List Int} {S : Sto} {t : Nat} (hn : ns.length ≤ 63) (hb : ∀ z ∈ ns, Builtin.Int.intBits z ≤ 1048576) (ht : t ≤ 3) : ∃ S', m__law_pool [.frz (ns.map D.int), .int (t : Int)] S = .val (.ref S.length) S' ∧ Pool S 0 S' := by
  have z3 : decide (3 ≤ sizeLine) = true := by decide
  obtain ⟨own, ho, hob⟩ := poA1_ok hb ht
  have h2 := poA2_ok (ns := ns) ht
  have es : eSl (eVar 0) oNone (oSome (eC (.int 63))) [some (.frz (ns.map D.int)), some (.int (t : Int)), some (.int own), some (.int (652918 + 5087 * (t : Int))), none] S = .val (.lst ((Pv.cutD ns none (some 63)).map D.int)) S := by
    simp only [s_eSl, s_eVar, List.getElem?_cons_zero, R.bind_val, s_oNone, s_oSome, s_eC, s_slF, cutD_map]
  have hc : ((Pv.cutD ns none (some 63)).map D.int).length ≤ 63 := by
    rw [List.length_map]
    exact Nat.le_trans (cutD_sub ns none (some 63)).2 hn
  generalize (Pv.cutD ns none (some 63)) = cs at es hc
  obtain ⟨Γ', S1, e1, st, x4, rfl, st0, st1, hS1⟩ := for_inv (gm := gSet 4) (m := poB) (P := fun j Γ S' => ∃ st x4, Γ = [some (.frz (ns.map D.int)), some (.int (t : Int)), some (.int own), some (.int st), x4] ∧ (0 : Int) ≤ st ∧ st < 2147483549 ∧ S' = S) 63 (ds := cs.map D.int) (i := 0)
    (Γ := [some (.frz (ns.map D.int)), some (.int (t : Int)), some (.int own), some (.int (652918 + 5087 * (t : Int))), none]) (S := S) (fun j d Γ S' hd hj h => by
      obtain ⟨st, x4, rfl, h0, h1, rfl⟩ := h
      obtain ⟨z, hz, rfl⟩ := List.mem_map.mp hd
      exact ⟨[some (.frz (ns.map D.int)), some (.int (t : Int)), some (.int own), some (.int st), some (.int z)], S', [some (.frz (ns.map D.int)), some (.int (t : Int)), some (.int own), some (.int ((st * 48271 + z % 2147483549 + 423) % 2147483549)), some (.int z)], S', rfl, poB_ok h0 h1, _, _, rfl, Int.emod_nonneg _ (by decide), Int.emod_lt_of_pos _ (by decide), rfl⟩)
    (by omega) ⟨_, none, rfl, by omega, by omega, rfl⟩
  rw [hS1] at e1
  have e0 : startD 5 [.frz (ns.map D.int), .int (t : Int)] = [some (.frz (ns.map D.int)), some (.int (t : Int)), none, none, none] := rfl
  have r1 := poR1_ok (f := .frz (ns.map D.int)) (t := .int (t : Int)) (st := st) (x4 := x4) (S := S) hob
  obtain ⟨b, r2, hb0⟩ := poR2_ok (f := .frz (ns.map D.int)) (t := .int (t : Int)) (own := own) (x3 := some (.int st)) (x4 := x4) (S := S)
  refine ⟨S ++ [pl3 ((st + own * 1013) % 2147483549) b 0], ?_, _, b, 0, rfl, Int.emod_nonneg _ (by decide), Int.emod_lt_of_pos _ (by decide), hb0, by decide, by decide⟩
  rw [poolE, s_def, e0, s_sSeq, s_sPar, s_aCons, ho, R.bind_val, s_aCons, h2, R.bind_val, s_aNil, R.bind_val, R.bind_val, s_then_val]
  dsimp only
  rw [seq_nx]
  simp only [List.set_cons_succ, List.set_cons_zero]
  rw [s_sSeq, s_sFor, s_iIt, es, R.bind_val, s_itsL]
  dsimp only
  rw [s_then_val, e1, seq_nx, s_sRet, s_eCell, s_fLst, s_aCons, r1, R.bind_val, s_aCons, r2, R.bind_val]
  simp only [s_aCons, s_eC, s_aNil, R.bind_val, List.length_cons, List.length_nil, Nat.reduceAdd, z3, s_true, s_then_val, s_endR]
end K77
namespace K77
open PySem PySem.Spec PyProof.Rows L2 Pv TL
/-! a drawn log, in _law_right -/
def dlM : EM := eN tupN (aCons (eN (callN 2 m__law_draw) (aCons (eVar 0) (aCons (eBin addD (eN lenN (aCons (eVar 2) aNil)) (eC (.int 1))) aNil))) (aCons (eN (callN 2 m__law_pick) (aCons (eVar 0) (aCons (eN lstN (aCons (eC (.int 1)) (aCons (negM (eC (.int 1))) aNil))) aNil))) aNil))
def dlE : EM := eN tupleN (aCons (eLst (fComp (iRange1 (aCons (eN (callN 2 m__law_draw) (aCons (eVar 0) (aCons (eC (.int 9)) aNil))) aNil)) (gSet 12) bTrue dlM [12])) aNil)
theorem dl_ok {S0 S : Sto} {n : Nat} {ls : List D} {x1 x3 x4 x5 x6 x7 x8 x9 x10 x11 x13 : Option D} (P : Pool S0 n S) (hn : n ≤ 700000) (h12 : ls.length ≤ 12) : ∃ (es : List En) (S' : Sto), dlE [some (.ref S0.length), x1, some (.tup ls), x3, x4, x5, x6, x7, x8, x9, x10, x11, none, x13] S = .val (.tup (es.map eD)) S' ∧ es.length ≤ 8 ∧ (∀ e ∈ es, e.1 ≤ ls.length) ∧ Pool S0 (n + 20) S' := by
  have z2 : decide (2 ≤ sizeLine) = true := by decide
  obtain ⟨k, S1, k1, k2, P1⟩ := draw_nat (m := 9) P (by omega) (by decide) (by decide)
  have rg : iRange1 (aCons (eN (callN 2 m__law_draw) (aCons (eVar 0) (aCons (eC (.int 9)) aNil))) aNil) [some (.ref S0.length), x1, some (.tup ls), x3, x4, x5, x6, x7, x8, x9, x10, x11, none, x13] S = .val (rangeD 0 k) S1 := range1_run (by
    simp only [s_eN, s_aCons, s_aNil, s_eVar, s_eC, List.getElem?_cons_zero, R.bind_val, s_callN, List.length_cons, List.length_nil, Nat.reduceAdd, decide_true, s_true, k1]) (Nat.le_trans (show k ≤ 8 by omega) (by decide))
  obtain ⟨ys, S2, ec, hq, hl, P2⟩ := comp_inv (gm := gSet 12) (m := dlM) (Γ := [some (.ref S0.length), x1, some (.tup ls), x3, x4, x5, x6, x7, x8, x9, x10, x11, none, x13]) (P := fun j S => Pool S0 (n + 1 + 2 * j) S) (Q := fun y => ∃ e : En, y = eD e ∧ e.1 ≤ ls.length) 8 (ds := rangeD 0 k) (i := 0) (S := S1) (fun j d S hd hj Pj => by
      obtain ⟨v, S2, g1, g2, P2⟩ := draw_nat (m := (ls.length : Int) + 1) Pj (by omega) (by omega) (by omega)
      obtain ⟨q, S3, p1, p2, P3⟩ := pick_ok (xs := [.int 1, .int (-1)]) P2 (by omega) (by simp) (by simp)
      have hq : ∃ b : Bool, q = .int (stepI b) := by
        simp only [List.mem_cons, List.not_mem_nil, or_false] at p2
        rcases p2 with z | z
        · exact ⟨true, z⟩
        · exact ⟨false, z⟩
      obtain ⟨b, rfl⟩ := hq
      refine ⟨_, eD (v, b), S3, rfl, ?_, ⟨(v, b), rfl, by show v ≤ _; omega⟩, P3.mono (by omega)⟩
      simp only [dlM, s_eBin, s_eN, s_aCons, s_aNil, s_eVar, s_eC, s_negM, List.set_cons_succ, List.set_cons_zero, List.getElem?_cons_zero, List.getElem?_cons_succ, R.bind_val, s_lenT, s_addI, s_lstN, List.length_cons, List.length_nil, Nat.reduceAdd, z2, s_true, s_callN, decide_true, g1, p1, s_tupN, eD]) (by rw [range_len]; omega) P1
  obtain ⟨es, rfl, hc⟩ := as_map hq
  rw [range_len] at hl P2
  rw [List.length_map] at hl
  refine ⟨es, S2, ?_, by omega, hc, P2.mono (by omega)⟩
  have hz : (es.map eD).length ≤ sizeLine := by
    rw [List.length_map, hl]
    exact Nat.le_trans (show k ≤ 8 by omega) (by decide)
  rw [dlE, s_eN, s_aCons, s_eLst, s_fComp, rg, R.bind_val, s_wipe1, s_wipe0]
  simp only [List.set_cons_succ, List.set_cons_zero]
  rw [ec, R.bind_val, s_dec hz, R.bind_val, R.bind_val, s_aNil, R.bind_val, R.bind_val, s_tupleL]
/-! the reversed text, and ones -/
theorem tW_rev {ss : List Sec} (h : ∀ s ∈ ss, near s) (h1 : 1 ≤ ss.length) : Txt.join " " (Txt.split (tW ss) " ").reverse = tW ss.reverse := by
  rw [tW_split h (fun z => by rw [z] at h1; cases h1)]
  unfold tW
  rw [List.map_reverse]
theorem ones_text (n : Nat) : Txt.join " " (List.replicate n "1") = cW (List.replicate n 1) := by
  unfold cW
  rw [List.map_replicate]
  have : iS 1 = "1" := by decide +kernel
  rw [this]
end K77
namespace K77
open PySem PySem.Spec PyProof.Rows L2 Pv TL
/-! equal data -/
def sP (s : Sec) : PyData := .tuple [.int s.1, match s.2 with | none => .none | some r => .int r]
theorem py_sP (s : Sec) : D.py (sD s) = some (sP s) ∧ PyData.canLay0 (sP s) = true ∧ PyData.depth (sP s) = 1 ∧ PyData.eqv (sP s) (sP s) = true := by
  obtain ⟨b, o⟩ := s
  cases o with
  | none => exact ⟨rfl, by simp [sP, PyData.canLay0, PyData.canLayAll0], by simp [sP, PyData.depth, PyData.depthAll], by simp [sP, PyData.eqv, PyData.eqvAll]⟩
  | some r => exact ⟨rfl, by simp [sP, PyData.canLay0, PyData.canLayAll0], by simp [sP, PyData.depth, PyData.depthAll], by simp [sP, PyData.eqv, PyData.eqvAll]⟩
theorem py_line : ∀ ss : List Sec, pyAll (ss.map sD) = some (ss.map sP) ∧ PyData.canLayAll0 (ss.map sP) = true ∧ PyData.depthAll (ss.map sP) ≤ 1 ∧ PyData.eqvAll (ss.map sP) (ss.map sP) = true
  | [] => ⟨rfl, by simp [PyData.canLayAll0], by simp [PyData.depthAll], by simp [PyData.eqvAll]⟩
  | s :: ss => by
    obtain ⟨h1, h2, h3, h4⟩ := py_line ss
    obtain ⟨g1, g2, g3, g4⟩ := py_sP s
    refine ⟨?_, by simp [PyData.canLayAll0, h2, g2], by simp [PyData.depthAll, g3]; omega, by simp [PyData.eqvAll, h4, g4]⟩
    show (match D.py (sD s), pyAll (ss.map sD) with | some x, some xs => some (x :: xs) | _, _ => none) = _
    rw [g1, h1]
    rfl
theorem ne_line {ss : List Sec} {S : Sto} : neD (.tup (ss.map sD)) (.tup (ss.map sD)) S = .val (.bl false) S := by
  obtain ⟨h1, h2, h3, h4⟩ := py_line ss
  have e : D.py (.tup (ss.map sD)) = some (.tuple (ss.map sP)) := by
    show (pyAll (ss.map sD)).map PyData.tuple = _
    rw [h1]
    rfl
  have s1 : SeqAt.shaped (.tuple (ss.map sP)) = true := by
    unfold SeqAt.shaped
    simp [PyData.canLay0, PyData.depth, h2]
    omega
  unfold neD
  dsimp only
  rw [e]
  dsimp only
  rw [s1]
  simp [PyData.eqv, h4]
end K77
namespace K77
open PySem PySem.Spec PyProof.Rows L2 Pv TL
theorem py_nums : ∀ zs : List Int, pyAll (zs.map D.int) = some (zs.map PyData.int) ∧ PyData.canLayAll0 (zs.map PyData.int) = true ∧ PyData.depthAll (zs.map PyData.int) = 0 ∧ PyData.eqvAll (zs.map PyData.int) (zs.map PyData.int) = true
  | [] => ⟨rfl, by simp [PyData.canLayAll0], by simp [PyData.depthAll], by simp [PyData.eqvAll]⟩
  | z :: zs => by
    obtain ⟨h1, h2, h3, h4⟩ := py_nums zs
    refine ⟨?_, by simp [PyData.canLayAll0, PyData.canLay0, h2], by simp [PyData.depthAll, PyData.depth, h3], by simp [PyData.eqvAll, PyData.eqv, h4]⟩
    show (match D.py (.int z), pyAll (zs.map D.int) with | some x, some xs => some (x :: xs) | _, _ => none) = _
    rw [h1]
    rfl
theorem ne_ints {zs : List Int} {S : Sto} : neD (.tup (zs.map .int)) (.tup (zs.map .int)) S = .val (.bl false) S := by
  obtain ⟨h1, h2, h3, h4⟩ := py_nums zs
  have e : D.py (.tup (zs.map .int)) = some (.tuple (zs.map PyData.int)) := by
    show (pyAll (zs.map D.int)).map PyData.tuple = _
    rw [h1]
    rfl
  have s1 : SeqAt.shaped (.tuple (zs.map PyData.int)) = true := by
    unfold SeqAt.shaped
    simp [PyData.canLay0, PyData.depth, h2, h3]
  unfold neD
  dsimp only
  rw [e]
  dsimp only
  rw [s1]
  simp [PyData.eqv, h4]
theorem ne_pair {ss : List Sec} {zs : List Int} {S : Sto} : neD (.tup [.tup (ss.map sD), .tup (zs.map .int)]) (.tup [.tup (ss.map sD), .tup (zs.map .int)]) S = .val (.bl false) S := by
  obtain ⟨h1, h2, h3, h4⟩ := py_line ss
  obtain ⟨g1, g2, g3, g4⟩ := py_nums zs
  have e1 : D.py (.tup (ss.map sD)) = some (.tuple (ss.map sP)) := by
    show (pyAll (ss.map sD)).map PyData.tuple = _
    rw [h1]
    rfl
  have e2 : D.py (.tup (zs.map .int)) = some (.tuple (zs.map PyData.int)) := by
    show (pyAll (zs.map D.int)).map PyData.tuple = _
    rw [g1]
    rfl
  have e : D.py (.tup [.tup (ss.map sD), .tup (zs.map .int)]) = some (.tuple [.tuple (ss.map sP), .tuple (zs.map PyData.int)]) := by
    show (pyAll [.tup (ss.map sD), .tup (zs.map .int)]).map PyData.tuple = _
    simp [pyAll, e1, e2]
  have s1 : SeqAt.shaped (.tuple [.tuple (ss.map sP), .tuple (zs.map PyData.int)]) = true := by
    unfold SeqAt.shaped
    simp [PyData.canLay0, PyData.canLayAll0, PyData.depth, PyData.depthAll, h2, g2, g3]
    omega
  unfold neD
  dsimp only
  rw [e]
  dsimp only
  rw [s1]
  simp [PyData.eqv, PyData.eqvAll, h4, g4]
end K77
namespace K77
open PySem PySem.Spec PyProof.Rows L2 Pv TL
/-! the parts of a turn -/
def u1 : SM := sSet 2 (eN (callN 3 m__law_line) (aCons (eVar 0) (aCons (eC (.int 1)) (aCons (eC (.int 12)) (aNil)))))
def u2 : SM := sSet 3 (eN (callN 3 m__law_counts) (aCons (eVar 0) (aCons (eBin addD (eN lenN (aCons (eVar 2) (aNil))) (eC (.int 1))) (aCons (eC (.int 9)) (aNil)))))
def u3 : SM := sSet 4 (eN tupleN (aCons (eLst (fComp (iRange1 (aCons (eN (callN 2 m__law_draw) (aCons (eVar 0) (aCons (eC (.int 9)) (aNil)))) (aNil))) (gSet 12) (bTrue) (eN tupN (aCons (eN (callN 2 m__law_draw) (aCons (eVar 0) (aCons (eBin addD (eN lenN (aCons (eVar 2) (aNil))) (eC (.int 1))) (aNil)))) (aCons (eN (callN 2 m__law_pick) (aCons (eVar 0) (aCons (eN lstN (aCons (eC (.int 1)) (aCons (negM (eC (.int 1))) (aNil)))) (aNil)))) (aNil)))) [12])) (aNil)))
def u4 : SM := sPar3 5 6 7 (aCons (eN (callN 2 m__law_bad_lines) (aCons (eVar 2) (aCons (eC (.int 12)) (aNil)))) (aCons (eN (callN 1 m__law_bad_counts) (aCons (eVar 3) (aNil))) (aCons (eN (callN 2 m__law_bad_logs) (aCons (eVar 2) (aCons (eVar 4) (aNil)))) (aNil))))
def u5 : SM := sIf (bOr (bNot (bT (eN (callN 4 m__law_refused_right) (aCons (eVar 0) (aCons (eC (.fn "counts_text")) (aCons (eN tupN (aCons (eVar 2) (aCons (eVar 3) (aNil)))) (aCons (eN lstN (aCons (eVar 5) (aCons (eVar 6) (aNil)))) (aNil)))))))) (bNot (bT (eN (callN 4 m__law_refused_right) (aCons (eVar 0) (aCons (eC (.fn "log_text")) (aCons (eN tupN (aCons (eVar 2) (aCons (eVar 4) (aNil)))) (aCons (eN lstN (aCons (eVar 5) (aCons (eVar 7) (aNil)))) (aNil))))))))) (sRet (eC (.bl false))) (sNil)
def u6 : SM := sSet 8 (eBin addD (eLst (fComp (iIt (eN lstN (aCons (eC .non) (aCons (eC (.int 0)) (aCons (eC (.bl true)) (aCons (eN lstN (aNil)) (aCons (eN tupN (aCons (eC (.str "0")) (aNil))) (aCons (eC (.dic [])) (aNil))))))))) (gSet 13) (bTrue) (eN lstN (aCons (eVar 13) (aCons (eC (.str "text")) (aCons (eC .non) (aNil))))) [13])) (eN lstN (aCons (eN lstN (aCons (eC (.str "x")) (aCons (eC (.str "text")) (aCons (eC (.int 0)) (aNil))))) (aCons (eN lstN (aCons (eC (.str "0 x")) (aCons (eC (.str "text")) (aCons (eC (.int 1)) (aNil))))) (aNil)))))
def u7 : SM := sIf (bNot (bT (eN (callN 4 m__law_refused_right) (aCons (eVar 0) (aCons (eC (.fn "read_counts")) (aCons (eN tupN (aCons (eVar 2) (aCons (eN (callN 2 m_counts_text) (aCons (eVar 2) (aCons (eVar 3) (aNil)))) (aNil)))) (aCons (eN lstN (aCons (eVar 5) (aCons (eVar 8) (aNil)))) (aNil)))))))) (sRet (eC (.bl false))) (sNil)
def u8 : SM := sIf (bNot (bT (eN (callN 4 m__law_refused_right) (aCons (eVar 0) (aCons (eC (.fn "read_log")) (aCons (eN tupN (aCons (eVar 2) (aCons (eN (callN 2 m_log_text) (aCons (eVar 2) (aCons (eVar 4) (aNil)))) (aNil)))) (aCons (eN lstN (aCons (eVar 5) (aCons (eBin addD (eSl (eVar 8) oNone (oSome (eC (.int 6)))) (eN lstN (aCons (eN lstN (aCons (eC (.str "x")) (aCons (eC (.str "text")) (aCons (eC (.int 0)) (aNil))))) (aCons (eN lstN (aCons (eC (.str "0+ x")) (aCons (eC (.str "text")) (aCons (eC (.int 1)) (aNil))))) (aNil))))) (aNil)))) (aNil)))))))) (sRet (eC (.bl false))) (sNil)
def u9 : SM := sPar 9 10 (aCons (eN (callN 1 m_read_line) (aCons (eN (callN 1 m_line_text) (aCons (eVar 2) (aNil))) (aNil))) (aCons (eN (callN 2 m_read_counts) (aCons (eVar 2) (aCons (eN (callN 2 m_counts_text) (aCons (eVar 2) (aCons (eVar 3) (aNil)))) (aNil)))) (aNil)))
def u10 : SM := sIf (bOr (bT (eBin neD (eN tupN (aCons (eVar 9) (aCons (eVar 10) (aNil)))) (eN tupN (aCons (eVar 2) (aCons (eVar 3) (aNil)))))) (bOr (bT (eBin neD (eN (callN 2 m_loads) (aCons (eVar 9) (aCons (eVar 10) (aNil)))) (eN (callN 2 m__law_loads) (aCons (eVar 2) (aCons (eVar 3) (aNil)))))) (bT (eBin neD (eN (callN 2 m_is_lawful) (aCons (eVar 9) (aCons (eN (callN 2 m_read_log) (aCons (eVar 9) (aCons (eN (callN 2 m_log_text) (aCons (eVar 2) (aCons (eVar 4) (aNil)))) (aNil)))) (aNil)))) (eN (callN 2 m_is_lawful) (aCons (eVar 2) (aCons (eVar 4) (aNil)))))))) (sRet (eC (.bl false))) (sNil)
def u11 : SM := sSet 11 (eN (callN 1 m_read_line) (aCons (strM1 joinD (eC (.str " ")) (eRev (eLst (fSplit (eN (callN 1 m_line_text) (aCons (eVar 2) (aNil))) (eC (.str " ")))))) (aNil)))
def u12 : SM := sIf (bOr (bT (eBin neD (eVar 11) (eN (callN 1 m_line_backward) (aCons (eVar 2) (aNil))))) (bT (eBin neD (eN (callN 2 m_loads) (aCons (eVar 11) (aCons (eN (callN 2 m_counts_backward) (aCons (eVar 2) (aCons (eVar 10) (aNil)))) (aNil)))) (eRev (eN (callN 2 m__law_loads) (aCons (eVar 2) (aCons (eVar 3) (aNil)))))))) (sRet (eC (.bl false))) (sNil)
def u13 : SM := sIf (bT (eBin neD (eN (callN 2 m_counts_text) (aCons (eVar 2) (aCons (eBin mulD (eN tupN (aCons (eC (.int 1)) (aNil))) (eN lenN (aCons (eVar 3) (aNil)))) (aNil)))) (strM1 joinD (eC (.str " ")) (eBin mulD (eN lstN (aCons (eC (.str "1")) (aNil))) (eN lenN (aCons (eVar 3) (aNil))))))) (sRet (eC (.bl false))) (sNil)
def turnB : SM := sSeq u1 (sSeq u2 (sSeq u3 (sSeq u4 (sSeq u5 (sSeq u6 (sSeq u7 (sSeq u8 (sSeq u9 (sSeq u10 (sSeq u11 (sSeq u12 u13)))))))))))
theorem rightE : m__law_right = defM 14 (sSeq (sFor (iRange1 (aCons (eC (.int 4)) aNil)) (gSet 1) turnB) (sRet (eC (.bl true)))) := rfl
end K77
namespace K77
open PySem PySem.Spec PyProof.Rows L2 Pv TL
abbrev ln (ss : List Sec) : D := .tup (ss.map sD)
abbrev ci (cs : List Int) : D := .tup (cs.map .int)
abbrev lg (es : List En) : D := .tup (es.map eD)
/-- the first parts: drawn things, wrong things, counts_text and log_text refused -/
theorem first_ok {S0 S : Sto} {n : Nat} {x1 x2 x3 x4 x5 x6 x7 x8 x9 x10 x11 : Option D} (P : Pool S0 n S) (hn : n ≤ 500000) (h0 : S0.all noExcC = true) :
    ∃ (ss : List Sec) (cs : List Int) (es : List En) (A B C : List D) (S' : Sto), (∀ s ∈ ss, near s) ∧ 1 ≤ ss.length ∧ ss.length ≤ 12 ∧ cs.length = ss.length + 1 ∧ Dr cs ∧ es.length ≤ 8 ∧ (∀ e ∈ es, e.1 ≤ ss.length) ∧ (∀ x ∈ A, Bad x) ∧ A.length = 23 ∧ Pool S0 (n + 700) S' ∧
      ∀ X : SM, sSeq u1 (sSeq u2 (sSeq u3 (sSeq u4 (sSeq u5 X)))) [some (.ref S0.length), x1, x2, x3, x4, x5, x6, x7, x8, x9, x10, x11, none, none] S = X [some (.ref S0.length), x1, some (ln ss), some (ci cs), some (lg es), some (.lst A), some (.lst B), some (.lst C), x8, x9, x10, x11, none, none] S' := by
  have z2 : decide (2 ≤ sizeLine) = true := by decide
  obtain ⟨ss, S1, e1, l1, l2, hnr, P1⟩ := law_line_ok P (by omega)
  have hl := ln_near hnr l1 l2
  obtain ⟨cs, S2, e2, c1, c2, P2⟩ := law_counts_ok (k := ss.length + 1) P1 (by omega) (by omega)
  obtain ⟨es, S3, e3, h8, he, P3⟩ := dl_ok (ls := ss.map sD) (x1 := x1) (x3 := some (ci cs)) (x4 := x4) (x5 := x5) (x6 := x6) (x7 := x7) (x8 := x8) (x9 := x9) (x10 := x10) (x11 := x11) (x13 := none) P2 (by omega) (by rw [List.length_map]; exact l2)
  obtain ⟨A, a1, a2, a3⟩ := bad_lines_ok (S := S3) hl.ok hl.lo hl.hi
  obtain ⟨B, b1, b2, b3⟩ := bad_counts_ok (S := S3) (cs := cs) (n := ss.length) c1 l1 l2
  obtain ⟨C, g1, g2, g3⟩ := bad_logs_ok (S := S3) (ls := ss.map sD) (es := es) he (by omega)
  rw [List.length_map] at he g2
  obtain ⟨S4, f1, P4⟩ := ref_ct (b := ci cs) P3 (by omega) h0 hl a2 a3 b2 b3 fun S => ⟨_, counts_text_ok hl c1 c2.nb⟩
  obtain ⟨S5, f2, P5⟩ := ref_lt (b := lg es) P4 (by omega) h0 hl a2 a3 g2 g3 fun S => ⟨_, log_text_ok hl he (by omega)⟩
  refine ⟨ss, cs, es, A, B, C, S5, hnr, l1, l2, c1, c2, h8, he, a2, a3, P5.mono (by omega), fun X => ?_⟩
  have ek : (ss.length : Int) + 1 = ((ss.length + 1 : Nat) : Int) := by omega
  have E1 : u1 [some (.ref S0.length), x1, x2, x3, x4, x5, x6, x7, x8, x9, x10, x11, none, none] S = .nx [some (.ref S0.length), x1, some (ln ss), x3, x4, x5, x6, x7, x8, x9, x10, x11, none, none] S1 := by
    simp only [u1, s_sSet, s_eN, s_aCons, s_aNil, s_eVar, s_eC, List.getElem?_cons_zero, R.bind_val, s_callN, List.length_cons, List.length_nil, Nat.reduceAdd, decide_true, s_true, e1, s_then_val, List.set_cons_succ, List.set_cons_zero]
  have E2 : u2 [some (.ref S0.length), x1, some (ln ss), x3, x4, x5, x6, x7, x8, x9, x10, x11, none, none] S1 = .nx [some (.ref S0.length), x1, some (ln ss), some (ci cs), x4, x5, x6, x7, x8, x9, x10, x11, none, none] S2 := by
    simp only [u2, s_sSet, s_eN, s_aCons, s_aNil, s_eVar, s_eC, s_eBin, List.getElem?_cons_zero, List.getElem?_cons_succ, R.bind_val, s_lenT, List.length_map, s_addI, ek, s_callN, List.length_cons, List.length_nil, Nat.reduceAdd, decide_true, s_true, e2, s_then_val, List.set_cons_succ, List.set_cons_zero]
  have E3 : u3 [some (.ref S0.length), x1, some (ln ss), some (ci cs), x4, x5, x6, x7, x8, x9, x10, x11, none, none] S2 = .nx [some (.ref S0.length), x1, some (ln ss), some (ci cs), some (lg es), x5, x6, x7, x8, x9, x10, x11, none, none] S3 := by
    have : u3 = sSet 4 dlE := rfl
    rw [this, s_sSet, e3, s_then_val]
    simp only [List.set_cons_succ, List.set_cons_zero]
  have E4 : u4 [some (.ref S0.length), x1, some (ln ss), some (ci cs), some (lg es), x5, x6, x7, x8, x9, x10, x11, none, none] S3 = .nx [some (.ref S0.length), x1, some (ln ss), some (ci cs), some (lg es), some (.lst A), some (.lst B), some (.lst C), x8, x9, x10, x11, none, none] S3 := by
    simp only [u4, s_sPar3, s_eN, s_aCons, s_aNil, s_eVar, s_eC, List.getElem?_cons_zero, List.getElem?_cons_succ, R.bind_val, s_callN, List.length_cons, List.length_nil, Nat.reduceAdd, decide_true, s_true, a1, b1, g1, s_then_val, List.set_cons_succ, List.set_cons_zero]
  have E5 : u5 [some (.ref S0.length), x1, some (ln ss), some (ci cs), some (lg es), some (.lst A), some (.lst B), some (.lst C), x8, x9, x10, x11, none, none] S3 = .nx [some (.ref S0.length), x1, some (ln ss), some (ci cs), some (lg es), some (.lst A), some (.lst B), some (.lst C), x8, x9, x10, x11, none, none] S5 := by
    simp only [u5, s_sIf, s_bOr, s_bNot, s_bT, s_eN, s_aCons, s_aNil, s_eVar, s_eC, List.getElem?_cons_zero, List.getElem?_cons_succ, R.bind_val, s_tupN, s_lstN, z2, s_callN, List.length_cons, List.length_nil, Nat.reduceAdd, decide_true, s_true, f1, f2, s_ofB, Bool.not_true, s_then_val, Bool.false_eq_true, if_false, ite_false, s_sNil]
  rw [s_sSeq, E1, seq_nx, s_sSeq, E2, seq_nx, s_sSeq, E3, seq_nx, s_sSeq, E4, seq_nx, s_sSeq, E5, seq_nx]
end K77
namespace K77
open PySem PySem.Spec PyProof.Rows L2 Pv TL
section
variable {r : Nat} {ss : List Sec} {cs : List Int} {es : List En} {x1 x5 x6 x7 x8 x9 x10 x11 : Option D} {S : Sto}
theorem u9_ok (hnr : ∀ s ∈ ss, near s) (l1 : 1 ≤ ss.length) (l2 : ss.length ≤ 12) (c1 : cs.length = ss.length + 1) (c2 : Dr cs) :
    u9 [some (.ref r), x1, some (ln ss), some (ci cs), some (lg es), x5, x6, x7, x8, x9, x10, x11, none, none] S = .nx [some (.ref r), x1, some (ln ss), some (ci cs), some (lg es), x5, x6, x7, x8, some (ln ss), some (ci cs), x11, none, none] S := by
  have hl := ln_near hnr l1 l2
  have a := line_near (S := S) hnr l1 l2
  have b := read_near (S := S) hnr l1 l2
  have c := counts_text_ok (S := S) hl c1 c2.nb
  have d := read_drawn (S := S) hl c2 c1
  simp only [u9, s_sPar, s_eN, s_aCons, s_aNil, s_eVar, List.getElem?_cons_zero, List.getElem?_cons_succ, R.bind_val, s_callN, List.length_cons, List.length_nil, Nat.reduceAdd, decide_true, s_true, a, b, c, d, s_then_val, List.set_cons_succ, List.set_cons_zero]
theorem ne_bl (b : Bool) : neD (.bl b) (.bl b) S = .val (.bl false) S := by cases b <;> rfl
theorem u10_ok (hE : S.all noExcC = true) (hS : S.all noLstC = true) (hnr : ∀ s ∈ ss, near s) (l1 : 1 ≤ ss.length) (l2 : ss.length ≤ 12) (c1 : cs.length = ss.length + 1) (h8 : es.length ≤ 8) (he : ∀ e ∈ es, e.1 ≤ ss.length) :
    u10 [some (.ref r), x1, some (ln ss), some (ci cs), some (lg es), x5, x6, x7, x8, some (ln ss), some (ci cs), x11, none, none] S = .nx [some (.ref r), x1, some (ln ss), some (ci cs), some (lg es), x5, x6, x7, x8, some (ln ss), some (ci cs), x11, none, none] S := by
  have z2 : decide (2 ≤ sizeLine) = true := by decide
  have hl := ln_near hnr l1 l2
  have lo := loads_ok (S := S) hl c1
  have ll := law_loads_ok (S := S) l2 c1
  obtain ⟨b, lw⟩ := lawful_ok (S := S) hS hl (by omega : es.length ≤ 20) he
  have lt := log_text_ok (S := S) hl he (by omega)
  have b12 : ∀ e ∈ es, e.1 ≤ 12 := fun e h => Nat.le_trans (he e h) l2
  have rl := read_log_ok (S := S) (t := lW es) hE hl ((lW_sh b12 (by omega)).tx (by decide))
  rw [rlS_lW he l2 (by omega)] at rl
  dsimp only at rl
  simp only [u10, s_sIf, s_bOr, s_bT, s_eBin, s_eN, s_aCons, s_aNil, s_eVar, List.getElem?_cons_zero, List.getElem?_cons_succ, R.bind_val, s_tupN, z2, s_callN, List.length_cons, List.length_nil, Nat.reduceAdd, decide_true, s_true, ne_pair, s_ofB, Bool.false_eq_true, if_false, ite_false, lo, ll, ne_ints, lt, rl, lw, ne_bl, s_then_val, s_sNil]
end
end K77
namespace K77
open PySem PySem.Spec PyProof.Rows L2 Pv TL
section
variable {r : Nat} {ss : List Sec} {cs : List Int} {es : List En} {x1 x5 x6 x7 x8 x9 x10 x11 : Option D} {S : Sto}
theorem near_rev (hnr : ∀ s ∈ ss, near s) : ∀ s ∈ ss.reverse, near s := fun s hs => hnr s (List.mem_reverse.mp hs)
theorem u12_ok (hnr : ∀ s ∈ ss, near s) (l1 : 1 ≤ ss.length) (l2 : ss.length ≤ 12) (c1 : cs.length = ss.length + 1) :
    u12 [some (.ref r), x1, some (ln ss), some (ci cs), some (lg es), x5, x6, x7, x8, some (ln ss), some (ci cs), some (ln ss.reverse), none, none] S = .nx [some (.ref r), x1, some (ln ss), some (ci cs), some (lg es), x5, x6, x7, x8, some (ln ss), some (ci cs), some (ln ss.reverse), none, none] S := by
  have hl := ln_near hnr l1 l2
  have hr := ln_near (near_rev hnr) (by rw [List.length_reverse]; exact l1) (by rw [List.length_reverse]; exact l2)
  have a := line_back_ok (S := S) hl
  have b := counts_back_ok (S := S) hl c1
  have c := loads_ok (S := S) (cs := bk cs) hr (by rw [bk_len, List.length_reverse]; exact c1)
  rw [lds_back c1] at c
  have ll := law_loads_ok (S := S) l2 c1
  have er : ((lds ss cs).map D.int).reverse = (lds ss cs).reverse.map D.int := List.map_reverse.symm
  simp only [u12, s_sIf, s_bOr, s_bT, s_eBin, s_eN, s_aCons, s_aNil, s_eVar, s_eRev, List.getElem?_cons_zero, List.getElem?_cons_succ, R.bind_val, s_callN, List.length_cons, List.length_nil, Nat.reduceAdd, decide_true, s_true, a, ne_line, s_ofB, Bool.false_eq_true, if_false, ite_false, b, c, ll, er, ne_ints, s_then_val, s_sNil]
theorem u7_ok {S0 : Sto} {n : Nat} {A : List D} (P : Pool S0 n S) (hn : n ≤ 700000) (h0 : S0.all noExcC = true) (hnr : ∀ s ∈ ss, near s) (l1 : 1 ≤ ss.length) (l2 : ss.length ≤ 12) (c1 : cs.length = ss.length + 1) (c2 : Dr cs) (hA : ∀ x ∈ A, Bad x) (lA : A.length = 23) :
    ∃ S', u7 [some (.ref S0.length), x1, some (ln ss), some (ci cs), some (lg es), some (.lst A), x6, x7, some (.lst txsC), x9, x10, x11, none, none] S = .nx [some (.ref S0.length), x1, some (ln ss), some (ci cs), some (lg es), some (.lst A), x6, x7, some (.lst txsC), x9, x10, x11, none, none] S' ∧ Pool S0 (n + 300) S' := by
  have z2 : decide (2 ≤ sizeLine) = true := by decide
  have hl := ln_near hnr l1 l2
  have ct := counts_text_ok (S := S) hl c1 c2.nb
  obtain ⟨S', e, P'⟩ := ref_rc (b := .str (cW cs)) P hn h0 hl hA lA fun S => ⟨_, read_drawn hl c2 c1⟩
  refine ⟨S', ?_, P'⟩
  simp only [u7, s_sIf, s_bNot, s_bT, s_eN, s_aCons, s_aNil, s_eVar, s_eC, List.getElem?_cons_zero, List.getElem?_cons_succ, R.bind_val, s_tupN, s_lstN, z2, s_callN, List.length_cons, List.length_nil, Nat.reduceAdd, decide_true, s_true, ct, e, s_ofB, Bool.not_true, s_then_val, Bool.false_eq_true, if_false, ite_false, s_sNil]
end
end K77
namespace K77
open PySem PySem.Spec PyProof.Rows L2 Pv TL
section
variable {r : Nat} {ss : List Sec} {cs : List Int} {es : List En} {x1 x2 x3 x4 x5 x6 x7 x8 x9 x10 x11 : Option D} {S : Sto}
theorem u8_ok {S0 : Sto} {n : Nat} {A : List D} (P : Pool S0 n S) (hn : n ≤ 700000) (h0 : S0.all noExcC = true) (hnr : ∀ s ∈ ss, near s) (l1 : 1 ≤ ss.length) (l2 : ss.length ≤ 12) (h8 : es.length ≤ 8) (he : ∀ e ∈ es, e.1 ≤ ss.length) (hA : ∀ x ∈ A, Bad x) (lA : A.length = 23) :
    ∃ S', u8 [some (.ref S0.length), x1, some (ln ss), x3, some (lg es), some (.lst A), x6, x7, some (.lst txsC), x9, x10, x11, none, none] S = .nx [some (.ref S0.length), x1, some (ln ss), x3, some (lg es), some (.lst A), x6, x7, some (.lst txsC), x9, x10, x11, none, none] S' ∧ Pool S0 (n + 300) S' := by
  have z2 : decide (2 ≤ sizeLine) = true := by decide
  have z3 : decide (3 ≤ sizeLine) = true := by decide
  have hl := ln_near hnr l1 l2
  have lt := log_text_ok (S := S) hl he (by omega)
  have b12 : ∀ e ∈ es, e.1 ≤ 12 := fun e h => Nat.le_trans (he e h) l2
  obtain ⟨S', e, P'⟩ := ref_rl (b := .str (lW es)) P hn h0 hl hA lA fun S hE => by
    have rl := read_log_ok (S := S) (t := lW es) hE hl ((lW_sh b12 (by omega)).tx (by decide))
    rw [rlS_lW he l2 (by omega)] at rl
    exact ⟨_, rl⟩
  have cut : Pv.cutD txsC none (some 6) = txs6 := cut_to txsC 6
  have ad : ∀ S, addD (.lst txs6) (.lst [.lst [.str "x", .str "text", .int 0], .lst [.str "0+ x", .str "text", .int 1]]) S = .val (.lst txsL) S := fun S => by
    rw [s_addL]
    exact s_dec (by decide) _
  refine ⟨S', ?_, P'⟩
  simp only [u8, s_sIf, s_bNot, s_bT, s_eN, s_aCons, s_aNil, s_eVar, s_eC, s_eBin, s_eSl, s_oNone, s_oSome, s_slL, cut, List.getElem?_cons_zero, List.getElem?_cons_succ, R.bind_val, s_tupN, s_lstN, z2, z3, s_callN, List.length_cons, List.length_nil, Nat.reduceAdd, decide_true, s_true, lt, ad, e, s_ofB, Bool.not_true, s_then_val, Bool.false_eq_true, if_false, ite_false, s_sNil]
theorem u11_ok (hnr : ∀ s ∈ ss, near s) (l1 : 1 ≤ ss.length) (l2 : ss.length ≤ 12) :
    u11 [some (.ref r), x1, some (ln ss), x3, x4, x5, x6, x7, x8, x9, x10, x11, none, none] S = .nx [some (.ref r), x1, some (ln ss), x3, x4, x5, x6, x7, x8, x9, x10, some (ln ss.reverse), none, none] S := by
  have a := line_near (S := S) hnr l1 l2
  have b := read_near (S := S) (near_rev hnr) (by rw [List.length_reverse]; exact l1) (by rw [List.length_reverse]; exact l2)
  have tx := (tW_sh hnr l2).tx (by decide)
  have hw : ∀ w ∈ (Txt.split (tW ss) " ").reverse, w.length ≤ 330 := fun w hw => tx.wd w (List.mem_reverse.mp hw)
  have hlen : (Txt.split (tW ss) " ").reverse.length ≤ 12 := by
    rw [List.length_reverse, tW_split hnr (fun z => by rw [z] at l1; cases l1), List.length_map]
    exact l2
  have j := join_ok (S := S) hw hlen (by decide)
  rw [tW_rev hnr l1] at j
  have sp : ∀ S, ifR (!(" " : Str).length == 0 && decide ((tW ss).length + 2 ≤ sizeLine)) (R.val ((Txt.split (tW ss) " ").map D.str) S) = .val ((Txt.split (tW ss) " ").map D.str) S := fun S => by
    rw [lenS, s_dec2 tx.fits]
  have er : ((Txt.split (tW ss) " ").map D.str).reverse = (Txt.split (tW ss) " ").reverse.map D.str := List.map_reverse.symm
  simp only [u11, s_sSet, s_eN, s_aCons, s_aNil, s_eVar, s_strM1, s_eC, s_eRev, s_eLst, s_fSplit, List.getElem?_cons_zero, List.getElem?_cons_succ, R.bind_val, s_callN, List.length_cons, List.length_nil, Nat.reduceAdd, decide_true, s_true, a, sp, er, j, b, s_then_val, List.set_cons_succ, List.set_cons_zero]
end
end K77
namespace K77
open PySem PySem.Spec PyProof.Rows L2 Pv TL
section
variable {r : Nat} {ss : List Sec} {cs : List Int} {x0 x1 x2 x3 x4 x5 x6 x7 x8 x9 x10 x11 : Option D} {S : Sto}
theorem u6_ok : u6 [x0, x1, x2, x3, x4, x5, x6, x7, x8, x9, x10, x11, none, none] S = .nx [x0, x1, x2, x3, x4, x5, x6, x7, some (.lst txsC), x9, x10, x11, none, none] S := by
  have z0 : decide (0 ≤ sizeLine) = true := by decide
  have z1 : decide (1 ≤ sizeLine) = true := by decide
  have z2 : decide (2 ≤ sizeLine) = true := by decide
  have z3 : decide (3 ≤ sizeLine) = true := by decide
  have z6 : decide (6 ≤ sizeLine) = true := by decide
  have c : compGo (gSet 13) bTrue (eN lstN (aCons (eVar 13) (aCons (eC (.str "text")) (aCons (eC .non) aNil)))) [x0, x1, x2, x3, x4, x5, x6, x7, x8, x9, x10, x11, none, none] odd6 S = .val txs6 S := comp_map fun d _ => ⟨_, rfl, by
    simp only [s_eN, s_aCons, s_aNil, s_eC, s_eVar, List.set_cons_succ, List.set_cons_zero, List.getElem?_cons_zero, List.getElem?_cons_succ, R.bind_val, s_lstN, List.length_cons, List.length_nil, Nat.reduceAdd, z3, s_true]⟩
  have o : ∀ Γ S, eN lstN (aCons (eC .non) (aCons (eC (.int 0)) (aCons (eC (.bl true)) (aCons (eN lstN aNil) (aCons (eN tupN (aCons (eC (.str "0")) aNil)) (aCons (eC (.dic [])) aNil)))))) Γ S = .val (.lst odd6) S := fun Γ S => by
    simp only [odd6, s_eN, s_aCons, s_aNil, s_eC, R.bind_val, s_lstN, s_tupN, z0, z1, z6, List.length_cons, List.length_nil, Nat.reduceAdd, s_true]
  have ad : addD (.lst txs6) (.lst [.lst [.str "x", .str "text", .int 0], .lst [.str "0 x", .str "text", .int 1]]) S = .val (.lst txsC) S := by
    rw [s_addL]
    exact s_dec (by decide) _
  unfold u6
  rw [s_sSet, s_eBin, s_eLst, s_fComp, s_iIt, o, R.bind_val, s_itsL]
  dsimp only
  rw [R.bind_val, s_wipe1, s_wipe0]
  simp only [List.set_cons_succ, List.set_cons_zero]
  rw [c, R.bind_val, s_dec (show txs6.length ≤ sizeLine by decide), R.bind_val]
  simp only [s_eN, s_aCons, s_aNil, s_eC, R.bind_val, s_lstN, z2, z3, List.length_cons, List.length_nil, Nat.reduceAdd, s_true, ad, s_then_val, List.set_cons_succ, List.set_cons_zero]
theorem flat_one {α : Type} (x : α) : ∀ n : Nat, (List.replicate n [x]).flatten = List.replicate n x
  | 0 => rfl
  | n + 1 => by rw [List.replicate_succ, List.flatten_cons, flat_one x n]; rfl
theorem u13_ok (hl : Ln ss) (c1 : cs.length = ss.length + 1) : u13 [x0, x1, some (ln ss), some (ci cs), x4, x5, x6, x7, x8, x9, x10, x11, none, none] S = .nx [x0, x1, some (ln ss), some (ci cs), x4, x5, x6, x7, x8, x9, x10, x11, none, none] S := by
  have z1 : decide (1 ≤ sizeLine) = true := by decide
  have l2 := hl.hi
  have l1 := hl.lo
  have m1 : mulD (.tup [.int 1]) (.int (cs.length : Int)) S = .val (.tup ((List.replicate cs.length (1 : Int)).map D.int)) S := by
    unfold mulD
    dsimp only
    rw [s_dec ⟨by simp, by omega, by omega, by decide⟩, Int.toNat_natCast, flat_one, List.map_replicate]
  have m2 : mulD (.lst [.str "1"]) (.int (cs.length : Int)) S = .val (.lst ((List.replicate cs.length ("1" : Str)).map D.str)) S := by
    unfold mulD
    dsimp only
    rw [s_dec ⟨by omega, by omega, by rw [Int.toNat_natCast]; exact Nat.le_trans (show _ ≤ 13 by show 1 * cs.length ≤ 13; omega) (by decide)⟩, Int.toNat_natCast, flat_one, List.map_replicate]
  have nb := nb1000
  have ct := counts_text_ok (S := S) (cs := List.replicate cs.length 1) hl (by rw [List.length_replicate]; exact c1) (fun c hc => by
    rw [List.eq_of_mem_replicate hc]
    show 1 < NB
    omega)
  have j := join_ok (S := S) (l := List.replicate cs.length ("1" : Str)) (B := 1) (n := 13) (fun w hw => by rw [List.eq_of_mem_replicate hw]; decide) (by rw [List.length_replicate]; omega) (by decide)
  rw [ones_text] at j
  simp only [u13, s_sIf, s_bT, s_eBin, s_eN, s_aCons, s_aNil, s_eVar, s_eC, s_strM1, List.getElem?_cons_zero, List.getElem?_cons_succ, R.bind_val, s_tupN, s_lstN, z1, s_lenT, List.length_map, s_callN, List.length_cons, List.length_nil, Nat.reduceAdd, decide_true, s_true, m1, m2, ct, j, s_neS, Bool.not_true, s_ofB, s_then_val, Bool.false_eq_true, if_false, ite_false, s_sNil]
end
end K77
namespace K77
open PySem PySem.Spec PyProof.Rows L2 Pv TL
theorem turn_ok {S0 S : Sto} {n : Nat} {x1 x2 x3 x4 x5 x6 x7 x8 x9 x10 x11 : Option D} (P : Pool S0 n S) (hn : n ≤ 400000) (h0 : S0.all noExcC = true) (h1 : S0.all noLstC = true) :
    ∃ y2 y3 y4 y5 y6 y7 y8 y9 y10 y11 S', turnB [some (.ref S0.length), x1, x2, x3, x4, x5, x6, x7, x8, x9, x10, x11, none, none] S = .nx [some (.ref S0.length), x1, y2, y3, y4, y5, y6, y7, y8, y9, y10, y11, none, none] S' ∧ Pool S0 (n + 2000) S' := by
  obtain ⟨ss, cs, es, A, B, C, S1, hnr, l1, l2, c1, c2, h8, he, a2, a3, P1, go⟩ := first_ok (x1 := x1) (x2 := x2) (x3 := x3) (x4 := x4) (x5 := x5) (x6 := x6) (x7 := x7) (x8 := x8) (x9 := x9) (x10 := x10) (x11 := x11) P (by omega) h0
  have hl := ln_near hnr l1 l2
  obtain ⟨S2, E7, P2⟩ := u7_ok (x1 := x1) (x6 := some (.lst B)) (x7 := some (.lst C)) (x9 := x9) (x10 := x10) (x11 := x11) (es := es) P1 (by omega) h0 hnr l1 l2 c1 c2 a2 a3
  obtain ⟨S3, E8, P3⟩ := u8_ok (x1 := x1) (x3 := some (ci cs)) (x6 := some (.lst B)) (x7 := some (.lst C)) (x9 := x9) (x10 := x10) (x11 := x11) P2 (by omega) h0 hnr l1 l2 h8 he a2 a3
  refine ⟨some (ln ss), some (ci cs), some (lg es), some (.lst A), some (.lst B), some (.lst C), some (.lst txsC), some (ln ss), some (ci cs), some (ln ss.reverse), S3, ?_, P3.mono (by omega)⟩
  unfold turnB
  rw [go, s_sSeq, u6_ok, seq_nx, s_sSeq, E7, seq_nx, s_sSeq, E8, seq_nx, s_sSeq, u9_ok hnr l1 l2 c1 c2, seq_nx, s_sSeq, u10_ok (P3.noExc h0) (P3.noLst h1) hnr l1 l2 c1 h8 he, seq_nx, s_sSeq, u11_ok hnr l1 l2, seq_nx, s_sSeq, u12_ok hnr l1 l2 c1, seq_nx, u13_ok hl c1]
theorem right_ok {S0 S : Sto} (P : Pool S0 0 S) (h0 : S0.all noExcC = true) (h1 : S0.all noLstC = true) : ∃ S', m__law_right [.ref S0.length] S = .val (.bl true) S' ∧ S'.all noExcC = true ∧ S'.all noLstC = true := by
  obtain ⟨Γ', S1, e1, x1, x2, x3, x4, x5, x6, x7, x8, x9, x10, x11, rfl, P1⟩ := for_inv (gm := gSet 1) (m := turnB) (P := fun j Γ S => ∃ x1 x2 x3 x4 x5 x6 x7 x8 x9 x10 x11, Γ = [some (.ref S0.length), x1, x2, x3, x4, x5, x6, x7, x8, x9, x10, x11, none, none] ∧ Pool S0 (2000 * j) S) 4 (ds := rangeD 0 4) (i := 0) (Γ := [some (.ref S0.length), none, none, none, none, none, none, none, none, none, none, none, none, none]) (S := S) (fun j d Γ S hd hj h => by
      obtain ⟨x1, x2, x3, x4, x5, x6, x7, x8, x9, x10, x11, rfl, Pj⟩ := h
      obtain ⟨y2, y3, y4, y5, y6, y7, y8, y9, y10, y11, S', e, P'⟩ := turn_ok (x1 := some d) (x2 := x2) (x3 := x3) (x4 := x4) (x5 := x5) (x6 := x6) (x7 := x7) (x8 := x8) (x9 := x9) (x10 := x10) (x11 := x11) Pj (by omega) h0 h1
      exact ⟨_, S, _, S', rfl, e, some d, y2, y3, y4, y5, y6, y7, y8, y9, y10, y11, rfl, P'.mono (by omega)⟩) (by decide) ⟨_, _, _, _, _, _, _, _, _, _, _, rfl, P⟩
  refine ⟨S1, ?_, P1.noExc h0, P1.noLst h1⟩
  have e0 : startD 14 [.ref S0.length] = [some (.ref S0.length), none, none, none, none, none, none, none, none, none, none, none, none, none] := rfl
  have r4 : iRange1 (aCons (eC (.int 4)) aNil) [some (.ref S0.length), none, none, none, none, none, none, none, none, none, none, none, none, none] S = .val (rangeD 0 4) S := range1_run (n := 4) rfl (by decide)
  rw [rightE, s_def, e0, s_sSeq, s_sFor, r4, s_then_val, e1, seq_nx]
  rfl
def lawB : SM := sIf (bNot (bT (eN (callN 1 m__law_right) (aCons (eN (callN 2 m__law_pool) (aCons (eVar 0) (aCons (eVar 1) aNil))) aNil)))) (sRet (eC (.bl false))) sNil
theorem lawE : m_law = defM 2 (sSeq (sFor (iRange1 (aCons (eN max2N (aCons (eC (.int 2)) (aCons (eN min2N (aCons (eN lenN (aCons (eVar 0) aNil)) (aCons (eC (.int 3)) aNil))) aNil))) aNil)) (gSet 1) lawB) (sRet (eC (.bl true)))) := rfl
theorem law_ok (ns : List Int) (hn : ns.length ≤ 63) (hb : ∀ z ∈ ns, Builtin.Int.intBits z ≤ 1048576) : ∃ S, m_law [.frz (ns.map .int)] [] = .val (.bl true) S := by
  obtain ⟨q, hq, hk⟩ : ∃ q : Nat, (if (if (3 : Int) < (ns.length : Int) then (3 : Int) else (ns.length : Int)) > 2 then (if (3 : Int) < (ns.length : Int) then (3 : Int) else (ns.length : Int)) else 2) = (q : Int) ∧ q ≤ 3 := by
    by_cases h3 : (3 : Int) < (ns.length : Int)
    · exact ⟨3, by rw [if_pos h3]; rfl, by decide⟩
    · rw [if_neg h3]
      by_cases h2 : (ns.length : Int) > 2
      · exact ⟨ns.length, by rw [if_pos h2], by omega⟩
      · exact ⟨2, by rw [if_neg h2]; rfl, by decide⟩
  obtain ⟨Γ', S1, e1, x1, rfl, hS⟩ := for_inv (gm := gSet 1) (m := lawB) (P := fun j Γ S => ∃ x1, Γ = [some (.frz (ns.map D.int)), x1] ∧ S.all noExcC = true ∧ S.all noLstC = true) 3 (ds := rangeD 0 q) (i := 0) (Γ := [some (.frz (ns.map D.int)), none]) (S := []) (fun j d Γ S hd hj h => by
      obtain ⟨x1, rfl, hS, hL⟩ := h
      unfold rangeD at hd
      obtain ⟨t, ht, rfl⟩ := List.mem_map.mp hd
      rw [List.mem_range] at ht
      obtain ⟨S1, e1, P1⟩ := pool_ok (S := S) (t := t) hn hb (by omega)
      obtain ⟨S2, e2, h2, h3⟩ := right_ok P1 hS hL
      refine ⟨_, S, [some (.frz (ns.map D.int)), some (.int (t : Int))], S2, by rw [s_gSet, Int.zero_add], ?_, _, rfl, h2, h3⟩
      simp only [lawB, List.set_cons_succ, List.set_cons_zero, s_sIf, s_bNot, s_bT, s_eN, s_aCons, s_aNil, s_eVar, List.getElem?_cons_zero, List.getElem?_cons_succ, R.bind_val, s_callN, List.length_cons, List.length_nil, Nat.reduceAdd, decide_true, s_true, e1, e2, s_ofB, Bool.not_true, s_then_val, Bool.false_eq_true, if_false, ite_false, s_sNil]) (by rw [range_len]; omega) ⟨none, rfl, rfl, rfl⟩
  refine ⟨S1, ?_⟩
  have e0 : startD 2 [.frz (ns.map D.int)] = [some (.frz (ns.map D.int)), none] := rfl
  have r : iRange1 (aCons (eN max2N (aCons (eC (.int 2)) (aCons (eN min2N (aCons (eN lenN (aCons (eVar 0) aNil)) (aCons (eC (.int 3)) aNil))) aNil))) aNil) [some (.frz (ns.map D.int)), none] [] = .val (rangeD 0 q) [] := range1_run (n := q) (by
    simp only [s_eN, s_aCons, s_aNil, s_eC, s_eVar, List.getElem?_cons_zero, R.bind_val, s_len3, List.length_map, s_min, s_max, hq]) (Nat.le_trans hk (by decide))
  rw [lawE, s_def, e0, s_sSeq, s_sFor, r, s_then_val, e1, seq_nx]
  rfl
end K77
open PySem PySem.W PySem.Calls PyProof.Rows
theorem hd77 (T : ∀ ns : List Int, ns.length ≤ 63 → (∀ z ∈ ns, Builtin.Int.intBits z ≤ 1048576) → ∃ S, K77.m_law [.frz (ns.map Pv.D.int)] [] = .val (.bl true) S) : PySem.Challenge.rw_axlecounts_k77_texts_refused_and_read_ag.Holds := by
  w_on; o_law
  refine HandSHeadRun.head_any (r := OpenLaw.row PySem.Challenge.rw_axlecounts_k77_texts_refused_and_read_ag) (q := view (OpenLaw.row PySem.Challenge.rw_axlecounts_k77_texts_refused_and_read_ag).prog [106]) (H := K77.hk) (ob := K77.ob) (M := 8000) (loose := K77.loose) (d := HandSHeadRun.topDef (OpenLaw.row PySem.Challenge.rw_axlecounts_k77_texts_refused_and_read_ag).prog 106) (kwd := []) K77.ob_eq
    (by kernel_rfl) (fun s => by kernel_rfl) K77.run (by kernel_rfl) (by kernel_rfl) (by kernel_rfl) (by rfl) (by first | assumption | decide +kernel) (by decide +kernel) ⟨rfl, rfl, rfl, rfl, rfl, by decide +kernel⟩ ?hw ?hc
  case hw => w_witness2
  case hc =>
    refine Pv.walk_ofG (l := PySem.Challenge.rw_axlecounts_k77_texts_refused_and_read_ag) (n := 63) (k := 12) (x := "script") rfl (by decide) (by kernel_rfl) ⟨rfl, by decide, by decide⟩ ?F
    intro w mg fa h Y G hmg0
    obtain ⟨K, KX, c⟩ := Y
    have hmg : mg ("law" : PySem.Str) = some (.ref fa) := by
      have e : (HandSHeadRun.topDef (OpenLaw.row PySem.Challenge.rw_axlecounts_k77_texts_refused_and_read_ag).prog 106).name = ("law" : PySem.Str) := by kernel_rfl
      rw [← e]
      exact hmg0
    have cn : K77.Cn K mg := ⟨h, KX, G, c.t.d, c.more⟩
    have gl := cn.glo 107 (x := "law")
    rw [hmg] at gl
    cases gl
    have D0 : ∀ base : PySem.Heap, Pv.FnD (PySem.Challenge.rw_axlecounts_k77_texts_refused_and_read_ag).prog w K mg base 12 "law" ["script"] K77.m_law := fun base => K77.ok_law cn
    obtain ⟨fd0, F0⟩ := cn.fn 73 (d := K77.d_law)
    have mt : ∀ p ∈ Pv.Tf.tabs, p.1 ∈ K77.tf := fun p hp => List.mem_map.mpr ⟨p, hp, rfl⟩
    refine ⟨K, fd0, K77.m_law, KX, ⟨fun p hp => c.empty p.1 (mt p hp), fun p hp => c.out p.1 (mt p hp), fun p hp => codeHd_of_K KX (c.hd p.1 (mt p hp))⟩, fun s u => L2.FunD.bindsA (ps := ["script"]) F0 (fun _ _ _ _ _ _ us hl => match us, hl with | [_], _ => rfl) s [u] rfl, T, fun base _ _ => ?_⟩
    obtain ⟨fd1, G1, _, _, _, _, oc1, od1, osl1, lk1⟩ := (D0 base).ex
    obtain ⟨oc, od, dV, kV, doc, pm, an, cdv, ct, osl, _, lk, _⟩ := F0.ex
    have lk' : K.lookup (He.ga K "law") = some ⟨oc, od, .func fd0, osl⟩ := lk
    rw [lk'] at lk1
    cases lk1
    exact G1
theorem PySem.Challenge.cw_axlecounts_k77_texts_refused_and_read_ag_holds : PySem.Challenge.rw_axlecounts_k77_texts_refused_and_read_ag.Holds := by
  exact hd77 fun ns h1 h2 => K77.law_ok ns h1 h2
