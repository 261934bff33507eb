import PyProof.Rows.All
import Wide.All
import OpenK.AllK
import Wide.FinOn
import PyProof.EqAt
import PyProof.EqKinds
import PyProof.TupleCall
import KE.LtData
import KE.SortData
import HandS.ForMost
import HandS.Exc
import HandS.TryOnly
import HandS.TryMany
import HandS.ExcOwn
import HandS.WordsExc
import HandS.IsInst
import HandS.Lambda
import HandS.Nested
import HandS.Flow
import HandS.Defaults
import KE.DataCmp
import HandS.Zip
import HandS.TupAny
import HandS.Wide
import HandS.Style
import HandS.Text
import Open.SpecLaws
import KE.OsGo
import HandS.ForSpec
import HandS.ListItems
import HandS.Iter
import HandS.Dict
import PySem.Challenge.RW_wordforword_k73_counting_refused
import KE.KStateDown
import Lean
import HandS.Ends
import HandS.More
import HandS.Words
import HandS.Head0
import HandS.Head1
import HandS.Head2
import HandS.HeadEnd
import HandS.HeadHook1
import HandS.HeadHook2
import HandS.HeadHook3
import HandS.HeadHook4
import HandS.EndTab
import HandS.HeadWalk
import HandS.NestedK
set_option Elab.async false
set_option linter.all false
set_option maxRecDepth 100000
set_option maxHeartbeats 4000000
/-! DA: data D behind values, the monad M of what a body does with data, the state's relation StOk. -/
namespace DL
open PySem PySem.Spec PyProof.Rows L2

/-- data: what a value is, without the heap -/
inductive D where
  | non | bl (b : Bool) | int (i : Int) | str (x : Str) | ty (n : String) | ref (a : Addr)
  | lst (xs : List D) | tup (xs : List D) | dct (kvs : List (D × D))
  /-- a list known by its place too -/
  | lstA (a : Addr) (xs : List D)
  /-- the lambda k: within the frame that made it, its captured cells cl; later, what they hold -/
  | pclo (k : Nat) (cl : List (Str × Addr))
  | clo (k : Nat) (caps : List D)
/-- a lambda's words: its parameters' names, the captured ones -/
structure LS where
  qual : Str
  params : Arguments
  body : Expr
  scope : Scope
  ps : List Str
  fr : List Str
/-- the object at f is the lambda S over the cells cl -/
def FnL (f : Addr) (S : LS) (cl : List (Str × Addr)) (c' : Addr) : HO :=
  .ext fun h => ∃ (od : Option Addr) (sl : Array (Option Value)) (pm ctv : Value), h.get? f = some ⟨.type "function", od, .func (PySem.W.kla_fn "<lambda>" S.qual S.params S.body S.scope cl pm (.ref c') ctv), sl⟩
/-- what a law has beside its data: the stream's two lists, the tables of code objects, its lambdas -/
structure G where
  sa : Addr
  sb : Addr
  T : List (Addr × Str)
  L : Nat → LS
def G.ex (g : G) (a : Addr) : Prop := a = g.sa ∨ a = g.sb ∨ a ∈ g.T.map (·.1)

/-- an exception: its class by name, its fields -/
structure Exc where
  nm : Str
  fs : List (Str × D)

/-- what code does: n counts the draws; Q the wanted end, E the wanted exception -/
structure M (α : Type) where
  run : Nat → (α → Nat → Prop) → (Exc → Nat → Prop) → Prop
  mono : ∀ {n : Nat} {Q Q' : α → Nat → Prop} {E E' : Exc → Nat → Prop}, run n Q E → (∀ x n', Q x n' → Q' x n') → (∀ x n', E x n' → E' x n') → run n Q' E'

namespace M
def pur {α : Type} (x : α) : M α := ⟨fun n Q _ => Q x n, fun h hq _ => hq _ _ h⟩
def bnd {α β : Type} (m : M α) (k : α → M β) : M β :=
  ⟨fun n Q E => m.run n (fun x n' => (k x).run n' Q E) E, fun h hq he => m.mono h (fun x n' h' => (k x).mono h' hq he) he⟩
instance : Monad M where
  pure := pur
  bind := bnd
def stuck {α : Type} : M α := ⟨fun _ _ _ => False, fun h _ _ => h⟩
def exc {α : Type} (x : Exc) : M α := ⟨fun n _ E => E x n, fun h _ he => he _ _ h⟩
/-- any number from 0 on, below many -/
def anyBelow (many : Int) : M Int := ⟨fun n Q _ => ∀ i : Int, 0 ≤ i → i < many → Q i n, fun h hq _ i h0 h1 => hq _ _ (h i h0 h1)⟩
/-- it needs p -/
def need (p : Prop) : M Unit := ⟨fun n Q _ => p ∧ Q () n, fun h hq _ => ⟨h.1, hq _ _ h.2⟩⟩
/-- nothing is raised -/
def calm {α : Type} (m : M α) : M α := ⟨fun n Q _ => m.run n Q (fun _ _ => False), fun h hq _ => m.mono h hq fun _ _ x => x⟩
/-- an exception is met by h -/
def catch_ {α : Type} (m : M α) (h : Exc → M α) : M α :=
  ⟨fun n Q E => m.run n Q (fun x n' => (h x).run n' Q E), fun hm hq he => m.mono hm hq fun x n' h' => (h x).mono h' hq he⟩
@[simp] theorem run_pure {α : Type} (x : α) (n : Nat) (Q : α → Nat → Prop) (E : Exc → Nat → Prop) : (pure x : M α).run n Q E = Q x n := rfl
@[simp] theorem run_pur {α : Type} (x : α) (n : Nat) (Q : α → Nat → Prop) (E : Exc → Nat → Prop) : (pur x).run n Q E = Q x n := rfl
@[simp] theorem run_bind {α β : Type} (m : M α) (k : α → M β) (n : Nat) (Q : β → Nat → Prop) (E : Exc → Nat → Prop) : (m >>= k).run n Q E = m.run n (fun x n' => (k x).run n' Q E) E := rfl
@[simp] theorem run_stuck {α : Type} (n : Nat) (Q : α → Nat → Prop) (E : Exc → Nat → Prop) : (stuck : M α).run n Q E = False := rfl
@[simp] theorem run_exc {α : Type} (x : Exc) (n : Nat) (Q : α → Nat → Prop) (E : Exc → Nat → Prop) : (exc x : M α).run n Q E = E x n := rfl
@[simp] theorem run_need (p : Prop) (n : Nat) (Q : Unit → Nat → Prop) (E : Exc → Nat → Prop) : (need p).run n Q E = (p ∧ Q () n) := rfl
@[simp] theorem run_calm {α : Type} (m : M α) (n : Nat) (Q : α → Nat → Prop) (E : Exc → Nat → Prop) : (calm m).run n Q E = m.run n Q (fun _ _ => False) := rfl
@[simp] theorem run_catch {α : Type} (m : M α) (h : Exc → M α) (n : Nat) (Q : α → Nat → Prop) (E : Exc → Nat → Prop) : (catch_ m h).run n Q E = m.run n Q (fun x n' => (h x).run n' Q E) := rfl
theorem ext {α : Type} {m m' : M α} (h : ∀ n Q E, m.run n Q E = m'.run n Q E) : m = m' := by
  obtain ⟨r, _⟩ := m
  obtain ⟨r', _⟩ := m'
  have e : r = r' := by
    funext n Q E
    exact h n Q E
  subst e
  rfl
instance : LawfulMonad M := LawfulMonad.mk'
  (id_map := fun x => ext fun _ _ _ => rfl)
  (pure_bind := fun x f => ext fun _ _ _ => rfl)
  (bind_assoc := fun x f g => ext fun _ _ _ => rfl)
/-- m may stand for m' -/
def Le {α : Type} (m m' : M α) : Prop := ∀ n Q E, m.run n Q E → m'.run n Q E
theorem Le.refl {α : Type} (m : M α) : Le m m := fun _ _ _ h => h
theorem Le.trans {α : Type} {a b c : M α} (h : Le a b) (h' : Le b c) : Le a c := fun n Q E x => h' n Q E (h n Q E x)
end M

/-! ### what a value is -/
mutual
inductive Rep (g : G) (K : PySem.W.Frag) (F : Hp) : V → D → Prop
  | non : Rep g K F .non .non
  | bl (b : Bool) : Rep g K F (.bl b) (.bl b)
  | int (i : Int) : Rep g K F (.int i) (.int i)
  | str (x : Str) : Rep g K F (.str x) (.str x)
  | ty (n : String) : Rep g K F (.ty n) (.ty n)
  | ref (a : Addr) : Rep g K F (.ref a) (.ref a)
  | lst {a : Addr} {vs : List V} {ds : List D} : F a = some (.lst vs) → RepL g K F vs ds → Rep g K F (.ref a) (.lst ds)
  | tup {a : Addr} {vs : List V} {ds : List D} : SqT K F a vs → RepL g K F vs ds → Rep g K F (.ref a) (.tup ds)
  | dct0 {a : Addr} : F a = some (.dK []) → Rep g K F (.ref a) (.dct [])
  | lstA {a : Addr} {vs : List V} {ds : List D} : F a = some (.lst vs) → RepL g K F vs ds → Rep g K F (.ref a) (.lstA a ds)
  | pclo {f c' : Addr} {k : Nat} {cl : List (Str × Addr)} : F f = some (FnL f (g.L k) cl c') → F c' = some (LamX.CodeO c' (g.L k).qual) → Rep g K F (.ref f) (.pclo k cl)
  | clo {f c' : Addr} {k : Nat} {cl : List (Str × Addr)} {ds : List D} : F f = some (FnL f (g.L k) cl c') → F c' = some (LamX.CodeO c' (g.L k).qual) → (∀ x c, cl.lookup x = some c → x ∈ (g.L k).fr) → (∀ x y c, cl.lookup x = some c → cl.lookup y = some c → x = y) → RepC g K F cl (g.L k).fr ds → Rep g K F (.ref f) (.clo k ds)
/-- what captured cells hold -/
inductive RepC (g : G) (K : PySem.W.Frag) (F : Hp) : List (Str × Addr) → List Str → List D → Prop
  | nil {cl : List (Str × Addr)} : RepC g K F cl [] []
  | cons {cl : List (Str × Addr)} {x : Str} {xs : List Str} {c : Addr} {o : Obj} {u : Value} {v : V} {d : D} {ds : List D} : cl.lookup x = some c → F c = some (.frz o (.own 0)) → o.data = .cell (some u) → RelV v u → Rep g K F v d → RepC g K F cl xs ds → RepC g K F cl (x :: xs) (d :: ds)
inductive RepL (g : G) (K : PySem.W.Frag) (F : Hp) : List V → List D → Prop
  | nil : RepL g K F [] []
  | cons {v : V} {vs : List V} {d : D} {ds : List D} : Rep g K F v d → RepL g K F vs ds → RepL g K F (v :: vs) (d :: ds)
end
/-- all of F stands in F' -/
def FLe (F F' : Hp) : Prop := ∀ a o, F a = some o → F' a = some o
theorem FLe.refl (F : Hp) : FLe F F := fun _ _ h => h
theorem FLe.trans {F G H : Hp} (a : FLe F G) (b : FLe G H) : FLe F H := fun c o h => b c o (a c o h)
theorem SqL.fle {K : PySem.W.Frag} {F F' : Hp} (h : FLe F F') {a : Addr} {vs : List V} (x : SqL K F a vs) : SqL K F' a vs := by
  rcases x with (x | ⟨o, x⟩) | x
  · exact .inl (.inl (h _ _ x))
  · exact .inl (.inr ⟨o, h _ _ x⟩)
  · exact .inr x
theorem SqT.fle {K : PySem.W.Frag} {F F' : Hp} (h : FLe F F') {a : Addr} {vs : List V} (x : SqT K F a vs) : SqT K F' a vs := by
  rcases x with (x | ⟨o, x⟩) | x
  · exact .inl (.inl (h _ _ x))
  · exact .inl (.inr ⟨o, h _ _ x⟩)
  · exact .inr x
mutual
theorem Rep.fle {g : G} {K : PySem.W.Frag} {F F' : Hp} (h : FLe F F') : ∀ {v : V} {d : D}, Rep g K F v d → Rep g K F' v d
  | _, _, .non => .non
  | _, _, .bl b => .bl b
  | _, _, .int i => .int i
  | _, _, .str x => .str x
  | _, _, .ty n => .ty n
  | _, _, .ref a => .ref a
  | _, _, .lst s r => .lst (h _ _ s) (RepL.fle h r)
  | _, _, .tup s r => .tup (SqT.fle h s) (RepL.fle h r)
  | _, _, .dct0 e => .dct0 (h _ _ e)
  | _, _, .lstA s r => .lstA (h _ _ s) (RepL.fle h r)
  | _, _, .pclo a b => .pclo (h _ _ a) (h _ _ b)
  | _, _, .clo a b i j r => .clo (h _ _ a) (h _ _ b) i j (RepC.fle h r)
theorem RepC.fle {g : G} {K : PySem.W.Frag} {F F' : Hp} (h : FLe F F') : ∀ {cl : List (Str × Addr)} {xs : List Str} {ds : List D}, RepC g K F cl xs ds → RepC g K F' cl xs ds
  | _, _, _, .nil => .nil
  | _, _, _, .cons a b c e r s => .cons a (h _ _ b) c e (Rep.fle h r) (RepC.fle h s)
theorem RepL.fle {g : G} {K : PySem.W.Frag} {F F' : Hp} (h : FLe F F') : ∀ {vs : List V} {ds : List D}, RepL g K F vs ds → RepL g K F' vs ds
  | _, _, .nil => .nil
  | _, _, .cons r s => .cons (Rep.fle h r) (RepL.fle h s)
end
theorem RepL.length {g : G} {K : PySem.W.Frag} {F : Hp} : ∀ {vs : List V} {ds : List D}, RepL g K F vs ds → vs.length = ds.length
  | _, _, .nil => rfl
  | _, _, .cons _ r => congrArg (· + 1) r.length
theorem RepL.get {g : G} {K : PySem.W.Frag} {F : Hp} : ∀ {vs : List V} {ds : List D} {i : Nat} {d : D}, RepL g K F vs ds → ds[i]? = some d → ∃ v, vs[i]? = some v ∧ Rep g K F v d
  | _, _, _, _, .nil, h => by simp at h
  | _, _, 0, _, .cons r _, h => by
    simp at h
    subst h
    exact ⟨_, rfl, r⟩
  | _, _, i + 1, _, .cons _ r, h => by
    obtain ⟨v, h1, h2⟩ := r.get (i := i) (by simpa using h)
    exact ⟨v, by simpa using h1, h2⟩
theorem RepL.getV {g : G} {K : PySem.W.Frag} {F : Hp} : ∀ {vs : List V} {ds : List D} {i : Nat} {v : V}, RepL g K F vs ds → vs[i]? = some v → ∃ d, ds[i]? = some d ∧ Rep g K F v d
  | _, _, _, _, .nil, h => by simp at h
  | _, _, 0, _, .cons r _, h => by
    simp at h
    subst h
    exact ⟨_, rfl, r⟩
  | _, _, i + 1, _, .cons _ r, h => by
    obtain ⟨v, h1, h2⟩ := r.getV (i := i) (by simpa using h)
    exact ⟨v, by simpa using h1, h2⟩
theorem RepL.append {g : G} {K : PySem.W.Frag} {F : Hp} : ∀ {vs ws : List V} {ds es : List D}, RepL g K F vs ds → RepL g K F ws es → RepL g K F (vs ++ ws) (ds ++ es)
  | _, _, _, _, .nil, r => r
  | _, _, _, _, .cons r s, q => .cons r (s.append q)
theorem RepL.take {g : G} {K : PySem.W.Frag} {F : Hp} : ∀ {vs : List V} {ds : List D} (n : Nat), RepL g K F vs ds → RepL g K F (vs.take n) (ds.take n)
  | _, _, 0, _ => .nil
  | _, _, _ + 1, .nil => .nil
  | _, _, n + 1, .cons r s => .cons r (s.take n)
theorem RepL.drop {g : G} {K : PySem.W.Frag} {F : Hp} : ∀ {vs : List V} {ds : List D} (n : Nat), RepL g K F vs ds → RepL g K F (vs.drop n) (ds.drop n)
  | _, _, 0, r => r
  | _, _, _ + 1, .nil => .nil
  | _, _, n + 1, .cons _ s => s.drop n

/-! ### the state -/
/-- a stream with at most n draws so far -/
def Strm (g : G) (H : Hp) (n : Nat) : Prop :=
  g.sa ≠ g.sb ∧ ∃ (is : List Int) (c k m : Int), H g.sa = some (.lst [.ref g.sb, .int c, .int k, .int m]) ∧ H g.sb = some (.lst (is.map V.int)) ∧ 0 ≤ c ∧ 0 ≤ k ∧ k ≤ n ∧ 0 ≤ m ∧ m < 2147483647
def WOk (g : G) (H : Hp) (n : Nat) : Prop := Strm g H n ∧ LamX.Tabs g.T H
theorem WOk.ext {g : G} {H H' : Hp} {n : Nat} (w : WOk g H n) (e : FLe H H') : WOk g H' n := by
  obtain ⟨⟨hne, is, c, k, m, h1, h2, r⟩, t⟩ := w
  exact ⟨⟨hne, is, c, k, m, e _ _ h1, e _ _ h2, r⟩, t.ext e⟩
theorem WOk.upd {g : G} {H : Hp} {n : Nat} {a : Addr} {o : HO} (w : WOk g H n) (hn : H a = none) : WOk g (upd H a o) n := w.ext fun b u e => by
  rw [upd_ne (ne_of_none e hn)]
  exact e
theorem WOk.updL {g : G} {H : Hp} {n : Nat} {a : Addr} {vs : List V} {o : HO} (w : WOk g H n) (ha : H a = some (.lst vs)) (hx : ¬ g.ex a) : WOk g (L2.upd H a o) n := by
  obtain ⟨⟨hne, is, c, k, m, h1, h2, r⟩, t⟩ := w
  have n1 : g.sa ≠ a := fun z => hx (.inl z.symm)
  have n2 : g.sb ≠ a := fun z => hx (.inr (.inl z.symm))
  refine ⟨⟨hne, is, c, k, m, by rw [upd_ne n1]; exact h1, by rw [upd_ne n2]; exact h2, r⟩, fun p hp => ?_⟩
  obtain ⟨ps, e1, e2, e3⟩ := t p hp
  have n3 : p.1 ≠ a := fun z => hx (.inr (.inr (List.mem_map.mpr ⟨p, hp, z⟩)))
  refine ⟨ps, by rw [upd_ne n3]; exact e1, e2, fun pos cv hc => ?_⟩
  obtain ⟨c', q1, q2⟩ := e3 pos cv hc
  refine ⟨c', q1, ?_⟩
  have n4 : c' ≠ a := fun z => by
    rw [z, ha] at q2
    cases q2
  rw [upd_ne n4]
  exact q2
/-- all but the stream and the tables stands -/
def ExtE (g : G) (H H' : Hp) : Prop := ∀ a o, H a = some o → ¬ g.ex a → H' a = some o
theorem ExtE.refl {g : G} (H : Hp) : ExtE g H H := fun _ _ h _ => h
theorem ExtE.trans {g : G} {H H1 H2 : Hp} (a : ExtE g H H1) (b : ExtE g H1 H2) : ExtE g H H2 := fun c o h n => b c o (a c o h n) n
/-- not there yet, or a code object -/
def Nw (H : Hp) (a : Addr) : Prop := H a = none ∨ ∃ q, H a = some (LamX.CodeO a q)
theorem Nw.back {g : G} {H H' : Hp} {a : Addr} (e : ExtE g H H') (nx : ¬ g.ex a) (h : Nw H' a) : Nw H a := by
  cases q : H a with
  | none => exact .inl q
  | some o =>
    have q2 := e a o q nx
    rcases h with z | ⟨c, z⟩
    · rw [z] at q2
      cases q2
    · rw [z] at q2
      cases q2
      exact .inr ⟨c, q⟩
theorem codeO_ne_lst {a : Addr} {q : Str} {vs : List V} : LamX.CodeO a q ≠ .lst vs := fun z => by
  unfold LamX.CodeO at z
  cases z
theorem codeO_ne_xd {a : Addr} {q : Str} {vs : List (Str × V)} : LamX.CodeO a q ≠ .xd vs := fun z => by
  unfold LamX.CodeO at z
  cases z
theorem Nw.lst {H : Hp} {a : Addr} {vs : List V} (h : H a = some (.lst vs)) : ¬ Nw H a := by
  rintro (z | ⟨q, z⟩)
  · rw [h] at z
    cases z
  · rw [h] at z
    exact codeO_ne_lst (Option.some.inj z).symm
theorem Nw.xd {H : Hp} {a : Addr} {vs : List (Str × V)} (h : H a = some (.xd vs)) : ¬ Nw H a := by
  rintro (z | ⟨q, z⟩)
  · rw [h] at z
    cases z
  · rw [h] at z
    exact codeO_ne_xd (Option.some.inj z).symm
/-- F: the data that stay -/
def FSub (g : G) (F H : Hp) : Prop := ∀ a o, F a = some o → H a = some o ∧ ¬ g.ex a

/-- a name's slot: data; a list or dict that the frame alone holds; a caught exception at a with its dict at d -/
inductive Slot where
  | fz (d : D) | ow (d : D) | ex (a d : Addr) (fs : List (Str × D))
abbrev Env := List (Option Slot)
inductive RepF (g : G) (K : PySem.W.Frag) (F : Hp) : List (Str × V) → List (Str × D) → Prop
  | nil : RepF g K F [] []
  | cons {x : Str} {v : V} {d : D} {vs : List (Str × V)} {ds : List (Str × D)} : Rep g K F v d → RepF g K F vs ds → RepF g K F ((x, v) :: vs) ((x, d) :: ds)
theorem RepF.fle {g : G} {K : PySem.W.Frag} {F F' : Hp} (h : FLe F F') : ∀ {vs : List (Str × V)} {ds : List (Str × D)}, RepF g K F vs ds → RepF g K F' vs ds
  | _, _, .nil => .nil
  | _, _, .cons r s => .cons (r.fle h) (RepF.fle h s)
theorem RepF.lookup {g : G} {K : PySem.W.Frag} {F : Hp} {x : Str} : ∀ {vs : List (Str × V)} {ds : List (Str × D)} {d : D}, RepF g K F vs ds → ds.lookup x = some d → ∃ v, vs.lookup x = some v ∧ Rep g K F v d
  | _, _, _, .nil, h => by simp at h
  | _, _, d, .cons (x := y) (v := w) r s, h => by
    rw [List.lookup_cons] at h ⊢
    cases e : x == y with
    | true =>
      rw [e] at h
      cases h
      exact ⟨w, rfl, r⟩
    | false =>
      rw [e] at h
      exact s.lookup h
/-- an own list at a -/
def OwnL (g : G) (K : PySem.W.Frag) (H0 F H : Hp) (a : Addr) (ds : List D) : Prop := ∃ vs, H a = some (.lst vs) ∧ F a = none ∧ H0 a = none ∧ ¬ g.ex a ∧ RepL g K F vs ds
def SlotOk (g : G) (K : PySem.W.Frag) (H0 F H : Hp) (v : V) : Slot → Prop
  | .fz d => Rep g K F v d
  | .ow (.lst ds) => ∃ a, v = .ref a ∧ OwnL g K H0 F H a ds
  | .ow _ => False
  | .ex a d fs => v = .ref a ∧ F d = none ∧ ∃ vs, H d = some (.xd vs) ∧ ¬ g.ex d ∧ RepF g K F vs fs
def isOw : Option (Option Slot) → Bool
  | some (some (.ow _)) => true
  | _ => false
/-- the state: H0 the heap at the entry (of the frame, or of a part of it), F0 the data there, F the data now, H the heap now, σ the slots' values, γ what they are -/
structure StOk (g : G) (K : PySem.W.Frag) (H0 F0 F H : Hp) (σ : L2.St) (γ : Env) (n : Nat) : Prop where
  ext : ExtE g H0 H
  f0 : FLe F0 F
  sub : FSub g F H
  new : ∀ a, F a ≠ none → F0 a ≠ none ∨ Nw H0 a
  wok : WOk g H n
  len : γ.length = σ.length
  slots : ∀ (i : Nat) (s : Slot), γ[i]? = some (some s) → ∃ v, σ[i]? = some (some v) ∧ SlotOk g K H0 F H v s
  dist : ∀ (i j : Nat) (a : Addr), i ≠ j → isOw γ[i]? = true → isOw γ[j]? = true → σ[i]? = some (some (V.ref a)) → σ[j]? = some (some (V.ref a)) → False
end DL

set_option Elab.async false
set_option linter.all false
set_option maxRecDepth 100000
set_option maxHeartbeats 4000000
/-! DB: how the state goes on; the judgements PD, PDB, PTD, PSD; names, constants, tests, statements, calls. -/
namespace DL
open PySem PySem.Spec PyProof.Rows L2

theorem WOk.nex {g : G} {H : Hp} {n : Nat} (w : WOk g H n) {p : Addr} (hp : H p = none) : ¬ g.ex p := by
  obtain ⟨⟨hne, is, c, k, m, h1, h2, r⟩, t⟩ := w
  rintro (e | e | e)
  · rw [e, h1] at hp
    cases hp
  · rw [e, h2] at hp
    cases hp
  · obtain ⟨q, hq, e⟩ := List.mem_map.mp e
    obtain ⟨ps, e1, _⟩ := t q hq
    rw [← e, e1] at hp
    cases hp
theorem FSub.none {g : G} {F H : Hp} (s : FSub g F H) {p : Addr} (hp : H p = Option.none) : F p = Option.none := by
  cases e : F p with
  | none => rfl
  | some o =>
    rw [(s p o e).1] at hp
    cases hp
theorem fle_upd {F : Hp} {p : Addr} {o : HO} (hp : F p = none) : FLe F (upd F p o) := fun a u e => by
  rw [upd_ne (ne_of_none e hp)]
  exact e
/-- how the heap and the data may go on -/
structure Post (g : G) (F H F' H' : Hp) (n' : Nat) : Prop where
  ext : ExtE g H H'
  fle : FLe F F'
  sub : FSub g F' H'
  new : ∀ a, F' a ≠ none → F a ≠ none ∨ Nw H a
  wok : WOk g H' n'
theorem SlotOk.keep {g : G} {K : PySem.W.Frag} {H0 F H F' H' : Hp} {v : V} {s : Slot} (x : SlotOk g K H0 F H v s) (hf : FLe F F')
    (hl : ∀ a vs, H a = some (.lst vs) → F a = none → H0 a = none → ¬ g.ex a → H' a = some (.lst vs) ∧ F' a = none) (hd : ∀ d vs, H d = some (.xd vs) → F d = none → ¬ g.ex d → H' d = some (.xd vs) ∧ F' d = none) : SlotOk g K H0 F' H' v s := by
  cases s with
  | fz d => exact Rep.fle hf x
  | ow d =>
    cases d with
    | lst ds =>
      obtain ⟨a, e, vs, h1, h2, h3, h4, h5⟩ := x
      obtain ⟨q1, q2⟩ := hl a vs h1 h2 h3 h4
      exact ⟨a, e, vs, q1, q2, h3, h4, RepL.fle hf h5⟩
    | _ => exact x
  | ex a d fs =>
    obtain ⟨e, h1, vs, h2, h3, h4⟩ := x
    obtain ⟨q1, q2⟩ := hd d vs h2 h1 h3
    exact ⟨e, q2, vs, q1, h3, RepF.fle hf h4⟩
section
variable {g : G} {K : PySem.W.Frag} {H0 F0 F H : Hp} {σ : L2.St} {γ : Env} {n : Nat}
theorem Post.refl (s : FSub g F H) (w : WOk g H n) : Post g F H F H n := ⟨ExtE.refl H, FLe.refl F, s, fun a h => .inl h, w⟩
theorem StOk.post (s : StOk g K H0 F0 F H σ γ n) {F' H' : Hp} {n' : Nat} (p : Post g F H F' H' n') : StOk g K H0 F0 F' H' σ γ n' where
  ext := s.ext.trans p.ext
  f0 := s.f0.trans p.fle
  sub := p.sub
  new := fun a h => by
    rcases p.new a h with q | q
    · exact s.new a q
    · cases e : F' a with
      | none => exact absurd e h
      | some o => exact .inr (q.back s.ext (p.sub a o e).2)
  wok := p.wok
  len := s.len
  slots := fun i t ht => by
    obtain ⟨v, h1, h2⟩ := s.slots i t ht
    refine ⟨v, h1, h2.keep p.fle (fun a vs q1 q2 q3 q4 => ⟨p.ext a _ q1 q4, ?_⟩) fun d vs q1 q2 q3 => ⟨p.ext d _ q1 q3, ?_⟩⟩
    · cases e : F' a with
      | none => rfl
      | some o =>
        rcases p.new a (by rw [e]; simp) with z | z
        · exact absurd q2 z
        · exact absurd z (Nw.lst q1)
    · cases e : F' d with
      | none => rfl
      | some o =>
        rcases p.new d (by rw [e]; simp) with z | z
        · exact absurd q2 z
        · exact absurd z (Nw.xd q1)
  dist := s.dist
/-- a new object that stays -/
theorem post_new (s : FSub g F H) (w : WOk g H n) {p : Addr} {o : HO} (hp : H p = none) : Post g F H (upd F p o) (upd H p o) n where
  ext := fun a u e _ => by
    rw [upd_ne (ne_of_none e hp)]
    exact e
  fle := fle_upd (s.none hp)
  sub := fun a u e => by
    by_cases ha : a = p
    · subst ha
      rw [upd_same] at e ⊢
      exact ⟨e, w.nex hp⟩
    · rw [upd_ne ha] at e ⊢
      exact s a u e
  new := fun a h => by
    by_cases ha : a = p
    · subst ha
      exact .inr (.inl hp)
    · rw [upd_ne ha] at h
      exact .inl h
  wok := w.upd hp
theorem post_newH (s : FSub g F H) (w : WOk g H n) {p : Addr} {o : HO} (hp : H p = none) : Post g F H F (upd H p o) n where
  ext := fun a u e _ => by
    rw [upd_ne (ne_of_none e hp)]
    exact e
  fle := FLe.refl F
  sub := fun a u e => by
    obtain ⟨h1, h2⟩ := s a u e
    refine ⟨?_, h2⟩
    rw [upd_ne (ne_of_none h1 hp)]
    exact h1
  new := fun a h => .inl h
  wok := w.upd hp
theorem Post.trans {F1 H1 F2 H2 : Hp} {n1 n2 : Nat} (a : Post g F H F1 H1 n1) (b : Post g F1 H1 F2 H2 n2) (w : WOk g H n) : Post g F H F2 H2 n2 where
  ext := a.ext.trans b.ext
  fle := a.fle.trans b.fle
  sub := b.sub
  new := fun x h => by
    rcases b.new x h with q | q
    · exact a.new x q
    · cases e : F2 x with
      | none => exact absurd e h
      | some o => exact .inr (q.back a.ext (b.sub x o e).2)
  wok := b.wok
theorem isOw_set {γ : Env} {i j : Nat} {s : Option Slot} (h : isOw (γ.set i s)[j]? = true) (hij : i ≠ j) : isOw γ[j]? = true := by
  rw [List.getElem?_set_ne hij] at h
  exact h
/-- a slot gets data -/
theorem StOk.setFz (s : StOk g K H0 F0 F H σ γ n) (i : Nat) {v : V} {d : D} (r : Rep g K F v d) : StOk g K H0 F0 F H (σ.set i (some v)) (γ.set i (some (.fz d))) n where
  ext := s.ext
  f0 := s.f0
  sub := s.sub
  new := s.new
  wok := s.wok
  len := by rw [List.length_set, List.length_set, s.len]
  slots := fun j t ht => by
    by_cases hj : i = j
    · subst hj
      by_cases hl : i < γ.length
      · rw [List.getElem?_set_self hl] at ht
        cases ht
        exact ⟨v, by rw [List.getElem?_set_self (s.len ▸ hl)], r⟩
      · rw [List.getElem?_eq_none (by rw [List.length_set]; omega)] at ht
        cases ht
    · rw [List.getElem?_set_ne hj] at ht ⊢
      exact s.slots j t ht
  dist := fun j k a hjk h1 h2 e1 e2 => by
    by_cases hj : i = j
    · subst hj
      by_cases hl : i < γ.length
      · rw [List.getElem?_set_self hl] at h1
        cases h1
      · rw [List.getElem?_eq_none (by rw [List.length_set]; omega)] at h1
        cases h1
    · by_cases hk : i = k
      · subst hk
        by_cases hl : i < γ.length
        · rw [List.getElem?_set_self hl] at h2
          cases h2
        · rw [List.getElem?_eq_none (by rw [List.length_set]; omega)] at h2
          cases h2
      · rw [List.getElem?_set_ne hj] at h1 e1
        rw [List.getElem?_set_ne hk] at h2 e2
        exact s.dist j k a hjk h1 h2 e1 e2
/-- the addresses of own slots -/
theorem StOk.owAt (s : StOk g K H0 F0 F H σ γ n) {i : Nat} (h : isOw γ[i]? = true) : ∃ a ds vs, γ[i]? = some (some (.ow (.lst ds))) ∧ σ[i]? = some (some (.ref a)) ∧ H a = some (.lst vs) := by
  cases e : γ[i]? with
  | none =>
    rw [e] at h
    cases h
  | some o =>
    cases o with
    | none =>
      rw [e] at h
      cases h
    | some t =>
      cases t with
      | ow d =>
        obtain ⟨v, h1, h2⟩ := s.slots i _ e
        cases d with
        | lst ds =>
          obtain ⟨a, ev, vs, q, _⟩ := h2
          subst ev
          exact ⟨a, ds, vs, rfl, h1, q⟩
        | _ => exact h2.elim
      | _ =>
        rw [e] at h
        cases h
/-- a slot gets a new list of its own -/
theorem StOk.setOw (s : StOk g K H0 F0 F H σ γ n) (i : Nat) {p : Addr} {vs : List V} {ds : List D} (hp : H p = none) (r : RepL g K F vs ds) :
    StOk g K H0 F0 F (upd H p (.lst vs)) (σ.set i (some (.ref p))) (γ.set i (some (.ow (.lst ds)))) n := by
  have s' := s.post (post_newH (o := .lst vs) s.sub s.wok hp)
  have h0 : H0 p = none := by
    cases e : H0 p with
    | none => rfl
    | some o =>
      rw [s.ext p o e (s.wok.nex hp)] at hp
      cases hp
  have ne : ∀ (j : Nat) (a : Addr), isOw γ[j]? = true → σ[j]? = some (some (V.ref a)) → a ≠ p := fun j a h1 h2 z => by
    obtain ⟨b, ds', vs', _, e2, e3⟩ := s.owAt h1
    rw [e2] at h2
    cases h2
    rw [z, hp] at e3
    cases e3
  refine ⟨s'.ext, s'.f0, s'.sub, s'.new, s'.wok, by rw [List.length_set, List.length_set, s.len], fun j t ht => ?_, fun j k a hjk h1 h2 e1 e2 => ?_⟩
  · by_cases hj : i = j
    · subst hj
      by_cases hl : i < γ.length
      · rw [List.getElem?_set_self hl] at ht
        cases ht
        exact ⟨.ref p, by rw [List.getElem?_set_self (s.len ▸ hl)], p, rfl, vs, upd_same, s.sub.none hp, h0, s.wok.nex hp, r⟩
      · rw [List.getElem?_eq_none (by rw [List.length_set]; omega)] at ht
        cases ht
    · rw [List.getElem?_set_ne hj] at ht ⊢
      exact s'.slots j t ht
  · by_cases hj : i = j
    · subst hj
      have h2' := isOw_set h2 hjk
      rw [List.getElem?_set_ne hjk] at e2
      by_cases hl : i < σ.length
      · rw [List.getElem?_set_self hl] at e1
        cases e1
        exact ne k p h2' e2 rfl
      · rw [List.getElem?_eq_none (by rw [List.length_set]; omega)] at e1
        cases e1
    · by_cases hk : i = k
      · subst hk
        have h1' := isOw_set h1 hj
        rw [List.getElem?_set_ne hj] at e1
        by_cases hl : i < σ.length
        · rw [List.getElem?_set_self hl] at e2
          cases e2
          exact ne j p h1' e1 rfl
        · rw [List.getElem?_eq_none (by rw [List.length_set]; omega)] at e2
          cases e2
      · rw [List.getElem?_set_ne hj] at h1 e1
        rw [List.getElem?_set_ne hk] at h2 e2
        exact s.dist j k a hjk h1 h2 e1 e2
/-- an own list changes -/
theorem StOk.mut (s : StOk g K H0 F0 F H σ γ n) {i : Nat} {a : Addr} {vs : List V} {ds es : List D} (h : γ[i]? = some (some (.ow (.lst ds)))) (ha : σ[i]? = some (some (.ref a))) (r : RepL g K F vs es) :
    StOk g K H0 F0 F (upd H a (.lst vs)) σ (γ.set i (some (.ow (.lst es)))) n := by
  obtain ⟨v, e1, b, ev, ws, q1, q2, q3, q4, q5⟩ := s.slots i _ h
  rw [ha] at e1
  cases e1
  cases ev
  have hl : i < γ.length := by
    have := List.getElem?_eq_some_iff.mp h
    exact this.1
  refine ⟨fun c o e nx => ?_, s.f0, fun c o e => ?_, s.new, s.wok.updL q1 q4, by rw [List.length_set, s.len], fun j t ht => ?_, fun j k c hjk h1 h2 e1 e2 => ?_⟩
  · rw [upd_ne (show c ≠ a from fun z => by rw [z, q3] at e; cases e)]
    exact s.ext c o e nx
  · obtain ⟨h1, h2⟩ := s.sub c o e
    refine ⟨?_, h2⟩
    rw [upd_ne (show c ≠ a from fun z => by rw [z, q2] at e; cases e)]
    exact h1
  · by_cases hj : i = j
    · subst hj
      rw [List.getElem?_set_self hl] at ht
      cases ht
      exact ⟨.ref a, ha, a, rfl, vs, upd_same, q2, q3, q4, r⟩
    · rw [List.getElem?_set_ne hj] at ht
      obtain ⟨v, e1, e2⟩ := s.slots j t ht
      refine ⟨v, e1, ?_⟩
      cases t with
      | fz d => exact e2
      | ow d =>
        cases d with
        | lst ds' =>
          obtain ⟨c, ev, ws', p1, p2⟩ := e2
          subst ev
          have nca : c ≠ a := fun z => s.dist i j a hj (by rw [h]; rfl) (by rw [ht]; rfl) ha (by rw [e1, z])
          exact ⟨c, rfl, ws', by rw [upd_ne nca]; exact p1, p2⟩
        | _ => exact e2
      | ex b d fs =>
        obtain ⟨ev, p1, ws', p2, p3⟩ := e2
        have nda : d ≠ a := fun z => by
          rw [z, q1] at p2
          cases p2
        exact ⟨ev, p1, ws', by rw [upd_ne nda]; exact p2, p3⟩
  · have k1 : isOw γ[j]? = true := by
      by_cases hj : i = j
      · subst hj
        rw [h]
        rfl
      · exact isOw_set h1 hj
    have k2 : isOw γ[k]? = true := by
      by_cases hk : i = k
      · subst hk
        rw [h]
        rfl
      · exact isOw_set h2 hk
    exact s.dist j k c hjk k1 k2 e1 e2
/-- an own list stays from now on -/
theorem StOk.freeze (s : StOk g K H0 F0 F H σ γ n) {i : Nat} {ds : List D} (h : γ[i]? = some (some (.ow (.lst ds)))) :
    ∃ F', FLe F F' ∧ StOk g K H0 F0 F' H σ (γ.set i (some (.fz (.lst ds)))) n := by
  obtain ⟨v, e1, a, ev, vs, q1, q2, q3, q4, q5⟩ := s.slots i _ h
  subst ev
  have hl : i < γ.length := (List.getElem?_eq_some_iff.mp h).1
  have fl : FLe F (upd F a (.lst vs)) := fle_upd q2
  refine ⟨upd F a (.lst vs), fl, s.ext, s.f0.trans fl, fun c o e => ?_, fun c hc => ?_, s.wok, by rw [List.length_set, s.len], fun j t ht => ?_, fun j k c hjk h1 h2 e1' e2 => ?_⟩
  · by_cases hc : c = a
    · subst hc
      rw [upd_same] at e
      rw [← e]
      exact ⟨q1, q4⟩
    · rw [upd_ne hc] at e
      exact s.sub c o e
  · by_cases hca : c = a
    · subst hca
      exact .inr (.inl q3)
    · rw [upd_ne hca] at hc
      exact s.new c hc
  · by_cases hj : i = j
    · subst hj
      rw [List.getElem?_set_self hl] at ht
      cases ht
      exact ⟨.ref a, e1, .lst upd_same (RepL.fle fl q5)⟩
    · rw [List.getElem?_set_ne hj] at ht
      obtain ⟨v, p1, p2⟩ := s.slots j t ht
      refine ⟨v, p1, ?_⟩
      cases t with
      | fz d => exact Rep.fle fl p2
      | ow d =>
        cases d with
        | lst ds' =>
          obtain ⟨c, ev, ws', r1, r2, r3, r4, r5⟩ := p2
          subst ev
          have nca : c ≠ a := fun z => s.dist i j a hj (by rw [h]; rfl) (by rw [ht]; rfl) e1 (by rw [p1, z])
          exact ⟨c, rfl, ws', r1, by rw [upd_ne nca]; exact r2, r3, r4, RepL.fle fl r5⟩
        | _ => exact p2
      | ex b d fs =>
        obtain ⟨ev, r1, ws', r2, r3, r4⟩ := p2
        have nda : d ≠ a := fun z => by
          rw [z, q1] at r2
          cases r2
        exact ⟨ev, by rw [upd_ne nda]; exact r1, ws', r2, r3, RepF.fle fl r4⟩
  · have k1 : isOw γ[j]? = true := by
      by_cases hj : i = j
      · subst hj
        rw [h]
        rfl
      · exact isOw_set h1 hj
    have k2 : isOw γ[k]? = true := by
      by_cases hk : i = k
      · subst hk
        rw [h]
        rfl
      · exact isOw_set h2 hk
    exact s.dist j k c hjk k1 k2 e1' e2
end
end DL

set_option Elab.async false
set_option linter.all false
set_option maxRecDepth 100000
set_option maxHeartbeats 4000000
/-! DC: the judgements; names, constants, tests, operators, statements, calls. -/
namespace DL
open PySem PySem.Spec PyProof.Rows L2

/-- an exception as it lies: its class by the module's name, its own dict -/
def XRep (g : G) (K : PySem.W.Frag) (mg : Str → Option Value) (F H : Hp) (x : Exc) (cls : Value) (dd : Option Addr) : Prop :=
  ∃ C : Addr, mg x.nm = some (.ref C) ∧ cls = .ref C ∧ ((x.fs = [] ∧ dd = none) ∨ ∃ d vs, dd = some d ∧ F d = none ∧ H d = some (.xd vs) ∧ ¬ g.ex d ∧ RepF g K F vs x.fs)
/-- a value that is read at once: data, or what a slot alone holds -/
def RepB (g : G) (K : PySem.W.Frag) (F : Hp) (σ : L2.St) (γ : Env) (v : V) (d : D) : Prop :=
  Rep g K F v d ∨ ∃ i : Nat, γ[i]? = some (some (.ow d)) ∧ σ[i]? = some (some v)
theorem RepB.fle {g : G} {K : PySem.W.Frag} {F F' : Hp} {σ : L2.St} {γ : Env} {v : V} {d : D} (h : FLe F F') (r : RepB g K F σ γ v d) : RepB g K F' σ γ v d := r.imp (fun r => r.fle h) id
/-- what is wanted of an exception, in the context's words -/
def wishX (g : G) (K : PySem.W.Frag) (mg : Str → Option Value) (W : WX) (H0 F0 : Hp) (σ : L2.St) (γ : Env) : Exc → Nat → Prop :=
  fun x n' => ∀ F' H' cls dd, StOk g K H0 F0 F' H' σ γ n' → XRep g K mg F' H' x cls dd → W cls dd σ H'
def tD (g : G) (K : PySem.W.Frag) (mg : Str → Option Value) (W : WX) (m : Env → M D) : TE := fun σ H Q =>
  ∃ H0 F0 F γ n, StOk g K H0 F0 F H σ γ n ∧ (m γ).run n (fun d n' => ∀ F' H' v, StOk g K H0 F0 F' H' σ γ n' → FLe F F' → Rep g K F' v d → Q v H') (wishX g K mg W H0 F0 σ γ)
def tDB (g : G) (K : PySem.W.Frag) (mg : Str → Option Value) (W : WX) (m : Env → M D) : TE := fun σ H Q =>
  ∃ H0 F0 F γ n, StOk g K H0 F0 F H σ γ n ∧ (m γ).run n (fun d n' => ∀ F' H' v, StOk g K H0 F0 F' H' σ γ n' → FLe F F' → RepB g K F' σ γ v d → Q v H') (wishX g K mg W H0 F0 σ γ)
def tTD (g : G) (K : PySem.W.Frag) (mg : Str → Option Value) (W : WX) (m : Env → M Bool) : TT := fun σ H Q =>
  ∃ H0 F0 F γ n, StOk g K H0 F0 F H σ γ n ∧ (m γ).run n (fun b n' => ∀ F' H', StOk g K H0 F0 F' H' σ γ n' → FLe F F' → Q b H') (wishX g K mg W H0 F0 σ γ)
def tAD (g : G) (K : PySem.W.Frag) (mg : Str → Option Value) (W : WX) (m : Env → M (List D)) : TA := fun σ H Q =>
  ∃ H0 F0 F γ n, StOk g K H0 F0 F H σ γ n ∧ (m γ).run n (fun ds n' => ∀ F' H' vs, StOk g K H0 F0 F' H' σ γ n' → FLe F F' → RepL g K F' vs ds → Q vs H') (wishX g K mg W H0 F0 σ γ)
structure PD (g : G) (X : Cx) (W : WX) (e : Expr) (m : Env → M D) : Prop where
  pe : PE X e (tD g X.K X.mg W m)
structure PDB (g : G) (X : Cx) (W : WX) (e : Expr) (m : Env → M D) : Prop where
  pe : PE X e (tDB g X.K X.mg W m)
structure PTD (g : G) (X : Cx) (W : WX) (e : Expr) (m : Env → M Bool) : Prop where
  pt : PT X e (tTD g X.K X.mg W m)
/-- a test that is a chain of and, or -/
structure PWD (g : G) (X : Cx) (W : WX) (e : Expr) (m : Env → M Bool) : Prop where
  pw : PW X e (tTD g X.K X.mg W m)
structure PAD (g : G) (X : Cx) (W : WX) (es : List Expr) (m : Env → M (List D)) : Prop where
  pa : PA X es (tAD g X.K X.mg W m)
theorem _root_.L2.PE.imp {X : Cx} {e : Expr} {t t' : TE} (h : PE X e t) (i : ∀ σ H Q, t' σ H Q → t σ H Q) : PE X e t' := ⟨fun pins s σ H Q I q => h.run pins s σ H Q I (i _ _ _ q)⟩
theorem _root_.L2.PT.imp {X : Cx} {e : Expr} {t t' : TT} (h : PT X e t) (i : ∀ σ H Q, t' σ H Q → t σ H Q) : PT X e t' := ⟨fun pins s σ H Q I q => h.run pins s σ H Q I (i _ _ _ q)⟩
theorem _root_.L2.PW.imp {X : Cx} {e : Expr} {t t' : TT} (h : PW X e t) (i : ∀ σ H Q, t' σ H Q → t σ H Q) : PW X e t' := ⟨fun wh pins s σ H Q I q => h.run wh pins s σ H Q I (i _ _ _ q)⟩
theorem _root_.L2.PA.imp {X : Cx} {es : List Expr} {t t' : TA} (h : PA X es t) (i : ∀ σ H Q, t' σ H Q → t σ H Q) : PA X es t' := ⟨fun pos pins s σ H Q I q => h.run pos pins s σ H Q I (i _ _ _ q)⟩
theorem _root_.L2.PS.imp {X : Cx} {st : Stmt} {t t' : TS} (h : PS X st t) (i : ∀ D σ H, t' D σ H → t D σ H) : PS X st t' := ⟨fun pins s σ H D I q => h.run pins s σ H D I (i _ _ _ q)⟩
theorem _root_.L2.PSs.imp {X : Cx} {st : List Stmt} {t t' : TS} (h : PSs X st t) (i : ∀ D σ H, t' D σ H → t D σ H) : PSs X st t' := ⟨fun pins s σ H D I q => h.run pins s σ H D I (i _ _ _ q)⟩

/-! ### names, constants -/
def rd (i : Nat) (γ : Env) : M D := match γ[i]? with
  | some (some (.fz d)) => pure d
  | _ => M.stuck
def rdB (i : Nat) (γ : Env) : M D := match γ[i]? with
  | some (some (.fz d)) => pure d
  | some (some (.ow d)) => pure d
  | _ => M.stuck
section
variable {g : G} {X : Cx} {W : WX} {e : Expr} {m : Env → M D}
theorem PD.b (h : PD g X W e m) : PDB g X W e m := ⟨h.pe.imp fun σ H Q ⟨H0, F0, F, γ, n, s, r⟩ => ⟨H0, F0, F, γ, n, s, (m γ).mono r (fun d n' q F' H' v s' f r => q F' H' v s' f (.inl r)) fun _ _ q => q⟩⟩
theorem pd_var (i : Nat) {x : Str} {pos : Pos} (hN : X.N[i]? = some x := by rfl) (hv : Vis X.env.scope x := by first | exact Or.inl rfl | exact Or.inr (Or.inl rfl) | exact Or.inr (Or.inr rfl)) (hd : (x == ("__debug__" : Str)) = false := by decide)
    (hcd : (x == ("__classdict__" : Str)) = false := by decide) : PD g X W (.Name x pos) (rd i) := by
  refine ⟨(pe_var hN hv hd hcd).imp fun σ H Q ⟨H0, F0, F, γ, n, s, r⟩ => ?_⟩
  unfold rd at r
  split at r
  · rename_i d e
    obtain ⟨v, h1, h2⟩ := s.slots i _ e
    exact ⟨v, h1, r F H v s (FLe.refl F) h2⟩
  · exact r.elim
theorem pdb_var (i : Nat) {x : Str} {pos : Pos} (hN : X.N[i]? = some x := by rfl) (hv : Vis X.env.scope x := by first | exact Or.inl rfl | exact Or.inr (Or.inl rfl) | exact Or.inr (Or.inr rfl)) (hd : (x == ("__debug__" : Str)) = false := by decide)
    (hcd : (x == ("__classdict__" : Str)) = false := by decide) : PDB g X W (.Name x pos) (rdB i) := by
  refine ⟨(pe_var hN hv hd hcd).imp fun σ H Q ⟨H0, F0, F, γ, n, s, r⟩ => ?_⟩
  unfold rdB at r
  split at r
  · rename_i d e
    obtain ⟨v, h1, h2⟩ := s.slots i _ e
    exact ⟨v, h1, r F H v s (FLe.refl F) (.inl h2)⟩
  · rename_i d e
    obtain ⟨v, h1, h2⟩ := s.slots i _ e
    exact ⟨v, h1, r F H v s (FLe.refl F) (.inr ⟨i, e, h1⟩)⟩
  · exact r.elim
theorem pd_c {v : V} {d : D} (h : PE X e (tC v)) (r : ∀ F, Rep g X.K F v d) : PD g X W e (fun _ => pure d) := ⟨h.imp fun σ H Q ⟨H0, F0, F, γ, n, s, q⟩ => q F H v s (FLe.refl F) (r F)⟩
theorem pd_int {i j pos} : PD g X W (.Constant (.int i) j pos) (fun _ => pure (.int i)) := pd_c pe_int fun _ => .int i
theorem pd_bl {b j pos} : PD g X W (.Constant (.bool b) j pos) (fun _ => pure (.bl b)) := pd_c pe_bl fun _ => .bl b
theorem pd_non {j pos} : PD g X W (.Constant .none j pos) (fun _ => pure .non) := pd_c pe_non fun _ => .non
theorem pd_str {x j pos} : PD g X W (.Constant (.str x) j pos) (fun _ => pure (.str x)) := pd_c pe_str fun _ => .str x
theorem pd_ty {x : Str} {n : String} {pos : Pos} (hg : Gl X x) (hm : X.mg x = none) (hv : bootBuiltins x = some (.type n)) (hn : x ≠ "__name__" := by decide) (hd : (x == ("__debug__" : Str)) = false := by decide) : PD g X W (.Name x pos) (fun _ => pure (.ty n)) :=
  pd_c (pe_bltn (v := .ty n) hg hm hv rfl hn hd) fun _ => .ty n
end

/-! ### truth, tests -/
def tru : D → M Bool
  | .non => pure false
  | .bl b => pure b
  | .int i => pure (i != 0)
  | .str x => do M.need (x.length ≤ sizeLine); pure ((x.length : Int) != 0)
  | .lst xs => pure !xs.isEmpty
  | .tup xs => pure !xs.isEmpty
  | _ => M.stuck
theorem RepL.isEmpty {g : G} {K : PySem.W.Frag} {F : Hp} {vs : List V} {ds : List D} (r : RepL g K F vs ds) : vs.isEmpty = ds.isEmpty := by
  cases r <;> rfl
/-- what a value that is read at once stands for -/
theorem StOk.listH {g : G} {K : PySem.W.Frag} {H0 F0 F H : Hp} {σ : L2.St} {γ : Env} {n : Nat} (s : StOk g K H0 F0 F H σ γ n) {v : V} {ds : List D} (r : RepB g K F σ γ v (.lst ds)) : ∃ a vs, v = .ref a ∧ H a = some (.lst vs) ∧ RepL g K F vs ds := by
  rcases r with r | ⟨i, e1, e2⟩
  · cases r with
    | lst sq r => exact ⟨_, _, rfl, (s.sub _ _ sq).1, r⟩
  · obtain ⟨v', h1, a, ev, vs, q1, q2, q3, q4, q5⟩ := s.slots i _ e1
    rw [e2] at h1
    cases h1
    exact ⟨a, vs, ev, q1, q5⟩
theorem StOk.list {g : G} {K : PySem.W.Frag} {H0 F0 F H : Hp} {σ : L2.St} {γ : Env} {n : Nat} (s : StOk g K H0 F0 F H σ γ n) {v : V} {ds : List D} (r : RepB g K F σ γ v (.lst ds)) : ∃ a vs, v = .ref a ∧ SqL K H a vs ∧ RepL g K F vs ds :=
  let ⟨a, vs, e, h, q⟩ := s.listH r
  ⟨a, vs, e, .inl (.inl h), q⟩
theorem StOk.tuple {g : G} {K : PySem.W.Frag} {H0 F0 F H : Hp} {σ : L2.St} {γ : Env} {n : Nat} (s : StOk g K H0 F0 F H σ γ n) {v : V} {ds : List D} (r : RepB g K F σ γ v (.tup ds)) : ∃ a vs, v = .ref a ∧ SqT K H a vs ∧ RepL g K F vs ds := by
  rcases r with r | ⟨i, e1, e2⟩
  · cases r with
    | tup sq r => exact ⟨_, _, rfl, SqT.fle (fun a o e => (s.sub a o e).1) sq, r⟩
  · obtain ⟨v', h1, h2⟩ := s.slots i _ e1
    exact h2.elim
theorem StOk.notOw {g : G} {K : PySem.W.Frag} {H0 F0 F H : Hp} {σ : L2.St} {γ : Env} {n : Nat} (s : StOk g K H0 F0 F H σ γ n) {v : V} {d : D} (r : RepB g K F σ γ v d) (h : ∀ ds, d ≠ .lst ds) : Rep g K F v d := by
  rcases r with r | ⟨i, e1, e2⟩
  · exact r
  · obtain ⟨v', h1, h2⟩ := s.slots i _ e1
    cases d with
    | lst ds => exact absurd rfl (h ds)
    | _ => exact h2.elim
theorem StOk.tru {g : G} {K : PySem.W.Frag} {H0 F0 F H : Hp} {σ : L2.St} {γ : Env} {n : Nat} (s : StOk g K H0 F0 F H σ γ n) {v : V} {d : D} (r : RepB g K F σ γ v d) {Q : Bool → Nat → Prop} {E : Exc → Nat → Prop} {n' : Nat} (h : (tru d).run n' Q E) :
    ∃ k, TruV K v H k ∧ Q k n' := by
  cases d with
  | lst ds =>
    obtain ⟨a, vs, ev, sq, rl⟩ := s.list r
    subst ev
    exact ⟨!vs.isEmpty, .inl ⟨vs, sq, rfl⟩, by rw [rl.isEmpty]; exact h⟩
  | tup ds =>
    obtain ⟨a, vs, ev, sq, rl⟩ := s.tuple r
    subst ev
    exact ⟨!vs.isEmpty, .inr (.inl ⟨vs, sq, rfl⟩), by rw [rl.isEmpty]; exact h⟩
  | non =>
    cases s.notOw r (fun _ => nofun)
    exact ⟨_, rfl, h⟩
  | bl b =>
    cases s.notOw r (fun _ => nofun)
    exact ⟨_, rfl, h⟩
  | int i =>
    cases s.notOw r (fun _ => nofun)
    exact ⟨_, rfl, h⟩
  | str x =>
    cases s.notOw r (fun _ => nofun)
    exact ⟨_, ⟨h.1, rfl⟩, h.2⟩
  | _ => exact h.elim
section
variable {g : G} {X : Cx} {W : WX} {a b e : Expr} {ma mb m : Env → M D} {tm tm' : Env → M Bool} {rest : List Expr} {pos : Pos}
/-- a test that is a value's truth -/
theorem ptd_truth (h : PDB g X W e m) (he : ∀ whole, isTrue e X.env whole = (do let v ← whole; standAt e.pos; holding [v] (truthy v)) := by intro _; rfl) : PTD g X W e (fun γ => do tru (← m γ)) := by
  refine ⟨(pt_truth h.pe he).imp fun σ H Q ⟨H0, F0, F, γ, n, s, r⟩ => ?_⟩
  refine ⟨H0, F0, F, γ, n, s, (m γ).mono r (fun d n' q F' H' v s' f r => ?_) fun _ _ q => q⟩
  obtain ⟨k, h1, h2⟩ := s'.tru r q
  exact ⟨k, h1, h2 F' H' s' f⟩
theorem ptd_not (h : PTD g X W a tm) : PTD g X W (.UnaryOp .Not a pos) (fun γ => do pure !(← tm γ)) := by
  refine ⟨(pt_not h.pt).imp fun σ H Q ⟨H0, F0, F, γ, n, s, r⟩ => ?_⟩
  exact ⟨H0, F0, F, γ, n, s, r⟩
theorem PWD.t (h : PWD g X W e tm) : PTD g X W e tm := ⟨h.pw.pt⟩
theorem pwd_and1 (h : PTD g X W a tm) : PWD g X W (.BoolOp .And [a] pos) tm := ⟨pw_and1 h.pt⟩
theorem pwd_or1 (h : PTD g X W a tm) : PWD g X W (.BoolOp .Or [a] pos) tm := ⟨pw_or1 h.pt⟩
theorem pwd_and (ha : PTD g X W a tm) (hb : PWD g X W (.BoolOp .And (b :: rest) pos) tm') : PWD g X W (.BoolOp .And (a :: b :: rest) pos) (fun γ => do bif (← tm γ) then tm' γ else pure false) := by
  refine ⟨(pw_and ha.pt hb.pw).imp fun σ H Q ⟨H0, F0, F, γ, n, s, r⟩ => ?_⟩
  refine ⟨H0, F0, F, γ, n, s, (tm γ).mono r (fun c n' q F' H' s' f => ?_) fun _ _ q => q⟩
  cases c with
  | true =>
    rw [if_pos rfl]
    exact ⟨H0, F0, F', γ, n', s', (tm' γ).mono q (fun b n2 q F2 H2 s2 f2 => q F2 H2 s2 (f.trans f2)) fun _ _ q => q⟩
  | false =>
    rw [if_neg Bool.false_ne_true]
    exact q F' H' s' f
theorem pwd_or (ha : PTD g X W a tm) (hb : PWD g X W (.BoolOp .Or (b :: rest) pos) tm') : PWD g X W (.BoolOp .Or (a :: b :: rest) pos) (fun γ => do bif (← tm γ) then pure true else tm' γ) := by
  refine ⟨(pw_or ha.pt hb.pw).imp fun σ H Q ⟨H0, F0, F, γ, n, s, r⟩ => ?_⟩
  refine ⟨H0, F0, F, γ, n, s, (tm γ).mono r (fun c n' q F' H' s' f => ?_) fun _ _ q => q⟩
  cases c with
  | false =>
    rw [if_neg Bool.false_ne_true]
    exact ⟨H0, F0, F', γ, n', s', (tm' γ).mono q (fun b n2 q F2 H2 s2 f2 => q F2 H2 s2 (f.trans f2)) fun _ _ q => q⟩
  | true =>
    rw [if_pos rfl]
    exact q F' H' s' f
/-! ### and, or, not as values -/
theorem pd_one {op} (h : PD g X W a m) : PD g X W (.BoolOp op [a] pos) m := ⟨pe_one h.pe⟩
theorem pd_and (ha : PD g X W a ma) (hb : PD g X W (.BoolOp .And (b :: rest) pos) mb) : PD g X W (.BoolOp .And (a :: b :: rest) pos) (fun γ => do let x ← ma γ; bif (← tru x) then mb γ else pure x) := by
  refine ⟨(pe_andT ha.pe hb.pe).imp fun σ H Q ⟨H0, F0, F, γ, n, s, r⟩ => ?_⟩
  refine ⟨H0, F0, F, γ, n, s, (ma γ).mono r (fun d n' q F' H' v s' f r => ?_) fun _ _ q => q⟩
  obtain ⟨k, h1, h2⟩ := s'.tru (.inl r) q
  refine ⟨k, h1, ?_⟩
  cases k with
  | true =>
    rw [if_pos rfl]
    exact ⟨H0, F0, F', γ, n', s', (mb γ).mono h2 (fun b n2 q F2 H2 v s2 f2 => q F2 H2 v s2 (f.trans f2)) fun _ _ q => q⟩
  | false =>
    rw [if_neg Bool.false_ne_true]
    exact h2 F' H' v s' f r
theorem pd_or (ha : PD g X W a ma) (hb : PD g X W (.BoolOp .Or (b :: rest) pos) mb) : PD g X W (.BoolOp .Or (a :: b :: rest) pos) (fun γ => do let x ← ma γ; bif (← tru x) then pure x else mb γ) := by
  refine ⟨(pe_orT ha.pe hb.pe).imp fun σ H Q ⟨H0, F0, F, γ, n, s, r⟩ => ?_⟩
  refine ⟨H0, F0, F, γ, n, s, (ma γ).mono r (fun d n' q F' H' v s' f r => ?_) fun _ _ q => q⟩
  obtain ⟨k, h1, h2⟩ := s'.tru (.inl r) q
  refine ⟨k, h1, ?_⟩
  cases k with
  | false =>
    rw [if_neg Bool.false_ne_true]
    exact ⟨H0, F0, F', γ, n', s', (mb γ).mono h2 (fun b n2 q F2 H2 v s2 f2 => q F2 H2 v s2 (f.trans f2)) fun _ _ q => q⟩
  | true =>
    rw [if_pos rfl]
    exact h2 F' H' v s' f r
theorem pd_not (ha : PDB g X W a ma) : PD g X W (.UnaryOp .Not a pos) (fun γ => do pure (.bl !(← tru (← ma γ)))) := by
  refine ⟨(pe_notT ha.pe).imp fun σ H Q ⟨H0, F0, F, γ, n, s, r⟩ => ?_⟩
  refine ⟨H0, F0, F, γ, n, s, (ma γ).mono r (fun d n' q F' H' v s' f r => ?_) fun _ _ q => q⟩
  obtain ⟨k, h1, h2⟩ := s'.tru r q
  exact ⟨k, h1, h2 F' H' _ s' f (.bl _)⟩
theorem pd_ifExp {c : Expr} (hc : PTD g X W c tm) (ha : PD g X W a ma) (hb : PD g X W b mb) : PD g X W (.IfExp c a b pos) (fun γ => do bif (← tm γ) then ma γ else mb γ) := by
  refine ⟨(pe_ifExp hc.pt ha.pe hb.pe).imp fun σ H Q ⟨H0, F0, F, γ, n, s, r⟩ => ?_⟩
  refine ⟨H0, F0, F, γ, n, s, (tm γ).mono r (fun k n' q F' H' s' f => ?_) fun _ _ q => q⟩
  cases k with
  | true =>
    rw [if_pos rfl]
    exact ⟨H0, F0, F', γ, n', s', (ma γ).mono q (fun b n2 q F2 H2 v s2 f2 => q F2 H2 v s2 (f.trans f2)) fun _ _ q => q⟩
  | false =>
    rw [if_neg Bool.false_ne_true]
    exact ⟨H0, F0, F', γ, n', s', (mb γ).mono q (fun b n2 q F2 H2 v s2 f2 => q F2 H2 v s2 (f.trans f2)) fun _ _ q => q⟩
end

/-! ### arguments, displays, operators by values -/
section
variable {g : G} {X : Cx} {W : WX} {a b e : Expr} {es : List Expr} {ma mb m : Env → M D} {ml : Env → M (List D)} {pos : Pos}
theorem pad_nil : PAD g X W [] (fun _ => pure []) := ⟨pa_nil.imp fun σ H Q ⟨H0, F0, F, γ, n, s, r⟩ => r F H [] s (FLe.refl F) .nil⟩
theorem pad_cons (ha : PD g X W e m) (hr : PAD g X W es ml) (hs : starEach (e :: es) X.env = (false, eval e X.env) :: starEach es X.env := by rfl) : PAD g X W (e :: es) (fun γ => do let d ← m γ; pure (d :: (← ml γ))) := by
  refine ⟨(pa_cons ha.pe hr.pa hs).imp fun σ H Q ⟨H0, F0, F, γ, n, s, r⟩ => ?_⟩
  refine ⟨H0, F0, F, γ, n, s, (m γ).mono r (fun d n' q F' H' v s' f r => ?_) fun _ _ q => q⟩
  exact ⟨H0, F0, F', γ, n', s', (ml γ).mono q (fun ds n2 q F2 H2 vs s2 f2 rl => q F2 H2 (v :: vs) s2 (f.trans f2) (.cons (r.fle f2) rl)) fun _ _ q => q⟩
theorem pd_tup {x1} (h : PAD g X W es ml) : PD g X W (.Tuple es x1 pos) (fun γ => do let ds ← ml γ; M.need (ds.length ≤ sizeLine); pure (.tup ds)) := by
  refine ⟨(pe_tup h.pa).imp fun σ H Q ⟨H0, F0, F, γ, n, s, r⟩ => ?_⟩
  refine ⟨H0, F0, F, γ, n, s, (ml γ).mono r (fun ds n' q F' H' vs s' f r => ?_) fun _ _ q => q⟩
  refine ⟨by rw [r.length]; exact q.1, fun p hp => ?_⟩
  have po := post_new (o := .tup vs) s'.sub s'.wok hp
  exact q.2 _ _ _ (s'.post po) (f.trans po.fle) (.tup (.inl (.inl upd_same)) (r.fle po.fle))
theorem pd_lst (h : PAD g X W es ml) : PD g X W (.List es pos) (fun γ => do let ds ← ml γ; M.need (ds.length ≤ sizeLine); pure (.lst ds)) := by
  refine ⟨(pe_lst h.pa).imp fun σ H Q ⟨H0, F0, F, γ, n, s, r⟩ => ?_⟩
  refine ⟨H0, F0, F, γ, n, s, (ml γ).mono r (fun ds n' q F' H' vs s' f r => ?_) fun _ _ q => q⟩
  refine ⟨by rw [r.length]; exact q.1, fun p hp => ?_⟩
  have po := post_new (o := .lst vs) s'.sub s'.wok hp
  exact q.2 _ _ _ (s'.post po) (f.trans po.fle) (.lst upd_same (r.fle po.fle))
/-- by values: what two operands' reading asks -/
def OpD (g : G) (K : PySem.W.Frag) (r : R2) (f : D → D → M D) : Prop :=
  ∀ H0 F0 F H σ γ n x y d1 d2 Q E, StOk g K H0 F0 F H σ γ n → RepB g K F σ γ x d1 → RepB g K F σ γ y d2 →
    (f d1 d2).run n (fun d n' => ∀ F' H' v, StOk g K H0 F0 F' H' σ γ n' → FLe F F' → Rep g K F' v d → Q v H') E → r x y H Q
theorem tOp_of {r : R2} {f : D → D → M D} (hd : OpD g X.K r f) {σ : L2.St} {H : Hp} {Q : VK} (h : tD g X.K X.mg W (fun γ => do let x ← ma γ; f x (← mb γ)) σ H Q) : tOp r (tDB g X.K X.mg W ma) (tDB g X.K X.mg W mb) σ H Q := by
  obtain ⟨H0, F0, F, γ, n, s, r⟩ := h
  refine ⟨H0, F0, F, γ, n, s, (ma γ).mono r (fun d n' q F' H' v s' f1 r1 => ?_) fun _ _ q => q⟩
  refine ⟨H0, F0, F', γ, n', s', (mb γ).mono q (fun d2 n2 q F2 H2 v2 s2 f2 r2 => ?_) fun _ _ q => q⟩
  exact hd H0 F0 F2 H2 σ γ n2 v v2 d d2 Q _ s2 (r1.fle f2) r2 ((f d d2).mono q (fun d3 n3 q F3 H3 v3 s3 f3 r3 => q F3 H3 v3 s3 (f1.trans (f2.trans f3)) r3) fun _ _ q => q)
theorem pd_bin {op : Operator} {r : R2} {f : D → D → M D} (ho : OpR X (binaryOp op) r) (hd : OpD g X.K r f) (ha : PDB g X W a ma) (hb : PDB g X W b mb) : PD g X W (.BinOp a op b pos) (fun γ => do let x ← ma γ; f x (← mb γ)) :=
  ⟨(pe_op ho ha.pe hb.pe).imp fun _ _ _ h => tOp_of hd h⟩
theorem pd_cmp {op : CmpOp} {r : R2} {f : D → D → M D} (ho : OpR X (compareOp op) r) (hd : OpD g X.K r f) (ha : PDB g X W a ma) (hb : PDB g X W b mb) (hm : behindInMarks op b = false) : PD g X W (.Compare a [op] [b] pos) (fun γ => do let x ← ma γ; f x (← mb γ)) :=
  ⟨(pe_cmpR ho ha.pe hb.pe hm).imp fun _ _ _ h => tOp_of hd h⟩
/-- .. whose answer is a truth value, as a test -/
theorem ptd_cmp {op : CmpOp} {r : R2} {f : D → D → M Bool} (ho : OpR X (compareOp op) r) (hd : OpD g X.K r fun x y => do pure (.bl (← f x y))) (ha : PDB g X W a ma) (hb : PDB g X W b mb) (hm : behindInMarks op b = false) :
    PTD g X W (.Compare a [op] [b] pos) (fun γ => do let x ← ma γ; f x (← mb γ)) := by
  refine ⟨(pt_cmpR ho ha.pe hb.pe hm).imp fun σ H Q ⟨H0, F0, F, γ, n, s, r⟩ => ?_⟩
  refine tOp_of hd ⟨H0, F0, F, γ, n, s, ?_⟩
  refine (ma γ).mono r (fun d n' q => ?_) fun _ _ q => q
  refine (mb γ).mono q (fun d2 n2 q => ?_) fun _ _ q => q
  refine (f d d2).mono q (fun k n3 q F' H' v s' f r => ?_) fun _ _ q => q
  cases r
  exact ⟨k, rfl, q F' H' s' f⟩
theorem pd_sub {r : R2} {f : D → D → M D} (hr : IxR X r) (hd : OpD g X.K r f) (ha : PDB g X W a ma) (hb : PD g X W b mb) (hs : PlainIx b := by exact fun _ _ => rfl) : PD g X W (.Subscript a b pos) (fun γ => do let x ← ma γ; f x (← mb γ)) :=
  ⟨(pe_ix hr ha.pe hb.b.pe hs).imp fun _ _ _ h => tOp_of hd h⟩
/-- calls of built-ins by values -/
def CallD (g : G) (K : PySem.W.Frag) (r : List V → Hp → VK → Prop) (f : List D → M D) : Prop :=
  ∀ H0 F0 F H σ γ n vs ds Q E, StOk g K H0 F0 F H σ γ n → RepL g K F vs ds →
    (f ds).run n (fun d n' => ∀ F' H' v, StOk g K H0 F0 F' H' σ γ n' → FLe F F' → Rep g K F' v d → Q v H') E → r vs H Q
theorem tCB_of {r : List V → Hp → VK → Prop} {f : List D → M D} (hd : CallD g X.K r f) {σ : L2.St} {H : Hp} {Q : VK} (h : tD g X.K X.mg W (fun γ => do f (← ml γ)) σ H Q) : tCB r (tAD g X.K X.mg W ml) σ H Q := by
  obtain ⟨H0, F0, F, γ, n, s, r⟩ := h
  refine ⟨H0, F0, F, γ, n, s, (ml γ).mono r (fun d n' q F' H' v s' f1 r1 => ?_) fun _ _ q => q⟩
  exact hd H0 F0 F' H' σ γ n' v d Q _ s' r1 ((f d).mono q (fun d3 n3 q F3 H3 v3 s3 f3 r3 => q F3 H3 v3 s3 (f1.trans f3) r3) fun _ _ q => q)
theorem pd_callB {id : String} {x : Str} {p : Pos} {r : List V → Hp → VK → Prop} {f : List D → M D} (hc : CallR X (.builtin id) r) (hd : CallD g X.K r f) (hg : Gl X x) (hm : X.mg x = none) (hv : bootBuiltins x = some (.builtin id)) (ha : PAD g X W (e :: es) ml)
    (hn : x ≠ "__name__" := by decide) (hdb : (x == ("__debug__" : Str)) = false := by decide) (he : starEach (e :: es) X.env = (false, eval e X.env) :: starEach es X.env := by rfl) (hpl : (backTo pos (starEach es X.env)).any (·.1) = false := by rfl) :
    PD g X W (.Call (.Name x p) (e :: es) [] pos) (fun γ => do f (← ml γ)) :=
  ⟨(pe_callB hc hg hm hv ha.pa hn hdb he hpl).imp fun _ _ _ h => tCB_of hd h⟩
theorem pd_callTy {T : String} {x : Str} {p : Pos} {r : List V → Hp → VK → Prop} {f : List D → M D} (hc : CallR X (.type T) r) (hd : CallD g X.K r f) (hg : Gl X x) (hm : X.mg x = none) (hv : bootBuiltins x = some (.type T)) (ha : PAD g X W (e :: es) ml)
    (hn : x ≠ "__name__" := by decide) (hdb : (x == ("__debug__" : Str)) = false := by decide) (he : starEach (e :: es) X.env = (false, eval e X.env) :: starEach es X.env := by rfl) (hpl : (backTo pos (starEach es X.env)).any (·.1) = false := by rfl) :
    PD g X W (.Call (.Name x p) (e :: es) [] pos) (fun γ => do f (← ml γ)) :=
  ⟨(pe_callTy hc hg hm hv ha.pa hn hdb he hpl).imp fun _ _ _ h => tCB_of hd h⟩
end

/-! ### statements -/
inductive Fl where
  | nx | bk | ct | rt (d : D)
/-- what is wanted behind a statement -/
def endS (g : G) (K : PySem.W.Frag) (H0 F0 : Hp) (D : Ends) : (Fl × Env) → Nat → Prop := fun r n' => ∀ F' H' σ', StOk g K H0 F0 F' H' σ' r.2 n' → match r.1 with
  | .nx => D.nx σ' H'
  | .bk => D.bk σ' H'
  | .ct => D.ct σ' H'
  | .rt d => ∀ v, Rep g K F' v d → D.rt v H'
/-- an exception behind a statement: the slots as they stand then -/
def wishS (g : G) (K : PySem.W.Frag) (mg : Str → Option Value) (W : WX) (H0 F0 : Hp) : Exc → Nat → Prop :=
  fun x n' => ∀ F' H' cls dd σ' γ', StOk g K H0 F0 F' H' σ' γ' n' → XRep g K mg F' H' x cls dd → W cls dd σ' H'
def tSD (g : G) (K : PySem.W.Frag) (mg : Str → Option Value) (W : WX) (m : Env → M (Fl × Env)) : TS := fun D σ H =>
  ∃ H0 F0 F γ n, StOk g K H0 F0 F H σ γ n ∧ (m γ).run n (endS g K H0 F0 D) (wishS g K mg W H0 F0)
structure PSD (g : G) (X : Cx) (W : WX) (st : Stmt) (m : Env → M (Fl × Env)) : Prop where
  ps : PS X st (tSD g X.K X.mg W m)
structure PSsD (g : G) (X : Cx) (W : WX) (sts : List Stmt) (m : Env → M (Fl × Env)) : Prop where
  ps : PSs X sts (tSD g X.K X.mg W m)
/-- one after another -/
def seqM (m k : Env → M (Fl × Env)) : Env → M (Fl × Env) := fun γ => do
  let r ← m γ
  match r.1 with
  | .nx => k r.2
  | _ => pure r
section
variable {g : G} {X : Cx} {W : WX} {st : Stmt} {sts a b : List Stmt} {m m' : Env → M (Fl × Env)} {e : Expr} {me : Env → M D} {tm : Env → M Bool} {pos : Pos}
theorem wish_of {K : PySem.W.Frag} {mg : Str → Option Value} {H0 F0 : Hp} {σ : L2.St} {γ : Env} {x : Exc} {n' : Nat} (h : wishS g K mg W H0 F0 x n') : wishX g K mg W H0 F0 σ γ x n' := fun F' H' cls dd s r => h F' H' cls dd σ γ s r
theorem pssd_nil : PSsD g X W [] (fun γ => pure (.nx, γ)) := ⟨pss_nil.imp fun D σ H ⟨H0, F0, F, γ, n, s, r⟩ => r F H σ s⟩
theorem pssd_one (h : PSD g X W st m) : PSsD g X W [st] m := ⟨pss_one h.ps⟩
theorem pssd_cons (h1 : PSD g X W st m) (h2 : PSsD g X W sts m') : PSsD g X W (st :: sts) (seqM m m') := by
  refine ⟨(pss_cons h1.ps h2.ps).imp fun D σ H ⟨H0, F0, F, γ, n, s, r⟩ => ?_⟩
  refine ⟨H0, F0, F, γ, n, s, (m γ).mono r (fun p n' q => ?_) fun _ _ q => q⟩
  obtain ⟨f, γ'⟩ := p
  cases f with
  | nx => exact fun F' H' σ' s' => ⟨H0, F0, F', γ', n', s', q⟩
  | bk => exact q
  | ct => exact q
  | rt d => exact q
/-- data in a slot stay -/
def freezeM (i : Nat) (γ : Env) : Env := match γ[i]? with
  | some (some (.ow d)) => γ.set i (some (.fz d))
  | _ => γ
theorem pssd_freeze (i : Nat) (h : PSsD g X W sts m) : PSsD g X W sts (fun γ => m (freezeM i γ)) := by
  refine ⟨h.ps.imp fun D σ H ⟨H0, F0, F, γ, n, s, r⟩ => ?_⟩
  have r : (m (freezeM i γ)).run n (endS g X.K H0 F0 D) (wishS g X.K X.mg W H0 F0) := r
  cases e : γ[i]? with
  | none =>
    have ef : freezeM i γ = γ := by unfold freezeM; rw [e]
    rw [ef] at r
    exact ⟨H0, F0, F, γ, n, s, r⟩
  | some o =>
    cases o with
    | none =>
      have ef : freezeM i γ = γ := by unfold freezeM; rw [e]
      rw [ef] at r
      exact ⟨H0, F0, F, γ, n, s, r⟩
    | some t =>
      cases t with
      | ow d =>
        have ef : freezeM i γ = γ.set i (some (.fz d)) := by unfold freezeM; rw [e]
        rw [ef] at r
        obtain ⟨v, h1, h2⟩ := s.slots i _ e
        cases d with
        | lst ds =>
          obtain ⟨F', fl, s'⟩ := s.freeze e
          exact ⟨H0, F0, F', _, n, s', r⟩
        | _ => exact h2.elim
      | _ =>
        have ef : freezeM i γ = γ := by unfold freezeM; rw [e]
        rw [ef] at r
        exact ⟨H0, F0, F, γ, n, s, r⟩
theorem psd_expr (he : PD g X W e me) (hs : swapsWith e none pos.line X.env = pure false := by rfl) : PSD g X W (.Expr e pos) (fun γ => do let _ ← me γ; pure (.nx, γ)) := by
  refine ⟨(ps_expr he.pe hs).imp fun D σ H ⟨H0, F0, F, γ, n, s, r⟩ => ?_⟩
  exact ⟨H0, F0, F, γ, n, s, (me γ).mono r (fun d n' q F' H' v s' f r => q F' H' σ s') fun _ _ q => wish_of q⟩
theorem psd_ret (he : PD g X W e me) : PSD g X W (.Return (some e) pos) (fun γ => do pure (.rt (← me γ), γ)) := by
  refine ⟨(ps_ret he.pe).imp fun D σ H ⟨H0, F0, F, γ, n, s, r⟩ => ?_⟩
  exact ⟨H0, F0, F, γ, n, s, (me γ).mono r (fun d n' q F' H' v s' f r => q F' H' σ s' v r) fun _ _ q => wish_of q⟩
theorem psd_if {c : Expr} (hc : PTD g X W c tm) (ha : PSsD g X W a m) (hb : PSsD g X W b m') : PSD g X W (.If c a b pos) (fun γ => do bif (← tm γ) then m γ else m' γ) := by
  refine ⟨(ps_if hc.pt ha.ps hb.ps).imp fun D σ H ⟨H0, F0, F, γ, n, s, r⟩ => ?_⟩
  refine ⟨H0, F0, F, γ, n, s, (tm γ).mono r (fun k n' q F' H' s' f => ?_) fun _ _ q => wish_of q⟩
  cases k with
  | true =>
    rw [if_pos rfl]
    exact ⟨H0, F0, F', γ, n', s', q⟩
  | false =>
    rw [if_neg Bool.false_ne_true]
    exact ⟨H0, F0, F', γ, n', s', q⟩
def setM (i : Nat) (d : D) (γ : Env) : Env := γ.set i (some (.fz d))
theorem psd_set {i : Nat} {x : Str} {pos' : Pos} (hN : X.N.Nodup) (hi : X.N[i]? = some x) (hx : Loc X.env.scope x) (he : PD g X W e me) (hs : swapsWith e (some (.Name x pos')) pos.line X.env = pure false := by rfl) (hf : X.fn x = true ∨ X.env.scope.names.lookup x = some .local := by first | exact .inl rfl | exact .inr rfl | assumption) :
    PSD g X W (.Assign [.Name x pos'] e pos) (fun γ => do pure (.nx, setM i (← me γ) γ)) := by
  refine ⟨(ps_set hN hi hx he.pe hs hf).imp fun D σ H ⟨H0, F0, F, γ, n, s, r⟩ => ?_⟩
  exact ⟨H0, F0, F, γ, n, s, (me γ).mono r (fun d n' q F' H' v s' f r => q F' H' _ (s'.setFz i r)) fun _ _ q => wish_of q⟩
end
end DL

set_option Elab.async false
set_option linter.all false
set_option maxRecDepth 100000
set_option maxHeartbeats 4000000
/-! DD: a def's promise by data; calls. -/
namespace DL
open PySem PySem.Spec PyProof.Rows L2

def startD (N : List Str) (ds : List D) : Env := ds.map (fun d => some (.fz d)) ++ List.replicate (N.length - ds.length) none
/-- a body from its arguments -/
def runFn (N : List Str) (mb : Env → M (Fl × Env)) (ds : List D) : M D := do
  let r ← mb (startD N ds)
  match r.1 with
  | .rt d => pure d
  | .nx => pure .non
  | _ => M.stuck
/-- a def's promise: k arguments that are data ds; it does what m ds does; what stood stands -/
def spM (g : G) (K : PySem.W.Frag) (mg : Str → Option Value) (k : Nat) (m : List D → M D) : Sp := fun vs H Q E =>
  ∃ F ds n, ds.length = k ∧ FSub g F H ∧ WOk g H n ∧ RepL g K F vs ds ∧ (m ds).run n (fun d n' => ∀ F' H' v, Post g F H F' H' n' → Rep g K F' v d → Q v H') (fun x n' => ∀ F' H' cls dd, Post g F H F' H' n' → XRep g K mg F' H' x cls dd → E cls dd H')
theorem spM.imp {g : G} {K : PySem.W.Frag} {mg : Str → Option Value} {k : Nat} {m m' : List D → M D} (h : ∀ ds, ds.length = k → M.Le (m ds) (m' ds)) : ∀ vs H Q E, spM g K mg k m vs H Q E → spM g K mg k m' vs H Q E :=
  fun vs H Q E ⟨F, ds, n, e, fs, w, r, q⟩ => ⟨F, ds, n, e, fs, w, r, h ds e _ _ _ q⟩
/-- a def of the law's promise at a level -/
abbrev FnD (g : G) (P : Program) (w : World) (K : PySem.W.Frag) (mg : Str → Option Value) (base : Heap) (k : Nat) (f : Addr) (fd : FuncData) (ps : List Str) (m : List D → M D) : Prop := FnOk P w K mg base (L2.CX P w) k f fd ps (spM g K mg ps.length m)
theorem FnD.le {g : G} {P : Program} {w : World} {K : PySem.W.Frag} {mg : Str → Option Value} {base : Heap} {k : Nat} {f : Addr} {fd : FuncData} {ps : List Str} {m m' : List D → M D} (F : FnD g P w K mg base k f fd ps m') (h : ∀ ds, ds.length = ps.length → M.Le (m ds) (m' ds)) : FnD g P w K mg base k f fd ps m :=
  FnOk.imp F (spM.imp h)
theorem post_of {g : G} {K : PySem.W.Frag} {F H F' H' : Hp} {σ : L2.St} {γ : Env} {n : Nat} (s : StOk g K H F F' H' σ γ n) : Post g F H F' H' n := ⟨s.ext, s.f0, s.sub, s.new, s.wok⟩
theorem start_get {N : List Str} {vs : List V} {ds : List D} {g : G} {K : PySem.W.Frag} {F : Hp} (r : RepL g K F vs ds) {i : Nat} {s : Slot} (h : (startD N ds)[i]? = some (some s)) : ∃ v d, (L2.start N vs)[i]? = some (some v) ∧ s = .fz d ∧ Rep g K F v d := by
  unfold startD at h
  by_cases hi : i < ds.length
  · rw [List.getElem?_append_left (by rw [List.length_map]; exact hi), List.getElem?_map] at h
    cases e : ds[i]? with
    | none =>
      rw [e] at h
      cases h
    | some d =>
      rw [e] at h
      cases h
      obtain ⟨v, h1, h2⟩ := r.get e
      refine ⟨v, d, ?_, rfl, h2⟩
      unfold L2.start
      rw [List.getElem?_append_left (by rw [List.length_map, r.length]; exact hi), List.getElem?_map, h1]
      rfl
  · rw [List.getElem?_append_right (by rw [List.length_map]; omega), List.getElem?_replicate] at h
    split at h <;> cases h
theorem start_ok {g : G} {K : PySem.W.Frag} {F H : Hp} {N : List Str} {vs : List V} {ds : List D} {n : Nat} (fs : FSub g F H) (w : WOk g H n) (r : RepL g K F vs ds) : StOk g K H F F H (L2.start N vs) (startD N ds) n where
  ext := ExtE.refl H
  f0 := FLe.refl F
  sub := fs
  new := fun a h => .inl h
  wok := w
  len := by
    unfold startD L2.start
    rw [List.length_append, List.length_append, List.length_map, List.length_map, List.length_replicate, List.length_replicate, r.length]
  slots := fun i s h => by
    obtain ⟨v, d, h1, h2, h3⟩ := start_get r h
    subst h2
    exact ⟨v, h1, h3⟩
  dist := fun i j a _ h1 _ _ _ => by
    cases e : (startD N ds)[i]? with
    | none =>
      rw [e] at h1
      cases h1
    | some o =>
      cases o with
      | none =>
        rw [e] at h1
        cases h1
      | some s =>
        obtain ⟨v, d, _, h2, _⟩ := start_get (vs := vs) r e
        rw [e, h2] at h1
        cases h1
section
variable {g : G} {P : Program} {w : World} {K : PySem.W.Frag} {mg : Str → Option Value} {base : Heap} {x qual : Str} {params : Arguments} {body : List Stmt} {scope : Scope} {dvs : List V} {kws : List (Str × V)} {f : Addr} {fd : FuncData}
/-- THE RULE: a def by its body's judgement -/
theorem fnD {N ps : List Str} {k : Nat} {m : List D → M D} {mb : Env → M (Fl × Env)} (F : FunD K x qual params body scope dvs kws f fd) (S : FnScope N ps scope)
    (hbody : ∀ (cdv : Value) (A : Around) (outer : List PySem.Env) (s : Shared) (H : Hp) (E : XK), Room k (A.deeper (envOfC qual scope s.heap.objs.size f cdv)) →
      PSsD g (cxOf (L2.CX P w) P w K mg base N qual scope f cdv A outer s H E) (fun cls d _ H => E cls d H) body mb)
    (hm : ∀ ds, ds.length = ps.length → M.Le (m ds) (runFn N mb ds)) : FnD g P w K mg base (k + 1) f fd ps m := by
  refine F.ok S (fun vs H Q E ⟨F, ds, n, e, _, _, r, _⟩ => by rw [r.length, e]) fun cdv A outer s H vs Q E hr ⟨F, ds, n, e, fs, wk, r, q⟩ => ?_
  refine ⟨_, (hbody cdv A outer s H E hr).ps, H, F, F, _, n, start_ok fs wk r, ?_⟩
  have q2 := hm ds e _ _ _ q
  refine (mb (startD N ds)).mono q2 (fun p n' q3 => ?_) fun x n' q3 F' H' cls dd σ' γ' s' xr => q3 F' H' cls dd (post_of s') xr
  obtain ⟨fl, γ'⟩ := p
  cases fl with
  | nx => exact fun F' H' σ' s' => q3 F' H' .non (post_of s') .non
  | rt d => exact fun F' H' σ' s' v rv => q3 F' H' v (post_of s') rv
  | bk => exact q3.elim
  | ct => exact q3.elim
end

/-! ### calls of defs -/
def pick {α : Type} (ord : List Nat) (l : List α) : List α := ord.filterMap (l[·]?)
theorem RepL.pick {g : G} {K : PySem.W.Frag} {F : Hp} {vs : List V} {ds : List D} (r : RepL g K F vs ds) : ∀ ord : List Nat, RepL g K F (DL.pick ord vs) (DL.pick ord ds)
  | [] => .nil
  | i :: ord => by
    unfold DL.pick
    rw [List.filterMap_cons, List.filterMap_cons]
    cases e : ds[i]? with
    | none =>
      have e2 : vs[i]? = none := by
        rw [List.getElem?_eq_none_iff] at e ⊢
        rw [r.length]
        exact e
      rw [e2]
      exact r.pick ord
    | some d =>
      obtain ⟨v, h1, h2⟩ := r.get e
      rw [h1]
      exact .cons h2 (r.pick ord)
theorem vals_pick {vs : List V} {us : List Value} (r : Vals vs us) : ∀ ord : List Nat, Vals (DL.pick ord vs) (DL.pick ord us)
  | [] => .nil
  | i :: ord => by
    unfold DL.pick
    rw [List.filterMap_cons, List.filterMap_cons]
    cases e : vs[i]? with
    | none =>
      rw [r.none_of e]
      exact vals_pick r ord
    | some d =>
      obtain ⟨v, h1, h2⟩ := r.get e
      rw [h1]
      exact .cons h2 (vals_pick r ord)
/-- a call with keywords, by values -/
def tCallKD (nP nK : Nat) (ord : List Nat) (sp : Sp) (E : L2.St → XK) (t tk : TA) : TE := fun σ H Q => t σ H fun vs H1 => tk σ H1 fun zs H2 => vs.length = nP ∧ zs.length = nK ∧ sp (pick ord (vs ++ zs)) H2 Q (E σ)
section
variable {X : Cx} {CX : CXT} {k : Nat} {f : Addr} {fd : FuncData} {ps ks : List Str} {sp : Sp} {E : L2.St → XK} {x : Str} {p pos : Pos} {es : List Expr} {kws : List Keyword} {t tk : TA} {nP nK : Nat} {ord : List Nat}
theorem run_fnKD {σ : L2.St} {pins : List (Addr × Obj)} {H : Hp} {s : Shared} {Q : VK} {us ws : List Value} {vs zs : List V} (F : FnOk X.prog X.w X.K X.mg X.base CX k f fd ps sp) (hr : Room k X.A)
    (hb : ∀ (s : Shared) (us ws : List Value), X.K.In s.heap → us.length = nP → ws.length = nK → BindsTo s fd ⟨us, ks.zip ws⟩ (ps.zip (pick ord (us ++ ws)))) (hx : PassesAt CX X σ (E σ))
    (I : Inv X pins σ H s) (r : Vals vs us) (rz : Vals zs ws) (h1 : vs.length = nP) (h2 : zs.length = nK) (h : sp (pick ord (vs ++ zs)) H Q (E σ)) : wpAny (model X.prog X.w) X.A (call (.ref f) us (ks.zip ws)) (EP X pins σ Q) X.xe s := by
  have r2 := vals_pick (r.append rz) ord
  refine wpAny_call (codeAny_mono (F.run X.A X.stack s H ⟨us, ks.zip ws⟩ (pick ord (us ++ ws)) (pick ord (vs ++ zs)) Q (E σ) hr I.env0 (hb s us ws I.kIn (by rw [← r.length, h1]) (by rw [← rz.length, h2])) r2 h) fun r s' hq => ?_)
  cases r with
  | error e => exact hx pins H s e s' I hq
  | ok fl =>
    cases fl with
    | ret u => exact I.after hq
    | next => exact False.elim hq
    | brk => exact False.elim hq
    | cont => exact False.elim hq
theorem pe_callKD {e : Expr} (F : FnOk X.prog X.w X.K X.mg X.base CX k f fd ps sp) (hr : Room k X.A) (hg : Gl X x) (hm : X.mg x = some (.ref f)) (hk : PySem.W.keepIn X.K (.ref f) = true)
    (hb : ∀ (s : Shared) (us ws : List Value), X.K.In s.heap → us.length = nP → ws.length = nK → BindsTo s fd ⟨us, ks.zip ws⟩ (ps.zip (pick ord (us ++ ws)))) (hx : ∀ σ, PassesAt CX X σ (E σ))
    (ha : PA X (e :: es) t) (hkw : PK X kws tk) (hall : (backToKw pos (keywordEach kws X.env)).all (·.1.isSome) = true) (hks : (backToKw pos (keywordEach kws X.env)).filterMap (·.1) = ks)
    (hdb : (x == ("__debug__" : Str)) = false) (he : starEach (e :: es) X.env = (false, eval e X.env) :: starEach es X.env)
    (hpl : ((backTo pos (starEach (e :: es) X.env)).any (·.1) || (backToKw pos (keywordEach kws X.env)).any (·.1.isNone)) = false) :
    PE X (.Call (.Name x p) (e :: es) kws pos) (tCallKD nP nK ord sp E t tk) := by
  refine ⟨fun pins s σ H Q I h => ?_⟩
  refine wpAny_Call_Name_kw (ld_glob I hg hm ?_ hdb)
  refine PySem.W.callWith_KW (h₀ := X.base) I.ok.mod.kin hk hall (thn (ha.run pos pins s σ H _ I h) fun us s1 ⟨vs, H1, I1, r, q⟩ => ?_) hpl he
  refine thn (hkw.run pos pins s1 σ H1 _ I1 q) fun ws s2 ⟨zs, H2, I2, rz, q2⟩ => ⟨I2.kIn, ?_⟩
  rw [hks]
  obtain ⟨h1, h2, q3⟩ := q2
  exact run_fnKD F hr hb (hx σ) I2 r rz h1 h2 q3
theorem pe_callKD0 (F : FnOk X.prog X.w X.K X.mg X.base CX k f fd ps sp) (hr : Room k X.A) (hg : Gl X x) (hm : X.mg x = some (.ref f)) (hk : PySem.W.keepIn X.K (.ref f) = true)
    (hb : ∀ (s : Shared) (us ws : List Value), X.K.In s.heap → us.length = 0 → ws.length = nK → BindsTo s fd ⟨us, ks.zip ws⟩ (ps.zip (pick ord (us ++ ws)))) (hx : ∀ σ, PassesAt CX X σ (E σ))
    (hkw : PK X kws tk) (hall : (backToKw pos (keywordEach kws X.env)).all (·.1.isSome) = true) (hks : (backToKw pos (keywordEach kws X.env)).filterMap (·.1) = ks)
    (hdb : (x == ("__debug__" : Str)) = false) (hpl : ((backTo pos (starEach [] X.env)).any (·.1) || (backToKw pos (keywordEach kws X.env)).any (·.1.isNone)) = false) :
    PE X (.Call (.Name x p) [] kws pos) (tCallKD 0 nK ord sp E tNil tk) := by
  refine ⟨fun pins s σ H Q I h => ?_⟩
  refine wpAny_Call_Name_kw (ld_glob I hg hm ?_ hdb)
  refine PySem.W.callWith_KW0 (h₀ := X.base) I.ok.mod.kin hk hall ?_ hpl
  refine thn (hkw.run pos pins s σ H _ I h) fun ws s2 ⟨zs, H2, I2, rz, q2⟩ => ⟨I2.kIn, ?_⟩
  rw [hks]
  obtain ⟨h1, h2, q3⟩ := q2
  exact run_fnKD F hr hb (hx σ) I2 .nil rz h1 h2 q3
end
structure PKD (g : G) (X : Cx) (W : WX) (kws : List Keyword) (m : Env → M (List D)) : Prop where
  pk : PK X kws (tAD g X.K X.mg W m)
section
variable {g : G} {X : Cx} {W : WX} {k : Nat} {f : Addr} {fd : FuncData} {ps ks : List Str} {m : List D → M D} {x : Str} {nm : Option Str} {p pos kpos : Pos} {e : Expr} {es : List Expr} {kws : List Keyword} {ml mk : Env → M (List D)} {me : Env → M D} {nP nK : Nat} {ord : List Nat}
theorem _root_.L2.PK.imp {X : Cx} {kws : List Keyword} {t t' : TA} (h : PK X kws t) (i : ∀ σ H Q, t' σ H Q → t σ H Q) : PK X kws t' := ⟨fun pos pins s σ H Q I q => h.run pos pins s σ H Q I (i _ _ _ q)⟩
theorem pkd_nil : PKD g X W [] (fun _ => pure []) := ⟨pk_nil.imp fun σ H Q ⟨H0, F0, F, γ, n, s, r⟩ => r F H [] s (FLe.refl F) .nil⟩
theorem pkd_cons (ha : PD g X W e me) (hr : PKD g X W kws ml) : PKD g X W (⟨nm, e, kpos⟩ :: kws) (fun γ => do let d ← me γ; pure (d :: (← ml γ))) := by
  refine ⟨(pk_cons ha.pe hr.pk).imp fun σ H Q ⟨H0, F0, F, γ, n, s, r⟩ => ?_⟩
  refine ⟨H0, F0, F, γ, n, s, (me γ).mono r (fun d n' q F' H' v s' f r => ?_) fun _ _ q => q⟩
  exact ⟨H0, F0, F', γ, n', s', (ml γ).mono q (fun ds n2 q F2 H2 vs s2 f2 rl => q F2 H2 (v :: vs) s2 (f.trans f2) (.cons (r.fle f2) rl)) fun _ _ q => q⟩
/-- the callee's promise at a call -/
theorem sp_at {g : G} {K : PySem.W.Frag} {mg : Str → Option Value} {H0 F0 F H : Hp} {σ : L2.St} {γ : Env} {n : Nat} {vs : List V} {ds : List D} {Q : VK} (s : StOk g K H0 F0 F H σ γ n) (r : RepL g K F vs ds) {j : Nat} (hj : ds.length = j)
    (h : (m ds).run n (fun d n' => ∀ F' H' v, StOk g K H0 F0 F' H' σ γ n' → FLe F F' → Rep g K F' v d → Q v H') (wishX g K mg W H0 F0 σ γ)) : spM g K mg j m vs H Q (WE W σ) :=
  ⟨F, ds, n, hj, s.sub, s.wok, r, (m ds).mono h (fun d n' q F' H' v po rv => q F' H' v (s.post po) po.fle rv) fun x n' q F' H' cls dd po xr => q F' H' cls dd (s.post po) xr⟩
/-- f(e, ..) -/
theorem pd_call (G : FnD g X.prog X.w X.K X.mg X.base k f fd ps m) (hr : Room k X.A) (hg : Gl X x) (hm : X.mg x = some (.ref f)) (hk : PySem.W.keepIn X.K (.ref f) = true) (hb : Binds X.K fd ps []) (tk : Takes X W) (ha : PAD g X W (e :: es) ml)
    (hdb : (x == ("__debug__" : Str)) = false := by decide) (he : starEach (e :: es) X.env = (false, eval e X.env) :: starEach es X.env := by rfl) (hpl : (backTo pos (starEach es X.env)).any (·.1) = false := by rfl) :
    PD g X W (.Call (.Name x p) (e :: es) [] pos) (fun γ => do let ds ← ml γ; M.need (ds.length = ps.length); m ds) := by
  refine ⟨(pe_callS G hr hg hm hk hb (fun σ => passAt tk σ) ha.pa hdb he hpl).imp fun σ H Q ⟨H0, F0, F, γ, n, s, r⟩ => ?_⟩
  refine ⟨H0, F0, F, γ, n, s, (ml γ).mono r (fun ds n' q F' H' vs s' f r => ?_) fun _ _ q => q⟩
  exact sp_at s' r q.1 ((m ds).mono q.2 (fun d n2 q F2 H2 v s2 f2 rv => q F2 H2 v s2 (f.trans f2) rv) fun _ _ q => q)
/-- f(e, .., k = e, ..) -/
theorem pd_callK (G : FnD g X.prog X.w X.K X.mg X.base k f fd ps m) (hr : Room k X.A) (hg : Gl X x) (hm : X.mg x = some (.ref f)) (hk : PySem.W.keepIn X.K (.ref f) = true)
    {nP nK : Nat} {ord : List Nat} (hb : ∀ (s : Shared) (us ws : List Value), X.K.In s.heap → us.length = nP → ws.length = nK → BindsTo s fd ⟨us, ks.zip ws⟩ (ps.zip (pick ord (us ++ ws)))) (tk : Takes X W) (ha : PAD g X W (e :: es) ml) (hkw : PKD g X W kws mk)
    (hall : (backToKw pos (keywordEach kws X.env)).all (·.1.isSome) = true := by rfl) (hks : (backToKw pos (keywordEach kws X.env)).filterMap (·.1) = ks := by rfl)
    (hdb : (x == ("__debug__" : Str)) = false := by decide) (he : starEach (e :: es) X.env = (false, eval e X.env) :: starEach es X.env := by rfl)
    (hpl : ((backTo pos (starEach (e :: es) X.env)).any (·.1) || (backToKw pos (keywordEach kws X.env)).any (·.1.isNone)) = false := by rfl) :
    PD g X W (.Call (.Name x p) (e :: es) kws pos) (fun γ => do let ds ← ml γ; let zs ← mk γ; M.need (ds.length = nP ∧ zs.length = nK ∧ (pick ord (ds ++ zs)).length = ps.length); m (pick ord (ds ++ zs))) := by
  refine ⟨(pe_callKD G hr hg hm hk hb (fun σ => passAt tk σ) ha.pa hkw.pk hall hks hdb he hpl).imp fun σ H Q ⟨H0, F0, F, γ, n, s, r⟩ => ?_⟩
  refine ⟨H0, F0, F, γ, n, s, (ml γ).mono r (fun ds n' q F' H' vs s' f r => ?_) fun _ _ q => q⟩
  refine ⟨H0, F0, F', γ, n', s', (mk γ).mono q (fun zs n2 q F2 H2 ws s2 f2 r2 => ?_) fun _ _ q => q⟩
  have rr := ((RepL.fle f2 r).append r2).pick ord
  refine ⟨by rw [r.length]; exact q.1.1, by rw [r2.length]; exact q.1.2.1, ?_⟩
  exact sp_at s2 rr q.1.2.2 ((m _).mono q.2 (fun d n3 q F3 H3 v s3 f3 rv => q F3 H3 v s3 (f.trans (f2.trans f3)) rv) fun _ _ q => q)
/-- f(k = e, ..) -/
theorem pd_callK0 (G : FnD g X.prog X.w X.K X.mg X.base k f fd ps m) (hr : Room k X.A) (hg : Gl X x) (hm : X.mg x = some (.ref f)) (hk : PySem.W.keepIn X.K (.ref f) = true)
    {nK : Nat} {ord : List Nat} (hb : ∀ (s : Shared) (us ws : List Value), X.K.In s.heap → us.length = 0 → ws.length = nK → BindsTo s fd ⟨us, ks.zip ws⟩ (ps.zip (pick ord (us ++ ws)))) (tk : Takes X W) (hkw : PKD g X W kws mk)
    (hall : (backToKw pos (keywordEach kws X.env)).all (·.1.isSome) = true := by rfl) (hks : (backToKw pos (keywordEach kws X.env)).filterMap (·.1) = ks := by rfl)
    (hdb : (x == ("__debug__" : Str)) = false := by decide) (hpl : ((backTo pos (starEach [] X.env)).any (·.1) || (backToKw pos (keywordEach kws X.env)).any (·.1.isNone)) = false := by rfl) :
    PD g X W (.Call (.Name x p) [] kws pos) (fun γ => do let zs ← mk γ; M.need (zs.length = nK ∧ (pick ord zs).length = ps.length); m (pick ord zs)) := by
  refine ⟨(pe_callKD0 G hr hg hm hk hb (fun σ => passAt tk σ) hkw.pk hall hks hdb hpl).imp fun σ H Q ⟨H0, F0, F, γ, n, s, r⟩ => ?_⟩
  refine ⟨H0, F0, F, γ, n, s, (mk γ).mono r (fun zs n2 q F2 H2 ws s2 f2 r2 => ?_) fun _ _ q => q⟩
  refine ⟨rfl, by rw [r2.length]; exact q.1.1, ?_⟩
  exact sp_at s2 (r2.pick ord) q.1.2 ((m _).mono q.2 (fun d n3 q F3 H3 v s3 f3 rv => q F3 H3 v s3 (f2.trans f3) rv) fun _ _ q => q)
end
end DL

set_option Elab.async false
set_option linter.all false
set_option maxRecDepth 100000
set_option maxHeartbeats 4000000
/-! DE: operators by data: comparisons, in, isinstance, len, list, tuple, all, any, subscripts, slices, +. -/
namespace DL
open PySem PySem.Spec PyProof.Rows L2

mutual
def toPy : D → Option PyData
  | .non => some .none
  | .bl b => some (.bool b)
  | .int i => some (.int i)
  | .str x => some (.str x)
  | .lst xs => (toPyL xs).map .list
  | .tup xs => (toPyL xs).map .tuple
  | _ => none
def toPyL : List D → Option (List PyData)
  | [] => some []
  | x :: xs => match toPy x, toPyL xs with
    | some p, some ps => some (p :: ps)
    | _, _ => none
end
mutual
theorem Rep.dp {g : G} {K : PySem.W.Frag} {F : Hp} : ∀ {v : V} {d : D} {p : PyData}, Rep g K F v d → toPy d = some p → Dp K F v p
  | _, _, _, .non, h => by cases h; exact .non
  | _, _, _, .bl b, h => by cases h; exact .bl b
  | _, _, _, .int i, h => by cases h; exact .int i
  | _, _, _, .str x, h => by cases h; exact .str x
  | _, _, _, .ty n, h => by cases h
  | _, _, _, .ref a, h => by cases h
  | _, _, p, .lst (ds := ds) s r, h => by
    cases e : toPyL ds with
    | none =>
      have h1 : (toPyL ds).map PyData.list = some p := by rw [← h]; simp only [toPy]
      rw [e] at h1
      cases h1
    | some ps =>
      have h1 : (toPyL ds).map PyData.list = some p := by rw [← h]; simp only [toPy]
      rw [e] at h1
      cases h1
      exact .lst (.inl (.inl s)) (RepL.dp r e)
  | _, _, p, .tup (ds := ds) s r, h => by
    cases e : toPyL ds with
    | none =>
      have h1 : (toPyL ds).map PyData.tuple = some p := by rw [← h]; simp only [toPy]
      rw [e] at h1
      cases h1
    | some ps =>
      have h1 : (toPyL ds).map PyData.tuple = some p := by rw [← h]; simp only [toPy]
      rw [e] at h1
      cases h1
      exact .tup s (RepL.dp r e)
  | _, _, _, .dct0 _, h => by cases h
theorem RepL.dp {g : G} {K : PySem.W.Frag} {F : Hp} : ∀ {vs : List V} {ds : List D} {ps : List PyData}, RepL g K F vs ds → toPyL ds = some ps → DpAll K F vs ps
  | _, _, _, .nil, h => by
    simp only [toPyL] at h
    cases h
    exact .nil
  | _, _, ps, .cons (d := d) (ds := ds) r s, h => by
    simp only [toPyL] at h
    cases e1 : toPy d with
    | none =>
      rw [e1] at h
      cases h
    | some p =>
      cases e2 : toPyL ds with
      | none =>
        rw [e1, e2] at h
        cases h
      | some qs =>
        rw [e1, e2] at h
        cases h
        exact .cons (Rep.dp r e1) (RepL.dp s e2)
end
mutual
theorem Dp.fle {K : PySem.W.Frag} {F F' : Hp} (h : FLe F F') : ∀ {v : V} {p : PyData}, Dp K F v p → Dp K F' v p
  | _, _, .non => .non
  | _, _, .bl b => .bl b
  | _, _, .int i => .int i
  | _, _, .str x => .str x
  | _, _, .lst s r => .lst (SqL.fle h s) (DpAll.fle h r)
  | _, _, .tup s r => .tup (SqT.fle h s) (DpAll.fle h r)
theorem DpAll.fle {K : PySem.W.Frag} {F F' : Hp} (h : FLe F F') : ∀ {vs : List V} {ps : List PyData}, DpAll K F vs ps → DpAll K F' vs ps
  | _, _, .nil => .nil
  | _, _, .cons r s => .cons (Dp.fle h r) (DpAll.fle h s)
end
theorem StOk.le {g : G} {K : PySem.W.Frag} {H0 F0 F H : Hp} {σ : L2.St} {γ : Env} {n : Nat} (s : StOk g K H0 F0 F H σ γ n) : FLe F H := fun a o e => (s.sub a o e).1
theorem StOk.dp {g : G} {K : PySem.W.Frag} {H0 F0 F H : Hp} {σ : L2.St} {γ : Env} {n : Nat} (s : StOk g K H0 F0 F H σ γ n) {v : V} {d : D} {p : PyData} (r : RepB g K F σ γ v d) (h : toPy d = some p) : Dp K H v p := by
  cases d with
  | lst ds =>
    obtain ⟨a, vs, ev, sq, rl⟩ := s.list r
    subst ev
    have h1 : (toPyL ds).map PyData.list = some p := by rw [← h]; simp only [toPy]
    cases e : toPyL ds with
    | none =>
      rw [e] at h1
      cases h1
    | some ps =>
      rw [e] at h1
      cases h1
      exact .lst sq (DpAll.fle s.le (RepL.dp rl e))
  | _ => exact Dp.fle s.le ((s.notOw r (fun _ => nofun)).dp h)

/-! ### what an object reads as is one -/
mutual
theorem reads_one {h : Heap} : ∀ (d d' : PyData) (v : Value) (as as' : List Addr), PyData.canLay0 d = true → Reads h v d as → Reads h v d' as' → d = d'
  | .none, _, _, _, _, _, r, r' => by cases r; cases r'; rfl
  | .bool b, _, _, _, _, _, r, r' => by cases r; cases r'; rfl
  | .int i, _, _, _, _, _, r, r' => by cases r; cases r'; rfl
  | .str x, _, _, _, _, _, r, r' => by cases r; cases r'; rfl
  | .list xs, _, _, _, _, hc, r, r' => by
    cases r with
    | list h1 h2 h3 h4 =>
      cases r' with
      | list k1 k2 k3 k4 =>
        rw [h1] at k1
        cases k1
        rw [h3] at k3
        cases k3
        rw [reads_oneL xs _ _ _ _ (by simpa [PyData.canLay0] using hc) h4 k4]
      | tuple k1 k2 k3 k4 =>
        rw [h1] at k1
        cases k1
        rw [h2] at k2
        exact absurd k2 (by decide)
      | dict k1 k2 k3 k4 k5 =>
        rw [h1] at k1
        cases k1
        rw [h2] at k2
        exact absurd k2 (by decide)
  | .tuple xs, _, _, _, _, hc, r, r' => by
    cases r with
    | tuple h1 h2 h3 h4 =>
      cases r' with
      | tuple k1 k2 k3 k4 =>
        rw [h1] at k1
        cases k1
        rw [h3] at k3
        cases k3
        rw [reads_oneL xs _ _ _ _ (by simpa [PyData.canLay0] using hc) h4 k4]
      | list k1 k2 k3 k4 =>
        rw [h1] at k1
        cases k1
        rw [h2] at k2
        exact absurd k2 (by decide)
      | dict k1 k2 k3 k4 k5 =>
        rw [h1] at k1
        cases k1
        rw [h2] at k2
        exact absurd k2 (by decide)
  | .dict _, _, _, _, _, hc, _, _ => by simp [PyData.canLay0] at hc
theorem reads_oneL {h : Heap} : ∀ (ds ds' : List PyData) (vs : List Value) (as as' : List Addr), PyData.canLayAll0 ds = true → ReadsAll h vs ds as → ReadsAll h vs ds' as' → ds = ds'
  | [], _, _, _, _, _, r, r' => by cases r; cases r'; rfl
  | d :: ds, _, _, _, _, hc, r, r' => by
    have hc' : d.canLay0 = true ∧ PyData.canLayAll0 ds = true := by simpa [PyData.canLayAll0] using hc
    cases r with
    | cons h1 h2 =>
      cases r' with
      | cons k1 k2 => rw [reads_one d _ _ _ _ hc'.1 h1 k1, reads_oneL ds _ _ _ _ hc'.2 h2 k2]
end

/-! ### comparisons -/
/-- two data that == takes -/
def eqP (p q : PyData) : M Bool := do M.need (SeqAt.shaped p = true ∧ SeqAt.shaped q = true); pure (PyData.eqv p q)
def py2 {α : Type} (f : PyData → PyData → M α) (x y : D) : M α := match toPy x, toPy y with
  | some p, some q => f p q
  | _, _ => M.stuck
def dEq : D → D → M Bool := py2 eqP
def dNe (x y : D) : M Bool := do pure !(← dEq x y)
/-- two data that < takes -/
def ltOk (p q : PyData) : Prop := PySem.W.alike p q = true ∧ p ≠ .none ∧ min p.depth q.depth ≤ 64
def dLt : D → D → M Bool := py2 fun p q => do M.need (ltOk p q); pure (PySem.W.dataLt p q)
def dGt : D → D → M Bool := py2 fun p q => do M.need (ltOk p q); pure (PySem.W.dataLt q p)
def dLe : D → D → M Bool := py2 fun p q => do M.need (ltOk p q); pure !(PySem.W.dataLt q p)
def dGe : D → D → M Bool := py2 fun p q => do M.need (ltOk p q); pure !(PySem.W.dataLt p q)
theorem py2_run {α : Type} {f : PyData → PyData → M α} {x y : D} {n : Nat} {Q : α → Nat → Prop} {E : Exc → Nat → Prop} (h : (py2 f x y).run n Q E) : ∃ p q, toPy x = some p ∧ toPy y = some q ∧ (f p q).run n Q E := by
  unfold py2 at h
  cases e1 : toPy x with
  | none =>
    rw [e1] at h
    exact h.elim
  | some p =>
    cases e2 : toPy y with
    | none =>
      rw [e1, e2] at h
      exact h.elim
    | some q =>
      rw [e1, e2] at h
      exact ⟨p, q, rfl, rfl, h⟩
def rPy (K : PySem.W.Frag) (C : PyData → PyData → Prop) (b : PyData → PyData → Bool) : R2 := fun x y H Q => ∃ d e, Dp K H x d ∧ Dp K H y e ∧ C d e ∧ Q (.bl (b d e)) H
def cEq (p q : PyData) : Prop := SeqAt.shaped p = true ∧ SeqAt.shaped q = true
section
variable {X : Cx}
theorem op_eqP (hu : X.A.units + 64 < cLine) : OpR X (compareOp .Eq) (rPy X.K cEq PyData.eqv) := fun pins s σ H x y v u Q I rx ry ⟨d, e, h1, h2, c, q⟩ => op_eqD hu pins s σ H x y v u Q I rx ry ⟨d, e, h1, h2, c.1, c.2, q⟩
theorem op_neP (hu : X.A.units + 64 < cLine) : OpR X (compareOp .NotEq) (rPy X.K cEq fun p q => !PyData.eqv p q) := fun pins s σ H x y v u Q I rx ry ⟨d, e, h1, h2, c, q⟩ => op_neD hu pins s σ H x y v u Q I rx ry ⟨d, e, h1, h2, c.1, c.2, q⟩
theorem room_min {A : Around} {p q : PyData} (hu : A.units + 64 < cLine) (h : ltOk p q) : A.units + min p.depth q.depth < cLine := Nat.lt_of_le_of_lt (Nat.add_le_add_left h.2.2 _) hu
theorem op_ltP (hu : X.A.units + 64 < cLine) : OpR X (compareOp .Lt) (rPy X.K ltOk PySem.W.dataLt) := by
  intro pins s σ H x y v u Q I rx ry h
  obtain ⟨d, e, hd, he, c, q⟩ := h
  obtain ⟨as, r1⟩ := Dp.reads I d x v hd rx
  obtain ⟨bs, r2⟩ := Dp.reads I e y u he ry
  exact PySem.W.lt_data r1 r2 c.1 c.2.1 (room_min hu c) ⟨.bl _, H, I, rfl, q⟩
theorem op_gtP (hu : X.A.units + 64 < cLine) : OpR X (compareOp .Gt) (rPy X.K ltOk fun p q => PySem.W.dataLt q p) := by
  intro pins s σ H x y v u Q I rx ry h
  obtain ⟨d, e, hd, he, c, q⟩ := h
  obtain ⟨as, r1⟩ := Dp.reads I d x v hd rx
  obtain ⟨bs, r2⟩ := Dp.reads I e y u he ry
  exact PySem.W.gt_data r1 r2 c.1 c.2.1 (room_min hu c) ⟨.bl _, H, I, rfl, q⟩
theorem op_leP (hu : X.A.units + 64 < cLine) : OpR X (compareOp .LtE) (rPy X.K ltOk fun p q => !PySem.W.dataLt q p) := by
  intro pins s σ H x y v u Q I rx ry h
  obtain ⟨d, e, hd, he, c, q⟩ := h
  obtain ⟨as, r1⟩ := Dp.reads I d x v hd rx
  obtain ⟨bs, r2⟩ := Dp.reads I e y u he ry
  exact PySem.W.le_data r1 r2 c.1 c.2.1 (room_min hu c) ⟨.bl _, H, I, rfl, q⟩
theorem op_geP (hu : X.A.units + 64 < cLine) : OpR X (compareOp .GtE) (rPy X.K ltOk fun p q => !PySem.W.dataLt p q) := by
  intro pins s σ H x y v u Q I rx ry h
  obtain ⟨d, e, hd, he, c, q⟩ := h
  obtain ⟨as, r1⟩ := Dp.reads I d x v hd rx
  obtain ⟨bs, r2⟩ := Dp.reads I e y u he ry
  exact PySem.W.ge_data r1 r2 c.1 c.2.1 (room_min hu c) ⟨.bl _, H, I, rfl, q⟩
end
theorem opd_py {g : G} {K : PySem.W.Frag} {C : PyData → PyData → Prop} {b : PyData → PyData → Bool} : OpD g K (rPy K C b) (fun x y => (do pure (.bl (← py2 (fun p q => do M.need (C p q); pure (b p q)) x y)))) := by
  intro H0 F0 F H σ γ n x y d1 d2 Q E s r1 r2 h
  obtain ⟨p, q, e1, e2, c, h3⟩ := py2_run (Q := fun k n' => ∀ F' H' v, StOk g K H0 F0 F' H' σ γ n' → FLe F F' → Rep g K F' v (.bl k) → Q v H') h
  exact ⟨p, q, s.dp r1 e1, s.dp r2 e2, c, h3 F H _ s (FLe.refl F) (.bl _)⟩
theorem opd_py' {g : G} {K : PySem.W.Frag} {C : PyData → PyData → Prop} {b b' : PyData → PyData → Bool} {f : D → D → M Bool} (hf : ∀ x y n Q E, (f x y).run n Q E → (py2 (fun p q => do M.need (C p q); pure (b p q)) x y).run n Q E) : OpD g K (rPy K C b) (fun x y => (do pure (.bl (← f x y)))) :=
  fun H0 F0 F H σ γ n x y d1 d2 Q E s r1 r2 h => opd_py H0 F0 F H σ γ n x y d1 d2 Q E s r1 r2 (hf _ _ _ _ _ h)
theorem ne_run (x y : D) (n : Nat) (Q : Bool → Nat → Prop) (E : Exc → Nat → Prop) (h : (dNe x y).run n Q E) : (py2 (fun p q => do M.need (cEq p q); pure (!PyData.eqv p q)) x y).run n Q E := by
  obtain ⟨p, q, e1, e2, c, h3⟩ := py2_run (f := eqP) (Q := fun k n' => Q (!k) n') h
  unfold py2
  rw [e1, e2]
  exact ⟨c, h3⟩
section
variable {g : G} {X : Cx} {W : WX} {a b e : Expr} {ma mb m : Env → M D} {pos : Pos}
theorem ptd_eq (hu : X.A.units + 64 < cLine) (ha : PDB g X W a ma) (hb : PDB g X W b mb) : PTD g X W (.Compare a [.Eq] [b] pos) (fun γ => do let x ← ma γ; dEq x (← mb γ)) := ptd_cmp (op_eqP hu) opd_py ha hb (nomark _)
theorem ptd_ne (hu : X.A.units + 64 < cLine) (ha : PDB g X W a ma) (hb : PDB g X W b mb) : PTD g X W (.Compare a [.NotEq] [b] pos) (fun γ => do let x ← ma γ; dNe x (← mb γ)) := ptd_cmp (op_neP hu) (opd_py' (b' := fun _ _ => true) ne_run) ha hb (nomark _)
theorem ptd_lt (hu : X.A.units + 64 < cLine) (ha : PDB g X W a ma) (hb : PDB g X W b mb) : PTD g X W (.Compare a [.Lt] [b] pos) (fun γ => do let x ← ma γ; dLt x (← mb γ)) := ptd_cmp (op_ltP hu) opd_py ha hb (nomark _)
theorem ptd_gt (hu : X.A.units + 64 < cLine) (ha : PDB g X W a ma) (hb : PDB g X W b mb) : PTD g X W (.Compare a [.Gt] [b] pos) (fun γ => do let x ← ma γ; dGt x (← mb γ)) := ptd_cmp (op_gtP hu) opd_py ha hb (nomark _)
theorem ptd_le (hu : X.A.units + 64 < cLine) (ha : PDB g X W a ma) (hb : PDB g X W b mb) : PTD g X W (.Compare a [.LtE] [b] pos) (fun γ => do let x ← ma γ; dLe x (← mb γ)) := ptd_cmp (op_leP hu) opd_py ha hb (nomark _)
theorem ptd_ge (hu : X.A.units + 64 < cLine) (ha : PDB g X W a ma) (hb : PDB g X W b mb) : PTD g X W (.Compare a [.GtE] [b] pos) (fun γ => do let x ← ma γ; dGe x (← mb γ)) := ptd_cmp (op_geP hu) opd_py ha hb (nomark _)
theorem pd_eq (hu : X.A.units + 64 < cLine) (ha : PDB g X W a ma) (hb : PDB g X W b mb) : PD g X W (.Compare a [.Eq] [b] pos) (fun γ => do let x ← ma γ; let y ← mb γ; pure (.bl (← dEq x y))) := pd_cmp (f := fun x y => do pure (.bl (← dEq x y))) (op_eqP hu) opd_py ha hb (nomark _)
theorem pd_ne (hu : X.A.units + 64 < cLine) (ha : PDB g X W a ma) (hb : PDB g X W b mb) : PD g X W (.Compare a [.NotEq] [b] pos) (fun γ => do let x ← ma γ; let y ← mb γ; pure (.bl (← dNe x y))) := pd_cmp (f := fun x y => do pure (.bl (← dNe x y))) (op_neP hu) (opd_py' (b' := fun _ _ => true) ne_run) ha hb (nomark _)
theorem pd_lt (hu : X.A.units + 64 < cLine) (ha : PDB g X W a ma) (hb : PDB g X W b mb) : PD g X W (.Compare a [.Lt] [b] pos) (fun γ => do let x ← ma γ; let y ← mb γ; pure (.bl (← dLt x y))) := pd_cmp (f := fun x y => do pure (.bl (← dLt x y))) (op_ltP hu) opd_py ha hb (nomark _)
theorem pd_gt (hu : X.A.units + 64 < cLine) (ha : PDB g X W a ma) (hb : PDB g X W b mb) : PD g X W (.Compare a [.Gt] [b] pos) (fun γ => do let x ← ma γ; let y ← mb γ; pure (.bl (← dGt x y))) := pd_cmp (f := fun x y => do pure (.bl (← dGt x y))) (op_gtP hu) opd_py ha hb (nomark _)
theorem pd_le (hu : X.A.units + 64 < cLine) (ha : PDB g X W a ma) (hb : PDB g X W b mb) : PD g X W (.Compare a [.LtE] [b] pos) (fun γ => do let x ← ma γ; let y ← mb γ; pure (.bl (← dLe x y))) := pd_cmp (f := fun x y => do pure (.bl (← dLe x y))) (op_leP hu) opd_py ha hb (nomark _)
theorem pd_ge (hu : X.A.units + 64 < cLine) (ha : PDB g X W a ma) (hb : PDB g X W b mb) : PD g X W (.Compare a [.GtE] [b] pos) (fun γ => do let x ← ma γ; let y ← mb γ; pure (.bl (← dGe x y))) := pd_cmp (f := fun x y => do pure (.bl (← dGe x y))) (op_geP hu) opd_py ha hb (nomark _)
/-! ### is None -/
def isNon : D → Bool
  | .non => true
  | _ => false
theorem rep_non {K : PySem.W.Frag} {F : Hp} {σ : L2.St} {γ : Env} {g : G} {H0 F0 H : Hp} {n : Nat} (s : StOk g K H0 F0 F H σ γ n) {v : V} {d : D} (r : RepB g K F σ γ v d) : decide (v = .non) = isNon d := by
  cases d with
  | lst ds =>
    obtain ⟨a, vs, ev, _⟩ := s.list r
    subst ev
    rfl
  | _ =>
    have r := s.notOw r (fun _ => nofun)
    cases r <;> rfl
theorem pd_isN {j pos'} (ha : PDB g X W a ma) : PD g X W (.Compare a [.Is] [.Constant .none j pos'] pos) (fun γ => do pure (.bl (isNon (← ma γ)))) := by
  refine ⟨(pe_cmp (pc_isN ha.pe)).imp fun σ H Q ⟨H0, F0, F, γ, n, s, r⟩ => ?_⟩
  refine ⟨H0, F0, F, γ, n, s, (ma γ).mono r (fun d n' q F' H' v s' f r => ?_) fun _ _ q => q⟩
  show Q (.bl (decide (v = .non))) H'
  rw [rep_non s' r]
  exact q F' H' _ s' f (.bl _)
theorem pd_notN {j pos'} (ha : PDB g X W a ma) : PD g X W (.Compare a [.IsNot] [.Constant .none j pos'] pos) (fun γ => do pure (.bl !(isNon (← ma γ)))) := by
  refine ⟨(pe_cmp (pc_notN ha.pe)).imp fun σ H Q ⟨H0, F0, F, γ, n, s, r⟩ => ?_⟩
  refine ⟨H0, F0, F, γ, n, s, (ma γ).mono r (fun d n' q F' H' v s' f r => ?_) fun _ _ q => q⟩
  show Q (.bl !(decide (v = .non))) H'
  rw [rep_non s' r]
  exact q F' H' _ s' f (.bl _)
theorem ptd_isN {j pos'} (ha : PDB g X W a ma) : PTD g X W (.Compare a [.Is] [.Constant .none j pos'] pos) (fun γ => do pure (isNon (← ma γ))) := by
  refine ⟨(pt_cmp (pc_isN ha.pe)).imp fun σ H Q ⟨H0, F0, F, γ, n, s, r⟩ => ?_⟩
  refine ⟨H0, F0, F, γ, n, s, (ma γ).mono r (fun d n' q F' H' v s' f r => ?_) fun _ _ q => q⟩
  refine ⟨_, rfl, ?_⟩
  rw [rep_non s' r]
  exact q F' H' s' f
theorem ptd_notN {j pos'} (ha : PDB g X W a ma) : PTD g X W (.Compare a [.IsNot] [.Constant .none j pos'] pos) (fun γ => do pure !(isNon (← ma γ))) := by
  refine ⟨(pt_cmp (pc_notN ha.pe)).imp fun σ H Q ⟨H0, F0, F, γ, n, s, r⟩ => ?_⟩
  refine ⟨H0, F0, F, γ, n, s, (ma γ).mono r (fun d n' q F' H' v s' f r => ?_) fun _ _ q => q⟩
  refine ⟨_, rfl, ?_⟩
  rw [rep_non s' r]
  exact q F' H' s' f
end

/-! ### in a list or tuple of data -/
noncomputable def hitsAt (h : Heap) (p : PyData) (u : Value) : Bool := @decide (∃ q as, Reads h u q as ∧ PyData.canLay0 q = true ∧ PyData.eqv q p = true) (Classical.propDecidable _)
theorem hits_of {h : Heap} {p q : PyData} {u : Value} {as : List Addr} (r : Reads h u q as) (hc : PyData.canLay0 q = true) : hitsAt h p u = PyData.eqv q p := by
  unfold hitsAt
  cases e : PyData.eqv q p with
  | true => exact @decide_eq_true _ (Classical.propDecidable _) ⟨q, as, r, hc, e⟩
  | false =>
    refine @decide_eq_false _ (Classical.propDecidable _) fun ⟨q', as', r', hc', e'⟩ => ?_
    rw [reads_one q q' u as as' hc r r'] at e
    rw [e] at e'
    cases e'
def inOk (p : PyData) (qs : List PyData) : Prop := SeqAt.shaped p = true ∧ ∀ q ∈ qs, SeqAt.shaped q = true
theorem any_hits {h : Heap} {p : PyData} : ∀ {us : List Value} {qs : List PyData} {as : List Addr}, ReadsAll h us qs as → (∀ q ∈ qs, SeqAt.shaped q = true) → us.any (hitsAt h p) = qs.any fun q => PyData.eqv q p
  | _, _, _, .nil, _ => rfl
  | _, _, _, .cons r t, hq => by
    rw [List.any_cons, List.any_cons, hits_of r (SeqAt.canLay_of_shaped (hq _ List.mem_cons_self)), any_hits t fun q h => hq q (List.mem_cons_of_mem _ h)]
theorem hits_eqAt {A : Around} {s : Shared} {p : PyData} {v : Value} {bs : List Addr} (rv : Reads s.heap v p bs) (hp : SeqAt.shaped p = true) (hu : A.units + 64 < cLine) : ∀ {us : List Value} {qs : List PyData} {as : List Addr}, ReadsAll s.heap us qs as → (∀ q ∈ qs, SeqAt.shaped q = true) →
    ∀ u ∈ us, SeqAt.EqAt A s u v (hitsAt s.heap p u)
  | _, _, _, .nil, _ => fun u hu => by cases hu
  | _, _, _, .cons (d := q) r t, hq => fun u hm => by
    rcases List.mem_cons.mp hm with rfl | hm
    · have hs := hq q List.mem_cons_self
      rw [hits_of r (SeqAt.canLay_of_shaped hs)]
      exact fun prog w E Q h => SeqAt.eqBoolOverData prog w A E s _ v q p _ bs Q r rv (SeqAt.canLay_of_shaped hs) (SeqAt.canLay_of_shaped hp) (SeqAt.room_of_shaped hs hu) h
    · exact hits_eqAt rv hp hu t (fun q h => hq q (List.mem_cons_of_mem _ h)) u hm
def rInP (K : PySem.W.Frag) (neg : Bool) : R2 := fun x y H Q => ∃ p a vs qs, Dp K H x p ∧ y = .ref a ∧ (SqL K H a vs ∨ SqT K H a vs) ∧ DpAll K H vs qs ∧ inOk p qs ∧ Q (.bl (neg ^^ qs.any fun q => PyData.eqv q p)) H
section
variable {X : Cx}
theorem op_inP (hu : X.A.in1.units + 64 < cLine) : OpR X (compareOp .In) (rInP X.K false) := by
  intro pins s σ H x y v u Q I rx ry h
  obtain ⟨p, a, vs, qs, hp, rfl, hq, dq, c, q⟩ := h
  cases ry
  obtain ⟨bs, rv⟩ := Dp.reads I p x v hp rx
  rw [Bool.false_xor] at q
  rcases hq with hq | hq
  · obtain ⟨its, r, pl, hz⟩ := I.list hq
    obtain ⟨as, ra⟩ := Dp.readsAll I qs _ its dq r
    refine SeqAt.in_listAt (hitsAt s.heap p) pl.isList (fun w hw => hits_eqAt rv c.1 hu ra c.2 w (by simpa using hw)) ⟨.bl _, H, I, rfl, ?_⟩
    rw [show its.toArray.any (hitsAt s.heap p) = its.any (hitsAt s.heap p) by simp, any_hits ra c.2]
    exact q
  · obtain ⟨its, r, pl, hz⟩ := I.tuple hq
    obtain ⟨as, ra⟩ := Dp.readsAll I qs _ its dq r
    refine SeqAt.in_tupleAt (hitsAt s.heap p) pl (fun w hw => hits_eqAt rv c.1 hu ra c.2 w (by simpa using hw)) ⟨.bl _, H, I, rfl, ?_⟩
    rw [show its.toArray.any (hitsAt s.heap p) = its.any (hitsAt s.heap p) by simp, any_hits ra c.2]
    exact q
theorem op_notInP (hu : X.A.in1.units + 64 < cLine) : OpR X (compareOp .NotIn) (rInP X.K true) := by
  intro pins s σ H x y v u Q I rx ry h
  obtain ⟨p, a, vs, qs, hp, rfl, hq, dq, c, q⟩ := h
  cases ry
  obtain ⟨bs, rv⟩ := Dp.reads I p x v hp rx
  rw [Bool.true_xor] at q
  rcases hq with hq | hq
  · obtain ⟨its, r, pl, hz⟩ := I.list hq
    obtain ⟨as, ra⟩ := Dp.readsAll I qs _ its dq r
    refine SeqAt.notIn_listAt (hitsAt s.heap p) pl.isList (fun w hw => hits_eqAt rv c.1 hu ra c.2 w (by simpa using hw)) ⟨.bl _, H, I, rfl, ?_⟩
    rw [show its.toArray.any (hitsAt s.heap p) = its.any (hitsAt s.heap p) by simp, any_hits ra c.2]
    exact q
  · obtain ⟨its, r, pl, hz⟩ := I.tuple hq
    obtain ⟨as, ra⟩ := Dp.readsAll I qs _ its dq r
    refine SeqAt.notIn_tupleAt (hitsAt s.heap p) pl (fun w hw => hits_eqAt rv c.1 hu ra c.2 w (by simpa using hw)) ⟨.bl _, H, I, rfl, ?_⟩
    rw [show its.toArray.any (hitsAt s.heap p) = its.any (hitsAt s.heap p) by simp, any_hits ra c.2]
    exact q
end
/-- x in xs, a list or tuple of data -/
def dInL (x y : D) : M Bool := match toPy x, y with
  | some p, .lst ds => (match toPyL ds with
    | some qs => do M.need (inOk p qs); pure (qs.any fun q => PyData.eqv q p)
    | none => M.stuck)
  | some p, .tup ds => (match toPyL ds with
    | some qs => do M.need (inOk p qs); pure (qs.any fun q => PyData.eqv q p)
    | none => M.stuck)
  | _, _ => M.stuck
theorem inL_run {x y : D} {n : Nat} {Q : Bool → Nat → Prop} {E : Exc → Nat → Prop} (h : (dInL x y).run n Q E) : ∃ p ds qs, toPy x = some p ∧ (y = .lst ds ∨ y = .tup ds) ∧ toPyL ds = some qs ∧ inOk p qs ∧ Q (qs.any fun q => PyData.eqv q p) n := by
  unfold dInL at h
  cases e1 : toPy x with
  | none =>
    rw [e1] at h
    exact h.elim
  | some p =>
    rw [e1] at h
    cases y with
    | lst ds =>
      cases e2 : toPyL ds with
      | none =>
        simp only [e2] at h
        exact h.elim
      | some qs =>
        simp only [e2] at h
        exact ⟨p, ds, qs, rfl, .inl rfl, e2, h.1, h.2⟩
    | tup ds =>
      cases e2 : toPyL ds with
      | none =>
        simp only [e2] at h
        exact h.elim
      | some qs =>
        simp only [e2] at h
        exact ⟨p, ds, qs, rfl, .inr rfl, e2, h.1, h.2⟩
    | _ => exact h.elim
theorem opd_in {g : G} {K : PySem.W.Frag} (neg : Bool) : OpD g K (rInP K neg) (fun x y => (do let k ← dInL x y; pure (.bl (neg ^^ k)))) := by
  intro H0 F0 F H σ γ n x y d1 d2 Q E s r1 r2 h
  obtain ⟨p, ds, qs, e1, e2, e3, c, h3⟩ := inL_run (Q := fun k n' => ∀ F' H' v, StOk g K H0 F0 F' H' σ γ n' → FLe F F' → Rep g K F' v (.bl (neg ^^ k)) → Q v H') h
  have q := h3 F H _ s (FLe.refl F) (.bl _)
  rcases e2 with rfl | rfl
  · obtain ⟨a, vs, ev, sq, rl⟩ := s.list r2
    exact ⟨p, a, vs, qs, s.dp r1 e1, ev, .inl sq, DpAll.fle s.le (RepL.dp rl e3), c, q⟩
  · obtain ⟨a, vs, ev, sq, rl⟩ := s.tuple r2
    exact ⟨p, a, vs, qs, s.dp r1 e1, ev, .inr sq, DpAll.fle s.le (RepL.dp rl e3), c, q⟩
end DL

set_option Elab.async false
set_option linter.all false
set_option maxRecDepth 100000
set_option maxHeartbeats 4000000
/-! DF: what is walked; targets; for; list comprehensions; while. -/
namespace DL
open PySem PySem.Spec PyProof.Rows L2

/-! ### targets -/
/-- σ' is σ but at the places js -/
def ButAt (js : List Nat) (σ σ' : L2.St) : Prop := σ'.length = σ.length ∧ ∀ j, j ∉ js → σ'[j]? = σ[j]?
def gD (g : G) (K : PySem.W.Frag) (js : List Nat) (mt : D → Env → M Env) : TG := fun v σ H Q =>
  ∃ H0 F0 F γ n d, StOk g K H0 F0 F H σ γ n ∧ Rep g K F v d ∧ (mt d γ).run n (fun γ' n' => ∀ F' H' σ', StOk g K H0 F0 F' H' σ' γ' n' → FLe F F' → ButAt js σ σ' → Q σ' H') (fun _ _ => False)
def gDs (g : G) (K : PySem.W.Frag) (js : List Nat) (mt : List D → Env → M Env) : TGs := fun vs σ H Q =>
  ∃ H0 F0 F γ n ds, StOk g K H0 F0 F H σ γ n ∧ RepL g K F vs ds ∧ (mt ds γ).run n (fun γ' n' => ∀ F' H' σ', StOk g K H0 F0 F' H' σ' γ' n' → FLe F F' → ButAt js σ σ' → Q σ' H') (fun _ _ => False)
/-- the slots but those at js are as they were -/
def ButE (js : List Nat) (γ γ' : Env) : Prop := ∀ j, j ∉ js → γ'[j]? = γ[j]?
def Keeps {α : Type} (js : List Nat) (mt : α → Env → M Env) : Prop := ∀ d γ n Q E, (mt d γ).run n Q E → (mt d γ).run n (fun γ' n' => Q γ' n' ∧ ButE js γ γ') E
structure PGD (g : G) (X : Cx) (tg : Expr) (js : List Nat) (mt : D → Env → M Env) : Prop where
  pg : PG X tg (gD g X.K js mt)
  keeps : Keeps js mt
structure PGsD (g : G) (X : Cx) (tgs : List Expr) (js : List Nat) (mt : List D → Env → M Env) : Prop where
  pgs : PGs X tgs (gDs g X.K js mt)
  keeps : Keeps js mt
theorem _root_.L2.PG.imp {X : Cx} {tg : Expr} {t t' : TG} (h : PG X tg t) (i : ∀ v σ H Q, t' v σ H Q → t v σ H Q) : PG X tg t' := ⟨fun pins s σ H v u Q I r q => h.run pins s σ H v u Q I r (i _ _ _ _ q)⟩
theorem _root_.L2.PGs.imp {X : Cx} {tg : List Expr} {t t' : TGs} (h : PGs X tg t) (i : ∀ v σ H Q, t' v σ H Q → t v σ H Q) : PGs X tg t' := ⟨fun pins s σ H v u Q I r q => h.run pins s σ H v u Q I r (i _ _ _ _ q)⟩
theorem ButAt.refl (js : List Nat) (σ : L2.St) : ButAt js σ σ := ⟨rfl, fun _ _ => rfl⟩
theorem ButAt.trans {js ks : List Nat} {σ σ1 σ2 : L2.St} (a : ButAt js σ σ1) (b : ButAt ks σ1 σ2) : ButAt (js ++ ks) σ σ2 :=
  ⟨b.1.trans a.1, fun j hj => (b.2 j fun z => hj (List.mem_append_right _ z)).trans (a.2 j fun z => hj (List.mem_append_left _ z))⟩
section
variable {g : G} {X : Cx} {pos : Pos}
theorem pgd_name {i : Nat} {x : Str} (hN : X.N.Nodup) (hi : X.N[i]? = some x) (hx : Loc X.env.scope x) (hf : X.fn x = true ∨ X.env.scope.names.lookup x = some .local := by first | exact .inl rfl | exact .inr rfl | assumption) : PGD g X (.Name x pos) [i] (fun d γ => pure (setM i d γ)) := by
  refine ⟨(pg_name hN hi hx hf).imp fun v σ H Q ⟨H0, F0, F, γ, n, d, s, r, q⟩ => ?_, fun d γ n Q E h => ⟨h, fun j hj => ?_⟩⟩
  · refine q F H _ (s.setFz i r) (FLe.refl F) ⟨by rw [List.length_set], fun j hj => ?_⟩
    exact List.getElem?_set_ne (fun z => hj (by simp [z]))
  · exact List.getElem?_set_ne (fun z => hj (by simp [z]))
theorem pgsd_nil : PGsD g X [] [] (fun ds γ => do M.need (ds = []); pure γ) := by
  refine ⟨pgs_nil.imp fun vs σ H Q ⟨H0, F0, F, γ, n, ds, s, r, q⟩ => ?_, fun ds γ n Q E h => ⟨h.1, h.2, fun _ _ => rfl⟩⟩
  have e : ds = [] := q.1
  subst e
  cases r
  exact ⟨rfl, q.2 F H σ s (FLe.refl F) (ButAt.refl _ _)⟩
def consT (mt : D → Env → M Env) (mts : List D → Env → M Env) : List D → Env → M Env
  | d :: ds, γ => do mts ds (← mt d γ)
  | [], _ => M.stuck
theorem pgsd_cons {e : Expr} {es : List Expr} {js ks : List Nat} {mt : D → Env → M Env} {mts : List D → Env → M Env} (h1 : PGD g X e js mt) (h2 : PGsD g X es ks mts)
    (hs : (assignEach (e :: es) X.env).map (·.2) = assign e X.env :: (assignEach es X.env).map (·.2) := by rfl) : PGsD g X (e :: es) (js ++ ks) (consT mt mts) := by
  refine ⟨(pgs_cons h1.pg h2.pgs hs).imp fun vs σ H Q ⟨H0, F0, F, γ, n, ds, s, r, q⟩ => ?_, fun ds γ n Q E h => ?_⟩
  case refine_2 =>
    cases ds with
    | nil => exact h.elim
    | cons d ds =>
      refine (mt d γ).mono (h1.keeps d γ n _ _ h) (fun γ1 n1 ⟨q1, b1⟩ => ?_) fun _ _ z => z
      refine (mts ds γ1).mono (h2.keeps ds γ1 n1 _ _ q1) (fun γ2 n2 ⟨q2, b2⟩ => ⟨q2, fun j hj => ?_⟩) fun _ _ z => z
      exact (b2 j fun z => hj (List.mem_append_right _ z)).trans (b1 j fun z => hj (List.mem_append_left _ z))
  cases r with
  | nil => exact q.elim
  | @cons v vs d ds r1 r2 =>
    refine ⟨v, vs, rfl, H0, F0, F, γ, n, d, s, r1, (mt d γ).mono q (fun γ1 n1 q1 F1 H1 σ1 s1 f1 b1 => ?_) fun _ _ x => x⟩
    refine ⟨H0, F0, F1, γ1, n1, ds, s1, RepL.fle f1 r2, (mts ds γ1).mono q1 (fun γ2 n2 q2 F2 H2 σ2 s2 f2 b2 => ?_) fun _ _ x => x⟩
    exact q2 F2 H2 σ2 s2 (f1.trans f2) (b1.trans b2)
/-- (a, b, ..) = a tuple of that length -/
def tupT (mts : List D → Env → M Env) : D → Env → M Env
  | .tup ds, γ => mts ds γ
  | _, _ => M.stuck
theorem pgd_tup {es : List Expr} {k n : Nat} {js : List Nat} {mts : List D → Env → M Env} (hc : X.calm = true) (h : PGsD g X es js mts) (hn : (assignEach es X.env).length = n := by rfl) (hst : (assignEach es X.env).findIdx? (·.1) = none := by rfl) :
    PGD g X (.Tuple es k pos) js (fun d γ => do M.need (∀ ds, d = .tup ds → ds.length = n); tupT mts d γ) := by
  refine ⟨(pg_tup hc h.pgs hn hst).imp fun v σ H Q ⟨H0, F0, F, γ, m, d, s, r, q⟩ => ?_, fun d γ n Q E q => ⟨q.1, ?_⟩⟩
  case refine_2 =>
    cases d with
    | tup ds => exact h.keeps ds γ n Q E q.2
    | _ => exact q.2.elim
  cases d with
  | tup ds =>
    obtain ⟨a, vs, ev, sq, rl⟩ := s.tuple (.inl r)
    subst ev
    exact ⟨a, vs, rfl, sq, by rw [rl.length]; exact q.1 ds rfl, H0, F0, F, γ, m, ds, s, rl, q.2⟩
  | _ => exact q.2.elim
end

/-! ### what is walked -/
/-- J yields what ds are, while F stands -/
structure IterOk (g : G) (K : PySem.W.Frag) (J : It) (F : Hp) (ds : List D) : Prop where
  line : ds.length ≤ sizeLine
  go : ∀ i H, FLe F H → i < ds.length → J.go i H
  stop : ∀ i H, FLe F H → ds.length ≤ i → J.stop i H
  yld : ∀ i H x H' d F2 n, FLe F H → ds[i]? = some d → J.yld i H x H' → FLe F F2 → FSub g F2 H → WOk g H n → ∃ F3, Post g F2 H F3 H' n ∧ Rep g K F3 x d
def iD (g : G) (K : PySem.W.Frag) (mg : Str → Option Value) (W : WX) (mi : Env → M (List D)) : TI := fun σ H R =>
  ∃ H0 F0 F γ n, StOk g K H0 F0 F H σ γ n ∧ (mi γ).run n (fun ds n' => ∀ F' H' J, StOk g K H0 F0 F' H' σ γ n' → FLe F F' → IterOk g K J F' ds → R J H') (wishX g K mg W H0 F0 σ γ)
structure PID (g : G) (X : Cx) (W : WX) (tg iter : Expr) (mi : Env → M (List D)) : Prop where
  pi : PI X tg iter (iD g X.K X.mg W mi)
theorem _root_.L2.PI.imp {X : Cx} {tg iter : Expr} {t t' : TI} (h : PI X tg iter t) (i : ∀ σ H R, t' σ H R → t σ H R) : PI X tg iter t' := ⟨fun pins s σ H Q I q => h.run pins s σ H Q I (i _ _ _ q)⟩
/-- a list or a tuple -/
def iSeq (K : PySem.W.Frag) (tl : TE) : TI := fun σ H R => tl σ H fun x H1 => ∃ a xs, x = .ref a ∧ ((SqL K H1 a xs ∧ R (Itl K a) H1) ∨ (SqT K H1 a xs ∧ R (Itt K a) H1))
theorem pi_seq {X : Cx} {tg l : Expr} {tl : TE} (hl : PE X l tl) : PI X tg l (iSeq X.K tl) := by
  refine ⟨fun pins s σ H R I h => ?_⟩
  refine thn (hl.run pins s σ H _ I h) fun v s1 ⟨x, H1, I1, r1, q1⟩ => ?_
  obtain ⟨a, xs, e, q⟩ := q1
  subst e
  cases r1
  rcases q with ⟨hq, q⟩ | ⟨hq, q⟩
  · obtain ⟨its, rv, p, hz⟩ := I1.list hq
    refine wpAny_pyIter_list p.isList ?_
    refine ⟨s1.heap.objs.size, [s1.heap.objs.size], _, _, H1, rfl, I1.kept (t' := s1.toks) fun b o e => Heap.get?_push_of_some _ e, turn_list a _, ⟨_, Heap.get?_push_size _ rfl, rfl, rfl⟩, fun b hb => ?_, q⟩
    have e : b = s1.heap.objs.size := by simpa using hb
    subst e
    exact I1.fpOk (Nat.le_refl _) (I1.hok.fresh (Nat.le_refl _))
  · obtain ⟨its, rv, p, hz⟩ := I1.tuple hq
    refine wpAny_pyIter_tuple (show s1.heap.IsTuple a its.toArray from p) ?_
    refine ⟨s1.heap.objs.size, [s1.heap.objs.size], _, _, H1, rfl, I1.kept (t' := s1.toks) fun b o e => Heap.get?_push_of_some _ e, turn_tuple a _, ⟨_, Heap.get?_push_size _ rfl, rfl, rfl⟩, fun b hb => ?_, q⟩
    have e : b = s1.heap.objs.size := by simpa using hb
    subst e
    exact I1.fpOk (Nat.le_refl _) (I1.hok.fresh (Nat.le_refl _))
theorem iter_list {g : G} {K : PySem.W.Frag} {F : Hp} {a : Addr} {vs : List V} {ds : List D} (sq : SqL K F a vs) (r : RepL g K F vs ds) (hz : ds.length ≤ sizeLine) : IterOk g K (Itl K a) F ds where
  line := hz
  go := fun i H f hi => by
    have e : vs.length = ds.length := r.length
    exact ⟨vs, vs[i], SqL.fle f sq, List.getElem?_eq_getElem (e ▸ hi)⟩
  stop := fun i H f hi => ⟨vs, SqL.fle f sq, r.length ▸ hi⟩
  yld := fun i H x H' d F2 n f hd y f2 fs w => by
    obtain ⟨e, y⟩ := y
    subst e
    obtain ⟨v, h1, h2⟩ := r.get hd
    have h3 := y vs (SqL.fle f sq)
    rw [h1] at h3
    cases h3
    exact ⟨F2, Post.refl fs w, h2.fle f2⟩
theorem iter_tup {g : G} {K : PySem.W.Frag} {F : Hp} {a : Addr} {vs : List V} {ds : List D} (sq : SqT K F a vs) (r : RepL g K F vs ds) (hz : ds.length ≤ sizeLine) : IterOk g K (Itt K a) F ds where
  line := hz
  go := fun i H f hi => by
    have e : vs.length = ds.length := r.length
    exact ⟨vs, vs[i], SqT.fle f sq, List.getElem?_eq_getElem (e ▸ hi)⟩
  stop := fun i H f hi => ⟨vs, SqT.fle f sq, r.length ▸ hi⟩
  yld := fun i H x H' d F2 n f hd y f2 fs w => by
    obtain ⟨e, y⟩ := y
    subst e
    obtain ⟨v, h1, h2⟩ := r.get hd
    have h3 := y vs (SqT.fle f sq)
    rw [h1] at h3
    cases h3
    exact ⟨F2, Post.refl fs w, h2.fle f2⟩
/-- the items of a list or a tuple -/
def itemsOf : D → M (List D)
  | .lst ds => do M.need (ds.length ≤ sizeLine); pure ds
  | .tup ds => do M.need (ds.length ≤ sizeLine); pure ds
  | _ => M.stuck
section
variable {g : G} {X : Cx} {W : WX} {tg e e2 : Expr} {m : Env → M D} {ml : Env → M (List D)}
theorem pid_seq (h : PD g X W e m) : PID g X W tg e (fun γ => do itemsOf (← m γ)) := by
  refine ⟨(pi_seq h.pe).imp fun σ H R ⟨H0, F0, F, γ, n, s, r⟩ => ?_⟩
  refine ⟨H0, F0, F, γ, n, s, (m γ).mono r (fun d n' q F' H' v s' f r => ?_) fun _ _ q => q⟩
  cases d with
  | lst ds =>
    cases r with
    | lst sq r => exact ⟨_, _, rfl, .inl ⟨.inl (.inl (s'.le _ _ sq)), q.2 F' H' _ s' f (iter_list (.inl (.inl sq)) r q.1)⟩⟩
  | tup ds =>
    cases r with
    | tup sq r => exact ⟨_, _, rfl, .inr ⟨SqT.fle s'.le sq, q.2 F' H' _ s' f (iter_tup sq r q.1)⟩⟩
  | _ => exact q.elim
theorem iter_range {K : PySem.W.Frag} {F : Hp} {lo : Int} {n : Nat} (hz : n ≤ sizeLine) : IterOk g K (Itr lo n) F ((List.range n).map fun (i : Nat) => D.int (lo + i)) where
  line := by rw [List.length_map, List.length_range]; exact hz
  go := fun i H f hi => by
    rw [List.length_map, List.length_range] at hi
    exact hi
  stop := fun i H f hi => by
    rw [List.length_map, List.length_range] at hi
    exact hi
  yld := fun i H x H' d F2 m f hd y f2 fs w => by
    obtain ⟨e, y⟩ := y
    subst e y
    rw [List.getElem?_map, List.getElem?_range] at hd
    · cases hd
      exact ⟨F2, Post.refl fs w, .int _⟩
    · rcases Nat.lt_or_ge i n with h | h
      · exact h
      · rw [List.getElem?_eq_none (by rw [List.length_range]; exact h)] at hd
        cases hd
/-- range(n); range(a, b) -/
def rangeOf : List D → M (List D)
  | [.int j] => do M.need (j.toNat ≤ sizeLine); pure ((List.range j.toNat).map fun (i : Nat) => D.int (0 + i))
  | [.int i, .int j] => do M.need (-(2 ^ 62) ≤ i ∧ i < 2 ^ 62 ∧ -(2 ^ 62) ≤ j ∧ j < 2 ^ 62 ∧ (j - i).toNat ≤ sizeLine); pure ((List.range (j - i).toNat).map fun (k : Nat) => D.int (i + k))
  | _ => M.stuck
theorem pid_range1 {p pos : Pos} (hg : Gl X "range") (hm : X.mg "range" = none) (ha : PAD g X W [e] ml) (hs : starEach [e] X.env = [(false, eval e X.env)] := by rfl) : PID g X W tg (.Call (.Name "range" p) [e] [] pos) (fun γ => do let ds ← ml γ; M.need (∃ j : Int, ds = [.int j] ∧ -(2 ^ 62) ≤ j ∧ j < 2 ^ 62); rangeOf ds) := by
  refine ⟨(pi_range1 hg hm ha.pa hs).imp fun σ H R ⟨H0, F0, F, γ, n, s, r⟩ => ?_⟩
  refine ⟨H0, F0, F, γ, n, s, (ml γ).mono r (fun ds n' q F' H' vs s' f r => ?_) fun _ _ q => q⟩
  obtain ⟨⟨j, e, b1, b2⟩, q⟩ := q
  subst e
  cases r with
  | cons r1 r2 =>
    cases r1
    cases r2
    exact ⟨j, rfl, b1, b2, q.2 F' H' _ s' f (iter_range q.1)⟩
theorem pid_range2 {p pos : Pos} (hg : Gl X "range") (hm : X.mg "range" = none) (ha : PAD g X W [e, e2] ml) (hs : starEach [e, e2] X.env = [(false, eval e X.env), (false, eval e2 X.env)] := by rfl) (hs2 : starEach [e2] X.env = [(false, eval e2 X.env)] := by rfl) :
    PID g X W tg (.Call (.Name "range" p) [e, e2] [] pos) (fun γ => do let ds ← ml γ; M.need (∃ i j : Int, ds = [.int i, .int j]); rangeOf ds) := by
  refine ⟨(pi_range2 hg hm ha.pa hs hs2).imp fun σ H R ⟨H0, F0, F, γ, n, s, r⟩ => ?_⟩
  refine ⟨H0, F0, F, γ, n, s, (ml γ).mono r (fun ds n' q F' H' vs s' f r => ?_) fun _ _ q => q⟩
  obtain ⟨⟨i, j, e⟩, q⟩ := q
  subst e
  cases r with
  | cons r1 r2 =>
    cases r1
    cases r2 with
    | cons r1 r2 =>
      cases r1
      cases r2
      exact ⟨i, j, rfl, ⟨q.1.1, q.1.2.1, q.1.2.2.1, q.1.2.2.2.1⟩, q.2 F' H' _ s' f (iter_range q.1.2.2.2.2)⟩
def zipD (xs ys : List D) : List D := (xs.zip ys).map fun p => .tup [p.1, p.2]
/-- zip of two lists or of two tuples -/
def zipOf : List D → M (List D)
  | [.lst xs, .lst ys] => do M.need (xs.length ≤ sizeLine); pure (zipD xs ys)
  | [.tup xs, .tup ys] => do M.need (xs.length ≤ sizeLine); pure (zipD xs ys)
  | _ => M.stuck
theorem zip_get {xs ys : List D} {i : Nat} {d : D} (h : (zipD xs ys)[i]? = some d) : ∃ x y, xs[i]? = some x ∧ ys[i]? = some y ∧ d = .tup [x, y] := by
  unfold zipD at h
  rw [List.getElem?_map] at h
  cases e : (xs.zip ys)[i]? with
  | none =>
    rw [e] at h
    cases h
  | some p =>
    rw [e] at h
    cases h
    obtain ⟨h1, h2⟩ := List.getElem?_zip_eq_some.mp e
    exact ⟨p.1, p.2, h1, h2, rfl⟩
theorem zip_len (xs ys : List D) : (zipD xs ys).length = min xs.length ys.length := by
  unfold zipD
  rw [List.length_map, List.length_zip]
theorem iter_zip {g : G} {K : PySem.W.Frag} {F : Hp} {a b : Addr} {vs ws : List V} {xs ys : List D} (sq : SqL K F a vs) (sq2 : SqL K F b ws) (r : RepL g K F vs xs) (r2 : RepL g K F ws ys) (hz : xs.length ≤ sizeLine) : IterOk g K (Itz K a b) F (zipD xs ys) where
  line := by rw [zip_len]; omega
  go := fun i H f hi => by
    rw [zip_len] at hi
    have e1 := r.length
    have e2 := r2.length
    exact ⟨vs, ws, vs[i], ws[i], SqL.fle f sq, SqL.fle f sq2, List.getElem?_eq_getElem (by omega), List.getElem?_eq_getElem (by omega)⟩
  stop := fun i H f hi => by
    rw [zip_len] at hi
    have e1 := r.length
    have e2 := r2.length
    exact ⟨vs, ws, SqL.fle f sq, SqL.fle f sq2, by omega⟩
  yld := fun i H x H' d F2 n f hd y f2 fs w => by
    obtain ⟨T, v1, v2, ev, hT, eH, y1, y2⟩ := y
    subst ev eH
    obtain ⟨d1, d2, h1, h2, e⟩ := zip_get hd
    subst e
    obtain ⟨u1, k1, k2⟩ := r.get h1
    obtain ⟨u2, k3, k4⟩ := r2.get h2
    have z1 := y1 vs (SqL.fle f sq)
    have z2 := y2 ws (SqL.fle f sq2)
    rw [k1] at z1
    rw [k3] at z2
    cases z1
    cases z2
    have po := post_new (o := .tup [v1, v2]) fs w hT
    exact ⟨_, po, .tup (.inl (.inl upd_same)) (.cons ((k2.fle f2).fle po.fle) (.cons ((k4.fle f2).fle po.fle) .nil))⟩
theorem iter_zipT {g : G} {K : PySem.W.Frag} {F : Hp} {a b : Addr} {vs ws : List V} {xs ys : List D} (sq : SqT K F a vs) (sq2 : SqT K F b ws) (r : RepL g K F vs xs) (r2 : RepL g K F ws ys) (hz : xs.length ≤ sizeLine) : IterOk g K (RZ.ItzT K a b) F (zipD xs ys) where
  line := by rw [zip_len]; omega
  go := fun i H f hi => by
    rw [zip_len] at hi
    have e1 := r.length
    have e2 := r2.length
    exact ⟨vs, ws, vs[i], ws[i], SqT.fle f sq, SqT.fle f sq2, List.getElem?_eq_getElem (by omega), List.getElem?_eq_getElem (by omega)⟩
  stop := fun i H f hi => by
    rw [zip_len] at hi
    have e1 := r.length
    have e2 := r2.length
    exact ⟨vs, ws, SqT.fle f sq, SqT.fle f sq2, by omega⟩
  yld := fun i H x H' d F2 n f hd y f2 fs w => by
    obtain ⟨T, v1, v2, ev, hT, eH, y1, y2⟩ := y
    subst ev eH
    obtain ⟨d1, d2, h1, h2, e⟩ := zip_get hd
    subst e
    obtain ⟨u1, k1, k2⟩ := r.get h1
    obtain ⟨u2, k3, k4⟩ := r2.get h2
    have z1 := y1 vs (SqT.fle f sq)
    have z2 := y2 ws (SqT.fle f sq2)
    rw [k1] at z1
    rw [k3] at z2
    cases z1
    cases z2
    have po := post_new (o := .tup [v1, v2]) fs w hT
    exact ⟨_, po, .tup (.inl (.inl upd_same)) (.cons ((k2.fle f2).fle po.fle) (.cons ((k4.fle f2).fle po.fle) .nil))⟩
theorem zipOf_run {ds : List D} {n : Nat} {Q : List D → Nat → Prop} {E : Exc → Nat → Prop} (h : (zipOf ds).run n Q E) : ∃ xs ys, (ds = [.lst xs, .lst ys] ∨ ds = [.tup xs, .tup ys]) ∧ xs.length ≤ sizeLine ∧ Q (zipD xs ys) n := by
  unfold zipOf at h
  split at h
  · exact ⟨_, _, .inl rfl, h.1, h.2⟩
  · exact ⟨_, _, .inr rfl, h.1, h.2⟩
  · exact h.elim
theorem pid_zip {p pos tpos : Pos} {elts : List Expr} {kk : Nat} (hg : Gl X "zip") (hm : X.mg "zip" = none) (ha : PAD g X W [e, e2] ml)
    (hs : starEach [e, e2] X.env = (false, eval e X.env) :: starEach [e2] X.env := by rfl) (hpl : (backTo pos (starEach [e2] X.env)).any (·.1) = false := by rfl) :
    PID g X W (.Tuple elts kk tpos) (.Call (.Name "zip" p) [e, e2] [] pos) (fun γ => do zipOf (← ml γ)) := by
  refine ⟨(RZ.pi_zipA hg hm ha.pa hs hpl).imp fun σ H R ⟨H0, F0, F, γ, n, s, r⟩ => ?_⟩
  refine ⟨H0, F0, F, γ, n, s, (ml γ).mono r (fun ds n' q F' H' vs s' f r => ?_) fun _ _ q => q⟩
  obtain ⟨xs, ys, e, hz, qq⟩ := zipOf_run q
  clear q
  rcases e with rfl | rfl
  · cases r with
    | cons r1 r2 =>
      cases r2 with
      | cons r2 r3 =>
        cases r3
        cases r1 with
        | lst sq1 rl1 =>
          cases r2 with
          | lst sq2 rl2 => exact ⟨_, _, _, _, rfl, .inl ⟨.inl (.inl (s'.le _ _ sq1)), .inl (.inl (s'.le _ _ sq2)), qq F' H' _ s' f (iter_zip (.inl (.inl sq1)) (.inl (.inl sq2)) rl1 rl2 hz)⟩⟩
  · cases r with
    | cons r1 r2 =>
      cases r2 with
      | cons r2 r3 =>
        cases r3
        cases r1 with
        | tup sq1 rl1 =>
          cases r2 with
          | tup sq2 rl2 => exact ⟨_, _, _, _, rfl, .inr ⟨SqT.fle s'.le sq1, SqT.fle s'.le sq2, qq F' H' _ s' f (iter_zipT sq1 sq2 rl1 rl2 hz)⟩⟩
end

/-! ### from a part back to the whole -/
section
variable {g : G} {K : PySem.W.Frag} {H0 F0 F H : Hp} {σ : L2.St} {γ : Env} {n : Nat}
theorem StOk.base (s : StOk g K H0 F0 F H σ γ n) : StOk g K H0 F F H σ γ n := ⟨s.ext, FLe.refl F, s.sub, fun a h => .inl h, s.wok, s.len, s.slots, s.dist⟩
theorem StOk.unbase (s : StOk g K H0 F0 F H σ γ n) {F' H' : Hp} {σ' : L2.St} {γ' : Env} {n' : Nat} (t : StOk g K H0 F F' H' σ' γ' n') : StOk g K H0 F0 F' H' σ' γ' n' :=
  ⟨t.ext, s.f0.trans t.f0, t.sub, fun a h => (t.new a h).elim (fun q => s.new a q) .inr, t.wok, t.len, t.slots, t.dist⟩
theorem wishS.base {mg : Str → Option Value} {W : WX} (s : StOk g K H0 F0 F H σ γ n) {x : Exc} {n' : Nat} (h : wishS g K mg W H0 F0 x n') : wishS g K mg W H0 F x n' :=
  fun F' H' cls dd σ' γ' t xr => h F' H' cls dd σ' γ' (s.unbase t) xr
theorem endS.base {D : Ends} (s : StOk g K H0 F0 F H σ γ n) {r : Fl × Env} {n' : Nat} (h : endS g K H0 F0 D r n') : endS g K H0 F D r n' := fun F' H' σ' t => h F' H' σ' (s.unbase t)
end

/-! ### for -/
def forL (mt : D → Env → M Env) (mb : Env → M (Fl × Env)) : List D → Env → M (Fl × Env)
  | [], γ => pure (.nx, γ)
  | d :: ds, γ => do
    let γ1 ← M.calm (mt d γ)
    let r ← mb γ1
    match r.1 with
    | .nx => forL mt mb ds r.2
    | .ct => forL mt mb ds r.2
    | .bk => pure (.nx, r.2)
    | .rt d => pure (.rt d, r.2)
section
variable {g : G} {X : Cx} {W : WX} {tg iter : Expr} {body : List Stmt} {mi : Env → M (List D)} {mt : D → Env → M Env} {js : List Nat} {mb : Env → M (Fl × Env)} {pos : Pos}
theorem psd_for (hp : PassesOwn (model X.prog X.w) X.A X.env X.xe) (hc : X.calm = true) (hi : PID g X W tg iter mi) (hg : PGD g X tg js mt) (hb : PSsD g X W body mb) (hs : ∀ x, foldedSetIterable iter X.env x = pure x := by intro _; rfl) :
    PSD g X W (.For tg iter body [] pos) (fun γ => do forL mt mb (← mi γ) γ) := by
  refine ⟨(ps_for hp hc hi.pi hg.pg hb.ps hs).imp fun D σ H ⟨H0, F0, F, γ, n, s, r⟩ => ?_⟩
  refine ⟨H0, F0, F, γ, n, s, (mi γ).mono r (fun ds n' q F' H' J s' f it => ?_) fun _ _ q => wish_of q⟩
  refine ⟨fun i m σ H => ∃ F2 γ2 n2, m = ds.length - i ∧ i ≤ ds.length ∧ StOk g X.K H0 F' F2 H σ γ2 n2 ∧ (forL mt mb (ds.drop i) γ2).run n2 (endS g X.K H0 F' D) (wishS g X.K X.mg W H0 F'),
    ⟨_, F', γ, n', rfl, Nat.zero_le _, s'.base, (forL mt mb ds γ).mono q (fun _ _ z => z.base s') fun _ _ z => z.base s'⟩, ?_⟩
  rintro i m σ1 H1 ⟨F2, γ2, n2, rfl, hi, s2, q2⟩
  have fl : FLe F' H1 := s2.f0.trans s2.le
  by_cases hlt : i < ds.length
  · refine .inr ⟨it.go i H1 fl hlt, fun σ' H' => ∃ F3 γ3 n3, StOk g X.K H0 F' F3 H' σ' γ3 n3 ∧ (forL mt mb (ds.drop (i + 1)) γ3).run n3 (endS g X.K H0 F' D) (wishS g X.K X.mg W H0 F'),
      fun σ' H' ⟨F3, γ3, n3, s3, q3⟩ => ⟨ds.length - (i + 1), by omega, F3, γ3, n3, rfl, hlt, s3, q3⟩, fun x H2 y => ?_⟩
    have hd : ds[i]? = some ds[i] := List.getElem?_eq_getElem hlt
    obtain ⟨F3, po, rx⟩ := it.yld i H1 x H2 ds[i] F2 n2 fl hd y s2.f0 s2.sub s2.wok
    rw [List.drop_eq_getElem_cons hlt] at q2
    refine ⟨H0, F', F3, γ2, n2, ds[i], s2.post po, rx, (mt ds[i] γ2).mono q2 (fun γ4 n4 q4 F4 H4 σ4 s4 f4 b4 => ?_) fun _ _ z => z⟩
    refine ⟨H0, F', F4, γ4, n4, s4, (mb γ4).mono q4 (fun p n5 q5 => ?_) fun _ _ z => z⟩
    obtain ⟨fl, γ5⟩ := p
    cases fl with
    | nx => exact fun F5 H5 σ5 s5 => ⟨F5, γ5, n5, s5, q5⟩
    | ct => exact fun F5 H5 σ5 s5 => ⟨F5, γ5, n5, s5, q5⟩
    | bk => exact fun F5 H5 σ5 s5 => q5 F5 H5 σ5 s5
    | rt d => exact fun F5 H5 σ5 s5 => q5 F5 H5 σ5 s5
  · have e : ds.drop i = [] := List.drop_of_length_le (by omega)
    rw [e] at q2
    exact .inl ⟨it.stop i H1 fl (by omega), q2 F2 H1 σ1 s2⟩
end

/-! ### while -/
def whN (mc : Env → M Bool) (mb : Env → M (Fl × Env)) : Nat → Env → M (Fl × Env)
  | 0, _ => M.stuck
  | k + 1, γ => do
    bif (← mc γ) then (do
      let r ← mb γ
      match r.1 with
      | .nx => whN mc mb k r.2
      | .ct => whN mc mb k r.2
      | .bk => pure (.nx, r.2)
      | .rt d => pure (.rt d, r.2)) else pure (.nx, γ)
/-- so many turns as are wanted -/
def whM (mc : Env → M Bool) (mb : Env → M (Fl × Env)) (γ : Env) : M (Fl × Env) := ⟨fun n Q E => ∃ k, (whN mc mb k γ).run n Q E, fun ⟨k, h⟩ hq he => ⟨k, (whN mc mb k γ).mono h hq he⟩⟩
section
variable {g : G} {X : Cx} {W : WX} {c : Expr} {body : List Stmt} {mc : Env → M Bool} {mb : Env → M (Fl × Env)} {pos : Pos}
theorem psd_while (hp : PassesOwn (model X.prog X.w) X.A X.env X.xe) (hc : PTD g X W c mc) (hb : PSsD g X W body mb) : PSD g X W (.While c body [] pos) (whM mc mb) := by
  refine ⟨(ps_while hp hc.pt hb.ps).imp fun D σ H ⟨H0, F0, F, γ, n, s, k, r⟩ => ?_⟩
  refine ⟨fun m σ H => ∃ F γ n, StOk g X.K H0 F0 F H σ γ n ∧ (whN mc mb m γ).run n (endS g X.K H0 F0 D) (wishS g X.K X.mg W H0 F0), ⟨k, F, γ, n, s, r⟩, ?_⟩
  rintro m σ1 H1 ⟨F1, γ1, n1, s1, q1⟩
  cases m with
  | zero => exact q1.elim
  | succ m =>
    refine ⟨H0, F0, F1, γ1, n1, s1, (mc γ1).mono q1 (fun b n2 q2 F2 H2 s2 f2 => ?_) fun _ _ z => wish_of z⟩
    cases b with
    | true =>
      rw [if_pos rfl]
      refine ⟨fun σ' H' => ∃ F γ n, StOk g X.K H0 F0 F H' σ' γ n ∧ (whN mc mb m γ).run n (endS g X.K H0 F0 D) (wishS g X.K X.mg W H0 F0), fun σ' H' z => ⟨m, Nat.lt_succ_self m, z⟩, ?_⟩
      refine ⟨H0, F0, F2, γ1, n2, s2, (mb γ1).mono q2 (fun p n3 q3 => ?_) fun _ _ z => z⟩
      obtain ⟨fl, γ3⟩ := p
      cases fl with
      | nx => exact fun F5 H5 σ5 s5 => ⟨F5, γ3, n3, s5, q3⟩
      | ct => exact fun F5 H5 σ5 s5 => ⟨F5, γ3, n3, s5, q3⟩
      | bk => exact fun F5 H5 σ5 s5 => q3 F5 H5 σ5 s5
      | rt d => exact fun F5 H5 σ5 s5 => q3 F5 H5 σ5 s5
    | false =>
      rw [if_neg Bool.false_ne_true]
      exact q2 F2 H2 σ1 s2
end
end DL

set_option Elab.async false
set_option linter.all false
set_option maxRecDepth 100000
set_option maxHeartbeats 4000000
/-! DG: list comprehensions. -/
namespace DL
open PySem PySem.Spec PyProof.Rows L2

/-- the slots of a block's own names forgotten -/
def wipeD (γ : Env) : List Nat → Env
  | [] => γ
  | v :: vs => (wipeD γ vs).set v none
theorem wipeD_len (γ : Env) : ∀ vs : List Nat, (wipeD γ vs).length = γ.length
  | [] => rfl
  | v :: vs => by
    unfold wipeD
    rw [List.length_set, wipeD_len γ vs]
theorem wipeD_some {γ : Env} {i : Nat} {x : Slot} : ∀ {vs : List Nat}, (wipeD γ vs)[i]? = some (some x) → γ[i]? = some (some x) ∧ i ∉ vs
  | [], h => ⟨h, by simp⟩
  | v :: vs, h => by
    unfold wipeD at h
    by_cases hi : v = i
    · subst hi
      by_cases hv : v < (wipeD γ vs).length
      · rw [List.getElem?_set_self hv] at h
        cases h
      · rw [List.getElem?_eq_none (by simpa using hv)] at h
        cases h
    · rw [List.getElem?_set_ne hi] at h
      obtain ⟨h1, h2⟩ := wipeD_some h
      exact ⟨h1, by simp only [List.mem_cons, not_or]; exact ⟨fun e => hi e.symm, h2⟩⟩
theorem wipe_none {σ : L2.St} {j : Nat} : ∀ {vs : List Nat}, j ∈ vs → (wipe σ vs)[j]? = some none ∨ (wipe σ vs)[j]? = none
  | [], h => by simp at h
  | v :: vs, h => by
    unfold wipe
    by_cases hv : v = j
    · subst hv
      by_cases hl : v < (wipe σ vs).length
      · exact .inl (List.getElem?_set_self hl)
      · exact .inr (List.getElem?_eq_none (by rw [List.length_set]; omega))
    · rw [List.getElem?_set_ne hv]
      rcases List.mem_cons.mp h with e | h
      · exact absurd e.symm hv
      · exact wipe_none h
/-- behind a turn's target -/
theorem wipe_eq {σ σ' : L2.St} {js vs : List Nat} (h : ∀ j ∈ js, j ∈ vs) (b : ButAt js (wipe σ vs) σ') : wipe σ' vs = wipe σ vs := by
  have hl : σ'.length = σ.length := by rw [b.1, wipe_length]
  refine List.ext_getElem? fun j => ?_
  by_cases hj : j ∈ vs
  · have len1 : (wipe σ' vs).length = (wipe σ vs).length := by rw [wipe_length, wipe_length, hl]
    by_cases hlt : j < σ.length
    · have e1 := wipe_none (σ := σ) hj
      have e2 := wipe_none (σ := σ') hj
      rcases e1 with e1 | e1
      · rcases e2 with e2 | e2
        · rw [e1, e2]
        · rw [List.getElem?_eq_none_iff, wipe_length] at e2
          omega
      · rw [List.getElem?_eq_none_iff, wipe_length] at e1
        omega
    · rw [List.getElem?_eq_none (by rw [wipe_length]; omega), List.getElem?_eq_none (by rw [wipe_length]; omega)]
  · rw [wipe_out hj]
    exact b.2 j fun z => hj (h j z)
def isPl : Option (Option Slot) → Bool
  | some (some (.ow _)) => false
  | some (some (.ex ..)) => false
  | _ => true
def noOw (γ : Env) (vs : List Nat) : Prop := ∀ i ∈ vs, isPl γ[i]? = true
theorem wipeD_out {γ : Env} {i : Nat} : ∀ {vs : List Nat}, i ∉ vs → (wipeD γ vs)[i]? = γ[i]?
  | [], _ => rfl
  | v :: vs, h => by
    unfold wipeD
    rw [List.getElem?_set_ne (fun z => h (by simp [z]))]
    exact wipeD_out fun z => h (List.mem_cons_of_mem _ z)
section
variable {g : G} {K : PySem.W.Frag} {H0 F0 F H : Hp} {σ : L2.St} {γ : Env} {n : Nat}
/-- within a block that fills the list at D -/
theorem StOk.block (s : StOk g K H0 F0 F H σ γ n) (vs : List Nat) {D : Addr} {acc : List V} (hD : H D = some (.lst acc)) (hn : ∀ i : Nat, isOw γ[i]? = true → σ[i]? ≠ some (some (V.ref D))) :
    StOk g K (upd H0 D (.lst acc)) F F H (wipe σ vs) (wipeD γ vs) n where
  ext := fun a o e nx => by
    by_cases ha : a = D
    · subst ha
      rw [upd_same] at e
      cases e
      exact hD
    · rw [upd_ne ha] at e
      exact s.ext a o e nx
  f0 := FLe.refl F
  sub := s.sub
  new := fun a h => .inl h
  wok := s.wok
  len := by rw [wipeD_len, wipe_length, s.len]
  slots := fun i t ht => by
    obtain ⟨h1, h2⟩ := wipeD_some ht
    obtain ⟨v, e1, e2⟩ := s.slots i t h1
    refine ⟨v, by rw [wipe_out h2]; exact e1, ?_⟩
    cases t with
    | fz d => exact e2
    | ow d =>
      cases d with
      | lst ds =>
        obtain ⟨a, ev, ws, q1, q2, q3, q4⟩ := e2
        subst ev
        have hne : a ≠ D := fun z => hn i (by rw [h1]; rfl) (by rw [e1, z])
        exact ⟨a, rfl, ws, q1, q2, by rw [upd_ne hne]; exact q3, q4⟩
      | _ => exact e2
    | ex a d fs => exact e2
  dist := fun i j a hij h1 h2 e1 e2 => by
    have k1 : isOw γ[i]? = true ∧ i ∉ vs := by
      cases e : (wipeD γ vs)[i]? with
      | none => rw [e] at h1; cases h1
      | some o => cases o with
        | none => rw [e] at h1; cases h1
        | some t =>
          obtain ⟨q1, q2⟩ := wipeD_some e
          rw [e] at h1
          rw [q1]
          exact ⟨h1, q2⟩
    have k2 : isOw γ[j]? = true ∧ j ∉ vs := by
      cases e : (wipeD γ vs)[j]? with
      | none => rw [e] at h2; cases h2
      | some o => cases o with
        | none => rw [e] at h2; cases h2
        | some t =>
          obtain ⟨q1, q2⟩ := wipeD_some e
          rw [e] at h2
          rw [q1]
          exact ⟨h2, q2⟩
    rw [wipe_out k1.2] at e1
    rw [wipe_out k2.2] at e2
    exact s.dist i j a hij k1.1 k2.1 e1 e2
/-- .. and behind a part of it -/
theorem StOk.unblock (s : StOk g K H0 F0 F H σ γ n) {vs : List Nat} (hv : noOw γ vs) {D : Addr} {acc : List V} (h0 : H0 D = none) {F' H' : Hp} {σ' : L2.St} {γ' : Env} {n' : Nat} (t : StOk g K (upd H0 D (.lst acc)) F F' H' σ' γ' n')
    (hk : ∀ (i : Nat) (x : Slot), (wipeD γ vs)[i]? = some (some x) → γ'[i]? = some (some x)) (hσ : ∀ (i : Nat) (v : V), (wipe σ vs)[i]? = some (some v) → σ'[i]? = some (some v)) : StOk g K H0 F0 F' H' σ γ n' where
  ext := fun a o e nx => t.ext a o (by rw [upd_ne (fun z => by rw [z, h0] at e; cases e)]; exact e) nx
  f0 := s.f0.trans t.f0
  sub := t.sub
  new := fun a h => by
    rcases t.new a h with q | q
    · exact s.new a q
    · by_cases ha : a = D
      · subst ha
        exact .inr (.inl h0)
      · unfold Nw at q
        rw [upd_ne ha] at q
        exact .inr q
  wok := t.wok
  len := s.len
  slots := fun i x hx => by
    obtain ⟨v, e1, e2⟩ := s.slots i x hx
    refine ⟨v, e1, ?_⟩
    cases x with
    | fz d => exact Rep.fle t.f0 e2
    | ow d =>
      have hi : i ∉ vs := fun z => by
        have q := hv i z
        rw [hx] at q
        cases q
      have w1 : (wipeD γ vs)[i]? = some (some (.ow d)) := by
        rw [wipeD_out hi]
        exact hx
      obtain ⟨v', q1, q2⟩ := t.slots i _ (hk i _ w1)
      have e3 := hσ i v (by rw [wipe_out hi]; exact e1)
      rw [e3] at q1
      cases q1
      cases d with
      | lst ds =>
        obtain ⟨a, ev, ws, p1, p2, p3, p4⟩ := q2
        exact ⟨a, ev, ws, p1, p2, by
          by_cases ha : a = D
          · rw [ha]; exact h0
          · rw [upd_ne ha] at p3; exact p3, p4⟩
      | _ => exact e2
    | ex a d fs =>
      -- the caught exception's own dict stands: it is told by the block's slots, or by the heap at the entry
      obtain ⟨ev, q1, ws, q2, q3, q4⟩ := e2
      have hi : i ∉ vs := fun z => by
        have q := hv i z
        rw [hx] at q
        cases q
      have w1 : (wipeD γ vs)[i]? = some (some (.ex a d fs)) := by
        rw [wipeD_out hi]
        exact hx
      obtain ⟨v', r1, r2⟩ := t.slots i _ (hk i _ w1)
      exact ⟨ev, r2.2.1, r2.2.2⟩
  dist := s.dist
end
/-- the list that a block has filled stays from now on -/
theorem StOk.adopt {g : G} {K : PySem.W.Frag} {H0 F0 F H : Hp} {σ : L2.St} {γ : Env} {n : Nat} (s : StOk g K H0 F0 F H σ γ n) {D : Addr} {acc : List V} (hD : H D = some (.lst acc)) (hF : F D = none) (h0 : H0 D = none) (hx : ¬ g.ex D) (hn : ∀ i : Nat, isOw γ[i]? = true → σ[i]? ≠ some (some (V.ref D))) :
    StOk g K H0 F0 (upd F D (.lst acc)) H σ γ n where
  ext := s.ext
  f0 := s.f0.trans (fle_upd hF)
  sub := fun a o e => by
    by_cases ha : a = D
    · subst ha
      rw [upd_same] at e
      rw [← e]
      exact ⟨hD, hx⟩
    · rw [upd_ne ha] at e
      exact s.sub a o e
  new := fun a h => by
    by_cases ha : a = D
    · subst ha
      exact .inr (.inl h0)
    · rw [upd_ne ha] at h
      exact s.new a h
  wok := s.wok
  len := s.len
  slots := fun i x hx' => by
    obtain ⟨v, e1, e2⟩ := s.slots i x hx'
    refine ⟨v, e1, ?_⟩
    cases x with
    | fz d => exact Rep.fle (fle_upd hF) e2
    | ow d =>
      cases d with
      | lst ds =>
        obtain ⟨a, ev, ws, q1, q2, q3, q4, q5⟩ := e2
        subst ev
        have hne : a ≠ D := fun z => hn i (by rw [hx']; rfl) (by rw [e1, z])
        exact ⟨a, rfl, ws, q1, by rw [upd_ne hne]; exact q2, q3, q4, RepL.fle (fle_upd hF) q5⟩
      | _ => exact e2
    | ex a d fs =>
      obtain ⟨ev, q1, ws, q2, q3, q4⟩ := e2
      have hne : d ≠ D := fun z => by
        rw [z, hD] at q2
        cases q2
      exact ⟨ev, by rw [upd_ne hne]; exact q1, ws, q2, q3, RepF.fle (fle_upd hF) q4⟩
  dist := s.dist

/-! ### [elt for target in iter if ..] -/
structure PTsD (g : G) (X : Cx) (W : WX) (ifs : List Expr) (m : Env → M Bool) : Prop where
  pt : PTs X ifs (tTD g X.K X.mg W m)
theorem _root_.L2.PTs.imp {X : Cx} {ifs : List Expr} {t t' : TT} (h : PTs X ifs t) (i : ∀ σ H Q, t' σ H Q → t σ H Q) : PTs X ifs t' := ⟨fun pins s σ H Q I q => h.run pins s σ H Q I (i _ _ _ q)⟩
abbrev W0 : WX := fun _ _ _ _ => False
section
variable {g : G} {X : Cx} {W : WX}
theorem ptsd_nil : PTsD g X W [] (fun _ => pure true) := ⟨pts_nil.imp fun σ H Q ⟨H0, F0, F, γ, n, s, r⟩ => r F H s (FLe.refl F)⟩
theorem ptsd_one {c : Expr} {m : Env → M Bool} (h : PTD g X W c m) : PTsD g X W [c] m := ⟨pts_one h.pt⟩
end
/-- one turn: nothing, or an item -/
def turnL (mt : D → Env → M Env) (mc : Env → M Bool) (me : Env → M D) (γ : Env) (d : D) : M (List D) := do
  let γ1 ← mt d γ
  bif (← mc γ1) then (do pure [← me γ1]) else pure []
def compL (mt : D → Env → M Env) (mc : Env → M Bool) (me : Env → M D) (γ : Env) : List D → M (List D)
  | [] => pure []
  | d :: ds => do
    let r ← turnL mt mc me γ d
    pure (r ++ (← compL mt mc me γ ds))
/-- the comprehension: own, the slots of its own names -/
def compM (own : List Nat) (mi : Env → M (List D)) (mt : D → Env → M Env) (mc : Env → M Bool) (me : Env → M D) (γ : Env) : M D := do
  let ds ← mi γ
  M.need (noOw γ own)
  pure (.lst (← M.calm (compL mt mc me (wipeD γ own) ds)))
section
variable {g : G} {X : Cx} {W : WX} {tg iter elt : Expr} {ifs : List Expr} {scope : Scope} {own : List (Str × Nat)} {pos : Pos} {mi : Env → M (List D)} {mt : D → Env → M Env} {js : List Nat} {mc : Env → M Bool} {me : Env → M D}
theorem tLc_of {K : PySem.W.Frag} {mg : Str → Option Value} (kp : Keeps js mt) (hj : ∀ j ∈ js, j ∈ own.map (·.2)) {σ : L2.St} {H : Hp} {Q : VK} (h : tD g K mg W (compM (own.map (·.2)) mi mt mc me) σ H Q) :
    tLc (iD g K mg W mi) (gD g K js mt) (tTD g K mg W0 mc) (tD g K mg W0 me) (own.map (·.2)) σ H Q := by
  obtain ⟨H0, F0, F, γ, n, s, r⟩ := h
  refine ⟨H0, F0, F, γ, n, s, (mi γ).mono r (fun ds n' q F1 H1 J s1 f1 it => ?_) fun _ _ q => q⟩
  obtain ⟨hv, q⟩ := q
  intro D hD
  have h0 : H0 D = none := by
    cases e : H0 D with
    | none => rfl
    | some o =>
      rw [s1.ext D o e (s1.wok.nex hD)] at hD
      cases hD
  have hx := s1.wok.nex hD
  have sD := s1.post (post_newH (o := .lst []) s1.sub s1.wok hD)
  have hn : ∀ i : Nat, isOw γ[i]? = true → σ[i]? ≠ some (some (V.ref D)) := fun i hi e => by
    obtain ⟨a, es, ws, _, e2, e3⟩ := s1.owAt hi
    rw [e2] at e
    cases e
    rw [hD] at e3
    cases e3
  -- what is wanted of the list's items so far, before so many turns
  refine ⟨fun i m H => ∃ F2 n2 acc done, m = ds.length - i ∧ i ≤ ds.length ∧ StOk g K H0 F1 F2 H σ γ n2 ∧ H D = some (.lst acc) ∧ F2 D = none ∧ RepL g K F2 acc done ∧ acc.length ≤ i ∧
      (compL mt mc me (wipeD γ (own.map (·.2))) (ds.drop i)).run n2 (fun rest n3 => ∀ F' H' v, StOk g K H0 F0 F' H' σ γ n3 → FLe F F' → Rep g K F' v (.lst (done ++ rest)) → Q v H') (fun _ _ => False),
    ⟨_, F1, n', [], [], rfl, Nat.zero_le _, sD.base, upd_same, s1.sub.none hD, .nil, Nat.zero_le _, q⟩, ?_⟩
  rintro i m H2 ⟨F2, n2, acc, done, rfl, hi, s2, hD2, hF2, rl, hl, q2⟩
  have fl : FLe F1 H2 := s2.f0.trans s2.le
  by_cases hlt : i < ds.length
  · refine .inr ⟨it.go i H2 fl hlt, fun H' => ∃ F3 n3 acc done, StOk g K H0 F1 F3 H' σ γ n3 ∧ H' D = some (.lst acc) ∧ F3 D = none ∧ RepL g K F3 acc done ∧ acc.length ≤ i + 1 ∧
        (compL mt mc me (wipeD γ (own.map (·.2))) (ds.drop (i + 1))).run n3 (fun rest n3 => ∀ F' H' v, StOk g K H0 F0 F' H' σ γ n3 → FLe F F' → Rep g K F' v (.lst (done ++ rest)) → Q v H') (fun _ _ => False),
      fun H' ⟨F3, n3, acc', done', s3, h3, hf3, rl3, hl3, q3⟩ => ⟨ds.length - (i + 1), by omega, F3, n3, acc', done', rfl, hlt, s3, h3, hf3, rl3, hl3, q3⟩, fun x H3 y => ?_⟩
    have hd : ds[i]? = some ds[i] := List.getElem?_eq_getElem hlt
    obtain ⟨F3, po, rx⟩ := it.yld i H2 x H3 ds[i] F2 n2 fl hd y s2.f0 s2.sub s2.wok
    rw [List.drop_eq_getElem_cons hlt] at q2
    have s3 := s2.post po
    have hD3 : H3 D = some (.lst acc) := po.ext D _ hD2 hx
    have hF3 : F3 D = none := by
      cases e : F3 D with
      | none => rfl
      | some o =>
        rcases po.new D (by rw [e]; simp) with z | z
        · exact absurd hF2 z
        · exact absurd z (Nw.lst hD2)
    have sb := s3.block (own.map (·.2)) hD3 hn
    have q3 : (mt ds[i] (wipeD γ (own.map (·.2)))).run n2 _ _ := q2
    refine ⟨upd H0 D (.lst acc), F3, F3, wipeD γ (own.map (·.2)), n2, ds[i], sb, rx, (mt ds[i] _).mono (kp _ _ _ _ _ q3) (fun γ4 n4 ⟨q4, b4⟩ F4 H4 σ4 s4 f4 bt => ?_) fun _ _ z => z⟩
    have hw := wipe_eq hj bt
    refine ⟨hw, upd H0 D (.lst acc), F3, F4, γ4, n4, s4, (mc γ4).mono q4 (fun b n5 q5 F5 H5 s5 f5 => ?_) fun _ _ z => z.elim⟩
    -- back in the def's words
    have hk : ∀ (i : Nat) (x : Slot), (wipeD γ (own.map (·.2)))[i]? = some (some x) → γ4[i]? = some (some x) := fun j x hx' => by
      rw [b4 j fun z => (wipeD_some hx').2 (hj j z)]
      exact hx'
    have hσ : ∀ (i : Nat) (v : V), (wipe σ (own.map (·.2)))[i]? = some (some v) → σ4[i]? = some (some v) := fun j v hx' => by
      rw [bt.2 j fun z => (wipe_some hx').2 (hj j z)]
      exact hx'
    have hFD : ∀ {F' : Hp}, (∀ a, F' a ≠ none → F3 a ≠ none ∨ Nw (upd H0 D (.lst acc)) a) → F' D = none := fun {F'} nw => by
      cases e : F' D with
      | none => rfl
      | some o =>
        rcases nw D (by rw [e]; simp) with z | z
        · exact absurd hF3 z
        · exact absurd z (Nw.lst upd_same)
    cases b with
    | false =>
      refine iteF ?_
      have u5 := s3.unblock hv h0 s5 hk hσ
      exact ⟨F5, n5, acc, done, u5, s5.ext D _ upd_same hx, hFD s5.new, (rl.fle po.fle).fle s5.f0, Nat.le_succ_of_le hl, q5⟩
    | true =>
      refine iteT ?_
      refine ⟨upd H0 D (.lst acc), F3, F5, γ4, n5, s5, (me γ4).mono q5 (fun d n6 q6 F6 H6 v s6 f6 rv => ?_) fun _ _ z => z.elim⟩
      have hD6 : H6 D = some (.lst acc) := s6.ext D _ upd_same hx
      have hF6 : F6 D = none := hFD s6.new
      have u6 := s3.unblock hv h0 s6 hk hσ
      have line := it.line
      refine ⟨acc, hD6, by omega, F6, n6, acc ++ [v], done ++ [d], ?_, upd_same, hF6, (((rl.fle po.fle).fle s6.f0).append (.cons rv .nil)), by rw [List.length_append]; exact Nat.add_le_add_right hl 1, ?_⟩
      · -- the list has grown
        refine ⟨fun a o e nx => ?_, u6.f0, fun a o e => ?_, fun a h => ?_, u6.wok.updL hD6 hx, u6.len, fun j t ht => ?_, u6.dist⟩
        · rw [upd_ne (fun z => by rw [z, h0] at e; cases e)]
          exact u6.ext a o e nx
        · obtain ⟨k1, k2⟩ := u6.sub a o e
          refine ⟨?_, k2⟩
          rw [upd_ne (fun z => by rw [z, hF6] at e; cases e)]
          exact k1
        · exact u6.new a h
        · obtain ⟨w', e1, e2⟩ := u6.slots j t ht
          refine ⟨w', e1, ?_⟩
          cases t with
          | fz d => exact e2
          | ow d =>
            cases d with
            | lst es =>
              obtain ⟨a, ev, ws, p1, p2⟩ := e2
              subst ev
              have hne : a ≠ D := fun z => hn j (by rw [ht]; rfl) (by rw [e1, z])
              exact ⟨a, rfl, ws, by rw [upd_ne hne]; exact p1, p2⟩
            | _ => exact e2
          | ex a d fs =>
            obtain ⟨ev, p1, ws, p2, p3⟩ := e2
            have hne : d ≠ D := fun z => by
              rw [z, hD6] at p2
              cases p2
            exact ⟨ev, p1, ws, by rw [upd_ne hne]; exact p2, p3⟩
      · refine (compL mt mc me _ _).mono q6 (fun rest n7 q7 F' H' v' s' f' r' => ?_) fun _ _ z => z
        refine q7 F' H' v' s' f' ?_
        rw [List.append_assoc] at r'
        exact r'
  · have e : ds.drop i = [] := List.drop_of_length_le (by omega)
    rw [e] at q2
    refine .inl ⟨it.stop i H2 fl (by omega), ?_⟩
    have sA := s2.adopt hD2 hF2 h0 hx hn
    have q3 := q2 (upd F2 D (.lst acc)) H2 (.ref D) (s1.unbase sA) (f1.trans sA.f0)
    rw [List.append_nil] at q3
    exact q3 (.lst upd_same (rl.fle (fle_upd hF2)))
theorem pd_lc (hc : X.calm = true) (hN : X.N.Nodup) (hi : PID g X W tg iter mi) (ok : BlkOk X.N X.env.scope scope own)
    (hg : ∀ (s : Shared) (H : Hp) (C : Addr) (cl : List (Str × Addr)) (fp : List Addr), PGD g (X.blk s H scope (compEnvC scope cl C X.env) fp) tg js mt) (ht : ∀ (s : Shared) (H : Hp) (C : Addr) (cl : List (Str × Addr)) (fp : List Addr), PTsD g (X.blk s H scope (compEnvC scope cl C X.env) fp) W0 ifs mc)
    (he : ∀ (s : Shared) (H : Hp) (C : Addr) (cl : List (Str × Addr)) (fp : List Addr), PD g (X.blk s H scope (compEnvC scope cl C X.env) fp) W0 elt me) (hj : ∀ j ∈ js, j ∈ own.map (·.2) := by decide) (hs : ∀ x, foldedSetIterable iter X.env x = pure x := by intro _; rfl) :
    PD g X W (.ListComp elt [⟨tg, iter, ifs, 0⟩] scope pos) (compM (own.map (·.2)) mi mt mc me) :=
  ⟨(pe_lc (wi := iD g X.K X.mg W mi) (g := gD g X.K js mt) (tt := tTD g X.K X.mg W0 mc) (te := tD g X.K X.mg W0 me) hc hN hi.pi ok (fun s H C cl fp => (hg s H C cl fp).pg) (fun s H C cl fp => (ht s H C cl fp).pt) (fun s H C cl fp => (he s H C cl fp).pe) hs).imp fun _ _ _ h => tLc_of (hg X.s_0 (fun _ => none) 0 [] []).keeps hj h⟩
theorem psd_setLc {i : Nat} {y : Str} {py spos : Pos} (hc : X.calm = true) (hN : X.N.Nodup) (hy : X.N[i]? = some y) (hyl : X.env.scope.names.lookup y = some .local)
    (hsw : swapsWith (.ListComp elt [⟨tg, iter, ifs, 0⟩] scope pos) (some (.Name y py)) spos.line X.env = pure true) (hi : PID g X W tg iter mi) (ok : BlkOk X.N X.env.scope scope own)
    (hg : ∀ (s : Shared) (H : Hp) (C : Addr) (cl : List (Str × Addr)) (fp : List Addr), PGD g (X.blk s H scope (compEnvC scope cl C X.env) fp) tg js mt) (ht : ∀ (s : Shared) (H : Hp) (C : Addr) (cl : List (Str × Addr)) (fp : List Addr), PTsD g (X.blk s H scope (compEnvC scope cl C X.env) fp) W0 ifs mc)
    (he : ∀ (s : Shared) (H : Hp) (C : Addr) (cl : List (Str × Addr)) (fp : List Addr), PD g (X.blk s H scope (compEnvC scope cl C X.env) fp) W0 elt me) (hj : ∀ j ∈ js, j ∈ own.map (·.2) := by decide) (hs : ∀ x, foldedSetIterable iter X.env x = pure x := by intro _; rfl) :
    PSD g X W (.Assign [.Name y py] (.ListComp elt [⟨tg, iter, ifs, 0⟩] scope pos) spos) (fun γ => do pure (.nx, setM i (← compM (own.map (·.2)) mi mt mc me γ) γ)) := by
  refine ⟨(ps_setLc (wi := iD g X.K X.mg W mi) (g := gD g X.K js mt) (tt := tTD g X.K X.mg W0 mc) (te := tD g X.K X.mg W0 me) hc hN hy hyl hsw hi.pi ok (fun s H C cl fp => (hg s H C cl fp).pg) (fun s H C cl fp => (ht s H C cl fp).pt) (fun s H C cl fp => (he s H C cl fp).pe) hs).imp fun D σ H ⟨H0, F0, F, γ, n, s, r⟩ => ?_⟩
  have r2 : (compM (own.map (·.2)) mi mt mc me γ).run n (fun d n' => endS g X.K H0 F0 D (.nx, setM i d γ) n') (wishS g X.K X.mg W H0 F0) := r
  have r3 : (compM (own.map (·.2)) mi mt mc me γ).run n (fun d n' => ∀ F' H' v, StOk g X.K H0 F0 F' H' σ γ n' → FLe F F' → Rep g X.K F' v d → gName i v σ H' D.nx) (wishX g X.K X.mg W H0 F0 σ γ) :=
    M.mono _ r2 (fun d n' q F' H' v s' f r => q F' H' _ (s'.setFz i r)) fun _ _ q => wish_of q
  exact tLc_of (mg := X.mg) (W := W) (hg X.s_0 (fun _ => none) 0 [] []).keeps hj ⟨H0, F0, F, γ, n, s, r3⟩
end
end DL

set_option Elab.async false
set_option linter.all false
set_option maxRecDepth 100000
set_option maxHeartbeats 4000000
/-! DH: built-ins: isinstance, len, list, tuple, all, any, sum, abs, int, sorted; subscripts, slices, +, -, *, //, %, **. -/
namespace DL
open PySem PySem.Spec PyProof.Rows L2

/-! ### isinstance -/
def tyName : D → Option String
  | .non => some "NoneType"
  | .bl _ => some "bool"
  | .int _ => some "int"
  | .str _ => some "str"
  | .lst _ => some "list"
  | .lstA _ _ => some "list"
  | .tup _ => some "tuple"
  | .dct _ => some "dict"
  | _ => none
def isSub (a b : String) : Bool := a == b || (a == "bool" && b == "int")
def tys : List String := ["NoneType", "bool", "int", "str", "list", "tuple", "dict"]
def clss : List String := ["bool", "int", "str", "list", "tuple", "dict"]
theorem kit_tab : ∀ a ∈ tys, ∀ b ∈ clss, kitB a b = some (isSub a b) := by decide +kernel
theorem tyName_mem {d : D} {t : String} (h : tyName d = some t) : t ∈ tys := by
  cases d <;> simp only [tyName] at h <;> first | (cases h; decide) | cases h
theorem any_tab {K : PySem.W.Frag} {a : String} (ha : a ∈ tys) : ∀ {bs : List String}, (∀ b ∈ bs, b ∈ clss) → PySem.W.kitAny K (.type a) (bs.map Value.type) = some (bs.any (isSub a))
  | [], _ => kitAny_nil
  | b :: bs, h => by
    rw [List.map_cons, List.any_cons]
    refine kitAny_cons (kit_ty (kit_tab a ha b (h b List.mem_cons_self))) (fun e => ?_) fun e => by rw [e]; rfl
    rw [e, Bool.false_or]
    exact any_tab ha fun c hc => h c (List.mem_cons_of_mem _ hc)
/-- isinstance(x, one of bs) -/
def dIsi (bs : List String) (d : D) : M Bool := match tyName d with
  | some a => pure (bs.any (isSub a))
  | none => M.stuck
section
variable {g : G} {K : PySem.W.Frag} {H0 F0 F H : Hp} {σ : L2.St} {γ : Env} {n : Nat}
theorem tyx_of (s : StOk g K H0 F0 F H σ γ n) {v : V} {d : D} {a : String} (r : RepB g K F σ γ v d) (h : tyName d = some a) : TyX K H v (.type a) := by
  have seqL : ∀ {p : Addr} {vs : List V}, SqL K H p vs → TyX K H (.ref p) (.type "list") := fun {p vs} sq => by
    rcases sq with (e | ⟨o, e⟩) | ⟨o, its, m, e, c, _⟩
    · exact .base (.lst e)
    · exact .base (.frz e)
    · exact .kList e c
  have seqT : ∀ {p : Addr} {vs : List V}, SqT K H p vs → TyX K H (.ref p) (.type "tuple") := fun {p vs} sq => by
    rcases sq with (e | ⟨o, e⟩) | ⟨o, its, m, e, c, _⟩
    · exact .base (.tup e)
    · exact .fTuple e
    · exact .kTuple e c
  cases d with
  | lst ds =>
    obtain ⟨p, vs, ev, sq, rl⟩ := s.list r
    subst ev
    cases h
    exact seqL sq
  | tup ds =>
    obtain ⟨p, vs, ev, sq, rl⟩ := s.tuple r
    subst ev
    cases h
    exact seqT sq
  | dct kvs =>
    cases h
    cases s.notOw r (fun _ => nofun) with
    | dct0 e => exact .base (.dK (s.le _ _ e))
  | lstA b ds =>
    cases h
    cases s.notOw r (fun _ => nofun) with
    | lstA e rl => exact .base (.lst (s.le _ _ e))
  | non =>
    cases h
    cases s.notOw r (fun _ => nofun)
    exact .base .non
  | bl b =>
    cases h
    cases s.notOw r (fun _ => nofun)
    exact .base (.bl _)
  | int b =>
    cases h
    cases s.notOw r (fun _ => nofun)
    exact .base (.int _)
  | str b =>
    cases h
    cases s.notOw r (fun _ => nofun)
    exact .base (.str _)
  | _ => cases h
end
theorem isi_run {bs : List String} {d : D} {n : Nat} {Q : Bool → Nat → Prop} {E : Exc → Nat → Prop} (h : (dIsi bs d).run n Q E) : ∃ a, tyName d = some a ∧ Q (bs.any (isSub a)) n := by
  unfold dIsi at h
  cases e : tyName d with
  | none =>
    rw [e] at h
    exact h.elim
  | some a =>
    rw [e] at h
    exact ⟨a, rfl, h⟩
/-- names of built-in types -/
structure PTy (X : Cx) (es : List Expr) (ns : List String) : Prop where
  pa : PA X es (fun _ H Q => Q (ns.map V.ty) H)
theorem pty_nil {X : Cx} : PTy X [] [] := ⟨pa_nil⟩
theorem pty_cons {X : Cx} {x : Str} {n : String} {pos : Pos} {es : List Expr} {ns : List String} (hg : Gl X x) (hm : X.mg x = none) (hv : bootBuiltins x = some (.type n)) (h : PTy X es ns) (hn : x ≠ "__name__" := by decide) (hd : (x == ("__debug__" : Str)) = false := by decide)
    (hs : starEach (.Name x pos :: es) X.env = (false, eval (.Name x pos) X.env) :: starEach es X.env := by rfl) : PTy X (.Name x pos :: es) (n :: ns) := ⟨pa_cons (pe_bltn (v := .ty n) hg hm hv rfl hn hd) h.pa hs⟩
section
variable {g : G} {X : Cx} {W : WX} {e e2 : Expr} {m : Env → M D} {pos p pt : Pos} {k : Nat} {es : List Expr} {bs : List String} {n : String} {x : Str}
theorem cls_tys : ∀ bs : List String, Paired ClsV (bs.map V.ty) (bs.map Value.type)
  | [] => .nil
  | b :: bs => .cons (.ty b) (cls_tys bs)
theorem pd_isiN (he : PDB g X W e m) (ht : PTy X es bs) (hb : ∀ b ∈ bs, b ∈ clss) (hl : bs.length ≤ sizeLine) (hg : Gl X "isinstance") (hm : X.mg "isinstance" = none) (hs : starEach [e, .Tuple es k pt] X.env = (false, eval e X.env) :: starEach [.Tuple es k pt] X.env := by rfl)
    (hs2 : starEach [.Tuple es k pt] X.env = (false, eval (.Tuple es k pt) X.env) :: starEach [] X.env := by rfl) (hpl : (backTo pos (starEach [.Tuple es k pt] X.env)).any (·.1) = false := by rfl) :
    PD g X W (.Call (.Name "isinstance" p) [e, .Tuple es k pt] [] pos) (fun γ => do pure (.bl (← dIsi bs (← m γ)))) := by
  refine ⟨(pe_callB call_isiT hg hm (by decide +kernel) (pa_cons he.pe (pa_cons (pe_tup ht.pa) pa_nil hs2) hs) (by decide) (by decide) hs hpl).imp fun σ H Q ⟨H0, F0, F, γ, n, s, r⟩ => ?_⟩
  refine ⟨H0, F0, F, γ, n, s, (m γ).mono r (fun d n' q F' H' v s' f r => ?_) fun _ _ q => q⟩
  refine ⟨by rw [List.length_map]; exact hl, fun tp hp => ?_⟩
  obtain ⟨a, ea, qa⟩ := isi_run q
  have s2 := s'.post (post_newH (o := .tup (bs.map V.ty)) s'.sub s'.wok hp)
  exact ⟨v, tp, _, _, _, _, rfl, upd_same, cls_tys bs, tyx_of s2 r ea, any_tab (tyName_mem ea) hb, qa F' _ _ s2 f (.bl _)⟩
theorem pd_isi1 {pn : Pos} (he : PDB g X W e m) (hb : n ∈ clss) (hg2 : Gl X x) (hm2 : X.mg x = none) (hv2 : bootBuiltins x = some (.type n)) (hg : Gl X "isinstance") (hm : X.mg "isinstance" = none) (hn : x ≠ "__name__" := by decide) (hd : (x == ("__debug__" : Str)) = false := by decide) (hs : starEach [e, .Name x pn] X.env = (false, eval e X.env) :: starEach [.Name x pn] X.env := by rfl)
    (hs2 : starEach [.Name x pn] X.env = (false, eval (.Name x pn) X.env) :: starEach [] X.env := by rfl) (hpl : (backTo pos (starEach [.Name x pn] X.env)).any (·.1) = false := by rfl) :
    PD g X W (.Call (.Name "isinstance" p) [e, .Name x pn] [] pos) (fun γ => do pure (.bl (← dIsi [n] (← m γ)))) := by
  refine ⟨(pe_callB call_isi hg hm (by decide +kernel) (pa_cons he.pe (pa_cons (pe_bltn (v := .ty n) hg2 hm2 hv2 rfl hn hd) pa_nil hs2) hs) (by decide) (by decide) hs hpl).imp fun σ H Q ⟨H0, F0, F, γ, n', s, r⟩ => ?_⟩
  refine ⟨H0, F0, F, γ, n', s, (m γ).mono r (fun d n' q F' H' v s' f r => ?_) fun _ _ q => q⟩
  obtain ⟨a, ea, qa⟩ := isi_run q
  refine ⟨v, .ty n, .type a, .type n, isSub a n, rfl, .ty n, tyx_of s' r ea, kit_ty (kit_tab a (tyName_mem ea) n hb), ?_⟩
  have q2 := qa F' H' _ s' f (.bl _)
  simpa using q2

/-! ### len, list, tuple -/
def dLen : D → M D
  | .lst ds => pure (.int ds.length)
  | .lstA _ ds => pure (.int ds.length)
  | .tup ds => pure (.int ds.length)
  | .str z => do M.need (z.length ≤ sizeLine); pure (.int z.length)
  | _ => M.stuck
theorem pd_len (he : PDB g X W e m) (hg : Gl X "len") (hm : X.mg "len" = none) (hs : starEach [e] X.env = (false, eval e X.env) :: starEach [] X.env := by rfl) (hpl : (backTo pos (starEach [] X.env)).any (·.1) = false := by rfl) :
    PD g X W (.Call (.Name "len" p) [e] [] pos) (fun γ => do dLen (← m γ)) := by
  refine ⟨(pe_callB call_len hg hm PySem.boot_len (pa_cons he.pe pa_nil hs) (by decide) (by decide) hs hpl).imp fun σ H Q ⟨H0, F0, F, γ, n, s, r⟩ => ?_⟩
  refine ⟨H0, F0, F, γ, n, s, (m γ).mono r (fun d n' q F' H' v s' f r => ?_) fun _ _ q => q⟩
  cases d with
  | lst ds =>
    obtain ⟨a, vs, ev, sq, rl⟩ := s'.list r
    subst ev
    exact ⟨.ref a, vs.length, rfl, .inl ⟨vs, sq, rfl⟩, by rw [rl.length]; exact q F' H' _ s' f (.int _)⟩
  | lstA b ds =>
    cases s'.notOw r (fun _ => nofun) with
    | @lstA _ vs _ e rl => exact ⟨.ref b, vs.length, rfl, .inl ⟨vs, .inl (.inl (s'.le _ _ e)), rfl⟩, by rw [rl.length]; exact q F' H' _ s' f (.int _)⟩
  | tup ds =>
    obtain ⟨a, vs, ev, sq, rl⟩ := s'.tuple r
    subst ev
    exact ⟨.ref a, vs.length, rfl, .inr ⟨vs, sq, rfl⟩, by rw [rl.length]; exact q F' H' _ s' f (.int _)⟩
  | str z =>
    cases s'.notOw r (fun _ => nofun)
    exact ⟨.str z, z.length, rfl, ⟨q.1, rfl⟩, q.2 F' H' _ s' f (.int _)⟩
  | _ => exact q.elim
def dTuple : D → M D
  | .lst ds => pure (.tup ds)
  | .tup ds => pure (.tup ds)
  | _ => M.stuck
def dList : D → M D
  | .lst ds => pure (.lst ds)
  | .tup ds => pure (.lst ds)
  | _ => M.stuck
theorem pd_tuple (he : PDB g X W e m) (hg : Gl X "tuple") (hm : X.mg "tuple" = none) (hs : starEach [e] X.env = (false, eval e X.env) :: starEach [] X.env := by rfl) (hpl : (backTo pos (starEach [] X.env)).any (·.1) = false := by rfl) :
    PD g X W (.Call (.Name "tuple" p) [e] [] pos) (fun γ => do dTuple (← m γ)) := by
  refine ⟨(pe_callTy call_tuple_of hg hm (by decide +kernel) (pa_cons he.pe pa_nil hs) (by decide) (by decide) hs hpl).imp fun σ H Q ⟨H0, F0, F, γ, n, s, r⟩ => ?_⟩
  refine ⟨H0, F0, F, γ, n, s, (m γ).mono r (fun d n' q F' H' v s' f r => ?_) fun _ _ q => q⟩
  cases d with
  | lst ds =>
    obtain ⟨a, vs, ev, sq, rl⟩ := s'.listH r
    subst ev
    refine ⟨a, vs, rfl, .inl ⟨.inl (.inl sq), fun l hl => ?_⟩⟩
    have po := post_new (o := .tup vs) s'.sub s'.wok hl
    exact q _ _ _ (s'.post po) (f.trans po.fle) (.tup (.inl (.inl upd_same)) (rl.fle po.fle))
  | tup ds =>
    cases s'.notOw r (fun _ => nofun) with
    | tup sq rl => exact ⟨_, _, rfl, .inr ⟨SqT.fle s'.le sq, q F' H' _ s' f (.tup sq rl)⟩⟩
  | _ => exact q.elim
theorem pd_list (he : PDB g X W e m) (hg : Gl X "list") (hm : X.mg "list" = none) (hs : starEach [e] X.env = (false, eval e X.env) :: starEach [] X.env := by rfl) (hpl : (backTo pos (starEach [] X.env)).any (·.1) = false := by rfl) :
    PD g X W (.Call (.Name "list" p) [e] [] pos) (fun γ => do dList (← m γ)) := by
  refine ⟨(pe_callTy call_list_of hg hm (by decide +kernel) (pa_cons he.pe pa_nil hs) (by decide) (by decide) hs hpl).imp fun σ H Q ⟨H0, F0, F, γ, n, s, r⟩ => ?_⟩
  refine ⟨H0, F0, F, γ, n, s, (m γ).mono r (fun d n' q F' H' v s' f r => ?_) fun _ _ q => q⟩
  cases d with
  | lst ds =>
    obtain ⟨a, vs, ev, sq, rl⟩ := s'.list r
    subst ev
    refine ⟨_, _, rfl, .inl sq, fun l hl => ?_⟩
    have po := post_new (o := .lst vs) s'.sub s'.wok hl
    exact q _ _ _ (s'.post po) (f.trans po.fle) (.lst upd_same (rl.fle po.fle))
  | tup ds =>
    obtain ⟨a, vs, ev, sq, rl⟩ := s'.tuple r
    subst ev
    refine ⟨_, _, rfl, .inr sq, fun l hl => ?_⟩
    have po := post_new (o := .lst vs) s'.sub s'.wok hl
    exact q _ _ _ (s'.post po) (f.trans po.fle) (.lst upd_same (rl.fle po.fle))
  | _ => exact q.elim
/-! ### all, any, sum -/
def bools : List D → Option (List Bool)
  | [] => some []
  | .bl b :: ds => (bools ds).map (b :: ·)
  | _ => none
def intsD : List D → Option (List Int)
  | [] => some []
  | .int b :: ds => (intsD ds).map (b :: ·)
  | _ => none
theorem rep_bools {g : G} {K : PySem.W.Frag} {F : Hp} : ∀ {vs : List V} {ds : List D} {bs : List Bool}, RepL g K F vs ds → bools ds = some bs → vs = bs.map V.bl
  | _, _, _, .nil, h => by cases h; rfl
  | _, _, bs, .cons (d := d) (ds := ds) r s, h => by
    cases d with
    | bl b =>
      cases r
      have h2 : (bools ds).map (b :: ·) = some bs := h
      cases e : bools ds with
      | none => rw [e] at h2; cases h2
      | some cs =>
        rw [e] at h2
        cases h2
        rw [rep_bools s e]
        rfl
    | _ => cases h
theorem rep_ints {g : G} {K : PySem.W.Frag} {F : Hp} : ∀ {vs : List V} {ds : List D} {bs : List Int}, RepL g K F vs ds → intsD ds = some bs → vs = bs.map V.int
  | _, _, _, .nil, h => by cases h; rfl
  | _, _, bs, .cons (d := d) (ds := ds) r s, h => by
    cases d with
    | int b =>
      cases r
      have h2 : (intsD ds).map (b :: ·) = some bs := h
      cases e : intsD ds with
      | none => rw [e] at h2; cases h2
      | some cs =>
        rw [e] at h2
        cases h2
        rw [rep_ints s e]
        rfl
    | _ => cases h
def dAll : D → M Bool
  | .lst ds => (match bools ds with
    | some bs => pure (bs.all id)
    | none => M.stuck)
  | _ => M.stuck
def dAny : D → M Bool
  | .lst ds => (match bools ds with
    | some bs => pure (bs.any id)
    | none => M.stuck)
  | _ => M.stuck
def dSum : D → M D
  | .lst ds => (match intsD ds with
    | some bs => pure (.int bs.sum)
    | none => M.stuck)
  | _ => M.stuck
theorem pd_all (hc : X.calm = true) (he : PD g X W e m) (hg : Gl X "all") (hm : X.mg "all" = none) (hs : starEach [e] X.env = (false, eval e X.env) :: starEach [] X.env := by rfl) (hpl : (backTo pos (starEach [] X.env)).any (·.1) = false := by rfl) :
    PD g X W (.Call (.Name "all" p) [e] [] pos) (fun γ => do pure (.bl (← dAll (← m γ)))) := by
  refine ⟨(pe_callB (cr_all hc) hg hm (by decide +kernel) (pa_cons he.pe pa_nil hs) (by decide) (by decide) hs hpl).imp fun σ H Q ⟨H0, F0, F, γ, n, s, r⟩ => ?_⟩
  refine ⟨H0, F0, F, γ, n, s, (m γ).mono r (fun d n' q F' H' v s' f r => ?_) fun _ _ q => q⟩
  cases d with
  | lst ds =>
    cases e : bools ds with
    | none =>
      have q2 : (dAll (.lst ds)).run n' _ _ := q
      simp only [dAll, e] at q2
      exact q2.elim
    | some bs =>
      cases r with
      | lst sq rl =>
        have q2 : (dAll (.lst ds)).run n' _ _ := q
        simp only [dAll, e] at q2
        rw [rep_bools rl e] at sq
        exact ⟨_, bs, rfl, .inl (.inl (s'.le _ _ sq)), q2 F' H' _ s' f (.bl _)⟩
  | _ => exact q.elim
theorem pd_any (hc : X.calm = true) (he : PD g X W e m) (hg : Gl X "any") (hm : X.mg "any" = none) (hs : starEach [e] X.env = (false, eval e X.env) :: starEach [] X.env := by rfl) (hpl : (backTo pos (starEach [] X.env)).any (·.1) = false := by rfl) :
    PD g X W (.Call (.Name "any" p) [e] [] pos) (fun γ => do pure (.bl (← dAny (← m γ)))) := by
  refine ⟨(pe_callB (cr_any hc) hg hm (by decide +kernel) (pa_cons he.pe pa_nil hs) (by decide) (by decide) hs hpl).imp fun σ H Q ⟨H0, F0, F, γ, n, s, r⟩ => ?_⟩
  refine ⟨H0, F0, F, γ, n, s, (m γ).mono r (fun d n' q F' H' v s' f r => ?_) fun _ _ q => q⟩
  cases d with
  | lst ds =>
    cases e : bools ds with
    | none =>
      have q2 : (dAny (.lst ds)).run n' _ _ := q
      simp only [dAny, e] at q2
      exact q2.elim
    | some bs =>
      cases r with
      | lst sq rl =>
        have q2 : (dAny (.lst ds)).run n' _ _ := q
        simp only [dAny, e] at q2
        rw [rep_bools rl e] at sq
        exact ⟨_, bs, rfl, .inl (.inl (s'.le _ _ sq)), q2 F' H' _ s' f (.bl _)⟩
  | _ => exact q.elim
theorem pd_sum (hc : X.calm = true) (he : PD g X W e m) (hg : Gl X "sum") (hm : X.mg "sum" = none) (hs : starEach [e] X.env = (false, eval e X.env) :: starEach [] X.env := by rfl) (hpl : (backTo pos (starEach [] X.env)).any (·.1) = false := by rfl) :
    PD g X W (.Call (.Name "sum" p) [e] [] pos) (fun γ => do dSum (← m γ)) := by
  refine ⟨(pe_callB (cr_sum hc) hg hm (by decide +kernel) (pa_cons he.pe pa_nil hs) (by decide) (by decide) hs hpl).imp fun σ H Q ⟨H0, F0, F, γ, n, s, r⟩ => ?_⟩
  refine ⟨H0, F0, F, γ, n, s, (m γ).mono r (fun d n' q F' H' v s' f r => ?_) fun _ _ q => q⟩
  cases d with
  | lst ds =>
    cases e : intsD ds with
    | none =>
      have q2 : (dSum (.lst ds)).run n' _ _ := q
      simp only [dSum, e] at q2
      exact q2.elim
    | some bs =>
      cases r with
      | lst sq rl =>
        have q2 : (dSum (.lst ds)).run n' _ _ := q
        simp only [dSum, e] at q2
        rw [rep_ints rl e] at sq
        exact ⟨_, bs, rfl, .inl (.inl (s'.le _ _ sq)), q2 F' H' _ s' f (.int _)⟩
  | _ => exact q.elim
end

/-! ### subscripts -/
def dIx : D → D → M D
  | .lst ds, .int i => (match atI ds i with
    | some d => pure d
    | none => M.stuck)
  | .tup ds, .int i => (match atI ds i with
    | some d => pure d
    | none => M.stuck)
  | .str z, .int i => (match atI z.cps.toList i with
    | some c => do M.need (z.length ≤ sizeLine); pure (.str ⟨#[c]⟩)
    | none => M.stuck)
  | _, _ => M.stuck
theorem rep_at {g : G} {K : PySem.W.Frag} {F : Hp} {vs : List V} {ds : List D} {i : Int} {d : D} (r : RepL g K F vs ds) (h : atI ds i = some d) : ∃ v, atI vs i = some v ∧ Rep g K F v d := by
  unfold atI at h ⊢
  rw [r.length]
  cases e : ixN ds.length i with
  | none =>
    rw [e] at h
    cases h
  | some j =>
    rw [e] at h
    exact r.get (i := j) h
theorem own_get {g : G} {K : PySem.W.Frag} {H0 F0 F H : Hp} {σ : L2.St} {γ : Env} {n : Nat} (s : StOk g K H0 F0 F H σ γ n) {v : V} {ds : List D} (r : RepB g K F σ γ v (.lst ds)) : ∃ a vs, v = .ref a ∧ SqL K H a vs ∧ RepL g K F vs ds := s.list r
theorem opd_ix {g : G} {K : PySem.W.Frag} : OpD g K (rIx K) dIx := by
  intro H0 F0 F H σ γ n x y d1 d2 Q E s r1 r2 h
  cases d2 with
  | int i =>
    cases s.notOw r2 (fun _ => nofun)
    cases d1 with
    | lst ds =>
      cases e : atI ds i with
      | none =>
        simp only [dIx, e] at h
        exact h.elim
      | some d =>
        simp only [dIx, e] at h
        obtain ⟨a, vs, ev, sq, rl⟩ := s.list r1
        obtain ⟨v, h1, h2⟩ := rep_at rl e
        exact .inl ⟨a, vs, i, v, ev, rfl, sq, h1, h F H v s (FLe.refl F) h2⟩
    | tup ds =>
      cases e : atI ds i with
      | none =>
        simp only [dIx, e] at h
        exact h.elim
      | some d =>
        simp only [dIx, e] at h
        obtain ⟨a, vs, ev, sq, rl⟩ := s.tuple r1
        obtain ⟨v, h1, h2⟩ := rep_at rl e
        exact .inr (.inl ⟨a, vs, i, v, ev, rfl, sq, h1, h F H v s (FLe.refl F) h2⟩)
    | str z =>
      cases e : atI z.cps.toList i with
      | none =>
        simp only [dIx, e] at h
        exact h.elim
      | some c =>
        simp only [dIx, e] at h
        cases s.notOw r1 (fun _ => nofun)
        exact .inr (.inr ⟨z, i, c, rfl, rfl, h.1, e, h.2 F H _ s (FLe.refl F) (.str _)⟩)
    | _ => exact h.elim
  | _ => cases d1 <;> exact h.elim
section
variable {g : G} {X : Cx} {W : WX} {a b e : Expr} {ma mb m : Env → M D} {pos p2 : Pos}
theorem pd_ix (ha : PDB g X W a ma) (hb : PD g X W b mb) (hs : PlainIx b := by exact fun _ _ => rfl) : PD g X W (.Subscript a b pos) (fun γ => do let x ← ma γ; dIx x (← mb γ)) := pd_sub ix_seq opd_ix ha hb hs
/-! ### slices -/
structure POD (g : G) (X : Cx) (W : WX) (e : Option Expr) (m : Env → M (Option Int)) : Prop where
  po : PO X e (fun σ H Q => ∃ H0 F0 F γ n, StOk g X.K H0 F0 F H σ γ n ∧ (m γ).run n (fun o n' => ∀ F' H', StOk g X.K H0 F0 F' H' σ γ n' → FLe F F' → Q o H') (wishX g X.K X.mg W H0 F0 σ γ))
theorem _root_.L2.PO.imp {X : Cx} {e : Option Expr} {t t' : TO} (h : PO X e t) (i : ∀ σ H Q, t' σ H Q → t σ H Q) : PO X e t' := ⟨fun pins s σ H Q I q => h.run pins s σ H Q I (i _ _ _ q)⟩
theorem pod_none : POD g X W none (fun _ => pure none) := ⟨po_none.imp fun σ H Q ⟨H0, F0, F, γ, n, s, r⟩ => r F H s (FLe.refl F)⟩
def asInt : D → M Int
  | .int i => pure i
  | _ => M.stuck
theorem pod_some (h : PD g X W e m) : POD g X W (some e) (fun γ => do pure (some (← asInt (← m γ)))) := by
  refine ⟨(po_some h.pe).imp fun σ H Q ⟨H0, F0, F, γ, n, s, r⟩ => ?_⟩
  refine ⟨H0, F0, F, γ, n, s, (m γ).mono r (fun d n' q F' H' v s' f r => ?_) fun _ _ q => q⟩
  cases d with
  | int i =>
    cases r
    exact ⟨i, rfl, q F' H' s' f⟩
  | _ => exact q.elim
/-- the items of xs[lo:hi] -/
def cutD {α : Type} (xs : List α) (lo hi : Option Int) : List α := (xs.drop (HT.sIx xs.length 0 lo)).take (HT.sIx xs.length xs.length hi - HT.sIx xs.length 0 lo)
theorem rep_cut {g : G} {K : PySem.W.Frag} {F : Hp} {vs : List V} {ds : List D} (r : RepL g K F vs ds) (lo hi : Option Int) : RepL g K F (cutV vs lo hi) (cutD ds lo hi) := by
  unfold cutV cutD
  rw [r.length]
  exact (r.drop _).take _
def dSlice (d : D) (lo hi : Option Int) : M D := match d with
  | .lst ds => pure (.lst (cutD ds lo hi))
  | .tup ds => pure (.tup (cutD ds lo hi))
  | .str z => do M.need (z.length ≤ sizeLine); pure (.str (cutS z lo hi))
  | _ => M.stuck
end
end DL

set_option Elab.async false
set_option linter.all false
set_option maxRecDepth 100000
set_option maxHeartbeats 4000000
/-! DI: slices, +, -, *, in, not in, chains of comparisons; own lists. -/
namespace DL
open PySem PySem.Spec PyProof.Rows L2

/-! ### slices -/
section
variable {g : G} {X : Cx} {W : WX} {a b e : Expr} {lo hi : Option Expr} {ma mb m : Env → M D} {ml mh : Env → M (Option Int)} {pos p2 : Pos}
def rSlAll (K : PySem.W.Frag) : V → Option Int → Option Int → Hp → VK → Prop := fun x lo hi H Q => rSlL K x lo hi H Q ∨ rSlA K x lo hi H Q ∨ rSlS x lo hi H Q
theorem sl_all : SlR X (rSlAll X.K) := SlR.or sl_list (SlR.or sl_tupA sl_str)
theorem cut_whole {α : Type} {xs : List α} {lo hi : Option Int} (h : HT.sIx xs.length 0 lo = 0 ∧ HT.sIx xs.length xs.length hi = xs.length) : cutD xs lo hi = xs := by
  unfold cutD
  rw [h.1, h.2]
  simp
theorem slice_at {K : PySem.W.Frag} {H0 F0 F H : Hp} {σ : L2.St} {γ : Env} {n : Nat} (s : StOk g K H0 F0 F H σ γ n) {v : V} {d : D} {l u : Option Int} {Q : VK} {E : Exc → Nat → Prop} (r : RepB g K F σ γ v d)
    (h : (dSlice d l u).run n (fun d n' => ∀ F' H' v, StOk g K H0 F0 F' H' σ γ n' → FLe F F' → Rep g K F' v d → Q v H') E) : rSlAll K v l u H Q := by
  cases d with
  | lst ds =>
    obtain ⟨p, vs, ev, sq, rl⟩ := s.list r
    refine .inl ⟨p, vs, ev, sq, fun q hq => ?_⟩
    have po := post_new (o := .lst (cutV vs l u)) s.sub s.wok hq
    exact h _ _ _ (s.post po) po.fle (.lst upd_same (rep_cut (rl.fle po.fle) l u))
  | tup ds =>
    obtain ⟨p, vs, ev, sq, rl⟩ := s.tuple r
    refine .inr (.inl ⟨p, vs, ev, sq, fun hw => ?_, fun _ q hq => ?_⟩)
    · have e : cutD ds l u = ds := cut_whole (by rw [← rl.length]; exact hw)
      have h2 : ∀ F' H' v, StOk g K H0 F0 F' H' σ γ n → FLe F F' → Rep g K F' v (.tup (cutD ds l u)) → Q v H' := h
      rw [e] at h2
      have rt : Rep g K F v (.tup ds) := s.notOw r (fun _ => nofun)
      rw [ev] at rt
      exact h2 F H _ s (FLe.refl F) rt
    · have po := post_new (o := .tup (cutV vs l u)) s.sub s.wok hq
      exact h _ _ _ (s.post po) po.fle (.tup (.inl (.inl upd_same)) (rep_cut (rl.fle po.fle) l u))
  | str z =>
    cases s.notOw r (fun _ => nofun)
    exact .inr (.inr ⟨z, rfl, h.1, h.2 F H _ s (FLe.refl F) (.str _)⟩)
  | _ => exact h.elim
theorem pd_slice (he : PDB g X W e m) (hl : POD g X W lo ml) (hh : POD g X W hi mh) : PD g X W (.Subscript e (.Slice lo hi none p2) pos) (fun γ => do let d ← m γ; let l ← ml γ; dSlice d l (← mh γ)) := by
  refine ⟨(pe_slice sl_all he.pe hl.po hh.po).imp fun σ H Q ⟨H0, F0, F, γ, n, s, r⟩ => ?_⟩
  refine ⟨H0, F0, F, γ, n, s, (m γ).mono r (fun d n' q F' H' v s' f r => ?_) fun _ _ q => q⟩
  refine ⟨H0, F0, F', γ, n', s', (ml γ).mono q (fun l n2 q F2 H2 s2 f2 => ?_) fun _ _ q => q⟩
  refine ⟨H0, F0, F2, γ, n2, s2, (mh γ).mono q (fun u n3 q F3 H3 s3 f3 => ?_) fun _ _ q => q⟩
  refine slice_at s3 ((r.fle f2).fle f3) ?_ (E := wishX g X.K X.mg W H0 F0 σ γ)
  exact (dSlice d l u).mono q (fun d4 n4 q F4 H4 v4 s4 f4 r4 => q F4 H4 v4 s4 (f.trans (f2.trans (f3.trans f4))) r4) fun _ _ q => q
end

/-! ### arithmetic -/
def dAdd : D → D → M D
  | .int i, .int j => pure (.int (i + j))
  | .str x, .str y => do M.need (x.length + y.length ≤ sizeLine); pure (.str (x ++ y))
  | .lst xs, .lst ys => do M.need (xs.length + ys.length ≤ sizeLine); pure (.lst (xs ++ ys))
  | .tup xs, .tup ys => do M.need (xs.length + ys.length ≤ sizeLine); pure (.tup (xs ++ ys))
  | _, _ => M.stuck
def dSub : D → D → M D
  | .int i, .int j => pure (.int (i - j))
  | _, _ => M.stuck
def dMul : D → D → M D
  | .int i, .int j => do M.need (CMul i j); pure (.int (i * j))
  | .lst xs, .int k => do M.need (-(2 ^ 63) ≤ k ∧ k < 2 ^ 63 ∧ xs.length * k.toNat ≤ sizeLine); pure (.lst (List.replicate k.toNat xs).flatten)
  | _, _ => M.stuck
def dDiv : D → D → M D
  | .int i, .int j => do M.need (CDiv i j); pure (.int (i / j))
  | _, _ => M.stuck
def dMod : D → D → M D
  | .int i, .int j => do M.need (0 < j); pure (.int (i % j))
  | _, _ => M.stuck
theorem RepL.rep {g : G} {K : PySem.W.Frag} {F : Hp} {vs : List V} {ds : List D} (r : RepL g K F vs ds) : ∀ k : Nat, RepL g K F (List.replicate k vs).flatten (List.replicate k ds).flatten
  | 0 => .nil
  | k + 1 => by
    rw [List.replicate_succ, List.replicate_succ, List.flatten_cons, List.flatten_cons]
    exact r.append (r.rep k)
section
variable {g : G} {K : PySem.W.Frag}
def rAddS : R2 := fun x y H Q => ∃ i j, x = .str i ∧ y = .str j ∧ i.length + j.length ≤ sizeLine ∧ Q (.str (i ++ j)) H
def rAddAll (K : PySem.W.Frag) : R2 := fun x y H Q => rI0 (fun i j => .int (i + j)) x y H Q ∨ rAddS x y H Q ∨ rCatA K x y H Q ∨ rCat x y H Q
theorem op_addAll {X : Cx} : OpR X (binaryOp .Add) (rAddAll X.K) := OpR.or op_add (OpR.or op_add_str (OpR.or op_catA op_cat))
theorem opd_add : OpD g K (rAddAll K) dAdd := by
  intro H0 F0 F H σ γ n x y d1 d2 Q E s r1 r2 h
  cases d1 with
  | int i =>
    cases d2 with
    | int j =>
      cases s.notOw r1 (fun _ => nofun)
      cases s.notOw r2 (fun _ => nofun)
      exact .inl ⟨i, j, rfl, rfl, h F H _ s (FLe.refl F) (.int _)⟩
    | _ => exact h.elim
  | str i =>
    cases d2 with
    | str j =>
      cases s.notOw r1 (fun _ => nofun)
      cases s.notOw r2 (fun _ => nofun)
      exact .inr (.inl ⟨i, j, rfl, rfl, h.1, h.2 F H _ s (FLe.refl F) (.str _)⟩)
    | _ => exact h.elim
  | tup xs =>
    cases d2 with
    | tup ys =>
      obtain ⟨hz, h⟩ := h
      have t1 := s.notOw r1 (fun _ => nofun)
      have t2 := s.notOw r2 (fun _ => nofun)
      obtain ⟨a, vs, ev, sq, rl⟩ := s.tuple r1
      obtain ⟨b, ws, ew, sq2, rl2⟩ := s.tuple r2
      subst ev ew
      refine .inr (.inr (.inl ⟨a, b, vs, ws, rfl, rfl, sq, sq2, by rw [rl.length, rl2.length]; exact hz, fun e => ?_, fun _ e => ?_, fun _ _ p hp => ?_⟩))
      · subst e
        cases rl
        exact h F H _ s (FLe.refl F) t2
      · subst e
        cases rl2
        have h2 : ∀ F' H' v, StOk g K H0 F0 F' H' σ γ n → FLe F F' → Rep g K F' v (.tup (xs ++ [])) → Q v H' := h
        rw [List.append_nil] at h2
        exact h2 F H _ s (FLe.refl F) t1
      · have po := post_new (o := .tup (vs ++ ws)) s.sub s.wok hp
        exact h _ _ _ (s.post po) po.fle (.tup (.inl (.inl upd_same)) ((rl.append rl2).fle po.fle))
    | _ => exact h.elim
  | lst xs =>
    cases d2 with
    | lst ys =>
      obtain ⟨hz, h⟩ := h
      obtain ⟨a, vs, ev, sq, rl⟩ := s.listH r1
      obtain ⟨b, ws, ew, sq2, rl2⟩ := s.listH r2
      subst ev ew
      refine .inr (.inr (.inr ⟨a, b, vs, ws, rfl, rfl, sq, sq2, by rw [rl.length, rl2.length]; exact hz, fun p hp => ?_⟩))
      have po := post_new (o := .lst (vs ++ ws)) s.sub s.wok hp
      exact h _ _ _ (s.post po) po.fle (.lst upd_same ((rl.append rl2).fle po.fle))
    | _ => exact h.elim
  | _ => exact h.elim
theorem opd_ints {C : Int → Int → Prop} {f : Int → Int → Int} {df : D → D → M D} (h1 : ∀ i j n Q E, (df (.int i) (.int j)).run n Q E → C i j ∧ Q (.int (f i j)) n) (h2 : ∀ x y n Q E, (∀ i j, ¬ (x = .int i ∧ y = .int j)) → ¬ (df x y).run n Q E) :
    OpD g K (rI C fun i j => .int (f i j)) df := by
  intro H0 F0 F H σ γ n x y d1 d2 Q E s r1 r2 h
  by_cases e : ∃ i j, d1 = .int i ∧ d2 = .int j
  · obtain ⟨i, j, rfl, rfl⟩ := e
    cases s.notOw r1 (fun _ => nofun)
    cases s.notOw r2 (fun _ => nofun)
    obtain ⟨q1, q2⟩ := h1 _ _ _ _ _ h
    exact ⟨i, j, rfl, rfl, q1, q2 F H _ s (FLe.refl F) (.int _)⟩
  · exact absurd h (h2 _ _ _ _ _ fun i j z => e ⟨i, j, z⟩)
theorem opd_ints0 {f : Int → Int → Int} {df : D → D → M D} (h1 : ∀ i j n Q E, (df (.int i) (.int j)).run n Q E → Q (.int (f i j)) n) (h2 : ∀ x y n Q E, (∀ i j, ¬ (x = .int i ∧ y = .int j)) → ¬ (df x y).run n Q E) :
    OpD g K (rI0 fun i j => .int (f i j)) df := by
  intro H0 F0 F H σ γ n x y d1 d2 Q E s r1 r2 h
  by_cases e : ∃ i j, d1 = .int i ∧ d2 = .int j
  · obtain ⟨i, j, rfl, rfl⟩ := e
    cases s.notOw r1 (fun _ => nofun)
    cases s.notOw r2 (fun _ => nofun)
    exact ⟨i, j, rfl, rfl, h1 _ _ _ _ _ h F H _ s (FLe.refl F) (.int _)⟩
  · exact absurd h (h2 _ _ _ _ _ fun i j z => e ⟨i, j, z⟩)
theorem sub_no : ∀ (x y : D) (n : Nat) (Q : D → Nat → Prop) (E : Exc → Nat → Prop), (∀ i j, ¬ (x = .int i ∧ y = .int j)) → ¬ (dSub x y).run n Q E := by
  intro x y n Q E h q
  cases x <;> first | exact q | (cases y <;> first | exact q | exact h _ _ ⟨rfl, rfl⟩)
theorem div_no : ∀ (x y : D) (n : Nat) (Q : D → Nat → Prop) (E : Exc → Nat → Prop), (∀ i j, ¬ (x = .int i ∧ y = .int j)) → ¬ (dDiv x y).run n Q E := by
  intro x y n Q E h q
  cases x <;> first | exact q | (cases y <;> first | exact q | exact h _ _ ⟨rfl, rfl⟩)
theorem mod_no : ∀ (x y : D) (n : Nat) (Q : D → Nat → Prop) (E : Exc → Nat → Prop), (∀ i j, ¬ (x = .int i ∧ y = .int j)) → ¬ (dMod x y).run n Q E := by
  intro x y n Q E h q
  cases x <;> first | exact q | (cases y <;> first | exact q | exact h _ _ ⟨rfl, rfl⟩)
theorem opd_subI : OpD g K (rI0 fun i j => .int (i - j)) dSub := opd_ints0 (fun _ _ _ _ _ h => h) sub_no
theorem opd_divI : OpD g K (rI CDiv fun i j => .int (i / j)) dDiv := opd_ints (fun _ _ _ _ _ h => h) div_no
theorem opd_modI : OpD g K (rI (fun _ j => 0 < j) fun i j => .int (i % j)) dMod := opd_ints (fun _ _ _ _ _ h => h) mod_no
def rMulAll : R2 := fun x y H Q => rI CMul (fun i j => .int (i * j)) x y H Q ∨ rRep x y H Q
theorem op_mulAll {X : Cx} : OpR X (binaryOp .Mult) rMulAll := OpR.or op_mul op_rep
theorem opd_mulA : OpD g K rMulAll dMul := by
  intro H0 F0 F H σ γ n x y d1 d2 Q E s r1 r2 h
  cases d1 with
  | int i =>
    cases d2 with
    | int j =>
      cases s.notOw r1 (fun _ => nofun)
      cases s.notOw r2 (fun _ => nofun)
      exact .inl ⟨i, j, rfl, rfl, h.1, h.2 F H _ s (FLe.refl F) (.int _)⟩
    | _ => exact h.elim
  | lst xs =>
    cases d2 with
    | int k =>
      obtain ⟨⟨h1, h2, hz⟩, h⟩ := h
      cases s.notOw r2 (fun _ => nofun)
      obtain ⟨a, vs, ev, sq, rl⟩ := s.listH r1
      subst ev
      refine .inr ⟨a, k, vs, rfl, rfl, sq, h1, h2, by rw [rl.length]; exact hz, fun p hp => ?_⟩
      have po := post_new (o := .lst (List.replicate k.toNat vs).flatten) s.sub s.wok hp
      exact h _ _ _ (s.post po) po.fle (.lst upd_same ((rl.rep _).fle po.fle))
    | _ => exact h.elim
  | _ => exact h.elim
end
section
variable {g : G} {X : Cx} {W : WX} {a b c e : Expr} {ma mb mc m : Env → M D} {pos p2 : Pos}
theorem pd_add (ha : PDB g X W a ma) (hb : PDB g X W b mb) : PD g X W (.BinOp a .Add b pos) (fun γ => do let x ← ma γ; dAdd x (← mb γ)) := pd_bin op_addAll opd_add ha hb
theorem pd_minus (ha : PDB g X W a ma) (hb : PDB g X W b mb) : PD g X W (.BinOp a .Sub b pos) (fun γ => do let x ← ma γ; dSub x (← mb γ)) := pd_bin op_sub opd_subI ha hb
theorem pd_mul (ha : PDB g X W a ma) (hb : PDB g X W b mb) : PD g X W (.BinOp a .Mult b pos) (fun γ => do let x ← ma γ; dMul x (← mb γ)) := pd_bin op_mulAll opd_mulA ha hb
theorem pd_div (ha : PDB g X W a ma) (hb : PDB g X W b mb) : PD g X W (.BinOp a .FloorDiv b pos) (fun γ => do let x ← ma γ; dDiv x (← mb γ)) := pd_bin op_fdiv opd_divI ha hb
theorem pd_mod (ha : PDB g X W a ma) (hb : PDB g X W b mb) : PD g X W (.BinOp a .Mod b pos) (fun γ => do let x ← ma γ; dMod x (← mb γ)) := pd_bin op_mod opd_modI ha hb
/-- -1 -/
theorem pd_neg1 {i : Int} {j pos'} : PD g X W (.UnaryOp .USub (.Constant (.int i) j pos') pos) (fun _ => pure (.int (-i))) := by
  refine ⟨(pe_un un_neg (pe_int (X := X))).imp fun σ H Q ⟨H0, F0, F, γ, n, s, r⟩ => ?_⟩
  exact ⟨i, rfl, r F H _ s (FLe.refl F) (.int _)⟩

/-! ### in, not in lists and tuples -/
theorem pd_inL (hu : X.A.in1.units + 64 < cLine) (ha : PDB g X W a ma) (hb : PDB g X W b mb) (hm : behindInMarks .In b = false) : PD g X W (.Compare a [.In] [b] pos) (fun γ => do let x ← ma γ; let y ← mb γ; let k ← dInL x y; pure (.bl k)) := by
  have h := pd_cmp (pos := pos) (op_inP hu) (opd_in false) ha hb hm
  simpa using h
theorem pd_notInL (hu : X.A.in1.units + 64 < cLine) (ha : PDB g X W a ma) (hb : PDB g X W b mb) (hm : behindInMarks .NotIn b = false) : PD g X W (.Compare a [.NotIn] [b] pos) (fun γ => do let x ← ma γ; let y ← mb γ; let k ← dInL x y; pure (.bl !k)) := by
  have h := pd_cmp (pos := pos) (op_notInP hu) (opd_in true) ha hb hm
  simpa using h
theorem opd_inB {K : PySem.W.Frag} (neg : Bool) : OpD g K (rInP K neg) (fun x y => (do pure (.bl (← (do let k ← dInL x y; pure (neg ^^ k)))))) := by
  have h := opd_in (g := g) (K := K) neg
  simpa using h
theorem ptd_inL (hu : X.A.in1.units + 64 < cLine) (ha : PDB g X W a ma) (hb : PDB g X W b mb) (hm : behindInMarks .In b = false) : PTD g X W (.Compare a [.In] [b] pos) (fun γ => do let x ← ma γ; dInL x (← mb γ)) := by
  have h := ptd_cmp (pos := pos) (op_inP hu) (opd_inB false) ha hb hm
  simpa using h
theorem ptd_notInL (hu : X.A.in1.units + 64 < cLine) (ha : PDB g X W a ma) (hb : PDB g X W b mb) (hm : behindInMarks .NotIn b = false) : PTD g X W (.Compare a [.NotIn] [b] pos) (fun γ => do let x ← ma γ; let y ← mb γ; let k ← dInL x y; pure !k) := by
  have h := ptd_cmp (pos := pos) (op_notInP hu) (opd_inB true) ha hb hm
  simpa using h
end
end DL

set_option Elab.async false
set_option linter.all false
set_option maxRecDepth 100000
set_option maxHeartbeats 4000000
/-! DJ: own lists: new ones, append, extend. -/
namespace DL
open PySem PySem.Spec PyProof.Rows L2

def tFD (g : G) (K : PySem.W.Frag) (mg : Str → Option Value) (W : WX) (m : Env → M (List D)) : TE := fun σ H Q =>
  ∃ H0 F0 F γ n, StOk g K H0 F0 F H σ γ n ∧ (m γ).run n (fun ds n' => ∀ F' H' p vs, StOk g K H0 F0 F' H' σ γ n' → FLe F F' → RepL g K F' vs ds → H' p = none → Q (.ref p) (upd H' p (.lst vs))) (wishX g K mg W H0 F0 σ γ)
/-- an expression that gives a new list -/
structure PFD (g : G) (X : Cx) (W : WX) (e : Expr) (m : Env → M (List D)) : Prop where
  pe : PE X e (tFD g X.K X.mg W m)
section
variable {g : G} {X : Cx} {W : WX} {a b e : Expr} {es : List Expr} {ma mb m : Env → M D} {ml : Env → M (List D)} {pos p2 : Pos}
theorem PFD.pd (h : PFD g X W e ml) : PD g X W e (fun γ => do pure (.lst (← ml γ))) := by
  refine ⟨h.pe.imp fun σ H Q ⟨H0, F0, F, γ, n, s, r⟩ => ?_⟩
  refine ⟨H0, F0, F, γ, n, s, (ml γ).mono r (fun ds n' q F' H' p vs s' f rl hp => ?_) fun _ _ q => q⟩
  have po := post_new (o := .lst vs) s'.sub s'.wok hp
  exact q _ _ _ (s'.post po) (f.trans po.fle) (.lst upd_same (rl.fle po.fle))
theorem pfd_lst (h : PAD g X W es ml) : PFD g X W (.List es pos) (fun γ => do let ds ← ml γ; M.need (ds.length ≤ sizeLine); pure ds) := by
  refine ⟨(pe_lst h.pa).imp fun σ H Q ⟨H0, F0, F, γ, n, s, r⟩ => ?_⟩
  refine ⟨H0, F0, F, γ, n, s, (ml γ).mono r (fun ds n' q F' H' vs s' f r => ?_) fun _ _ q => q⟩
  exact ⟨by rw [r.length]; exact q.1, fun p hp => q.2 F' H' p vs s' f r hp⟩
def asList : D → M (List D)
  | .lst ds => pure ds
  | .tup ds => pure ds
  | _ => M.stuck
theorem pfd_list {p : Pos} (he : PDB g X W e m) (hg : Gl X "list") (hm : X.mg "list" = none) (hs : starEach [e] X.env = (false, eval e X.env) :: starEach [] X.env := by rfl) (hpl : (backTo pos (starEach [] X.env)).any (·.1) = false := by rfl) :
    PFD g X W (.Call (.Name "list" p) [e] [] pos) (fun γ => do asList (← m γ)) := by
  refine ⟨(pe_callTy call_list_of hg hm (by decide +kernel) (pa_cons he.pe pa_nil hs) (by decide) (by decide) hs hpl).imp fun σ H Q ⟨H0, F0, F, γ, n, s, r⟩ => ?_⟩
  refine ⟨H0, F0, F, γ, n, s, (m γ).mono r (fun d n' q F' H' v s' f r => ?_) fun _ _ q => q⟩
  cases d with
  | lst ds =>
    obtain ⟨a, vs, ev, sq, rl⟩ := s'.list r
    subst ev
    exact ⟨_, _, rfl, .inl sq, fun l hl => q F' H' l vs s' f rl hl⟩
  | tup ds =>
    obtain ⟨a, vs, ev, sq, rl⟩ := s'.tuple r
    subst ev
    exact ⟨_, _, rfl, .inr sq, fun l hl => q F' H' l vs s' f rl hl⟩
  | _ => exact q.elim
/-- the list's own slot -/
def ownM (i : Nat) (γ : Env) : M (List D) := match γ[i]? with
  | some (some (.ow (.lst ds))) => pure ds
  | _ => M.stuck
def setOwM (i : Nat) (ds : List D) (γ : Env) : Env := γ.set i (some (.ow (.lst ds)))
theorem ownM_run {i : Nat} {γ : Env} {n : Nat} {Q : List D → Nat → Prop} {E : Exc → Nat → Prop} (h : (ownM i γ).run n Q E) : ∃ ds, γ[i]? = some (some (.ow (.lst ds))) ∧ Q ds n := by
  unfold ownM at h
  split at h
  · rename_i ds e
    exact ⟨ds, e, h⟩
  · exact h.elim
/-- x = a new list, x's own -/
theorem psd_setOw {i : Nat} {x : Str} {pos' : Pos} (hN : X.N.Nodup) (hi : X.N[i]? = some x) (hx : Loc X.env.scope x) (he : PFD g X W e ml) (hs : swapsWith e (some (.Name x pos')) pos.line X.env = pure false := by rfl) (hf : X.fn x = true ∨ X.env.scope.names.lookup x = some .local := by first | exact .inl rfl | exact .inr rfl | assumption) :
    PSD g X W (.Assign [.Name x pos'] e pos) (fun γ => do pure (.nx, setOwM i (← ml γ) γ)) := by
  refine ⟨(ps_set hN hi hx he.pe hs hf).imp fun D σ H ⟨H0, F0, F, γ, n, s, r⟩ => ?_⟩
  exact ⟨H0, F0, F, γ, n, s, (ml γ).mono r (fun ds n' q F' H' p vs s' f rl hp => q F' _ _ (s'.setOw i hp rl)) fun _ _ q => wish_of q⟩
section
variable {i : Nat} {x : Str} {p ap cp : Pos}
theorem own_at {K : PySem.W.Frag} {H0 F0 F H : Hp} {σ : L2.St} {γ : Env} {n : Nat} {ds : List D} (s : StOk g K H0 F0 F H σ γ n) (e : γ[i]? = some (some (.ow (.lst ds)))) : ∃ a vs, σ[i]? = some (some (.ref a)) ∧ H a = some (.lst vs) ∧ RepL g K F vs ds := by
  obtain ⟨v, h1, a, ev, vs, q1, _, _, _, q5⟩ := s.slots i _ e
  subst ev
  exact ⟨a, vs, h1, q1, q5⟩
theorem psd_append (he : PD g X W e m) (hN : X.N[i]? = some x := by rfl) (hv : Vis X.env.scope x := by first | exact Or.inl rfl | exact Or.inr (Or.inl rfl) | exact Or.inr (Or.inr rfl)) (hd : (x == ("__debug__" : Str)) = false := by decide) (hcd : (x == ("__classdict__" : Str)) = false := by decide)
    (hbase : attributeBase (.Name x p) "append" X.env (eval (.Name x p) X.env) = eval (.Name x p) X.env := by rfl)
    (hfew : ((backTo cp (starEach [e] X.env)).all (fun x => !x.1) && (backToKw cp (keywordEach [] X.env)).all (fun x => x.1.isSome) && decide ([e].length + ([] : List Keyword).length + (if ([] : List Keyword).isEmpty then 0 else 1) < 30)) = true := by rfl)
    (hline : (ap.endLine == cp.line) = true := by rfl) (hst : starEach [e] X.env = (false, eval e X.env) :: starEach [] X.env := by rfl) (hpl : (backTo cp (starEach [] X.env)).any (·.1) = false := by rfl)
    (hs : swapsWith (.Call (.Attribute (.Name x p) "append" ap) [e] [] cp) none pos.line X.env = pure false := by rfl) :
    PSD g X W (.Expr (.Call (.Attribute (.Name x p) "append" ap) [e] [] cp) pos) (fun γ => do let ds ← ownM i γ; let d ← m γ; M.need (ds.length < sizeLine); pure (.nx, setOwM i (ds ++ [d]) γ)) := by
  refine ⟨(ps_expr (pe_bm PySem.F.plainAttrs_list PySem.F.slot_list_append PySem.F.type_list_append mt_append (pe_var hN hv hd hcd) (pa_cons he.pe pa_nil hst) hbase hfew hline hst hpl) hs).imp fun D σ H ⟨H0, F0, F, γ, n, s, r⟩ => ?_⟩
  obtain ⟨ds, e0, r⟩ := ownM_run r
  obtain ⟨a, vs, h1, h2, h3⟩ := own_at s e0
  refine ⟨.ref a, h1, .inl ⟨rfl, vs, .inl (.inl h2)⟩, H0, F0, F, γ, n, s, (m γ).mono r (fun d n' q F' H' v s' f rd => ?_) fun _ _ q => wish_of q⟩
  obtain ⟨a', vs', k1, k2, k3⟩ := own_at s' e0
  rw [h1] at k1
  cases k1
  exact ⟨a, vs', v, rfl, rfl, k2, by rw [k3.length]; exact q.1, q.2 F' _ σ (s'.mut e0 h1 (k3.append (.cons rd .nil)))⟩
theorem psd_extend (he : PDB g X W e m) (hN : X.N[i]? = some x := by rfl) (hv : Vis X.env.scope x := by first | exact Or.inl rfl | exact Or.inr (Or.inl rfl) | exact Or.inr (Or.inr rfl)) (hd : (x == ("__debug__" : Str)) = false := by decide) (hcd : (x == ("__classdict__" : Str)) = false := by decide)
    (hbase : attributeBase (.Name x p) "extend" X.env (eval (.Name x p) X.env) = eval (.Name x p) X.env := by rfl)
    (hfew : ((backTo cp (starEach [e] X.env)).all (fun x => !x.1) && (backToKw cp (keywordEach [] X.env)).all (fun x => x.1.isSome) && decide ([e].length + ([] : List Keyword).length + (if ([] : List Keyword).isEmpty then 0 else 1) < 30)) = true := by rfl)
    (hline : (ap.endLine == cp.line) = true := by rfl) (hst : starEach [e] X.env = (false, eval e X.env) :: starEach [] X.env := by rfl) (hpl : (backTo cp (starEach [] X.env)).any (·.1) = false := by rfl)
    (hs : swapsWith (.Call (.Attribute (.Name x p) "extend" ap) [e] [] cp) none pos.line X.env = pure false := by rfl) :
    PSD g X W (.Expr (.Call (.Attribute (.Name x p) "extend" ap) [e] [] cp) pos) (fun γ => do let ds ← ownM i γ; match (← m γ) with | .lst es => (do M.need (ds.length + es.length ≤ sizeLine); pure (.nx, setOwM i (ds ++ es) γ)) | _ => M.stuck) := by
  refine ⟨(ps_expr (pe_bm PySem.F.plainAttrs_list PySem.F.slot_list_extend PySem.F.type_list_extend mt_extend (pe_var hN hv hd hcd) (pa_cons he.pe pa_nil hst) hbase hfew hline hst hpl) hs).imp fun D σ H ⟨H0, F0, F, γ, n, s, r⟩ => ?_⟩
  obtain ⟨ds, e0, r⟩ := ownM_run r
  obtain ⟨a, vs, h1, h2, h3⟩ := own_at s e0
  refine ⟨.ref a, h1, .inl ⟨rfl, vs, .inl (.inl h2)⟩, H0, F0, F, γ, n, s, (m γ).mono r (fun d n' q F' H' v s' f rd => ?_) fun _ _ q => wish_of q⟩
  cases d with
  | lst es =>
    obtain ⟨a', vs', k1, k2, k3⟩ := own_at s' e0
    rw [h1] at k1
    cases k1
    obtain ⟨b, ws, ev, k4, k5⟩ := s'.listH rd
    subst ev
    exact ⟨a, b, vs', ws, rfl, rfl, k2, k4, by rw [k3.length, k5.length]; exact q.1, q.2 F' _ σ (s'.mut e0 h1 (k3.append k5))⟩
  | _ => exact q.elim
end
end
end DL

set_option Elab.async false
set_option linter.all false
set_option maxRecDepth 100000
set_option maxHeartbeats 4000000
/-! DK: sorted. -/
namespace DL
open PySem PySem.Spec PyProof.Rows L2

def pyD (d : D) : PyData := (toPy d).getD .none
def leD : D → D → Bool := PySem.W.dataLe false pyD
/-- what sorted asks of the items -/
def sortOk (ds : List D) : Prop := (∀ d ∈ ds, (toPy d).isSome = true ∧ (pyD d).depth ≤ 60) ∧ PySem.W.AllAlike (ds.map pyD) ∧ PySem.W.Sortable (ds.map pyD)
def dSort : D → M (List D)
  | .lst ds => do M.need (sortOk ds); pure (ds.mergeSort leD)
  | _ => M.stuck
section
variable {g : G} {K : PySem.W.Frag} {F H : Hp}
def zipDV (ds : List D) (vs : List V) : List (D × V) := ds.zip vs
theorem zip_each : ∀ {vs : List V} {us : List Value} {ds : List D}, Vals vs us → RepL g K F vs ds → PySem.W.EachIs (fun (u : Value) (p : D × V) => RelV p.2 u) us (ds.zip vs)
  | _, _, _, .nil, .nil => .nil
  | _, _, _, .cons r rs, .cons _ qs => .cons r (zip_each rs qs)
theorem zip_mem : ∀ {vs : List V} {ds : List D}, RepL g K F vs ds → ∀ p ∈ ds.zip vs, Rep g K F p.2 p.1 ∧ p.1 ∈ ds
  | _, _, .nil, p, h => by simp at h
  | _, _, .cons r rs, p, h => by
    rw [List.zip_cons_cons] at h
    rcases List.mem_cons.mp h with rfl | h
    · exact ⟨r, List.mem_cons_self ..⟩
    · obtain ⟨h1, h2⟩ := zip_mem rs p h
      exact ⟨h1, List.mem_cons_of_mem _ h2⟩
theorem rep_unzip : ∀ {ps : List (D × V)}, (∀ p ∈ ps, Rep g K F p.2 p.1) → RepL g K F (ps.map (·.2)) (ps.map (·.1))
  | [], _ => .nil
  | p :: ps, h => .cons (h p (List.mem_cons_self ..)) (rep_unzip fun q hq => h q (List.mem_cons_of_mem _ hq))
theorem out_vals : ∀ {out : List Value} {ps : List (D × V)}, PySem.W.EachIs (fun (u : Value) (p : D × V) => RelV p.2 u) out ps → Vals (ps.map (·.2)) out
  | _, _, .nil => .nil
  | _, _, .cons r rs => .cons r (out_vals rs)
theorem zip_fst {vs : List V} {ds : List D} (r : RepL g K F vs ds) : (ds.zip vs).map (·.1) = ds := List.map_fst_zip (by rw [r.length]; exact Nat.le_refl _)
theorem sort_fst (ps : List (D × V)) : (ps.mergeSort (PySem.W.dataLe false fun p : D × V => pyD p.1)).map (·.1) = (ps.map (·.1)).mergeSort leD :=
  List.map_mergeSort (fun a _ b _ => rfl)
end
section
variable {g : G} {X : Cx}
def rSort (g : G) (K : PySem.W.Frag) : List V → Hp → VK → Prop := fun xs H Q => ∃ a vs ds F, xs = [.ref a] ∧ FLe F H ∧ SqL K H a vs ∧ RepL g K F vs ds ∧ sortOk ds ∧ ∀ l ws, H l = none → RepL g K F ws (ds.mergeSort leD) → Q (.ref l) (upd H l (.lst ws))
theorem call_sortD (hu : X.A.units + 64 < cLine) : CallR X (.builtin "sorted") (rSort g X.K) := by
  intro pins s σ H xs us Q I r q
  obtain ⟨a, vs, ds, F, ex, fl, sq, rl, ok, q⟩ := q
  subst ex
  obtain ⟨u, eu, rx⟩ := vals1 r
  subst eu
  cases rx
  obtain ⟨its, rv, pl, hz⟩ := I.list sq
  obtain ⟨ok1, ok2, ok3⟩ := ok
  have hlen : (ds.zip vs).length = vs.length := by rw [List.length_zip, rl.length, Nat.min_self]
  have e1 : (ds.zip vs).map (fun p : D × V => pyD p.1) = ds.map pyD := by
    have z := congrArg (List.map pyD) (zip_fst rl)
    rw [List.map_map] at z
    exact z
  refine PySem.W.sorted_data (bs := ds.zip vs) (enc := fun p : D × V => pyD p.1) (R := fun u p => RelV p.2 u) pl.isList (zip_each rv rl) ?_ (by rw [e1]; exact ok2) (by rw [e1]; exact ok3) (by rw [hlen]; exact hz) (fun b hb => ?_) fun out ho eo => ?_
  · -- the items read as data
    have h1 := zip_each rv rl
    refine PySem.W.EachIs.of_zip h1.length fun p hp => ?_
    have h2 := PySem.W.EachIs.zip h1 p hp
    obtain ⟨h3, h4⟩ := zip_mem rl p.2 (List.of_mem_zip hp).2
    obtain ⟨h5, _⟩ := ok1 _ h4
    cases e : toPy p.2.1 with
    | none =>
      rw [e] at h5
      cases h5
    | some d =>
      have e2 : pyD p.2.1 = d := by
        unfold pyD
        rw [e] <;> rfl
      show ∃ as, Reads s.heap p.1 (pyD p.2.1) as
      rw [e2]
      exact Dp.reads I d _ _ (DL.Dp.fle fl (h3.dp e)) h2
  · obtain ⟨_, h4⟩ := zip_mem rl b hb
    have := (ok1 _ h4).2
    show X.A.units + 2 + (pyD b.1).depth < cLine
    omega
  · have hrel := out_vals eo
    obtain ⟨c, hc⟩ := sortedAll_at s.heap its out.toArray
    have hl2 : ((ds.zip vs).mergeSort (PySem.W.dataLe false fun p : D × V => pyD p.1)).length = vs.length := by rw [List.length_mergeSort, hlen]
    refine ⟨.ref (s.heap.objs.size + 1), _, I.laid (t' := s.toks) (o := .lst (((ds.zip vs).mergeSort (PySem.W.dataLe false fun p : D × V => pyD p.1)).map (·.2))) (fun b o e => sortedAll_old e) (Nat.le_succ _) ?_, rfl, q _ _ (I.hok.fresh (Nat.le_succ _)) ?_⟩
    · exact ⟨by rw [List.length_map, hl2]; exact hz, out, c, hrel, hc⟩
    · have h6 := rep_unzip (g := g) (K := X.K) (F := F) (ps := (ds.zip vs).mergeSort (PySem.W.dataLe false fun p : D × V => pyD p.1)) fun p hp => (zip_mem rl p (List.mem_mergeSort.mp hp)).1
      rw [sort_fst, zip_fst rl] at h6
      exact h6
theorem pfd_sorted {W : WX} {e : Expr} {m : Env → M D} {p pos : Pos} (hu : X.A.units + 64 < cLine) (he : PDB g X W e m) (hg : Gl X "sorted") (hm : X.mg "sorted" = none) (hs : starEach [e] X.env = (false, eval e X.env) :: starEach [] X.env := by rfl) (hpl : (backTo pos (starEach [] X.env)).any (·.1) = false := by rfl) :
    PFD g X W (.Call (.Name "sorted" p) [e] [] pos) (fun γ => do dSort (← m γ)) := by
  refine ⟨(pe_callB (call_sortD (g := g) hu) hg hm (by decide +kernel) (pa_cons he.pe pa_nil hs) (by decide) (by decide) hs hpl).imp fun σ H Q ⟨H0, F0, F, γ, n, s, r⟩ => ?_⟩
  refine ⟨H0, F0, F, γ, n, s, (m γ).mono r (fun d n' q F' H' v s' f r => ?_) fun _ _ q => q⟩
  cases d with
  | lst ds =>
    obtain ⟨a, vs, ev, sq, rl⟩ := s'.list r
    subst ev
    exact ⟨a, vs, ds, F', rfl, s'.le, sq, rl, q.1, fun l ws hl rw' => q.2 F' H' l ws s' f rw' hl⟩
  | _ => exact q.elim
end
end DL

set_option Elab.async false
set_option linter.all false
set_option maxRecDepth 100000
set_option maxHeartbeats 4000000
/-! DM: exceptions of own classes with a field: raised, caught. -/
namespace PySem
namespace ExX
open PySem.W PySem.Calls PyProof.Rows PySem.HandSPX
/-! ### the text of __init__ -/
def iA (fl : Str) (p1 p2 : Pos) : Arguments := { posonlyargs := [], args := [{ arg := "self", annotation := none, pos := p1 }, { arg := fl, annotation := none, pos := p2 }], vararg := none, kwonlyargs := [], kw_defaults := [], kwarg := none, defaults := [] }
def iB (fl : Str) (q1 q2 q3 q4 : Pos) : List Stmt := [.Assign [.Attribute (.Name "self" q1) fl q2] (.Name fl q3) q4]
def iS (fl : Str) : Scope := { kind := .function, names := [(PySem.Str.ofString "self", .local), (fl, .local)], isGenerator := false, isCoroutine := false, more := [] }
/-- what the written part says of Low, at C, and of its __init__, at fI -/
structure ExTxt (K : Frag) (mg : Str → Option Value) (cn fl qi : Str) (C fI : Addr) : Prop where
  ne : (fl == ("self" : Str)) = false
  nd : (fl == ("__debug__" : Str)) = false
  bd : ∀ (kV doc pm : Value) (an : Option Addr) (cdv ct x v : Value) (p1 p2 q1 q2 q3 q4 : Pos), bindArgs (fnOf "__init__" qi (iA fl p1 p2) (iB fl q1 q2 q3 q4) (iS fl) .none kV doc pm an cdv ct) ⟨[x, v], []⟩ = pure [(("self" : Str), x), (fl, v)]
  cd : (cn == ("__debug__" : Str)) = false
  gC : mg cn = some (.ref C)
  cls : ∃ nm q N bs bm sn sub ab col dd k0 k1 k2 k3 k5, K.lookup C = some (excClassObj nm q C N bs bm true sn sub ab col dd k0 k1 k2 k3 k5 "ValueError.__new__") ∧ refsVE bm = true
  sa : findIn K (.ref C) "__setattr__" = some (some (.builtin "object.__setattr__"))
  ga : findIn K (.ref C) "__getattribute__" = some (some (.builtin "BaseException.__getattribute__"))
  gg : findIn K (.ref C) "__getattr__" = some none
  noN : findIn K (.ref C) fl = some none
  iC : findIn K (.ref C) "__init__" = some (some (.ref fI))
  tC : typeIn K (.ref fI) = some (.type "function")
  kC : keepIn K (.ref C) = true
  exC : subIn K (.ref C) (.type "BaseException") = some true
  tyC : typeIn K (.ref C) = some (.type "type")
  hdC : hasDictIn K C = true
  te : exmOne K (.ref C) (.ref C) = some true
  fn : ∃ (oc : Value) (od : Option Addr) (kV doc pm : Value) (an : Option Addr) (cdv ct : Value) (osl : Array (Option Value)) (p1 p2 q1 q2 q3 q4 : Pos),
    K.lookup fI = some ⟨oc, od, .func (fnOf "__init__" qi (iA fl p1 p2) (iB fl q1 q2 q3 q4) (iS fl) .none kV doc pm an cdv ct), osl⟩ ∧ codeIn K cdv qi = true
theorem one_size (v : Value) : [v].length ≤ sizeLine := by
  rw [sizeLine_eq]
  exact (by decide : 1 ≤ 16777216)
theorem kept_but {K : Frag} {h h' : Heap} {x : Addr} (X : K.In h) (hx : K.lookup x = none) (k : ∀ b o, b ≠ x → h.get? b = some o → h'.get? b = some o) : K.In h' := fun a o e =>
  k a o (fun z => by rw [z, hx] at e; cases e) (X a o e)
theorem ldC {M : Model} {s : Shared} {name : Str} {scope : Scope} {L a : Addr} {cd : Value} {m : Str → Option Value} {x : Str} {pos : Pos} {v : Value} {Q : Value → Shared → Prop} {A : Around} {E : Value → Shared → Prop} (hn : s.heap.Ns L m) (hv : m x = some v) (h : Q v s)
    (hk : scope.kind = .function := by rfl) (hl : (envOfC name scope L a cd).kindOf x = some .local := by rfl) (hd : (x == ("__debug__" : Str)) = false := by decide) :
    wpAny M A (eval (.Name x pos) (envOfC name scope L a cd)) Q E s := wpAny_Name (wpAny_loadName_local hk hl hn hv h) hd
/-- what __init__ leaves of a fresh exception at x -/
structure InitEnd (fl : Str) (h h' : Heap) (x C dx t1 : Addr) (v : Value) : Prop where
  keep : ∀ b o, b ≠ x → h.get? b = some o → h'.get? b = some o
  obj : h'.get? x = some { cls := .ref C, dict := some dx, data := .fields #[.ref t1, .none, .none, .none, .bool false, .none] }
  dbig : h.objs.size ≤ dx
  dne : dx ≠ x
  ns : h'.Ns1 dx (fun y => if y = fl then some v else none)
/-- a made Low -/
structure OwnMade (fl : Str) (h h' : Heap) (e C d : Addr) (v : Value) : Prop where
  keep : ∀ b o, h.get? b = some o → h'.get? b = some o
  new : h.objs.size ≤ e
  obj : ∃ oe vs, h'.get? e = some oe ∧ oe.cls = .ref C ∧ oe.dict = some d ∧ oe.data = .fields vs ∧ vs[1]? = some .none
  dbig : h.objs.size ≤ d
  dne : d ≠ e
  ns : h'.Ns1 d (fun y => if y = fl then some v else none)
theorem eq_ne {a b : Str} (h : (a == b) = false) : a ≠ b := fun e => by
  rw [e] at h
  simp at h
theorem nd_fl {fl : Str} (h : (fl == ("self" : Str)) = false) : ([("self" : Str), fl] : List Str).Nodup := by
  have q := eq_ne h
  simp only [List.nodup_cons, List.mem_singleton, List.not_mem_nil, not_false_eq_true, List.nodup_nil, and_true]
  exact fun z => q z.symm
theorem k_self {fl : Str} {L a : Addr} {cd : Value} {q : Str} : (envOfC q (iS fl) L a cd).kindOf ("self" : Str) = some .local := by
  show (iS fl).names.lookup ("self" : Str) = some .local
  simp [iS, List.lookup]
theorem k_all {fl : Str} {x v : Value} (h : (fl == ("self" : Str)) = false) : ([(("self" : Str), x), (fl, v)] : List (Str × Value)).all (fun y => List.lookup y.fst (iS fl).names == some NameKind.local || List.lookup y.fst (iS fl).names == some NameKind.cell) = true := by
  have h2 : (fl == PySem.Str.ofString "self") = false := h
  simp [iS, List.lookup, h2]
theorem k_fl {fl : Str} {L a : Addr} {cd : Value} {q : Str} (h : (fl == ("self" : Str)) = false) : (envOfC q (iS fl) L a cd).kindOf fl = some .local := by
  show (iS fl).names.lookup fl = some .local
  unfold iS
  have h2 : (fl == PySem.Str.ofString "self") = false := h
  simp [List.lookup, h2]
theorem m_fl {fl : Str} {x v : Value} {L a : Addr} {cd : Value} {q : Str} {m : Str → Option Value} (h : (fl == ("self" : Str)) = false) : bindL (envOfC q (iS fl) L a cd).kindOf [(("self" : Str), x), (fl, v)] m fl = some v :=
  L2.bindL_get (P := [("self" : Str), fl]) (vs := [x, v]) (i := 1) (nd_fl h) rfl rfl (k_fl h)
theorem m_self {fl : Str} {x v : Value} {L a : Addr} {cd : Value} {q : Str} {m : Str → Option Value} (h : (fl == ("self" : Str)) = false) : bindL (envOfC q (iS fl) L a cd).kindOf [(("self" : Str), x), (fl, v)] m ("self" : Str) = some x :=
  L2.bindL_get (P := [("self" : Str), fl]) (vs := [x, v]) (i := 0) (nd_fl h) rfl rfl k_self
section
variable {prog : Program} {w : World} {A : Around} {E : Value → Shared → Prop} {R : Result → Shared → Prop} {s : Shared} {K : Frag} {mg : Str → Option Value} {cn fl qi : Str} {C fI : Addr}
theorem low_init (T : ExTxt K mg cn fl qi C fI) {x t0 : Addr} {v : Value} (X : K.In s.heap) (hlim : s.heap.NoLimit) (hx : s.heap.get? x = some (excO C t0)) (hnx : K.lookup x = none) (hroom : A.depth < recursionLimit)
    (hq : ∀ h' tk dx, InitEnd fl s.heap h' x C dx t0 v → R (.ok (.ret .none)) { s with heap := h', toks := tk }) :
    codeAny (model prog w) A (.call (.ref fI) ⟨[.ref x, v], []⟩) R s := by
  obtain ⟨oc, od, kV, doc, pm, an, cdv, ct, osl, p1, p2, q1, q2, q3, q4, ho, hcd⟩ := T.fn
  obtain ⟨nm, q, N, bs, bm, sn, sub, ab, col, dd, k0, k1, k2, k3, k5, hC, hbm⟩ := T.cls
  have hcl : clsIn K C = some { name := nm, bases := bs, mro := .ref C :: bm, ns := N, qualname := q, hasDict := true, slotNames := sn, subclasses := sub, abstract := ab, collection := col, hasDel := false } := by unfold clsIn; rw [hC] <;> rfl
  refine Att.call_fn (binds := [("self", .ref x), (fl, v)]) X hlim ho hcd hroom (BindsTo.of_eq (T.bd _ _ _ _ _ _ _ _ _ _ _ _ _ _)) (k_all T.ne) (fun s₁ IC => ?_) rfl rfl rfl
  obtain ⟨h₁, tk₁, rfl⟩ := IC.toInCall.same
  have k : ∀ b o, s.heap.get? b = some o → h₁.get? b = some o := IC.toInCall.keep
  have hn := IC.toInCall.ns
  have hxL : s.heap.objs.size ≠ x := Nat.ne_of_gt (Heap.lt_size hx)
  have X₁ : K.In h₁ := X.keeps k
  have hx₁ := k _ _ hx
  -- self.by = by
  show wpAny _ _ (execs _ _) _ _ _
  refine wpAny_execs_cons (plainObj_wpAny_Assign_Attribute ?_)
  refine ldC (v := v) hn (m_fl T.ne) (ldC (v := .ref x) hn (m_self T.ne) ?_) (hl := k_fl T.ne) (hd := T.nd)
  refine set_plain X₁ (ox := excO C t0) (od := none) ⟨hx₁, rfl, rfl, trivial⟩ T.sa ?_
  refine exc_osa X₁ hx₁ hcl (show refsVE (.ref C :: bm) = true from hbm) rfl T.noN (fun h₃ tk₃ dx k₃ dn dne hx₃ hn₃ => ?_)
  show wpAny _ _ (execs _ _) _ _ _
  have z : s.heap.objs.size < h₁.objs.size := hn.lt
  exact wpAny_execs_nil (hq h₃ tk₃ dx ⟨fun b o hb e => k₃ b o hb (k b o e), hx₃, Nat.le_of_lt (Nat.lt_of_lt_of_le z dn), dne, hn₃⟩)
theorem low_made (T : ExTxt K mg cn fl qi C fI) {v : Value} (X : K.In s.heap) (hlim : s.heap.NoLimit) (hroom : A.depth + 1 < recursionLimit)
    (hq : ∀ h' tk e d, OwnMade fl s.heap h' e C d v → R (.ok (.ret (.ref e))) { s with heap := h', toks := tk }) :
    codeAny (model prog w) A (.call (.ref C) ⟨[v], []⟩) R s := by
  obtain ⟨nm, q, N, bs, bm, sn, sub, ab, col, dd, k0, k1, k2, k3, k5, hC, hbm⟩ := T.cls
  obtain ⟨hp, g, dr, tk, os⟩ := s
  have k : ∀ b o, hp.get? b = some o → ((hp.push (kdv_tup [v])).push (excO C hp.objs.size)).get? b = some o := fun b o e => Heap.get?_push_of_some _ (Heap.get?_push_of_some _ e)
  have hget : ((hp.push (kdv_tup [v])).push (excO C hp.objs.size)).get? (hp.objs.size + 1) = some (excO C hp.objs.size) := by heap_get
  have hnx : K.lookup (hp.objs.size + 1) = none := by
    cases e : K.lookup (hp.objs.size + 1) with
    | none => rfl
    | some o =>
      have z : hp.get? (hp.objs.size + 1) = some o := X _ _ e
      exact absurd (Nat.lt_of_succ_lt (Heap.lt_size z)) (Nat.lt_irrefl _)
  refine call_own F.excBase_ValueError (fun X => refsVE_contains X bm hbm) (X _ _ hC) (looks_findIn X T.iC) (fun self => bind_fn X self T.tC) (one_size v) ?_
  refine low_init (s := ⟨(hp.push (kdv_tup [v])).push (excO C hp.objs.size), g, dr, tk, os⟩) T (X.keeps k) (hlim.keeps k) hget hnx ?_ fun h' tk' dx ⟨k', hx, dn, dne, hns⟩ => ?_
  · show A.depth + 1 < recursionLimit
    exact hroom
  · have old : ∀ b o, hp.get? b = some o → h'.get? b = some o := fun b o e => k' b o (Nat.ne_of_lt (Nat.lt_succ_of_lt (Heap.lt_size e))) (k b o e)
    have z : hp.objs.size + 1 + 1 ≤ dx := by
      first
        | (simpa only [Heap.size_push] using dn)
        | exact dn
        | (have q := dn; rw [Heap.size_push, Heap.size_push] at q; exact q)
    exact ⟨rfl, hq h' tk' (hp.objs.size + 1) dx ⟨old, Nat.le_succ _, ⟨_, _, hx, rfl, rfl, rfl, rfl⟩, Nat.le_trans (Nat.le_trans (Nat.le_succ _) (Nat.le_succ _)) z, dne, hns⟩⟩
end
end ExX
end PySem
namespace L2
open PySem PySem.Spec PyProof.Rows
theorem relO_low {fl : Str} {v : V} {v' : Value} (r : RelV v v') (f : Str) : RelO (List.lookup f [(fl, v)]) (if f = fl then some v' else none) := by
  by_cases hw : f = fl
  · rw [hw, if_pos rfl]
    have q : List.lookup fl [(fl, v)] = some v := by simp [List.lookup]
    rw [q]
    exact r
  · rw [if_neg hw]
    have qw : (f == fl) = false := by simpa using hw
    have q2 : List.lookup f [(fl, v)] = none := by simp [List.lookup, qw]
    rw [q2]
    trivial
section
variable {X : Cx} {cn fl qi : Str} {C fI : Addr}
/-- Low(e) -/
def tMkLow (fl : Str) (C : Addr) (ta : TA) : St → Hp → XK → Prop := fun σ H Q => ta σ H fun vs H1 => ∃ v, vs = [v] ∧ ∀ d, H1 d = none → Q (.ref C) (some d) (upd H1 d (.xd [(fl, v)]))
theorem pmk_low {a : Expr} {ta : TA} {p pos : Pos} {k : Nat} (T : PySem.ExX.ExTxt X.K X.mg cn fl qi C fI) (hr : Room k X.A) (ha : PA X [a] ta) (hg : Gl X cn := by rfl)
    (he : starEach (a :: []) X.env = (false, eval a X.env) :: starEach [] X.env := by rfl) (hpl : (backTo pos (starEach [] X.env)).any (·.1) = false := by rfl) :
    PMk X (.Call (.Name cn p) [a] [] pos) (tMkLow fl C ta) := by
  intro pins s σ H Q I h
  refine wpAny_Call_Name_kw (ld_glob I hg T.gC ?_ T.cd)
  refine PySem.W.callWith_K (h₀ := X.base) I.ok.mod.kin T.kC (thn (ha.run pos pins s σ H _ I h) fun us s1 hh => ?_) he hpl
  obtain ⟨vs, H1, I1, r1, v, ev, q1⟩ := hh
  subst ev
  refine ⟨I1.kIn, ?_⟩
  cases r1 with
  | cons rv rn =>
    rename_i v' us'
    cases rn
    show wpAny _ _ (call (.ref C) [v']) _ _ _
    have hlim := I1.nolimit
    obtain ⟨hp, g, dr, tk, os⟩ := s1
    refine wpAny_call (PySem.ExX.low_made T I1.kIn hlim (by have := hr.dp; omega) fun h' tk' e d M => ?_)
    show MkP X pins σ Q (.ref e) ⟨h', g, dr, tk', os⟩
    obtain ⟨oe, fv, hoe, hc, hd, hdat, h1⟩ := M.obj
    have hns := M.ns
    obtain ⟨G', g1, g2⟩ := restrict h' fun b => decide (b ≠ e)
    have gk : ∀ b, b ≠ e → G'.get? b = h'.get? b := fun b hb => g1 b (decide_eq_true hb)
    have ge : G'.get? e = none := g2 e (by simp)
    have old : ∀ b o, hp.get? b = some o → G'.get? b = some o := fun b o q => (gk b (Nat.ne_of_lt (Nat.lt_of_lt_of_le (Heap.lt_size q) M.new))).trans (M.keep b o q)
    have ob : ObjOk X.prog X.w (upd H1 d (.xd [(fl, v)])) G' d (.xd [(fl, v)]) :=
      ⟨_, hns.at (fun o q => (gk d M.dne).trans q), fun f => relO_low rv f⟩
    have J : Inv X pins σ (upd H1 d (.xd [(fl, v)])) ⟨G', g, dr, tk', os⟩ := I1.laid (t' := tk') old M.dbig ob
    refine ⟨e, oe, fv, ⟨G', g, dr, tk', os⟩, _, .ref C, some d, rfl, J, fun b o q => ?_, ge, hoe, ⟨hc, hd⟩, hdat, h1, ?_, rfl, I1.bare, raises_own T.exC T.tyC, q1 d (I1.hok.fresh M.dbig)⟩
    · by_cases hb : b = e
      · have q' : G'.get? b = some o := q
        rw [hb, ge] at q'; cases q'
      · exact (gk b hb).symm.trans q
    · rw [upd_ne (Ne.symm M.dne)]
      exact I1.hok.fresh M.new
/-- raise Low(e) -/
def tRaiseLow (fl : Str) (C : Addr) (W : WX) (ta : TA) : TS := fun _ σ H => tMkLow fl C ta σ H fun cls d H' => W cls d σ H'
theorem ps_raiseLow {a : Expr} {ta : TA} {W : WX} {p pos pos2 : Pos} {k : Nat} (hc : X.calm = true) (T : PySem.ExX.ExTxt X.K X.mg cn fl qi C fI) (hr : Room k X.A) (tk : Takes X W) (ha : PA X [a] ta) (hg : Gl X cn := by rfl)
    (he : starEach (a :: []) X.env = (false, eval a X.env) :: starEach [] X.env := by rfl) (hpl : (backTo pos (starEach [] X.env)).any (·.1) = false := by rfl) :
    PS X (.Raise (some (.Call (.Name cn p) [a] [] pos)) none pos2) (tRaiseLow fl C W ta) := ps_raise hc tk (pmk_low T hr ha hg he hpl)
/-- low.by, low the exception that the suite holds (at a; its class cls, its dict d) -/
def tByLow (fl : Str) (C : Addr) (a : Addr) (cls : Value) (d : Option Addr) (te : TE) : TE := fun σ H Q => te σ H fun x H1 => x = .ref a ∧ cls = .ref C ∧ ∃ (dd : Addr) (v : V), d = some dd ∧ H1 dd = some (.xd [(fl, v)]) ∧ Q v H1
theorem pe_byLow {a : Addr} {oe : Obj} {cls : Value} {d : Option Addr} {pn : List (Addr × Obj)} {e : Expr} {te : TE} {pos : Pos} (T : PySem.ExX.ExTxt X.K X.mg cn fl qi C fI) (hz : Zc cls d oe) (hf : ∃ vs, oe.data = .fields vs) (he : PE (X.suite a ((a, oe) :: pn)) e te)
    (hb : attributeBase e fl X.env (eval e X.env) = eval e X.env := by rfl) :
    PE (X.suite a ((a, oe) :: pn)) (.Attribute e fl pos) (tByLow fl C a cls d te) := by
  refine ⟨fun pins s σ H Q I h => ?_⟩
  refine attr_of hb (thn (he.run pins s σ H _ I h) fun u s1 hh => ?_)
  obtain ⟨x, H1, I1, rx, ex, ec, dd, v, ed, ea, q⟩ := hh
  subst ex
  obtain rfl : u = Value.ref a := rx
  subst ec
  subst ed
  obtain ⟨ha, _⟩ := I1.pin (a, oe) (List.mem_append_left _ List.mem_cons_self)
  obtain ⟨vs, hd⟩ := hf
  have hx : ObjOk X.prog X.w H1 s1.heap dd (.xd [(fl, v)]) := I1.hok dd _ ea
  obtain ⟨mA, hns, hr⟩ := hx
  obtain ⟨od, ho, hl⟩ := lookIn_ns hns
  have l : List.lookup fl [(fl, v)] = some v := by simp [List.lookup]
  obtain ⟨u, hu, ru⟩ := RelO.some_of (v := v) (o := mA fl) (by rw [← l]; exact hr fl)
  have J : PySem.W.InstAt s1.heap a oe C (some od) := ⟨ha, hz.1, by unfold PySem.W.notCls; rw [hd] <;> rfl, by rw [hz.2]; exact ho⟩
  exact HandSPX.exc_get I1.kIn J T.ga T.gg T.exC (PySem.W.findObj_own T.hdC T.noN rfl (by rw [hl, hu])) (handed_of ru) ⟨v, H1, I1.tok _, ru, q⟩
end
end L2

set_option Elab.async false
set_option linter.all false
set_option maxRecDepth 100000
set_option maxHeartbeats 4000000
/-! DN: raise, try .. except .. as e, e.field. -/
namespace DL
open PySem PySem.Spec PyProof.Rows L2
section
variable {g : G} {X : Cx} {W : WX} {a e : Expr} {m : Env → M D} {cn fl qi : Str} {C fI : Addr} {pos p pos2 : Pos} {k : Nat}
/-- raise cn(a) -/
theorem psd_raise (hc : X.calm = true) (T : PySem.ExX.ExTxt X.K X.mg cn fl qi C fI) (hr : Room k X.A) (tk : Takes X W) (ha : PD g X W a m) (hg : Gl X cn := by rfl)
    (hst : starEach [a] X.env = (false, eval a X.env) :: starEach [] X.env := by rfl) (hpl : (backTo pos (starEach [] X.env)).any (·.1) = false := by rfl) :
    PSD g X W (.Raise (some (.Call (.Name cn p) [a] [] pos)) none pos2) (fun γ => do let d ← m γ; M.exc ⟨cn, [(fl, d)]⟩) := by
  refine ⟨(ps_raiseLow hc T hr tk (pa_cons ha.pe pa_nil hst) hg hst hpl).imp fun D σ H ⟨H0, F0, F, γ, n, s, r⟩ => ?_⟩
  refine ⟨H0, F0, F, γ, n, s, (m γ).mono r (fun d n' q F' H' v s' f rv => ?_) fun _ _ q => wish_of q⟩
  refine ⟨v, rfl, fun dd hd => ?_⟩
  have po := post_newH (o := .xd [(fl, v)]) s'.sub s'.wok hd
  exact q F' _ (.ref C) (some dd) σ γ (s'.post po) ⟨C, T.gC, rfl, .inr ⟨dd, _, rfl, s'.sub.none hd, upd_same, s'.wok.nex hd, .cons rv .nil⟩⟩

/-- the field of the caught exception -/
def rdF (i : Nat) (a : Addr) (nm cn fl : Str) (d : Option Addr) (γ : Env) : M D := match γ[i]? with
  | some (some (.ex a' d' fs)) => (match fs with
    | [(f, x)] => do M.need (a' = a ∧ d = some d' ∧ nm = cn ∧ f = fl); pure x
    | _ => M.stuck)
  | _ => M.stuck
theorem pd_fld {ad : Addr} {oe : Obj} {cls : Value} {d : Option Addr} {pn : List (Addr × Obj)} {nm x : Str} (i : Nat) (T : PySem.ExX.ExTxt X.K X.mg cn fl qi C fI) (hz : Zc cls d oe) (hf : ∃ vs, oe.data = .fields vs) (hcls : X.mg nm = some cls)
    (hN : X.N[i]? = some x := by rfl) (hv : Vis X.env.scope x := by first | exact Or.inl rfl | exact Or.inr (Or.inl rfl) | exact Or.inr (Or.inr rfl)) (hd : (x == ("__debug__" : Str)) = false := by decide) (hcd : (x == ("__classdict__" : Str)) = false := by decide)
    (hb : attributeBase (.Name x p) fl X.env (eval (.Name x p) X.env) = eval (.Name x p) X.env := by rfl) :
    PD g (X.suite ad ((ad, oe) :: pn)) W (.Attribute (.Name x p) fl pos) (rdF i ad nm cn fl d) := by
  refine ⟨(pe_byLow T hz hf (pe_var (X := X.suite ad ((ad, oe) :: pn)) hN hv hd hcd) hb).imp fun σ H Q ⟨H0, F0, F, γ, n, s, r⟩ => ?_⟩
  unfold rdF at r
  split at r
  · rename_i a' d' fs e0
    split at r
    · rename_i f y
      obtain ⟨⟨e1, e2, e3, e4⟩, r⟩ := r
      subst e1 e2 e3 e4
      obtain ⟨v, h1, ev, h2, vs, h3, h4, h5⟩ := s.slots i _ e0
      subst ev
      cases h5 with
      | cons rv rs =>
        cases rs
        have hc2 := T.gC
        rw [hcls] at hc2
        exact ⟨_, h1, rfl, Option.some.inj hc2, d', _, rfl, h3, r F H _ s (FLe.refl F) rv⟩
    · exact r.elim
  · exact r.elim
end
/-- the slots in a suite: the exception's alone -/
def exEnv (len i : Nat) (a : Addr) (d : Option Addr) (fs : List (Str × D)) : Env := match d with
  | some d => (List.replicate len none).set i (some (.ex a d fs))
  | none => List.replicate len none
/-- try: mb / except (those of which sub tells so) as i: ms -/
def tryM (len i : Nat) (sub : Str → Option Bool) (mb : Env → M (Fl × Env)) (ms : Addr → Str → Option Addr → Env → M (Fl × Env)) (γ : Env) : M (Fl × Env) :=
  ⟨fun n Q E => (mb γ).run n Q (fun x n' => ∃ b, sub x.nm = some b ∧ (b = true → ∀ a d, (d = none → x.fs = []) → (ms a x.nm d (exEnv len i a d x.fs)).run n' (fun r n2 => Q (r.1, r.2.set i none) n2) (fun _ _ => False)) ∧ (b = false → E x n')),
   fun h hq he => (mb γ).mono h hq fun x n' ⟨b, h1, h2, h3⟩ => ⟨b, h1, fun hb a d hd => (ms a x.nm d _).mono (h2 hb a d hd) (fun r n2 q => hq _ _ q) fun _ _ z => z, fun hb => he _ _ (h3 hb)⟩⟩
section
variable {g : G} {K : PySem.W.Frag} {H0 F0 F H : Hp} {σ : L2.St} {γ : Env} {n : Nat}
/-- all is forgotten, but where the exception lies -/
theorem StOk.exEnv (s : StOk g K H0 F0 F H σ γ n) {i : Nat} {a : Addr} {mg : Str → Option Value} {x : Exc} {cls : Value} {d : Option Addr} (h : XRep g K mg F H x cls d) : StOk g K H0 F0 F H (σ.set i (some (.ref a))) (DL.exEnv γ.length i a d x.fs) n := by
  have hlen : (DL.exEnv γ.length i a d x.fs).length = γ.length := by
    unfold DL.exEnv
    split
    · rw [List.length_set, List.length_replicate]
    · rw [List.length_replicate]
  have sl : ∀ (j : Nat) (t : Slot), (DL.exEnv γ.length i a d x.fs)[j]? = some (some t) → j = i ∧ j < γ.length ∧ ∃ dd, d = some dd ∧ t = .ex a dd x.fs := fun j t ht => by
    have hlt : j < γ.length := by
      have q := (List.getElem?_eq_some_iff.mp ht).1
      rw [hlen] at q
      exact q
    unfold DL.exEnv at ht
    cases d with
    | none =>
      have ht : (List.replicate γ.length (none : Option Slot))[j]? = some (some t) := ht
      rw [List.getElem?_replicate] at ht
      split at ht <;> cases ht
    | some dd =>
      have ht : ((List.replicate γ.length (none : Option Slot)).set i (some (.ex a dd x.fs)))[j]? = some (some t) := ht
      by_cases hj : i = j
      · subst hj
        rw [List.getElem?_set_self (by rw [List.length_replicate]; exact hlt)] at ht
        cases ht
        exact ⟨rfl, hlt, dd, rfl, rfl⟩
      · rw [List.getElem?_set_ne hj, List.getElem?_replicate] at ht
        split at ht <;> cases ht
  refine ⟨s.ext, s.f0, s.sub, s.new, s.wok, by rw [hlen, List.length_set, s.len], fun j t ht => ?_, fun j k b hjk h1 _ _ _ => ?_⟩
  · obtain ⟨e1, e2, dd, e3, e4⟩ := sl j t ht
    subst e1 e3 e4
    refine ⟨.ref a, by rw [List.getElem?_set_self (s.len ▸ e2)], rfl, ?_⟩
    obtain ⟨C, _, _, h3⟩ := h
    rcases h3 with ⟨_, z⟩ | ⟨d', vs, z, k1, k2, k3, k4⟩
    · cases z
    · cases z
      exact ⟨k1, vs, k2, k3, k4⟩
  · cases e : (DL.exEnv γ.length i a d x.fs)[j]? with
    | none =>
      rw [e] at h1
      cases h1
    | some o =>
      cases o with
      | none =>
        rw [e] at h1
        cases h1
      | some t =>
        obtain ⟨_, _, dd, _, e4⟩ := sl j t e
        rw [e, e4] at h1
        cases h1
theorem StOk.setNone (s : StOk g K H0 F0 F H σ γ n) (i : Nat) : StOk g K H0 F0 F H (σ.set i none) (γ.set i none) n := by
  have back : ∀ (j : Nat) (t : Slot), (γ.set i none)[j]? = some (some t) → i ≠ j ∧ γ[j]? = some (some t) := fun j t ht => by
    by_cases hj : i = j
    · subst hj
      by_cases hl : i < γ.length
      · rw [List.getElem?_set_self hl] at ht
        cases ht
      · rw [List.getElem?_eq_none (by rw [List.length_set]; omega)] at ht
        cases ht
    · rw [List.getElem?_set_ne hj] at ht
      exact ⟨hj, ht⟩
  have ow : ∀ j : Nat, isOw (γ.set i none)[j]? = true → i ≠ j ∧ isOw γ[j]? = true := fun j h => by
    cases e : (γ.set i none)[j]? with
    | none => rw [e] at h; cases h
    | some o => cases o with
      | none => rw [e] at h; cases h
      | some t =>
        obtain ⟨q1, q2⟩ := back j t e
        rw [e] at h
        rw [q2]
        exact ⟨q1, h⟩
  refine ⟨s.ext, s.f0, s.sub, s.new, s.wok, by rw [List.length_set, List.length_set, s.len], fun j t ht => ?_, fun j k b hjk h1 h2 e1 e2 => ?_⟩
  · obtain ⟨q1, q2⟩ := back j t ht
    rw [List.getElem?_set_ne q1]
    exact s.slots j t q2
  · obtain ⟨p1, p2⟩ := ow j h1
    obtain ⟨q1, q2⟩ := ow k h2
    rw [List.getElem?_set_ne p1] at e1
    rw [List.getElem?_set_ne q1] at e2
    exact s.dist j k b hjk p2 q2 e1 e2
end
section
variable {g : G} {X : Cx} {Wout : WX} {x nme : Str} {c : Value} {i : Nat} {body suite : List Stmt} {b₀ : Stmt} {np pos pos' : Pos} {mb : Env → M (Fl × Env)} {ms : Addr → Str → Option Addr → Env → M (Fl × Env)} {sub : Str → Option Bool}
theorem psd_try (hs : X.stack = X.env :: X.outer) (hf : X.env.frame = some X.env.locals) (hN : X.N.Nodup) (hi : X.N[i]? = some nme) (hln : X.env.kindOf nme = some .local) (hc : Names X x c) (tk : Takes X Wout)
    (hsub : ∀ nm b C', sub nm = some b → X.mg nm = some (.ref C') → PySem.W.exmOne X.K (.ref C') c = some b)
    (hb : ∀ (W : WX) (pn : List (Addr × Obj)) (xe : Value → Shared → Prop), Takes (X.tr pn xe) W → PassesOwn (model X.prog X.w) X.A X.env xe → PSsD g (X.tr pn xe) W body mb)
    (hsu : ∀ (a : Addr) (oe : Obj) (cls : Value) (d : Option Addr) (pn : List (Addr × Obj)) (nm : Str), Zc cls d oe → (∃ vs, oe.data = .fields vs) → X.mg nm = some cls → PSsD g (X.suite a ((a, oe) :: pn)) W0 (b₀ :: suite) (ms a nm d)) :
    PSD g X Wout (.Try body [.ExceptHandler (some (.Name x np)) (some nme) (b₀ :: suite) pos'] [] [] pos) (tryM X.N.length i sub mb ms) := by
  refine ⟨(ps_try_as (tb := fun W => tSD g X.K X.mg W mb) (ts := fun a cls d D σ H => σ.length = X.N.length → ∃ nm, X.mg nm = some cls ∧ tSD g X.K X.mg W0 (ms a nm d) D σ H) hs hf hN hi hln hc tk (fun W pn xe h1 h2 => (hb W pn xe h1 h2).ps) fun a oe cls d pn hz hfl => ?_).imp fun D σ H ⟨H0, F0, F, γ, n, s, r⟩ => ?_⟩
  · refine ⟨fun pins s σ H D I h => ?_⟩
    obtain ⟨nm, hnm, h⟩ := h I.len
    exact (hsu a oe cls d pn nm hz hfl hnm).ps.run pins s σ H D I h
  · refine ⟨H0, F0, F, γ, n, s, (mb γ).mono r (fun _ _ q => q) fun x n' q F' H' cls dd σ' γ' s' xr => ?_⟩
    obtain ⟨b, h1, h2, h3⟩ := q
    obtain ⟨C', k1, k2, k3⟩ := id xr
    subst k2
    refine ⟨b, hsub _ _ _ h1 k1, fun hbt a _ hlen => ⟨x.nm, k1, H0, F0, F', _, n', s'.exEnv (i := i) (a := a) xr, ?_⟩, fun hbf => h3 hbf F' H' _ dd σ' γ' s' xr⟩
    have hl : γ'.length = X.N.length := by
      rw [List.length_set] at hlen
      rw [s'.len, hlen]
    rw [hl]
    refine (ms a x.nm dd _).mono (h2 hbt a dd fun e => ?_) (fun r n2 q2 F2 H2 σ2 s2 => ?_) fun _ _ z => z.elim
    · subst e
      rcases k3 with ⟨z, _⟩ | ⟨d', vs, z, _⟩
      · exact z
      · cases z
    · have q3 := q2 F2 H2 _ (s2.setNone i)
      obtain ⟨f, γ2⟩ := r
      cases f with
      | nx => exact q3
      | bk => exact q3
      | ct => exact q3
      | rt d => exact q2 F2 H2 _ (s2.setNone i)
end
end DL

set_option Elab.async false
set_option linter.all false
set_option maxRecDepth 100000
set_option maxHeartbeats 4000000
/-! DO: cells that are known for a while. -/
namespace DL
open PySem PySem.Spec PyProof.Rows L2

/-- cells known beside H -/
def ovl (c : Addr → Option Obj) (H : Hp) : Hp := fun b => match c b with
  | some o => some (.frz o (.own 0))
  | none => H b
/-- .. known no more -/
def und (c : Addr → Option Obj) (H : Hp) : Hp := fun b => match c b with
  | some _ => none
  | none => H b
section
variable {c : Addr → Option Obj} {H : Hp} {b : Addr} {o : Obj}
theorem ovl_in (h : c b = some o) : ovl c H b = some (.frz o (.own 0)) := by
  unfold ovl
  rw [h]
theorem ovl_out (h : c b = none) : ovl c H b = H b := by
  unfold ovl
  rw [h]
theorem und_in (h : c b = some o) : und c H b = none := by
  unfold und
  rw [h]
theorem und_out (h : c b = none) : und c H b = H b := by
  unfold und
  rw [h]
end
/-- cells that are there, not known to H, no frames -/
structure CelOk (c : Addr → Option Obj) (H : Hp) (h : Heap) (fs : List Addr) : Prop where
  no : ∀ b o, c b = some o → H b = none
  at_ : ∀ b o, c b = some o → h.get? b = some o
  nf : ∀ b o, c b = some o → b ∉ fs
  cl : ∀ b o, c b = some o → ∃ v, o.data = .cell v
section
variable {P : Program} {w : World} {c : Addr → Option Obj} {H H' : Hp} {h h' B : Heap} {fs : List Addr}
theorem CelOk.out (k : CelOk c H h fs) {b : Addr} {u : HO} (e : H b = some u) : c b = none := by
  cases q : c b with
  | none => rfl
  | some o =>
    rw [k.no b o q] at e
    cases e
theorem hok_ovl (x : HOk P w H h) (k : CelOk c H h fs) : HOk P w (ovl c H) h := fun b u e => by
  cases q : c b with
  | some o =>
    rw [ovl_in q] at e
    cases e
    exact ⟨k.at_ b o q, o, k.at_ b o q⟩
  | none =>
    rw [ovl_out q] at e
    exact (x b u e).stay (fun _ _ _ z => z) (fun d z => by rw [ovl_out (k.out z)]; exact z) fun d xs z => by rw [ovl_out (k.out z)]; exact z
theorem hok_und (x : HOk P w H h) (k : ∀ b o, c b = some o → H b = none ∨ H b = some (.frz o (.own 0))) : HOk P w (und c H) h := fun b u e => by
  have out : ∀ {d : Addr} {v : HO}, H d = some v → (∀ o, v ≠ .frz o (.own 0)) → c d = none := fun {d v} z n => by
    cases q : c d with
    | none => rfl
    | some o =>
      rcases k d o q with y | y
      · rw [y] at z
        cases z
      · rw [y] at z
        exact absurd (Option.some.inj z).symm (n o)
  cases q : c b with
  | some o =>
    rw [und_in q] at e
    cases e
  | none =>
    rw [und_out q] at e
    exact (x b u e).stay (fun _ _ _ z => z) (fun d z => by rw [und_out (out z fun o y => nomatch y)]; exact z) fun d xs z => by rw [und_out (out z fun o y => nomatch y)]; exact z
theorem un_ovl (u : Un fs [] H H' h h') (k : CelOk c H h fs) : Un fs [] (ovl c H) (ovl c H') h h' := by
  have sp : ∀ {d : Addr} {v : HO}, ovl c H d = some v → (∃ o, c d = some o ∧ v = .frz o (.own 0)) ∨ (c d = none ∧ H d = some v) := fun {d v} z => by
    cases q : c d with
    | some o =>
      rw [ovl_in q] at z
      exact .inl ⟨o, rfl, (Option.some.inj z).symm⟩
    | none =>
      rw [ovl_out q] at z
      exact .inr ⟨rfl, z⟩
  have no : ∀ {d : Addr}, ovl c H d = none → c d = none ∧ H d = none := fun {d} z => by
    cases q : c d with
    | some o =>
      rw [ovl_in q] at z
      cases z
    | none =>
      rw [ovl_out q] at z
      exact ⟨rfl, z⟩
  refine ⟨fun b o q n => u.keep b o q (no n).2, fun b o q n => u.slot b o q (no n).2, fun b o q n hx => ?_, u.there, fun b xs q => ?_, fun b o v q => ?_, fun b ps q => ?_⟩
  · rw [ovl_out (no n).1]
    exact u.free b o q (no n).2 hx
  · rcases sp q with ⟨o, _, z⟩ | ⟨z1, z2⟩
    · cases z
    · rw [ovl_out z1]
      exact u.tups b xs z2
  · rcases sp q with ⟨o', z1, z2⟩ | ⟨z1, z2⟩
    · rw [ovl_in z1, z2]
    · rw [ovl_out z1]
      exact u.frzs b o v z2
  · rcases sp q with ⟨o, _, z⟩ | ⟨z1, z2⟩
    · cases z
    · rw [ovl_out z1]
      exact u.tbls b ps z2
theorem cel_after (u : Un fs [] H H' h h') (k : CelOk c H h fs) : CelOk c H' h' fs :=
  ⟨fun b o e => u.free b o (k.at_ b o e) (k.no b o e) (by simp), fun b o e => u.keep b o (k.at_ b o e) (k.no b o e) (k.nf b o e) (by simp), k.nf, k.cl⟩
theorem un_und (u : Un fs [] (ovl c H) H' h h') (x : HOk P w H' h') (k : CelOk c H h fs) : Un fs [] H (und c H') h h' := by
  have fz : ∀ b o, c b = some o → H' b = some (.frz o (.own 0)) := fun b o e => u.frzs b o _ (ovl_in e)
  refine ⟨fun b o q n hb hx => ?_, fun b o q n hb hx => ?_, fun b o q n hx => ?_, u.there, fun b xs q => ?_, fun b o v q => ?_, fun b ps q => ?_⟩
  · cases e : c b with
    | some o' =>
      have z := k.at_ b o' e
      rw [q] at z
      cases z
      exact (x b _ (fz b o e)).1
    | none => exact u.keep b o q (by rw [ovl_out e]; exact n) hb hx
  · cases e : c b with
    | some o' => exact absurd hb (k.nf b o' e)
    | none => exact u.slot b o q (by rw [ovl_out e]; exact n) hb hx
  · cases e : c b with
    | some o' => exact und_in e
    | none =>
      rw [und_out e]
      exact u.free b o q (by rw [ovl_out e]; exact n) hx
  · rw [und_out (k.out q)]
    exact u.tups b xs (by rw [ovl_out (k.out q)]; exact q)
  · rw [und_out (k.out q)]
    exact u.frzs b o v (by rw [ovl_out (k.out q)]; exact q)
  · rw [und_out (k.out q)]
    exact u.tbls b ps (by rw [ovl_out (k.out q)]; exact q)
theorem ub_ovl (u : UB fs H H' h B h') (k : CelOk c H h fs) : UB fs (ovl c H) (ovl c H') h B h' := by
  have sp : ∀ {d : Addr} {v : HO}, ovl c H d = some v → (∃ o, c d = some o ∧ v = .frz o (.own 0)) ∨ (c d = none ∧ H d = some v) := fun {d v} z => by
    cases q : c d with
    | some o =>
      rw [ovl_in q] at z
      exact .inl ⟨o, rfl, (Option.some.inj z).symm⟩
    | none =>
      rw [ovl_out q] at z
      exact .inr ⟨rfl, z⟩
  have no : ∀ {d : Addr}, ovl c H d = none → c d = none ∧ H d = none := fun {d} z => by
    cases q : c d with
    | some o =>
      rw [ovl_in q] at z
      cases z
    | none =>
      rw [ovl_out q] at z
      exact ⟨rfl, z⟩
  refine ⟨fun b o q n => u.keep b o q (no n).2, u.slot, fun b o q n => ?_, u.there, fun b xs q => ?_, fun b o v q => ?_, fun b ps q => ?_⟩
  · rw [ovl_out (no n).1]
    exact u.free b o q (no n).2
  · rcases sp q with ⟨o, _, z⟩ | ⟨z1, z2⟩
    · cases z
    · rw [ovl_out z1]
      exact u.tups b xs z2
  · rcases sp q with ⟨o', z1, z2⟩ | ⟨z1, z2⟩
    · rw [ovl_in z1, z2]
    · rw [ovl_out z1]
      exact u.frzs b o v z2
  · rcases sp q with ⟨o, _, z⟩ | ⟨z1, z2⟩
    · cases z
    · rw [ovl_out z1]
      exact u.tbls b ps z2
theorem cel_afterB (u : UB fs H H' h B h') (k : CelOk c H h fs) : CelOk c H' B fs :=
  ⟨fun b o e => u.free b o (k.at_ b o e) (k.no b o e), fun b o e => u.keep b o (k.at_ b o e) (k.no b o e) (k.nf b o e), k.nf, k.cl⟩
theorem ub_und (u : UB fs (ovl c H) H' h B h') (x : HOk P w H' B) (k : CelOk c H h fs) : UB fs H (und c H') h B h' := by
  have fz : ∀ b o, c b = some o → H' b = some (.frz o (.own 0)) := fun b o e => u.frzs b o _ (ovl_in e)
  refine ⟨fun b o q n hb => ?_, u.slot, fun b o q n => ?_, u.there, fun b xs q => ?_, fun b o v q => ?_, fun b ps q => ?_⟩
  · cases e : c b with
    | some o' =>
      have z := k.at_ b o' e
      rw [q] at z
      cases z
      exact (x b _ (fz b o e)).1
    | none => exact u.keep b o q (by rw [ovl_out e]; exact n) hb
  · cases e : c b with
    | some o' => exact und_in e
    | none =>
      rw [und_out e]
      exact u.free b o q (by rw [ovl_out e]; exact n)
  · rw [und_out (k.out q)]
    exact u.tups b xs (by rw [ovl_out (k.out q)]; exact q)
  · rw [und_out (k.out q)]
    exact u.frzs b o v (by rw [ovl_out (k.out q)]; exact q)
  · rw [und_out (k.out q)]
    exact u.tbls b ps (by rw [ovl_out (k.out q)]; exact q)
variable {outer : List PySem.Env} {s s' : Shared} {Q Q' : VK} {E E' : XK} {r : Result}
/-- a call during which the cells were known -/
theorem cr_und (k : CelOk c H s.heap (frs outer)) (hQ : ∀ v H', (∀ b o, c b = some o → H' b = some (.frz o (.own 0))) → Q' v H' → Q v (und c H')) (hE : ∀ cls d H', (∀ b o, c b = some o → H' b = some (.frz o (.own 0))) → E' cls d H' → E cls d (und c H'))
    (h : CR (L2.CX P w) outer P w (ovl c H) s Q' E' r s') : CR (L2.CX P w) outer P w H s Q E r s' := by
  cases r with
  | error e =>
    obtain ⟨a, B, H', cls, d, e1, fl, ok, ub, na, os, ag, q⟩ := (show L2.CX P w outer (ovl c H) s E' e s' from h)
    have fz : ∀ b o, c b = some o → H' b = some (.frz o (.own 0)) := fun b o e => ub.frzs b o _ (ovl_in e)
    refine (show L2.CX P w outer H s E e s' from ⟨a, B, und c H', cls, d, e1, fl, hok_und ok fun b o z => .inr (fz b o z), ub_und ub ok k, ?_, os, ag, hE _ _ _ fz q⟩)
    cases q2 : c a with
    | some o => exact und_in q2
    | none => rw [und_out q2]; exact na
  | ok f =>
    cases f with
    | ret u =>
      obtain ⟨v, H', os, ba, un, ok, rv, q⟩ := (show CE outer P w (ovl c H) s Q' u s' from h)
      have fz : ∀ b o, c b = some o → H' b = some (.frz o (.own 0)) := fun b o e => un.frzs b o _ (ovl_in e)
      exact (show CE outer P w H s Q u s' from ⟨v, und c H', os, ba, un_und un ok k, hok_und ok fun b o z => .inr (fz b o z), rv, hQ _ _ fz q⟩)
    | next => exact h
    | brk => exact h
    | cont => exact h
/-- a call during which the cells were not known -/
theorem cr_ovl (k : CelOk c H s.heap (frs outer)) (hQ : ∀ v H', (∀ b o, c b = some o → H' b = none) → Q' v H' → Q v (ovl c H')) (hE : ∀ cls d H', (∀ b o, c b = some o → H' b = none) → E' cls d H' → E cls d (ovl c H'))
    (h : CR (L2.CX P w) outer P w H s Q' E' r s') : CR (L2.CX P w) outer P w (ovl c H) s Q E r s' := by
  cases r with
  | error e =>
    obtain ⟨a, B, H', cls, d, e1, fl, ok, ub, na, os, ag, q⟩ := (show L2.CX P w outer H s E' e s' from h)
    have k' := cel_afterB ub k
    refine (show L2.CX P w outer (ovl c H) s E e s' from ⟨a, B, ovl c H', cls, d, e1, fl, hok_ovl ok k', ub_ovl ub k, ?_, os, ag, hE _ _ _ k'.no q⟩)
    cases q2 : c a with
    | none => rw [ovl_out q2]; exact na
    | some o =>
      obtain ⟨oe, vs, ho, _, hd⟩ := fl.there
      have z := fl.1 a o (k'.at_ a o q2)
      rw [ho] at z
      cases z
      obtain ⟨v, hv⟩ := k'.cl a _ q2
      rw [hd] at hv
      cases hv
  | ok f =>
    cases f with
    | ret u =>
      obtain ⟨v, H', os, ba, un, ok, rv, q⟩ := (show CE outer P w H s Q' u s' from h)
      have k' := cel_after un k
      exact (show CE outer P w (ovl c H) s Q u s' from ⟨v, ovl c H', os, ba, un_ovl un k, hok_ovl ok k', rv, hQ _ _ k'.no q⟩)
    | next => exact h
    | brk => exact h
    | cont => exact h
end
end DL

set_option Elab.async false
set_option linter.all false
set_option maxRecDepth 100000
set_option maxHeartbeats 4000000
/-! DP: data without cells; a lambda is made. -/
namespace DL
open PySem PySem.Spec PyProof.Rows L2

mutual
/-- no lambda with captured cells within -/
def flat : D → Bool
  | .lst xs => flatL xs
  | .tup xs => flatL xs
  | .lstA _ xs => flatL xs
  | .clo _ caps => caps.isEmpty
  | .pclo _ _ => false
  | .dct kvs => flatK kvs
  | _ => true
def flatL : List D → Bool
  | [] => true
  | d :: ds => flat d && flatL ds
def flatK : List (D × D) → Bool
  | [] => true
  | p :: ps => flatP p && flatK ps
def flatP : D × D → Bool
  | (a, b) => flat a && flat b
end
theorem flatL_iff : ∀ {ds : List D}, flatL ds = true ↔ ∀ d ∈ ds, flat d = true
  | [] => by simp [flatL]
  | d :: ds => by
    rw [flatL, Bool.and_eq_true, flatL_iff]
    simp
/-- c is of cells alone -/
def CF (c : Addr → Option Obj) (F : Hp) : Prop := ∀ b o, c b = some o → F b = none ∨ ∃ o', F b = some (.frz o' (.own 0))
section
variable {g : G} {K : PySem.W.Frag} {F : Hp} {c : Addr → Option Obj}
theorem CF.out (h : CF c F) {b : Addr} {u : HO} (e : F b = some u) (n : ∀ o', u ≠ .frz o' (.own 0)) : c b = none := by
  cases q : c b with
  | none => rfl
  | some o =>
    rcases h b o q with z | ⟨o', z⟩
    · rw [z] at e
      cases e
    · rw [z] at e
      exact absurd (Option.some.inj e).symm (n o')
theorem CF.keep (h : CF c F) {b : Addr} {u : HO} (e : F b = some u) (n : ∀ o', u ≠ .frz o' (.own 0)) : und c F b = some u := by
  rw [und_out (h.out e n)]
  exact e
theorem CF.sqT (h : CF c F) {a : Addr} {vs : List V} (x : SqT K F a vs) : SqT K (und c F) a vs := by
  rcases x with (x | ⟨o, x⟩) | x
  · exact .inl (.inl (h.keep x fun o' z => nomatch z))
  · exact .inl (.inr ⟨o, h.keep x fun o' z => nomatch z⟩)
  · exact .inr x
theorem fnL_ne {f : Addr} {S : LS} {cl : List (Str × Addr)} {c' : Addr} (o' : Obj) : FnL f S cl c' ≠ .frz o' (.own 0) := fun z => by
  unfold FnL at z
  cases z
theorem code_ne {a : Addr} {q : Str} (o' : Obj) : LamX.CodeO a q ≠ .frz o' (.own 0) := fun z => by
  unfold LamX.CodeO at z
  cases z
mutual
theorem rep_und (h : CF c F) : ∀ {v : V} {d : D}, Rep g K F v d → flat d = true → Rep g K (und c F) v d
  | _, _, .non, _ => .non
  | _, _, .bl b, _ => .bl b
  | _, _, .int i, _ => .int i
  | _, _, .str x, _ => .str x
  | _, _, .ty n, _ => .ty n
  | _, _, .ref a, _ => .ref a
  | _, _, .lst (ds := ds) s r, e => .lst (h.keep s fun o' z => nomatch z) (repL_und h r (by rw [flat] at e; exact e))
  | _, _, .tup (ds := ds) s r, e => .tup (h.sqT s) (repL_und h r (by rw [flat] at e; exact e))
  | _, _, .dct0 s, _ => .dct0 (h.keep s fun o' z => nomatch z)
  | _, _, .lstA s r, e => .lstA (h.keep s fun o' z => nomatch z) (repL_und h r (by rw [flat] at e; exact e))
  | _, _, .pclo a b, e => by simp [flat] at e
  | _, _, .clo (ds := []) a b i j r, _ => .clo (h.keep a fnL_ne) (h.keep b code_ne) i j (by
      generalize (g.L _).fr = fr at r
      cases r
      exact .nil)
  | _, _, .clo (ds := _ :: _) a b i j r, e => by simp [flat] at e
theorem repL_und (h : CF c F) : ∀ {vs : List V} {ds : List D}, RepL g K F vs ds → flatL ds = true → RepL g K (und c F) vs ds
  | _, _, .nil, _ => .nil
  | _, _, .cons r s, e => by
    rw [flatL, Bool.and_eq_true] at e
    exact .cons (rep_und h r e.1) (repL_und h s e.2)
end
theorem fle_ovl (h : ∀ b o, c b = some o → F b = none) : FLe F (ovl c F) := fun b u e => by
  cases q : c b with
  | none =>
    rw [ovl_out q]
    exact e
  | some o =>
    rw [h b o q] at e
    cases e
theorem fle_und : FLe (und c F) F := fun b u e => by
  cases q : c b with
  | none =>
    rw [und_out q] at e
    exact e
  | some o =>
    rw [und_in q] at e
    cases e
end
section
variable {g : G} {H : Hp} {n : Nat} {c : Addr → Option Obj}
theorem wok_und (w : WOk g H n) (h : ∀ b o, c b = some o → H b = none ∨ H b = some (.frz o (.own 0))) : WOk g (und c H) n := by
  have out : ∀ {b : Addr} {u : HO}, H b = some u → (∀ o', u ≠ .frz o' (.own 0)) → und c H b = some u := fun {b u} e n => by
    cases q : c b with
    | none => rw [und_out q]; exact e
    | some o =>
      rcases h b o q with z | z
      · rw [z] at e
        cases e
      · rw [z] at e
        exact absurd (Option.some.inj e).symm (n o)
  obtain ⟨⟨hne, is, k1, k2, m, h1, h2, r⟩, t⟩ := w
  refine ⟨⟨hne, is, k1, k2, m, out h1 fun o' z => (nomatch z), out h2 fun o' z => (nomatch z), r⟩, fun p hp => ?_⟩
  obtain ⟨ps, e1, e2, e3⟩ := t p hp
  refine ⟨ps, out e1 fun o' z => (nomatch z), e2, fun pos cv hc => ?_⟩
  obtain ⟨c', q1, q2⟩ := e3 pos cv hc
  exact ⟨c', q1, out q2 code_ne⟩
theorem wok_ovl (w : WOk g H n) (h : ∀ b o, c b = some o → H b = none) : WOk g (ovl c H) n := w.ext (fle_ovl h)
end

/-! ### a lambda is made -/
section
variable {X : Cx} {pins : List (Addr × Obj)} {σ : L2.St} {H : Hp} {s : Shared}
theorem obj_ne_tbl {q : Str} {c : Addr} (ps : Array Value) : LamX.CodeO c q ≠ .tbl ps := LamX.codeO_ne ps
/-- what is laid by making the lambda S over the cells cl: H1 the heap ahead of its object -/
def LamEnd (T : List (Addr × Str)) (P : Addr) (q : Str) (H H1 : Hp) (c' : Addr) : Prop :=
  LamX.Tabs T H1 ∧ ((H1 = H ∧ H c' = some (LamX.CodeO c' q)) ∨ ∃ ps, H c' = none ∧ c' ≠ P ∧ H1 = upd (upd H P (.tbl ps)) c' (LamX.CodeO c' q))
theorem LamEnd.code {T : List (Addr × Str)} {P : Addr} {q : Str} {H H1 : Hp} {c' : Addr} (h : LamEnd T P q H H1 c') : H1 c' = some (LamX.CodeO c' q) := by
  rcases h.2 with ⟨e, z⟩ | ⟨ps, _, _, e⟩
  · rw [e]; exact z
  · rw [e]; exact upd_same
theorem track_fn {c' : Addr} {S : LS} {cl : List (Str × Addr)} {o : Obj} {pm ctv : Value} {tk : Nat} {h₁ : Heap} (I : Inv X pins σ H { s with heap := h₁, toks := tk }) (ho : o = PySem.W.kla_obj "<lambda>" S.qual S.params S.body S.scope cl pm c' ctv) {tk2 : Nat} :
    Inv X pins σ (upd H h₁.objs.size (FnL h₁.objs.size S cl c')) { s with heap := h₁.push o, toks := tk2 } := by
  have z : (h₁.push o).get? h₁.objs.size = some o := by
    rw [ho]
    exact Heap.get?_push_size _ rfl
  refine I.laid (a := h₁.objs.size) (t' := tk2) (h' := h₁.push o) (fun b u e => Heap.get?_push_of_some _ e) (Nat.le_refl _) ⟨⟨none, #[], pm, ctv, ?_⟩, ⟨_, z⟩, fun h1 h2 ⟨od, sl, p, t, y⟩ st => ⟨od, sl, p, t, st _ y⟩⟩
  rw [z, ho]
theorem lam_mk {T : List (Addr × Str)} {S : LS} {c P : Addr} {lp : Pos} {Eb : Value → Shared → Prop} {Q : Value → Shared → Prop} (I : Inv X pins σ H s) (TB : LamX.TabB X.base X.mg c P) (hcd : X.env.code = .ref c) (hq : S.qual = X.env.qual ++ "<lambda>")
    (hm : (P, S.qual) ∈ T) (hu : ∀ p ∈ T, p.1 = P → p.2 = S.qual) (hT : LamX.Tabs T H) (hdf : defaultsOf S.params X.env = ([], [])) (hfr : ∀ y ∈ S.scope.names, y.2 = .free → ∃ c, X.env.cells.lookup y.1 = some c)
    (fin : ∀ (f c' : Addr) (H1 : Hp) (s' : Shared), LamEnd T P S.qual H H1 c' → H1 f = none → Inv X pins σ (upd H1 f (FnL f S (cloFrom X.env.cells S.scope.names []) c')) s' → Q (.ref f) s') :
    wpAny (model X.prog X.w) X.A (eval (.Lambda S.params S.body S.scope lp) X.env) Q Eb s := by
  obtain ⟨ps, hP, ht, ha⟩ := hT _ hm
  have bld : s.heap.BuiltinsAt X.mg P := TB.bm.keeps I.bk
  have tab : s.heap.get? P = some { cls := .none, data := .fields ps } := I.hok P _ hP
  have cok := closure_ok hfr
  refine PySem.W.kla_eval hdf ?_
  rw [← hq]
  cases am : codeAmong lp ps.toList with
  | some cv =>
    obtain ⟨c', ecv, hco⟩ := ha lp cv am
    subst ecv
    refine PySem.W.kla_makeFunctionHit (c := c) (ps := ps) (P := P) (mg := X.mg) cok I.ok.glob (I.mod.glob.keeps I.bk) hcd (TB.code.keeps I.bk) tab ht am bld fun ctv h₁ tk kp hsz => ?_
    have J : Inv X pins σ H { s with heap := h₁, toks := tk } := I.kept kp
    have nf : H h₁.objs.size = none := J.hok.fresh (Nat.le_refl _)
    exact fin h₁.objs.size c' H _ ⟨hT, .inl ⟨rfl, hco⟩⟩ nf (track_fn (s := s) (tk2 := tk) J rfl)
  | none =>
    refine PySem.W.kla_makeFunction (c := c) (ps := ps) (P := P) (mg := X.mg) cok I.ok.glob (I.mod.glob.keeps I.bk) hcd (TB.code.keeps I.bk) tab ht am TB.gP bld fun c' ctv h₁ tk but hge hlt rec_ tb' => ?_
    obtain ⟨cc, oc, fs, t, ecc, hoc, hdat, hnm⟩ := rec_
    cases ecc
    have nc : H c' = none := I.hok.fresh hge
    have J := LamX.inv_table (t' := tk) (h' := h₁) (more := #[rawInt lp.line, rawInt lp.col, .ref c']) (q := S.qual) I hP (fun b o hb e => but b o hb e) tb' hge ⟨oc, fs, t, hoc, hdat, hnm⟩
    have nP : c' ≠ P := fun z => by
      rw [z, hP] at nc
      cases nc
    have le : s.heap.objs.size ≤ h₁.objs.size := Nat.le_trans hge (Nat.le_of_lt hlt)
    have keepN : ∀ b o, H b = some o → (∀ ps, o ≠ .tbl ps) → upd (upd H P (.tbl (ps ++ #[rawInt lp.line, rawInt lp.col, .ref c']))) c' (LamX.CodeO c' S.qual) b = some o := fun b o e n => by
      rw [upd_ne (ne_of_none e nc), upd_ne (fun z => n ps (Option.some.inj (by rw [← e, z]; exact hP)))]
      exact e
    have lst : (ps ++ #[rawInt lp.line, rawInt lp.col, Value.ref c']).toList = ps.toList ++ [rawInt lp.line, rawInt lp.col, .ref c'] := by simp
    have T1 : LamX.Tabs T (upd (upd H P (.tbl (ps ++ #[rawInt lp.line, rawInt lp.col, .ref c']))) c' (LamX.CodeO c' S.qual)) := fun p hp => by
      by_cases hb : p.1 = P
      · rw [hu p hp hb, hb]
        refine ⟨_, (upd_ne (Ne.symm nP)).trans upd_same, by rw [lst]; exact PySem.TriplesOk_snoc _ _ _ _ ht, fun p' cv hcv => ?_⟩
        rw [lst] at hcv
        rcases LamX.among_app _ ht hcv with z | z
        · obtain ⟨c0, e1, e2⟩ := ha p' cv z
          exact ⟨c0, e1, keepN _ _ e2 obj_ne_tbl⟩
        · exact ⟨c', z, upd_same⟩
      · obtain ⟨qs, a1, a2, a3⟩ := hT p hp
        refine ⟨qs, by rw [upd_ne (ne_of_none a1 nc), upd_ne hb]; exact a1, a2, fun p' cv hcv => ?_⟩
        obtain ⟨c0, e1, e2⟩ := a3 p' cv hcv
        exact ⟨c0, e1, keepN _ _ e2 obj_ne_tbl⟩
    exact fin h₁.objs.size c' _ _ ⟨T1, .inr ⟨_, nc, nP, rfl⟩⟩ (J.hok.fresh (Nat.le_refl _)) (track_fn (s := s) (tk2 := tk) J rfl)
end
theorem lam_wok {g : G} {H H1 : Hp} {n : Nat} {P c' : Addr} {q : Str} (w : WOk g H n) (hP : P ∈ g.T.map (·.1)) (e : LamEnd g.T P q H H1 c') : WOk g H1 n := by
  obtain ⟨⟨hne, is, k1, k2, m, h1, h2, r⟩, t⟩ := w
  have st : ∀ b u, H b = some u → (∀ ps, u ≠ .tbl ps) → H1 b = some u := fun b u z n => by
    rcases e.2 with ⟨z1, _⟩ | ⟨ps, z1, z2, z3⟩
    · rw [z1]; exact z
    · have hbP : b ≠ P := fun y => by
        obtain ⟨pq, hpq, y2⟩ := List.mem_map.mp hP
        obtain ⟨ps0, y0, _⟩ := t pq hpq
        rw [y2, ← y, z] at y0
        exact n ps0 (Option.some.inj y0)
      rw [z3, upd_ne (ne_of_none z z1), upd_ne hbP]
      exact z
  exact ⟨⟨hne, is, k1, k2, m, st _ _ h1 fun ps z => (nomatch z), st _ _ h2 fun ps z => (nomatch z), r⟩, e.1⟩
theorem WOk.nexC {g : G} {H : Hp} {n : Nat} (w : WOk g H n) {p : Addr} {q : Str} (hp : H p = some (LamX.CodeO p q)) : ¬ g.ex p := by
  obtain ⟨⟨hne, is, c, k, m, h1, h2, r⟩, t⟩ := w
  rintro (e | e | e)
  · rw [e, h1] at hp
    exact codeO_ne_lst (Option.some.inj hp).symm
  · rw [e, h2] at hp
    exact codeO_ne_lst (Option.some.inj hp).symm
  · obtain ⟨z, hz, e⟩ := List.mem_map.mp e
    obtain ⟨ps, e1, _⟩ := t z hz
    rw [← e, e1] at hp
    exact LamX.codeO_ne ps (Option.some.inj hp).symm
/-- .. among the data -/
theorem lam_post {g : G} {F H H1 : Hp} {n : Nat} {P f c' : Addr} {q : Str} {o : HO} (sub : FSub g F H) (w : WOk g H n) (hP : P ∈ g.T.map (·.1)) (e : LamEnd g.T P q H H1 c') (hf : H1 f = none) : Post g F H (upd (upd F c' (LamX.CodeO c' q)) f o) (upd H1 f o) n := by
  have w1 := lam_wok w hP e
  have hc : ¬ g.ex c' := w1.nexC e.code
  have hfn : ¬ g.ex f := w1.nex hf
  have hfc : c' ≠ f := ne_of_none e.code hf
  have up : ∀ b u, H b = some u → ¬ g.ex b → H1 b = some u := fun b u z nx => by
    rcases e.2 with ⟨z1, _⟩ | ⟨ps, z1, z2, z3⟩
    · rw [z1]; exact z
    · rw [z3, upd_ne (ne_of_none z z1), upd_ne (fun y => nx (by rw [y]; exact .inr (.inr hP)))]
      exact z
  have hFc : F c' = none ∨ F c' = some (LamX.CodeO c' q) := by
    cases z : F c' with
    | none => exact .inl rfl
    | some u =>
      have z2 := up _ _ (sub c' u z).1 (sub c' u z).2
      rw [e.code] at z2
      cases z2
      exact .inr rfl
  have hFf : F f = none := by
    cases z : F f with
    | none => rfl
    | some u =>
      have z2 := up _ _ (sub f u z).1 (sub f u z).2
      rw [hf] at z2
      cases z2
  have hHf : H f = none := by
    cases z : H f with
    | none => rfl
    | some u =>
      have z2 := up _ _ z hfn
      rw [hf] at z2
      cases z2
  refine ⟨fun b u z nx => ?_, fun b u z => ?_, fun b u z => ?_, fun b z => ?_, ?_⟩
  · have z2 := up b u z nx
    rw [upd_ne (ne_of_none z2 hf)]
    exact z2
  · have nb : b ≠ f := fun y => by
      rw [y, hFf] at z
      cases z
    rw [upd_ne nb]
    by_cases hb : b = c'
    · rw [hb, upd_same]
      rcases hFc with y | y
      · rw [hb, y] at z
        cases z
      · rw [hb, y] at z
        exact z
    · rw [upd_ne hb]
      exact z
  · by_cases hb : b = f
    · rw [hb, upd_same] at z ⊢
      exact ⟨z, hfn⟩
    · rw [upd_ne hb] at z ⊢
      by_cases hb2 : b = c'
      · rw [hb2, upd_same] at z
        cases z
        rw [hb2]
        exact ⟨e.code, hc⟩
      · rw [upd_ne hb2] at z
        exact ⟨up b u (sub b u z).1 (sub b u z).2, (sub b u z).2⟩
  · by_cases hb : b = f
    · rw [hb]
      exact .inr (.inl hHf)
    · rw [upd_ne hb] at z
      by_cases hb2 : b = c'
      · rw [hb2]
        rcases e.2 with ⟨_, y⟩ | ⟨ps, y, _, _⟩
        · exact .inr (.inr ⟨q, y⟩)
        · exact .inr (.inl y)
      · rw [upd_ne hb2] at z
        exact .inl z
  · exact w1.upd hf
/-- the place of a def's lambdas: its code object c, its table P -/
structure LamAt (g : G) (X : Cx) (c P : Addr) : Prop where
  tb : LamX.TabB X.base X.mg c P
  code : X.env.code = .ref c
  mem : (P, X.env.qual ++ "<lambda>") ∈ g.T
  one : ∀ p ∈ g.T, p.1 = P → p.2 = X.env.qual ++ "<lambda>"
section
variable {g : G} {X : Cx} {W : WX} {c P : Addr}
def tLamD (g : G) (X : Cx) (P : Addr) (S : LS) : TE := fun σ H Q => LamX.Tabs g.T H ∧ ∀ (f c' : Addr) (H1 : Hp), LamEnd g.T P S.qual H H1 c' → H1 f = none → Q (.ref f) (upd H1 f (FnL f S (cloFrom X.env.cells S.scope.names []) c'))
theorem pe_lamD {S : LS} {lp : Pos} (L : LamAt g X c P) (hq : S.qual = X.env.qual ++ "<lambda>") (hdf : defaultsOf S.params X.env = ([], [])) (hfr : ∀ y ∈ S.scope.names, y.2 = .free → X.env.scope.names.lookup y.1 = some .cell ∨ X.env.scope.names.lookup y.1 = some .free) :
    PE X (.Lambda S.params S.body S.scope lp) (tLamD g X P S) := by
  refine ⟨fun pins s σ H Q I ⟨hT, h⟩ => ?_⟩
  refine lam_mk I L.tb L.code hq (by rw [hq]; exact L.mem) (fun p hp e => by rw [hq]; exact L.one p hp e) hT hdf (fun y hy e => (hfr y hy e).elim (fun z => I.ok.has _ (.inl z)) fun z => I.ok.has _ (.inr z)) fun f c' H1 s' e1 e2 J => ?_
  exact ⟨.ref f, _, J, rfl, h f c' H1 e1 e2⟩
/-- lambda ..: body, the captured names' values looked up when it is called -/
theorem pd_lamS (k : Nat) {S : LS} {lp : Pos} (hk : g.L k = S) (L : LamAt g X c P) (hq : S.qual = X.env.qual ++ "<lambda>") (hdf : defaultsOf S.params X.env = ([], [])) (hfr : ∀ y ∈ S.scope.names, y.2 = .free → X.env.scope.names.lookup y.1 = some .cell ∨ X.env.scope.names.lookup y.1 = some .free) :
    PD g X W (.Lambda S.params S.body S.scope lp) (fun _ => pure (.pclo k (cloFrom X.env.cells S.scope.names []))) := by
  refine ⟨(pe_lamD L hq hdf hfr).imp fun σ H Q ⟨H0, F0, F, γ, n, s, r⟩ => ⟨s.wok.2, fun f c' H1 e1 e2 => ?_⟩⟩
  have po := lam_post (o := FnL f S (cloFrom X.env.cells S.scope.names []) c') s.sub s.wok (List.mem_map.mpr ⟨_, L.mem, rfl⟩) e1 e2
  have hne : c' ≠ f := ne_of_none e1.code e2
  refine r _ _ _ (s.post po) po.fle (.pclo (c' := c') ?_ ?_)
  · rw [hk]
    exact upd_same
  · rw [hk, upd_ne hne]
    exact upd_same
/-- .. that captures nothing -/
theorem pd_lam0S (k : Nat) {S : LS} {lp : Pos} (hk : g.L k = S) (L : LamAt g X c P) (hq : S.qual = X.env.qual ++ "<lambda>") (hdf : defaultsOf S.params X.env = ([], [])) (hfr : S.fr = []) (hcl : cloFrom X.env.cells S.scope.names [] = []) (hno : ∀ y ∈ S.scope.names, y.2 ≠ .free) :
    PD g X W (.Lambda S.params S.body S.scope lp) (fun _ => pure (.clo k [])) := by
  refine ⟨(pe_lamD L hq hdf (fun y hy e => absurd e (hno y hy))).imp fun σ H Q ⟨H0, F0, F, γ, n, s, r⟩ => ⟨s.wok.2, fun f c' H1 e1 e2 => ?_⟩⟩
  have po := lam_post (o := FnL f S (cloFrom X.env.cells S.scope.names []) c') s.sub s.wok (List.mem_map.mpr ⟨_, L.mem, rfl⟩) e1 e2
  have hne : c' ≠ f := ne_of_none e1.code e2
  refine r _ _ _ (s.post po) po.fle (.clo (c' := c') (cl := cloFrom X.env.cells S.scope.names []) ?_ ?_ ?_ ?_ ?_)
  · rw [hk]
    exact upd_same
  · rw [hk, upd_ne hne]
    exact upd_same
  · rw [hcl]
    intro x c h
    simp at h
  · rw [hcl]
    intro x y c h
    simp at h
  · rw [hk, hfr]
    exact .nil
theorem pd_lam (k : Nat) {q : Str} {params : Arguments} {body : Expr} {scope : Scope} {ps fr : List Str} {lp : Pos} (hk : g.L k = ⟨q, params, body, scope, ps, fr⟩) (L : LamAt g X c P) (hq : q = X.env.qual ++ "<lambda>") (hdf : defaultsOf params X.env = ([], []) := by rfl)
    (hfr : ∀ y ∈ scope.names, y.2 = .free → X.env.scope.names.lookup y.1 = some .cell ∨ X.env.scope.names.lookup y.1 = some .free) : PD g X W (.Lambda params body scope lp) (fun _ => pure (.pclo k (cloFrom X.env.cells scope.names []))) :=
  pd_lamS k (S := ⟨q, params, body, scope, ps, fr⟩) hk L hq hdf hfr
theorem pd_lam0 (k : Nat) {q : Str} {params : Arguments} {body : Expr} {scope : Scope} {ps : List Str} {lp : Pos} (hk : g.L k = ⟨q, params, body, scope, ps, []⟩) (L : LamAt g X c P) (hq : q = X.env.qual ++ "<lambda>") (hdf : defaultsOf params X.env = ([], []) := by rfl) (hcl : cloFrom X.env.cells scope.names [] = [] := by rfl)
    (hno : ∀ y ∈ scope.names, y.2 ≠ .free := by decide) : PD g X W (.Lambda params body scope lp) (fun _ => pure (.clo k [])) :=
  pd_lam0S k (S := ⟨q, params, body, scope, ps, []⟩) hk L hq hdf rfl hcl hno
end
end DL

set_option Elab.async false
set_option linter.all false
set_option maxRecDepth 100000
set_option maxHeartbeats 4000000
/-! DQ: lambdas called. -/
namespace DL
open PySem PySem.Spec PyProof.Rows L2

/-- the promise of the lambda k at a level: what it makes of its captured data and its arguments -/
def CloD (g : G) (P : Program) (w : World) (K : PySem.W.Frag) (mg : Str → Option Value) (base : Heap) (j k : Nat) (m : List D → List D → M D) : Prop :=
  ∀ (A : Around) (outer : List PySem.Env) (s : Shared) (H : Hp) (us : List Value) (vs : List V) (Q : VK) (E : XK) (F : Hp) (f : Addr) (caps ds : List D) (n : Nat),
    Room j A → Env0 P w K mg base A outer s H → Rep g K F (.ref f) (.clo k caps) → FSub g F H → WOk g H n → Vals vs us → RepL g K F vs ds → flatL caps = true → flatL ds = true →
    (m caps ds).run n (fun d n' => ∀ F' H' v, Post g F H F' H' n' → Rep g K F' v d → Q v H') (fun x n' => ∀ F' H' cls dd, Post g F H F' H' n' → XRep g K mg F' H' x cls dd → E cls dd H') →
    codeAny (model P w) A (.call (.ref f) ⟨us, []⟩) (CR (L2.CX P w) outer P w H s Q E) s
open Classical in
/-- the cells that cl names, by what is known of them -/
noncomputable def capC (cl : List (Str × Addr)) (F : Hp) : Addr → Option Obj := fun b => match F b with
  | some (.frz o (.own 0)) => if ∃ x, cl.lookup x = some b then some o else none
  | _ => none
theorem capC_some {cl : List (Str × Addr)} {F : Hp} {b : Addr} {o : Obj} (h : capC cl F b = some o) : F b = some (.frz o (.own 0)) ∧ ∃ x, cl.lookup x = some b := by
  unfold capC at h
  split at h
  · rename_i o' e
    split at h
    · rename_i hx
      cases h
      exact ⟨e, hx⟩
    · cases h
  · cases h
theorem capC_of {cl : List (Str × Addr)} {F : Hp} {b : Addr} {o : Obj} {x : Str} (h : F b = some (.frz o (.own 0))) (hx : cl.lookup x = some b) : capC cl F b = some o := by
  unfold capC
  rw [h]
  exact if_pos ⟨x, hx⟩
section
variable {g : G} {K : PySem.W.Frag} {F H : Hp}
theorem repC_vals : ∀ {cl : List (Str × Addr)} {xs : List Str} {ds : List D}, RepC g K F cl xs ds → ∃ wv : List V, wv.length = xs.length ∧ RepL g K F wv ds ∧
    ∀ (i : Nat) (y : Str), xs[i]? = some y → ∃ (c : Addr) (o : Obj) (u : Value) (v : V), cl.lookup y = some c ∧ F c = some (.frz o (.own 0)) ∧ o.data = .cell (some u) ∧ RelV v u ∧ wv[i]? = some v
  | _, _, _, .nil => ⟨[], rfl, .nil, fun i y h => by simp at h⟩
  | _, _, _, .cons (c := c) (o := o) (u := u) (v := v) a b e r rv rest => by
    obtain ⟨wv, h1, h2, h3⟩ := repC_vals rest
    refine ⟨v :: wv, by simp [h1], .cons rv h2, fun i y h => ?_⟩
    cases i with
    | zero =>
      simp at h
      subst h
      exact ⟨c, o, u, v, a, b, e, r, rfl⟩
    | succ i =>
      obtain ⟨c, o, u, v, q⟩ := h3 i y (by simpa using h)
      exact ⟨c, o, u, v, by simpa using q⟩
/-- the data go on where the cells were not known -/
theorem post_ovl {F' H' : Hp} {n' : Nat} {c : Addr → Option Obj} (sub : FSub g F H) (hc : ∀ b o, c b = some o → F b = some (.frz o (.own 0))) (hn : ∀ b o, c b = some o → H' b = none) (p : Post g (und c F) (und c H) F' H' n') : Post g F H (ovl c F') (ovl c H') n' ∧ FLe F' (ovl c F') := by
  have hF : ∀ b o, c b = some o → F' b = none := fun b o e => by
    cases q : F' b with
    | none => rfl
    | some u =>
      have z := hn b o e
      rw [(p.sub b u q).1] at z
      cases z
  refine ⟨⟨fun a u e nx => ?_, fun a u e => ?_, fun a u e => ?_, fun a h => ?_, wok_ovl p.wok hn⟩, fle_ovl hF⟩
  · cases q : c a with
    | some o =>
      have z := (sub a _ (hc a o q)).1
      rw [e] at z
      rw [ovl_in q, z]
    | none =>
      rw [ovl_out q]
      exact p.ext a u (by rw [und_out q]; exact e) nx
  · cases q : c a with
    | some o =>
      rw [hc a o q] at e
      rw [ovl_in q, e]
    | none =>
      rw [ovl_out q]
      exact p.fle a u (by rw [und_out q]; exact e)
  · cases q : c a with
    | some o =>
      rw [ovl_in q] at e ⊢
      exact ⟨e, (sub a _ (hc a o q)).2⟩
    | none =>
      rw [ovl_out q] at e ⊢
      exact p.sub a u e
  · cases q : c a with
    | some o => exact .inl (by rw [hc a o q]; simp)
    | none =>
      rw [ovl_out q] at h
      rcases p.new a h with z | z
      · rw [und_out q] at z
        exact .inl z
      · unfold Nw at z
        rw [und_out q] at z
        exact .inr z
/-- .. and where they were known for a while -/
theorem post_und {F' H' : Hp} {n' : Nat} {c : Addr → Option Obj} (sub : FSub g F H) (hno : ∀ b o, c b = some o → H b = none) (hc : ∀ b o, c b = some o → H' b = some (.frz o (.own 0))) (p : Post g (ovl c F) (ovl c H) F' H' n') : Post g F H (und c F') (und c H') n' := by
  have out : ∀ {b : Addr} {u : HO}, H b = some u → c b = none := fun {b u} e => by
    cases q : c b with
    | none => rfl
    | some o =>
      rw [hno b o q] at e
      cases e
  refine ⟨fun a u e nx => ?_, fun a u e => ?_, fun a u e => ?_, fun a h => ?_, wok_und p.wok fun b o e => .inr (hc b o e)⟩
  · rw [und_out (out e)]
    exact p.ext a u (by rw [ovl_out (out e)]; exact e) nx
  · have q := out (sub a u e).1
    rw [und_out q]
    exact p.fle a u (by rw [ovl_out q]; exact e)
  · cases q : c a with
    | some o =>
      rw [und_in q] at e
      cases e
    | none =>
      rw [und_out q] at e ⊢
      exact p.sub a u e
  · cases q : c a with
    | some o => exact absurd (und_in q) h
    | none =>
      rw [und_out q] at h
      rcases p.new a h with z | z
      · rw [ovl_out q] at z
        exact .inl z
      · unfold Nw at z
        rw [ovl_out q] at z
        exact .inr z
theorem xrep_ovl {mg : Str → Option Value} {F' H' : Hp} {c : Addr → Option Obj} {x : Exc} {cls : Value} {dd : Option Addr} (hn : ∀ b o, c b = some o → H' b = none) (fl : FLe F' (ovl c F')) (h : XRep g K mg F' H' x cls dd) : XRep g K mg (ovl c F') (ovl c H') x cls dd := by
  obtain ⟨C, h1, h2, h3⟩ := h
  refine ⟨C, h1, h2, h3.imp id fun ⟨d, vs, e1, e2, e3, e4, e5⟩ => ?_⟩
  have q : c d = none := by
    cases q : c d with
    | none => rfl
    | some o =>
      rw [hn d o q] at e3
      cases e3
  exact ⟨d, vs, e1, by rw [ovl_out q]; exact e2, by rw [ovl_out q]; exact e3, e4, e5.fle fl⟩
def flatF : List (Str × D) → Bool
  | [] => true
  | p :: ps => flat p.2 && flatF ps
theorem repF_und {c : Addr → Option Obj} {F' : Hp} (h : CF c F') : ∀ {vs : List (Str × V)} {ds : List (Str × D)}, RepF g K F' vs ds → flatF ds = true → RepF g K (und c F') vs ds
  | _, _, .nil, _ => .nil
  | _, _, .cons r s, e => by
    rw [flatF, Bool.and_eq_true] at e
    exact .cons (rep_und h r e.1) (repF_und h s e.2)
theorem xrep_und {mg : Str → Option Value} {F' H' : Hp} {c : Addr → Option Obj} {x : Exc} {cls : Value} {dd : Option Addr} (hc : ∀ b o, c b = some o → H' b = some (.frz o (.own 0))) (cf : CF c F') (hx : flatF x.fs = true) (h : XRep g K mg F' H' x cls dd) : XRep g K mg (und c F') (und c H') x cls dd := by
  obtain ⟨C, h1, h2, h3⟩ := h
  refine ⟨C, h1, h2, h3.imp id fun ⟨d, vs, e1, e2, e3, e4, e5⟩ => ?_⟩
  have q : c d = none := by
    cases q : c d with
    | none => rfl
    | some o =>
      rw [hc d o q] at e3
      cases e3
  exact ⟨d, vs, e1, by rw [und_out q]; exact e2, by rw [und_out q]; exact e3, e4, repF_und cf e5 hx⟩
end
/-- what is wanted while the cells c are not known -/
def QU (g : G) (K : PySem.W.Frag) (F H : Hp) (c : Addr → Option Obj) (Q : VK) : VK := fun v H' => ∃ d n' F', Post g (und c F) (und c H) F' H' n' ∧ Rep g K F' v d ∧ ∀ F2 H2 v2, Post g F H F2 H2 n' → Rep g K F2 v2 d → Q v2 H2
def EU (g : G) (K : PySem.W.Frag) (mg : Str → Option Value) (F H : Hp) (c : Addr → Option Obj) (E : XK) : XK := fun cls dd H' => ∃ x n' F', Post g (und c F) (und c H) F' H' n' ∧ XRep g K mg F' H' x cls dd ∧ ∀ F2 H2 cls2 dd2, Post g F H F2 H2 n' → XRep g K mg F2 H2 x cls2 dd2 → E cls2 dd2 H2
/-- the lambda S as one of the kit's nested functions (its names alone count) -/
def nfOf (S : LS) (cl : List (Str × Addr)) (c' : Addr) : NdefX.NF := ⟨"<lambda>", S.qual, S.params, [], S.scope, cl, c'⟩
section
variable {g : G} {P : Program} {w : World} {K : PySem.W.Frag} {mg : Str → Option Value} {base : Heap}
/-- THE RULE: a lambda by its body -/
theorem cloD {j k : Nat} {S : LS} {m : List D → List D → M D} {mb : Env → M D} (hk : g.L k = S) (NS : NdefX.NScope (S.ps ++ S.fr) S.ps S.fr S.scope)
    (hb : ∀ (cl : List (Str × Addr)) (pm cv ctv : Value) (us : List Value), us.length = S.ps.length → bindArgs (PySem.W.kla_fn "<lambda>" S.qual S.params S.body S.scope cl pm cv ctv) ⟨us, []⟩ = pure (S.ps.zip us))
    (hbody : ∀ (A : Around) (outer : List PySem.Env) (s : Shared) (H : Hp) (E : XK) (f : Addr) (cl : List (Str × Addr)) (c' : Addr), Room j (A.deeper (NdefX.envF (nfOf S cl c') f s.heap.objs.size)) →
      PD g (NdefX.ncx (L2.CX P w) P w K mg base (S.ps ++ S.fr) (nfOf S cl c') f A outer s H E) (fun cls d _ H => E cls d H) S.body mb)
    (hm : ∀ caps ds, M.Le (m caps ds) (do M.need (ds.length = S.ps.length); mb (startD (S.ps ++ S.fr) (ds ++ caps)))) : CloD g P w K mg base (j + 1) k m := by
  intro A outer s H us vs Q E F f caps ds n hr e0 rep sub wk rv rl fc fd hrun
  obtain ⟨hlen, hrun⟩ := hm caps ds n _ _ hrun
  cases rep with
  | @clo _ c' _ cl _ hf hcd hfr hinj rc =>
    rw [hk] at hf hcd hfr rc
    obtain ⟨wv, hwl, hwr, hwv⟩ := repC_vals rc
    -- the captured cells are not known while the body runs
    have eqH : ovl (capC cl F) (und (capC cl F) H) = H := by
      funext b
      cases q : capC cl F b with
      | none => rw [ovl_out q, und_out q]
      | some o => rw [ovl_in q, (sub b _ (capC_some q).1).1]
    have hat : ∀ b o, capC cl F b = some o → H b = some (.frz o (.own 0)) := fun b o q => (sub b _ (capC_some q).1).1
    have cel : CelOk (capC cl F) (und (capC cl F) H) s.heap (frs outer) := by
      refine ⟨fun b o q => und_in q, fun b o q => (e0.hok b _ (hat b o q)).1, fun b o q hm => ?_, fun b o q => ?_⟩
      · have z := hat b o q
        rw [e0.frf b hm] at z
        cases z
      · obtain ⟨q1, x, hx⟩ := capC_some q
        obtain ⟨i, hi⟩ := List.mem_iff_getElem?.mp (hfr x b hx)
        obtain ⟨c2, o2, u, v, h1, h2, h3, _⟩ := hwv i x hi
        rw [hx] at h1
        cases h1
        rw [q1] at h2
        cases h2
        exact ⟨_, h3⟩
    have cf : CF (capC cl F) F := fun b o q => .inr ⟨o, (capC_some q).1⟩
    rw [← eqH]
    refine codeAny_mono (?_ : codeAny (model P w) A (.call (.ref f) ⟨us, []⟩) (CR (L2.CX P w) outer P w (und (capC cl F) H) s (QU g K F H (capC cl F) Q)
      (EU g K mg F H (capC cl F) E)) s) fun r s' hcr => ?_
    · -- the body's run
      have lim : s.heap.NoLimit := e0.mod.nolimit.keeps fun b o e => (e0.bs b o e).1
      have un_le : ∀ {b : Addr} {u : HO}, und (capC cl F) H b = some u → H b = some u := fun {b u} e => fle_und b u e
      have e0' : Env0 P w K mg base A outer s (und (capC cl F) H) := ⟨e0.frames, e0.mod, fun b o e => ⟨(e0.bs b o e).1, by
          cases q : capC cl F b with
          | none => rw [und_out q]; exact (e0.bs b o e).2
          | some o => exact und_in q⟩, e0.bsz, e0.funs, fun b hb => by
          cases q : capC cl F b with
          | none => rw [und_out q]; exact e0.frf b hb
          | some o => exact und_in q, hok_und e0.hok fun b o q => .inr (hat b o q), e0.bare⟩
      obtain ⟨⟨od, sl, pm, ctv, ho⟩, _, _⟩ := e0.hok f _ (sub f _ hf).1
      have hcr := NdefX.codeO_at e0.hok (sub c' _ hcd).1
      have hl : vs.length = S.ps.length := by rw [rl.length, hlen]
      refine PySem.W.kla_callFunE hr.depth ho rfl NS.co NS.gen rfl hcr ?_
      rw [hb cl pm (.ref c') ctv us (by rw [← rv.length]; exact hl)]
      refine wpAny_pure (wpAny_newFunctionEnv NS.nocell (fun ⟨x, _⟩ hy => NS.par x (List.of_mem_zip hy).1) (fun h₁ hns hsb => ⟨lim.fresh _ hsb, ?_⟩) NS.kind)
      show codeAny _ _ (.expr S.body (NdefX.envF (nfOf S cl c') f s.heap.objs.size)) _ _
      have kp : ∀ b o, s.heap.get? b = some o → h₁.get? b = some o := fun b o e => hsb.extBut b o (Nat.ne_of_lt (Heap.lt_size e)) (Heap.get?_push_of_some _ e)
      have cells : NdefX.CellsAt (nfOf S cl c').cl S.fr (wv.map some) s.heap (und (capC cl F) H) := by
        refine ⟨by rw [List.length_map, hwl], fun y b e => ?_, hinj, fun i y e => ?_⟩
        · obtain ⟨i, hi⟩ := List.mem_iff_getElem?.mp (hfr y b e)
          obtain ⟨c2, o2, u, v, h1, h2, h3, _⟩ := hwv i y hi
          have e' : cl.lookup y = some b := e
          rw [e'] at h1
          cases h1
          exact ⟨und_in (capC_of h2 e'), _, o2, (e0.hok b _ (sub b _ h2).1).1, h3⟩
        · obtain ⟨c2, o2, u, v, h1, h2, h3, h4, h5⟩ := hwv i y e
          refine ⟨c2, h1, fun v' ev => ?_⟩
          rw [List.getElem?_map, h5] at ev
          cases ev
          exact ⟨u, h4, o2, (e0.hok c2 _ (sub c2 _ h2).1).1, h3⟩
      have J := NdefX.inv_startN (CX := L2.CX P w) (F := nfOf S cl c') (f := f) (E := EU g K mg F H (capC cl F) E)
        (tk := s.toks + (S.ps.zip us).length) NS hr.hd e0' hl rv cells hns kp
      have est : NdefX.startF (S.ps ++ S.fr) vs (wv.map some) = L2.start (S.ps ++ S.fr) (vs ++ wv) := by
        unfold NdefX.startF L2.start
        rw [List.map_append, List.append_assoc, List.length_map, List.length_append, List.length_append, Nat.sub_sub]
      rw [est] at J
      have sub' : FSub g (und (capC cl F) F) (und (capC cl F) H) := fun b u e => by
        cases q : capC cl F b with
        | some o =>
          rw [und_in q] at e
          cases e
        | none =>
          rw [und_out q] at e ⊢
          exact sub b u e
      have wk' : WOk g (und (capC cl F) H) n := wok_und wk fun b o q => .inr (hat b o q)
      have rl' : RepL g K (und (capC cl F) F) (vs ++ wv) (ds ++ caps) := (repL_und cf rl fd).append (repL_und cf hwr fc)
      have st := start_ok (N := S.ps ++ S.fr) sub' wk' rl'
      refine PySem.W.kla_codeExpr (wpAny_mono ((hbody A outer s (und (capC cl F) H) _ f cl c' (hr.deeper _)).pe.run [] _ _ _ (QU g K F H (capC cl F) Q) J ⟨_, _, _, _, n, st, (mb _).mono hrun (fun d n' q F' H' v s' f' r' => ?_) fun x n' q F' H' cls dd s' xr => ?_⟩) (fun v s' hq => ?_) fun e s' hq => hq)
      · exact ⟨d, n', F', post_of s', r', q⟩
      · exact ⟨x, n', F', post_of s', xr, q⟩
      · obtain ⟨w', H', J', rv', q⟩ := hq
        exact ⟨w', H', J'.os, J'.bare, J'.base, J'.hok, rv', q⟩
    · refine cr_ovl cel (fun v H' hn ⟨d, n', F', po, r', q⟩ => ?_) (fun cls dd H' hn ⟨x, n', F', po, xr, q⟩ => ?_) hcr
      · obtain ⟨p2, fl⟩ := post_ovl sub (fun b o e => (capC_some e).1) hn po
        exact q _ _ _ p2 (r'.fle fl)
      · obtain ⟨p2, fl⟩ := post_ovl sub (fun b o e => (capC_some e).1) hn po
        exact q _ _ _ _ p2 (xrep_ovl hn fl xr)
end
end DL

set_option Elab.async false
set_option linter.all false
set_option maxRecDepth 100000
set_option maxHeartbeats 4000000
/-! DR: x(..), x a name that holds a lambda. -/
namespace DL
open PySem PySem.Spec PyProof.Rows L2

/-- a lambda called with data, by what the lambdas promise -/
def callM (lam : Nat → List D → List D → M D) (f : D) (ds : List D) : M D := match f with
  | .clo k caps => do M.need (flatL caps = true ∧ flatL ds = true); lam k caps ds
  | _ => M.stuck
/-- a name that holds a lambda -/
def rdC (i : Nat) (γ : Env) : M D := match γ[i]? with
  | some (some (.fz (.clo k caps))) => pure (.clo k caps)
  | _ => M.stuck
section
variable {g : G} {X : Cx} {W : WX} {lam : Nat → List D → List D → M D} {j i : Nat} {x : Str} {p pos : Pos} {e : Expr} {es : List Expr} {ml : Env → M (List D)}
theorem clo_fnAt {pins : List (Addr × Obj)} {σ : L2.St} {H F : Hp} {s : Shared} {f : Addr} {k : Nat} {caps : List D} (I : Inv X pins σ H s) (sub : FSub g F H) (r : Rep g X.K F (.ref f) (.clo k caps)) : PySem.W.FnAt f s.heap := by
  cases r with
  | clo hf _ _ _ _ =>
    obtain ⟨⟨od, sl, pm, ctv, ho⟩, _, _⟩ := I.hok f _ (sub f _ hf).1
    exact ⟨_, od, _, sl, ho⟩
theorem run_clo {pins : List (Addr × Obj)} {H0 F0 F H : Hp} {σ : L2.St} {γ : Env} {n : Nat} {s : Shared} {f : Addr} {k : Nat} {caps ds : List D} {us : List Value} {vs : List V} {Q : VK} (hC : CloD g X.prog X.w X.K X.mg X.base j k (lam k)) (hr : Room j X.A) (tk : Takes X W) (I : Inv X pins σ H s) (st : StOk g X.K H0 F0 F H σ γ n)
    (rf : Rep g X.K F (.ref f) (.clo k caps)) (rv : Vals vs us) (rl : RepL g X.K F vs ds) (fc : flatL caps = true) (fd : flatL ds = true)
    (h : (lam k caps ds).run n (fun d n' => ∀ F' H' v, StOk g X.K H0 F0 F' H' σ γ n' → FLe F F' → Rep g X.K F' v d → Q v H') (wishX g X.K X.mg W H0 F0 σ γ)) : wpAny (model X.prog X.w) X.A (call (.ref f) us) (EP X pins σ Q) X.xe s := by
  refine wpAny_call (codeAny_mono (hC X.A X.stack s H us vs Q (WE W σ) F f caps ds n hr I.env0 rf st.sub st.wok rv rl fc fd ((lam k caps ds).mono h (fun d n' q F' H' v po r' => q F' H' v (st.post po) po.fle r') fun x n' q F' H' cls dd po xr => q F' H' cls dd (st.post po) xr)) fun r s' hq => ?_)
  cases r with
  | error e => exact passAt tk σ pins H s e s' I hq
  | ok fl =>
    cases fl with
    | ret u => exact I.after hq
    | next => exact False.elim hq
    | brk => exact False.elim hq
    | cont => exact False.elim hq
theorem pd_callC0 (hC : ∀ k, CloD g X.prog X.w X.K X.mg X.base j k (lam k)) (hr : Room j X.A) (tk : Takes X W) (hN : X.N[i]? = some x := by rfl) (hv : Vis X.env.scope x := by first | exact Or.inl rfl | exact Or.inr (Or.inl rfl) | exact Or.inr (Or.inr rfl))
    (hd : (x == ("__debug__" : Str)) = false := by decide) (hcd : (x == ("__classdict__" : Str)) = false := by decide) : PD g X W (.Call (.Name x p) [] [] pos) (fun γ => do let f ← rd i γ; callM lam f []) := by
  refine ⟨⟨fun pins s σ H Q I ⟨H0, F0, F, γ, n, st, r⟩ => ?_⟩⟩
  have r : (rd i γ).run n (fun f n' => (callM lam f []).run n' (fun d n' => ∀ F' H' v, StOk g X.K H0 F0 F' H' σ γ n' → FLe F F' → Rep g X.K F' v d → Q v H') (wishX g X.K X.mg W H0 F0 σ γ)) (wishX g X.K X.mg W H0 F0 σ γ) := r
  unfold rd at r
  split at r
  · rename_i d0 e0
    cases d0 with
    | clo k caps =>
      obtain ⟨⟨fc, fd⟩, r⟩ := r
      obtain ⟨v, h1, h2⟩ := st.slots i _ e0
      have h2 : Rep g X.K F v (.clo k caps) := h2
      have hv0 : ∃ f, v = .ref f := by
        cases h2
        exact ⟨_, rfl⟩
      obtain ⟨f, ev⟩ := hv0
      subst ev
      refine wpAny_Call_Name_kw (thn ((pe_var (pos := p) hN hv hd hcd).run pins s σ H (fun v H1 => v = .ref f ∧ H1 = H) I ⟨.ref f, h1, rfl, rfl⟩) fun u s1 ⟨v, H1, I1, r1, ev, eH⟩ => ?_)
      subst ev
      rw [eH] at I1
      obtain rfl : u = Value.ref f := r1
      refine PySem.W.callWith_F0 (first := []) (clo_fnAt I1 st.sub h2) ?_
      show wpAny _ _ (call (.ref f) []) _ _ _
      exact run_clo (hC k) hr tk I1 st h2 .nil .nil fc fd r
    | _ => exact r.elim
  · exact r.elim
theorem pd_callC (hC : ∀ k, CloD g X.prog X.w X.K X.mg X.base j k (lam k)) (hr : Room j X.A) (tk : Takes X W) (ha : PAD g X W (e :: es) ml) (hN : X.N[i]? = some x := by rfl) (hv : Vis X.env.scope x := by first | exact Or.inl rfl | exact Or.inr (Or.inl rfl) | exact Or.inr (Or.inr rfl))
    (hd : (x == ("__debug__" : Str)) = false := by decide) (hcd : (x == ("__classdict__" : Str)) = false := by decide)
    (he : starEach (e :: es) X.env = (false, eval e X.env) :: starEach es X.env := by rfl) (hpl : (backTo pos (starEach es X.env)).any (·.1) = false := by rfl) : PD g X W (.Call (.Name x p) (e :: es) [] pos) (fun γ => do let f ← rdC i γ; let ds ← ml γ; callM lam f ds) := by
  refine ⟨⟨fun pins s σ H Q I ⟨H0, F0, F, γ, n, st, r⟩ => ?_⟩⟩
  have r : (rdC i γ).run n (fun f n' => (do let ds ← ml γ; callM lam f ds : M D).run n' (fun d n' => ∀ F' H' v, StOk g X.K H0 F0 F' H' σ γ n' → FLe F F' → Rep g X.K F' v d → Q v H') (wishX g X.K X.mg W H0 F0 σ γ)) (wishX g X.K X.mg W H0 F0 σ γ) := r
  unfold rdC at r
  split at r
  · rename_i k caps e0
    obtain ⟨v, h1, h2⟩ := st.slots i _ e0
    have h2 : Rep g X.K F v (.clo k caps) := h2
    have hv0 : ∃ f, v = .ref f := by
      cases h2
      exact ⟨_, rfl⟩
    obtain ⟨f, ev⟩ := hv0
    subst ev
    refine wpAny_Call_Name_kw (thn ((pe_var (pos := p) hN hv hd hcd).run pins s σ H (fun v H1 => v = .ref f ∧ H1 = H) I ⟨.ref f, h1, rfl, rfl⟩) fun u s1 ⟨v, H1, I1, r1, ev, eH⟩ => ?_)
    subst ev
    rw [eH] at I1
    obtain rfl : u = Value.ref f := r1
    have r : (ml γ).run n (fun ds n' => (callM lam (.clo k caps) ds).run n' (fun d n' => ∀ F' H' v, StOk g X.K H0 F0 F' H' σ γ n' → FLe F F' → Rep g X.K F' v d → Q v H') (wishX g X.K X.mg W H0 F0 σ γ)) (wishX g X.K X.mg W H0 F0 σ γ) := r
    refine PySem.W.callWith_F (first := []) (clo_fnAt I1 st.sub h2) (thn (ha.pa.run pos pins s1 σ H (fun vs H2 => ∃ F2 ds n2, StOk g X.K H0 F0 F2 H2 σ γ n2 ∧ FLe F F2 ∧ RepL g X.K F2 vs ds ∧ (callM lam (.clo k caps) ds).run n2 (fun d n' => ∀ F' H' v, StOk g X.K H0 F0 F' H' σ γ n' → FLe F F' → Rep g X.K F' v d → Q v H') (wishX g X.K X.mg W H0 F0 σ γ)) I1 ⟨H0, F0, F, γ, n, st, (ml γ).mono r (fun ds n' q F' H' vs s' f' rl => ⟨F', ds, n', s', f', rl, q⟩) fun _ _ q => q⟩) fun us s2 ⟨vs, H2, I2, rv, F2, ds, n2, st2, fl2, rl2, q⟩ => ?_) he hpl
    obtain ⟨⟨fc, fd⟩, q⟩ := q
    refine ⟨clo_fnAt I2 st2.sub (h2.fle fl2), ?_⟩
    show wpAny _ _ (call (.ref f) us) _ _ _
    exact run_clo (hC k) hr tk I2 st2 (h2.fle fl2) rv rl2 fc fd ((lam k caps ds).mono q (fun d n' q F' H' v s' f' r' => q F' H' v s' (fl2.trans f') r') fun _ _ q => q)
  · exact r.elim
end
end DL

set_option Elab.async false
set_option linter.all false
set_option maxRecDepth 100000
set_option maxHeartbeats 4000000
/-! DS: f(lambda: ..): the running frame's cells are known while f runs. -/
namespace DL
open PySem PySem.Spec PyProof.Rows L2

def rdFz (γ : Env) (j : Nat) : Option D := match γ[j]? with
  | some (some (.fz d)) => some d
  | _ => none
def readAll (js : List Nat) (γ : Env) : Option (List D) := js.mapM (rdFz γ)
/-- a lambda of the running frame, with what its cells hold now; C: the frame's cells -/
def resD (C : List (Str × Addr)) (L : Nat → LS) (jk : Nat → Option (List Nat)) (γ : Env) (d : D) : M D := match d with
  | .pclo k cl => (match jk k with
    | some js => (match readAll js γ with
      | some caps => do M.need (cl = cloFrom C (L k).scope.names []); pure (.clo k caps)
      | none => M.stuck)
    | none => M.stuck)
  | d => pure d
def resAll (C : List (Str × Addr)) (L : Nat → LS) (jk : Nat → Option (List Nat)) (γ : Env) : List D → M (List D)
  | [] => pure []
  | d :: ds => do let x ← resD C L jk γ d; pure (x :: (← resAll C L jk γ ds))
/-- nothing with cells comes out -/
def flatX (m : M D) : M D := ⟨fun n Q E => m.run n (fun d n' => flat d = true ∧ Q d n') (fun x n' => flatF x.fs = true ∧ E x n'), fun h hq he => m.mono h (fun x n' q => ⟨q.1, hq _ _ q.2⟩) fun x n' q => ⟨q.1, he _ _ q.2⟩⟩
/-- how the lambdas' captured names lie to the running frame's -/
structure CapsK (g : G) (X : Cx) (jk : Nat → Option (List Nat)) : Prop where
  kin : ∀ k js, jk k = some js → ∀ y ∈ (g.L k).scope.names, y.2 = .free → X.env.scope.names.lookup y.1 = some .cell ∨ X.env.scope.names.lookup y.1 = some .free
  fr : ∀ k js, jk k = some js → ∀ y ∈ (g.L k).fr, (y, NameKind.free) ∈ (g.L k).scope.names
  rf : ∀ k js, jk k = some js → ∀ y, (y, NameKind.free) ∈ (g.L k).scope.names → y ∈ (g.L k).fr
  at_ : ∀ k js, jk k = some js → js.map (fun j => X.N[j]?) = (g.L k).fr.map some
open Classical in
/-- the running frame's cells -/
noncomputable def frmC (X : Cx) (h : Heap) : Addr → Option Obj := fun b => if ∃ x, X.env.cells.lookup x = some b then h.get? b else none
section
variable {g : G} {X : Cx} {pins : List (Addr × Obj)} {H0 F0 F H : Hp} {σ : L2.St} {γ : Env} {n : Nat} {s : Shared} {jk : Nat → Option (List Nat)}
theorem frmC_some {h : Heap} {b : Addr} {o : Obj} (q : frmC X h b = some o) : (∃ x, X.env.cells.lookup x = some b) ∧ h.get? b = some o := by
  unfold frmC at q
  split at q
  · rename_i hx
    exact ⟨hx, q⟩
  · cases q
theorem frmC_of {h : Heap} {b : Addr} {x : Str} (hx : X.env.cells.lookup x = some b) : frmC X h b = h.get? b := by
  unfold frmC
  exact if_pos ⟨x, hx⟩
theorem frm_big (hfn : ∀ x, X.fn x = true) (I : Inv X pins σ H s) {b : Addr} {o : Obj} (q : frmC X s.heap b = some o) : X.s_0.heap.objs.size ≤ b := by
  obtain ⟨⟨x, hx⟩, _⟩ := frmC_some q
  exact I.ok.cab x b (hfn x) hx
theorem frm_cel (hfn : ∀ x, X.fn x = true) (I : Inv X pins σ H s) : CelOk (frmC X s.heap) H s.heap (frs X.stack) := by
  have cl : ∀ b o, frmC X s.heap b = some o → ∃ v, o.data = .cell v := fun b o q => by
    obtain ⟨⟨x, hx⟩, ho⟩ := frmC_some q
    obtain ⟨v, o', ho', hd⟩ := I.cell x b hx
    rw [ho] at ho'
    cases ho'
    exact ⟨v, hd⟩
  refine ⟨fun b o q => ?_, fun b o q => (frmC_some q).2, fun b o q hb => ?_, cl⟩
  · obtain ⟨⟨x, hx⟩, _⟩ := frmC_some q
    exact I.freeC x b hx
  · rcases List.mem_cons.mp (I.stkSub b hb) with e | hb
    · obtain ⟨m, ⟨oL, es, ep, hL, hdat, _⟩, _⟩ := I.loc
      obtain ⟨v, hv⟩ := cl b o q
      have z := (frmC_some q).2
      rw [e, hL] at z
      cases z
      rw [hdat] at hv
      cases hv
    · obtain ⟨_, o', ho', _⟩ := I.ok.funs.mem hb
      exact absurd (Heap.lt_size ho') (Nat.not_lt.mpr (frm_big hfn I q))
theorem frm_env0 (hfn : ∀ x, X.fn x = true) (I : Inv X pins σ H s) : Env0 X.prog X.w X.K X.mg X.base X.A X.stack s (ovl (frmC X s.heap) H) := by
  have e0 := I.env0
  have k := frm_cel hfn I
  refine ⟨e0.frames, e0.mod, fun b o e => ⟨(e0.bs b o e).1, ?_⟩, e0.bsz, e0.funs, fun b hb => ?_, hok_ovl e0.hok k, e0.bare⟩
  · cases q : frmC X s.heap b with
    | none => rw [ovl_out q]; exact (e0.bs b o e).2
    | some o' =>
      have h1 := frm_big hfn I q
      have h2 := Heap.lt_size e
      have h3 := I.ok.bsz
      exact absurd (Nat.lt_of_lt_of_le h2 (Nat.le_trans h3 h1)) (Nat.lt_irrefl _)
  · cases q : frmC X s.heap b with
    | none => rw [ovl_out q]; exact e0.frf b hb
    | some o' => exact absurd hb (k.nf b o' q)
theorem readAll_get : ∀ {js : List Nat} {caps : List D}, readAll js γ = some caps → caps.length = js.length ∧ ∀ (i : Nat) (j : Nat), js[i]? = some j → ∃ d, caps[i]? = some d ∧ γ[j]? = some (some (.fz d))
  | [], caps, h => by
    have h : some [] = some caps := h
    cases h
    exact ⟨rfl, fun i j e => by simp at e⟩
  | j0 :: js, caps, h => by
    have h : (rdFz γ j0 >>= fun d => readAll js γ >>= fun ds => some (d :: ds)) = some caps := by
      rw [← h]
      unfold readAll
      rw [List.mapM_cons]
      rfl
    cases e : rdFz γ j0 with
    | none =>
      rw [e] at h
      cases h
    | some d =>
      cases e2 : readAll js γ with
      | none =>
        rw [e, e2] at h
        cases h
      | some ds =>
        rw [e, e2] at h
        have h : some (d :: ds) = some caps := h
        cases h
        obtain ⟨h1, h2⟩ := readAll_get e2
        refine ⟨by simp [h1], fun i j hj => ?_⟩
        cases i with
        | zero =>
          simp at hj
          subst hj
          refine ⟨d, rfl, ?_⟩
          unfold rdFz at e
          split at e
          · rename_i d' e3
            cases e
            exact e3
          · cases e
        | succ i =>
          obtain ⟨d', h3, h4⟩ := h2 i j (by simpa using hj)
          exact ⟨d', by simpa using h3, h4⟩
/-- the captured cells, as they are known -/
theorem repC_of {cl : List (Str × Addr)} {Fp : Hp} : ∀ {fr : List Str} {caps : List D}, caps.length = fr.length → (∀ (i : Nat) (y : Str), fr[i]? = some y → ∃ c o u v d, cl.lookup y = some c ∧ Fp c = some (.frz o (.own 0)) ∧ o.data = .cell (some u) ∧ RelV v u ∧ caps[i]? = some d ∧ Rep g X.K Fp v d) → RepC g X.K Fp cl fr caps
  | [], [], _, _ => .nil
  | y :: fr, d :: caps, hl, h => by
    obtain ⟨c, o, u, v, d', h1, h2, h3, h4, h5, h6⟩ := h 0 y rfl
    cases h5
    exact .cons h1 h2 h3 h4 h6 (repC_of (by simpa using hl) fun i z e => h (i + 1) z (by simpa using e))
  | [], _ :: _, hl, _ => by simp at hl
  | _ :: _, [], hl, _ => by simp at hl
theorem rep_res (hk : CapsK g X jk) (I : Inv X pins σ H s) (st : StOk g X.K H0 F0 F H σ γ n) (hfn : ∀ x, X.fn x = true) {v : V} {d d' : D} (r : Rep g X.K F v d) {Q : D → Nat → Prop} {E : Exc → Nat → Prop} {n1 : Nat} (h : (resD X.env.cells g.L jk γ d).run n1 Q E) : ∃ d', Rep g X.K (ovl (frmC X s.heap) F) v d' ∧ Q d' n1 := by
  have k := frm_cel hfn I
  have hF : ∀ b o, frmC X s.heap b = some o → F b = none := fun b o e => by
    cases q : F b with
    | none => rfl
    | some u =>
      have z := (st.sub b u q).1
      rw [k.no b o e] at z
      cases z
  have fl : FLe F (ovl (frmC X s.heap) F) := fle_ovl hF
  by_cases hp : ∃ k cl, d = .pclo k cl
  · obtain ⟨kk, cl, e⟩ := hp
    subst e
    have h : (match jk kk with
      | some js => (match readAll js γ with
        | some caps => (do M.need (cl = cloFrom X.env.cells (g.L kk).scope.names []); pure (.clo kk caps) : M D)
        | none => M.stuck)
      | none => M.stuck).run n1 Q E := h
    cases ej : jk kk with
    | none =>
      rw [ej] at h
      exact h.elim
    | some js =>
      rw [ej] at h
      cases er : readAll js γ with
      | none =>
        have h : (match readAll js γ with
          | some caps => (do M.need (cl = cloFrom X.env.cells (g.L kk).scope.names []); pure (.clo kk caps) : M D)
          | none => M.stuck).run n1 Q E := h
        rw [er] at h
        exact h.elim
      | some caps =>
        have h : (match readAll js γ with
          | some caps => (do M.need (cl = cloFrom X.env.cells (g.L kk).scope.names []); pure (.clo kk caps) : M D)
          | none => M.stuck).run n1 Q E := h
        rw [er] at h
        obtain ⟨ecl, q⟩ := h
        subst ecl
        refine ⟨.clo kk caps, ?_, q⟩
        have hfree : ∀ y ∈ (g.L kk).scope.names, y.2 = .free → ∃ c, X.env.cells.lookup y.1 = some c := fun y hy e => (hk.kin kk js ej y hy e).elim (fun z => I.ok.has _ (.inl z)) fun z => I.ok.has _ (.inr z)
        have cp : NdefX.Caps X (cloFrom X.env.cells (g.L kk).scope.names []) (g.L kk).fr js := NdefX.Caps.made I.ok (hk.kin kk js ej) (hk.fr kk js ej) (hk.at_ kk js ej)
        have cells := NdefX.cells_of I cp
        obtain ⟨rl1, rl2⟩ := readAll_get er
        have jl : js.length = (g.L kk).fr.length := by
          have z := congrArg List.length cp.at_
          rw [List.length_map, List.length_map] at z
          exact z
        cases r with
        | pclo hf hc =>
          refine .clo (fl _ _ hf) (fl _ _ hc) (fun x c e => ?_) (fun x y c e1 e2 => I.ok.inj x y c (NdefX.clo_cm hfree e1) (NdefX.clo_cm hfree e2)) (repC_of (by rw [rl1, jl]) fun i y e => ?_)
          · rcases cloFrom_mem (PySem.mem_of_lookup e) with z | ⟨z, _⟩
            · cases z
            · exact hk.rf kk js ej x z
          · obtain ⟨c, h1, h2⟩ := cells.has i y e
            have hi : i < js.length := by
              rw [jl]
              exact (List.getElem?_eq_some_iff.mp e).1
            obtain ⟨d0, h3, h4⟩ := rl2 i js[i] (List.getElem?_eq_getElem hi)
            obtain ⟨v0, h5, h6⟩ := st.slots _ _ h4
            have h6 : Rep g X.K F v0 d0 := h6
            obtain ⟨u, h7, o, h8, h9⟩ := h2 v0 (by
              rw [List.getElem?_map, List.getElem?_eq_getElem hi]
              exact congrArg some (NdefX.slotAt_of h5))
            exact ⟨c, o, u, v0, d0, h1, ovl_in (by rw [frmC_of (NdefX.clo_cm hfree h1)]; exact h8), h9, h7, h3, h6.fle fl⟩
  · have e : resD X.env.cells g.L jk γ d = pure d := by
      cases d with
      | pclo k cl => exact absurd ⟨k, cl, rfl⟩ hp
      | _ => rfl
    rw [e] at h
    exact ⟨d, r.fle fl, h⟩
theorem repL_res (hk : CapsK g X jk) (I : Inv X pins σ H s) (st : StOk g X.K H0 F0 F H σ γ n) (hfn : ∀ x, X.fn x = true) : ∀ {vs : List V} {ds : List D} {Q : List D → Nat → Prop} {E : Exc → Nat → Prop} {n1 : Nat}, RepL g X.K F vs ds → (resAll X.env.cells g.L jk γ ds).run n1 Q E → ∃ ds', RepL g X.K (ovl (frmC X s.heap) F) vs ds' ∧ Q ds' n1
  | _, _, _, _, _, .nil, h => ⟨[], .nil, h⟩
  | _, _, Q, E, n1, .cons (d := d) (ds := ds) r rs, h => by
    have h : (resD X.env.cells g.L jk γ d).run n1 (fun x n2 => (resAll X.env.cells g.L jk γ ds).run n2 (fun xs n3 => Q (x :: xs) n3) E) E := h
    obtain ⟨d', h1, h2⟩ := rep_res (d' := d) hk I st hfn r h
    obtain ⟨ds', h3, h4⟩ := repL_res hk I st hfn rs h2
    exact ⟨d' :: ds', .cons h1 h3, h4⟩
end
section
variable {g : G} {X : Cx} {W : WX} {k : Nat} {f : Addr} {fd : FuncData} {ps : List Str} {m : List D → M D} {x : Str} {p pos : Pos} {e : Expr} {es : List Expr} {ml : Env → M (List D)} {jk : Nat → Option (List Nat)}
/-- f(e, ..), lambdas of the running frame among the arguments -/
theorem pd_callP (G : FnD g X.prog X.w X.K X.mg X.base k f fd ps m) (hr : Room k X.A) (hfn : ∀ x, X.fn x = true) (hck : CapsK g X jk) (hg : Gl X x) (hm : X.mg x = some (.ref f)) (hk : PySem.W.keepIn X.K (.ref f) = true) (hb : Binds X.K fd ps []) (tk : Takes X W) (ha : PAD g X W (e :: es) ml)
    (hdb : (x == ("__debug__" : Str)) = false := by decide) (he : starEach (e :: es) X.env = (false, eval e X.env) :: starEach es X.env := by rfl) (hpl : (backTo pos (starEach es X.env)).any (·.1) = false := by rfl) :
    PD g X W (.Call (.Name x p) (e :: es) [] pos) (fun γ => do let ds ← ml γ; let ds ← resAll X.env.cells g.L jk γ ds; M.need (ds.length = ps.length); flatX (m ds)) := by
  refine ⟨⟨fun pins s σ H Q I ⟨H0, F0, F, γ, n, st, r⟩ => ?_⟩⟩
  refine wpAny_Call_Name_kw (ld_glob I hg hm ?_ hdb)
  have r : (ml γ).run n (fun ds n' => (do let ds ← resAll X.env.cells g.L jk γ ds; M.need (ds.length = ps.length); flatX (m ds) : M D).run n' (fun d n' => ∀ F' H' v, StOk g X.K H0 F0 F' H' σ γ n' → FLe F F' → Rep g X.K F' v d → Q v H') (wishX g X.K X.mg W H0 F0 σ γ)) (wishX g X.K X.mg W H0 F0 σ γ) := r
  refine PySem.W.callWith_K (h₀ := X.base) I.ok.mod.kin hk (thn (ha.pa.run pos pins s σ H (fun vs H2 => ∃ F2 ds n2, StOk g X.K H0 F0 F2 H2 σ γ n2 ∧ FLe F F2 ∧ RepL g X.K F2 vs ds ∧ (do let ds ← resAll X.env.cells g.L jk γ ds; M.need (ds.length = ps.length); flatX (m ds) : M D).run n2 (fun d n' => ∀ F' H' v, StOk g X.K H0 F0 F' H' σ γ n' → FLe F F' → Rep g X.K F' v d → Q v H') (wishX g X.K X.mg W H0 F0 σ γ)) I ⟨H0, F0, F, γ, n, st, (ml γ).mono r (fun ds n' q F' H' vs s' f' rl => ⟨F', ds, n', s', f', rl, q⟩) fun _ _ q => q⟩) fun us s1 ⟨vs, H1, I1, rv, F1, ds, n1, st1, fl1, rl1, q⟩ => ⟨I1.kIn, ?_⟩) he hpl
  have q : (resAll X.env.cells g.L jk γ ds).run n1 (fun ds n2 => ds.length = ps.length ∧ (m ds).run n2 (fun d n' => flat d = true ∧ ∀ F' H' v, StOk g X.K H0 F0 F' H' σ γ n' → FLe F F' → Rep g X.K F' v d → Q v H') (fun y n' => flatF y.fs = true ∧ wishX g X.K X.mg W H0 F0 σ γ y n')) (wishX g X.K X.mg W H0 F0 σ γ) := q
  obtain ⟨ds', rl2, hlen, q⟩ := repL_res hck I1 st1 hfn rl1 q
  have kc := frm_cel hfn I1
  have hno : ∀ b o, frmC X s1.heap b = some o → H1 b = none := kc.no
  have subO : FSub g (ovl (frmC X s1.heap) F1) (ovl (frmC X s1.heap) H1) := fun b u e => by
    cases z : frmC X s1.heap b with
    | some o =>
      rw [ovl_in z] at e ⊢
      exact ⟨e, st1.wok.nex (hno b o z)⟩
    | none =>
      rw [ovl_out z] at e ⊢
      exact st1.sub b u e
  have wkO : WOk g (ovl (frmC X s1.heap) H1) n1 := wok_ovl st1.wok hno
  have hvl : vs.length = ps.length := by rw [rl2.length, hlen]
  have bnd := hb s1 us I1.kIn (by rw [List.append_nil, ← rv.length]; exact hvl)
  rw [List.append_nil] at bnd
  have run := G.run X.A X.stack s1 (ovl (frmC X s1.heap) H1) ⟨us, []⟩ us vs (fun v H' => ∃ d n' F', Post g (ovl (frmC X s1.heap) F1) (ovl (frmC X s1.heap) H1) F' H' n' ∧ Rep g X.K F' v d ∧ flat d = true ∧ ∀ F2 H2 v2, Post g F1 H1 F2 H2 n' → Rep g X.K F2 v2 d → Q v2 H2)
    (fun cls dd H' => ∃ y n' F', Post g (ovl (frmC X s1.heap) F1) (ovl (frmC X s1.heap) H1) F' H' n' ∧ XRep g X.K X.mg F' H' y cls dd ∧ flatF y.fs = true ∧ ∀ F2 H2 cls2 dd2, Post g F1 H1 F2 H2 n' → XRep g X.K X.mg F2 H2 y cls2 dd2 → W cls2 dd2 σ H2) hr (frm_env0 hfn I1) bnd rv
    ⟨_, ds', n1, hlen, subO, wkO, rl2, (m ds').mono q (fun d n' z F' H' v po r' => ⟨d, n', F', po, r', z.1, fun F2 H2 v2 p2 r2 => z.2 F2 H2 v2 (st1.post p2) (fl1.trans p2.fle) r2⟩) fun y n' z F' H' cls dd po xr => ⟨y, n', F', po, xr, z.1, fun F2 H2 cls2 dd2 p2 x2 => z.2 F2 H2 cls2 dd2 (st1.post p2) x2⟩⟩
  refine wpAny_call (codeAny_mono run fun r s' hq => ?_)
  have hq2 : CR (L2.CX X.prog X.w) X.stack X.prog X.w H1 s1 Q (WE W σ) r s' := by
    refine cr_und kc (fun v H' hz ⟨d, n', F', po, r', fd, z⟩ => ?_) (fun cls dd H' hz ⟨y, n', F', po, xr, fd, z⟩ => ?_) hq
    · have cf : CF (frmC X s1.heap) F' := fun b o e => by
        cases w : F' b with
        | none => exact .inl rfl
        | some u =>
          have w2 := (po.sub b u w).1
          rw [hz b o e] at w2
          cases w2
          exact .inr ⟨o, rfl⟩
      exact z _ _ _ (post_und st1.sub hno hz po) (rep_und cf r' fd)
    · have cf : CF (frmC X s1.heap) F' := fun b o e => by
        cases w : F' b with
        | none => exact .inl rfl
        | some u =>
          have w2 := (po.sub b u w).1
          rw [hz b o e] at w2
          cases w2
          exact .inr ⟨o, rfl⟩
      exact z _ _ _ _ (post_und st1.sub hno hz po) (xrep_und hz cf fd xr)
  cases r with
  | error e => exact passAt tk σ pins H1 s1 e s' I1 hq2
  | ok fl =>
    cases fl with
    | ret u => exact I1.after hq2
    | next => exact False.elim hq2
    | brk => exact False.elim hq2
    | cont => exact False.elim hq2
end
end DL

set_option Elab.async false
set_option linter.all false
set_option maxRecDepth 100000
set_option maxHeartbeats 4000000
/-! DT: a def that returns lambdas of its frame. -/
namespace DL
open PySem PySem.Spec PyProof.Rows L2

/-- statements that end by a return; what the names hold then is told too -/
structure PR (X : Cx) (sts : List Stmt) (t : (L2.St → VK) → L2.St → Hp → Prop) : Prop where
  run : ∀ (pins : List (Addr × Obj)) (s : Shared) (σ : L2.St) (H : Hp) (R : L2.St → VK), Inv X pins σ H s → t R σ H →
    wpAny (model X.prog X.w) X.A (execs sts X.env) (fun f s' => match f with
      | .ret u => ∃ v σ' H', Inv X pins σ' H' s' ∧ RelV v u ∧ R σ' v H'
      | _ => False) X.xe s
def tRD (g : G) (K : PySem.W.Frag) (mg : Str → Option Value) (W : WX) (m : Env → M (D × Env)) : (L2.St → VK) → L2.St → Hp → Prop := fun R σ H =>
  ∃ H0 F0 F γ n, StOk g K H0 F0 F H σ γ n ∧ (m γ).run n (fun p n' => ∀ F' H' σ' v, StOk g K H0 F0 F' H' σ' p.2 n' → Rep g K F' v p.1 → R σ' v H') (wishS g K mg W H0 F0)
def retRD (me : Env → M D) : Env → M (D × Env) := fun γ => do let d ← me γ; pure (d, γ)
def seqRD (ms : Env → M (Fl × Env)) (m : Env → M (D × Env)) : Env → M (D × Env) := fun γ => do
  let r ← ms γ
  match r.1 with
  | .nx => m r.2
  | _ => M.stuck
structure PRD (g : G) (X : Cx) (W : WX) (sts : List Stmt) (m : Env → M (D × Env)) : Prop where
  pr : PR X sts (tRD g X.K X.mg W m)
section
variable {g : G} {X : Cx} {W : WX} {e : Expr} {st : Stmt} {sts : List Stmt} {pos : Pos} {me : Env → M D} {ms : Env → M (Fl × Env)} {m : Env → M (D × Env)}
theorem prd_ret (he : PD g X W e me) : PRD g X W [.Return (some e) pos] (retRD me) := by
  refine ⟨⟨fun pins s σ H R I ⟨H0, F0, F, γ, n, so, r⟩ => ?_⟩⟩
  have r : (me γ).run n (fun d n' => ∀ F' H' σ' v, StOk g X.K H0 F0 F' H' σ' γ n' → Rep g X.K F' v d → R σ' v H') (wishS g X.K X.mg W H0 F0) := r
  refine wpAny_execs_cons (wpAny_Return_some (thn (he.pe.run pins s σ H (fun v H' => R σ v H') I ⟨H0, F0, F, γ, n, so, (me γ).mono r (fun d n' q F' H' v s' f r => q F' H' σ v s' r) fun _ _ q => wish_of q⟩) fun u s1 hu => ?_))
  obtain ⟨x, H1, I1, r1, q1⟩ := hu
  exact ⟨x, σ, H1, I1, r1, q1⟩
theorem prd_cons (h1 : PSD g X W st ms) (h2 : PRD g X W sts m) : PRD g X W (st :: sts) (seqRD ms m) := by
  refine ⟨⟨fun pins s σ H R I ⟨H0, F0, F, γ, n, so, r⟩ => ?_⟩⟩
  have r : (ms γ).run n (fun p n' => (match p.1 with | .nx => m p.2 | _ => M.stuck : M (D × Env)).run n' (fun p n' => ∀ F' H' σ' v, StOk g X.K H0 F0 F' H' σ' p.2 n' → Rep g X.K F' v p.1 → R σ' v H') (wishS g X.K X.mg W H0 F0)) (wishS g X.K X.mg W H0 F0) := r
  refine wpAny_execs_cons (thn (h1.ps.run pins s σ H { nx := fun σ' H' => tRD g X.K X.mg W m R σ' H', rt := fun _ _ => False, bk := fun _ _ => False, ct := fun _ _ => False } I ⟨H0, F0, F, γ, n, so, (ms γ).mono r (fun p n' q => ?_) fun _ _ q => q⟩) fun fl s1 hs => ?_)
  · obtain ⟨f, γ'⟩ := p
    cases f with
    | nx => exact fun F' H' σ' s' => ⟨H0, F0, F', γ', n', s', q⟩
    | bk => exact q.elim
    | ct => exact q.elim
    | rt d => exact q.elim
  · cases fl with
    | next =>
      obtain ⟨σ', H', I', q⟩ := hs
      exact h2.pr.run pins s1 σ' H' R I' q
    | ret u =>
      obtain ⟨_, _, _, _, _, q⟩ := hs
      exact q.elim
    | brk =>
      obtain ⟨_, _, _, q⟩ := hs
      exact q.elim
    | cont =>
      obtain ⟨_, _, _, q⟩ := hs
      exact q.elim
end
/-- .. in a list, too -/
def resRet (C : List (Str × Addr)) (L : Nat → LS) (jk : Nat → Option (List Nat)) (γ : Env) (d : D) : M D := match d with
  | .lst ds => do pure (.lst (← resAll C L jk γ ds))
  | d => resD C L jk γ d
section
variable {g : G} {X : Cx} {pins : List (Addr × Obj)} {H0 F0 F H : Hp} {σ : L2.St} {γ : Env} {n : Nat} {s : Shared} {jk : Nat → Option (List Nat)}
theorem rep_ret (hk : CapsK g X jk) (I : Inv X pins σ H s) (st : StOk g X.K H0 F0 F H σ γ n) (hfn : ∀ x, X.fn x = true) {v : V} {d : D} (r : Rep g X.K F v d) {Q : D → Nat → Prop} {E : Exc → Nat → Prop} {n1 : Nat} (h : (resRet X.env.cells g.L jk γ d).run n1 Q E) : ∃ d', Rep g X.K (ovl (frmC X s.heap) F) v d' ∧ Q d' n1 := by
  have k := frm_cel hfn I
  have hF : ∀ b o, frmC X s.heap b = some o → F b = none := fun b o e => by
    cases q : F b with
    | none => rfl
    | some u =>
      have z := (st.sub b u q).1
      rw [k.no b o e] at z
      cases z
  by_cases hl : ∃ ds, d = .lst ds
  · obtain ⟨ds, e⟩ := hl
    subst e
    have h : (resAll X.env.cells g.L jk γ ds).run n1 (fun xs n2 => Q (.lst xs) n2) E := h
    cases r with
    | lst sq rl =>
      obtain ⟨ds', h1, h2⟩ := repL_res hk I st hfn rl h
      exact ⟨.lst ds', .lst (fle_ovl hF _ _ sq) h1, h2⟩
  · have e : resRet X.env.cells g.L jk γ d = resD X.env.cells g.L jk γ d := by
      cases d with
      | lst ds => exact absurd ⟨ds, rfl⟩ hl
      | _ => rfl
    rw [e] at h
    exact rep_res (d' := d) hk I st hfn r h
end
/-- a body from its arguments; C: its cells -/
def runFnC (C : List (Str × Addr)) (L : Nat → LS) (jk : Nat → Option (List Nat)) (N : List Str) (mb : Env → M (D × Env)) (ds : List D) : M D := do
  let r ← mb (startD N ds)
  resRet C L jk r.2 r.1
section
variable {g : G} {P : Program} {w : World} {K : PySem.W.Frag} {mg : Str → Option Value} {base : Heap} {x qual : Str} {params : Arguments} {body : List Stmt} {scope : Scope} {dvs : List V} {kws : List (Str × V)} {f : Addr} {fd : FuncData}
/-- THE RULE: such a def by its body -/
theorem fnDC {N ps : List Str} {k : Nat} {m : List D → M D} {mb : List (Str × Addr) → Env → M (D × Env)} {jk : Nat → Option (List Nat)} (Fd : FunD K x qual params body scope dvs kws f fd) (S : FnScope N ps scope)
    (hbody : ∀ (cdv : Value) (A : Around) (outer : List PySem.Env) (s : Shared) (H : Hp) (E : XK), fd.code = cdv → Room k (A.deeper (envOfC qual scope s.heap.objs.size f cdv)) → CapsK g (cxOf (L2.CX P w) P w K mg base N qual scope f cdv A outer s H E) jk ∧
      PRD g (cxOf (L2.CX P w) P w K mg base N qual scope f cdv A outer s H E) (fun cls d _ H => E cls d H) body (mb (envOfC qual scope s.heap.objs.size f cdv).cells))
    (hm : ∀ (C : List (Str × Addr)) ds, ds.length = ps.length → M.Le (m ds) (runFnC C g.L jk N (mb C) ds)) : FnD g P w K mg base (k + 1) f fd ps m := by
  obtain ⟨oc, od, dV, kV, doc, pm, an, cdv, ct, osl, efd, lk, hcd, _, _⟩ := Fd.ex
  subst efd
  refine ⟨fun vs H Q E ⟨F, ds, n, e, _, _, r, _⟩ => by rw [r.length, e], fun A outer s H args us vs Q E hr e0 hb rv hsp => ?_⟩
  obtain ⟨F, ds, n, elen, sub, wk, rl, q⟩ := hsp
  have q := hm (envOfC qual scope s.heap.objs.size f cdv).cells ds elen _ _ _ q
  have kin : K.In s.heap := e0.mod.kin.keeps fun b o e => (e0.bs b o e).1
  have lim : s.heap.NoLimit := e0.mod.nolimit.keeps fun b o e => (e0.bs b o e).1
  have hl : vs.length = ps.length := by rw [rl.length, elen]
  have kinds : ∀ y ∈ ps.zip us, scope.names.lookup y.1 = some .local ∨ (scope.names.lookup y.1 = some .cell ∧ ((cellsFrom (s.heap.objs.size + 1) scope.names []).lookup y.1).isSome = true) := fun ⟨nm, u⟩ hy =>
    (S.par nm (List.of_mem_zip hy).1).imp id fun z => ⟨z, PySem.W.cellsFrom_some _ _ _ (.inl z)⟩
  refine codeAny_call_function hr.depth (kin _ _ lk) rfl S.co S.gen rfl (PySem.W.codeRec_of kin hcd) (hb _ _ _ _ ?_)
  refine wpAny_newFunctionEnv_cells S.kind kinds fun env he s1 inn => ?_
  subst he
  refine ⟨lim.keeps inn.toInCall.keep, codeAny_func ?_⟩
  obtain ⟨hck, hpr⟩ := hbody cdv A outer s H E rfl (hr.deeper _)
  have I : Inv (cxOf (L2.CX P w) P w K mg base N qual scope f cdv A outer s H E) [] (L2.start N vs) H s1 := inv_start S hr.hd e0 hl rv inn
  have st0 : StOk g K H F F H (L2.start N vs) (startD N ds) n := start_ok sub wk rl
  have q : (mb (envOfC qual scope s.heap.objs.size f cdv).cells (startD N ds)).run n (fun r n' => (resRet (envOfC qual scope s.heap.objs.size f cdv).cells g.L jk r.2 r.1).run n' (fun d n' => ∀ F' H' v, Post g F H F' H' n' → Rep g K F' v d → Q v H') (fun x n' => ∀ F' H' cls dd, Post g F H F' H' n' → XRep g K mg F' H' x cls dd → E cls dd H'))
    (fun x n' => ∀ F' H' cls dd, Post g F H F' H' n' → XRep g K mg F' H' x cls dd → E cls dd H') := q
  refine wpAny_mono (hpr.pr.run [] s1 (L2.start N vs) H (fun σ' v H' => ∃ (r : D × Env) (n' : Nat) (F' : Hp), StOk g K H F F' H' σ' r.2 n' ∧ Rep g K F' v r.1 ∧ (resRet (envOfC qual scope s.heap.objs.size f cdv).cells g.L jk r.2 r.1).run n' (fun d n' => ∀ F' H' v, Post g F H F' H' n' → Rep g K F' v d → Q v H') (fun x n' => ∀ F' H' cls dd, Post g F H F' H' n' → XRep g K mg F' H' x cls dd → E cls dd H')) I
    ⟨H, F, F, _, n, st0, M.mono _ q (fun r n' z F' H' σ' v s' rv' => by exact ⟨r, n', F', s', rv', z⟩) fun y n' z F' H' cls dd σ' γ' s' xr => z F' H' cls dd (post_of s') xr⟩) (fun fl s' hs => ?_) fun e s' hs => hs
  cases fl with
  | ret u =>
    obtain ⟨v, σ', H', J, ru, r, n', F', st, rr, z⟩ := hs
    have hfn : ∀ y, (cxOf (L2.CX P w) P w K mg base N qual scope f cdv A outer s H E).fn y = true := fun _ => rfl
    obtain ⟨d', r2, z2⟩ := rep_ret hck J st hfn rr z
    have kc := frm_cel hfn J
    have big : ∀ b o, frmC (cxOf (L2.CX P w) P w K mg base N qual scope f cdv A outer s H E) s'.heap b = some o → s.heap.objs.size ≤ b := fun b o y => frm_big hfn J y
    have out : ∀ {b : Addr} {o : HO}, H' b = some o → frmC (cxOf (L2.CX P w) P w K mg base N qual scope f cdv A outer s H E) s'.heap b = none := fun {b o} y => kc.out y
    have old : ∀ {b : Addr} {o : Obj}, s.heap.get? b = some o → frmC (cxOf (L2.CX P w) P w K mg base N qual scope f cdv A outer s H E) s'.heap b = none := fun {b o} y => by
      cases y2 : frmC (cxOf (L2.CX P w) P w K mg base N qual scope f cdv A outer s H E) s'.heap b with
      | none => rfl
      | some o' => exact absurd (Heap.lt_size y) (Nat.not_lt.mpr (big b o' y2))
    have bs : Un (frs outer) [] H H' s.heap s'.heap := J.base
    have ok : HOk P w H' s'.heap := J.hok
    refine (show CE outer P w H s Q u s' from ⟨v, ovl (frmC (cxOf (L2.CX P w) P w K mg base N qual scope f cdv A outer s H E) s'.heap) H', J.os, J.bare, ⟨bs.keep, bs.slot, fun b o y1 y2 y3 => ?_, bs.there, fun b xs y => ?_, fun b o u y => ?_, fun b ps y => ?_⟩, hok_ovl ok kc, ru, z2 _ _ _ ⟨fun b u y nx => ?_, fun b u y => ?_, fun b u y => ?_, fun b y => ?_, wok_ovl st.wok kc.no⟩ r2⟩)
    · rw [ovl_out (old y1)]
      exact bs.free b o y1 y2 y3
    · have y2 := bs.tups b xs y
      rw [ovl_out (out y2)]
      exact y2
    · have y2 := bs.frzs b o u y
      rw [ovl_out (out y2)]
      exact y2
    · obtain ⟨more, y2⟩ := bs.tbls b ps y
      refine ⟨more, ?_⟩
      rw [ovl_out (out y2)]
      exact y2
    · have y2 := st.ext b u y nx
      rw [ovl_out (out y2)]
      exact y2
    · have y2 := st.f0 b u y
      rw [ovl_out (out (st.sub b u y2).1)]
      exact y2
    · cases y2 : frmC (cxOf (L2.CX P w) P w K mg base N qual scope f cdv A outer s H E) s'.heap b with
      | some o =>
        rw [ovl_in y2] at y ⊢
        exact ⟨y, st.wok.nex (kc.no b o y2)⟩
      | none =>
        rw [ovl_out y2] at y ⊢
        exact st.sub b u y
    · cases y2 : frmC (cxOf (L2.CX P w) P w K mg base N qual scope f cdv A outer s H E) s'.heap b with
      | some o => exact .inr (.inl (e0.hok.fresh (big b o y2)))
      | none =>
        rw [ovl_out y2] at y
        exact st.new b y
  | next => exact False.elim hs
  | brk => exact False.elim hs
  | cont => exact False.elim hs
end
end DL

set_option Elab.async false
set_option linter.all false
set_option maxRecDepth 100000
set_option maxHeartbeats 4000000
/-! DU: the empty dict. -/
namespace DL
open PySem PySem.Spec PyProof.Rows L2

section
variable {g : G} {X : Cx} {W : WX} {e elt tg : Expr} {ifs : List Expr} {m : Env → M D} {pos p apos cpos : Pos} {scope : Scope} {own : List (Str × Nat)}
theorem pd_dict0 : PD g X W (.Dict [] [] pos) (fun _ => pure (.dct [])) := by
  refine ⟨pe_dnewK.imp fun σ H Q ⟨H0, F0, F, γ, n, s, r⟩ => fun q hq => ?_⟩
  have po := post_new (o := .dK []) s.sub s.wok hq
  exact r _ _ _ (s.post po) po.fle (.dct0 upd_same)
def dItems : D → M D
  | .dct [] => pure (.lst [])
  | _ => M.stuck
theorem post_any {F H H' : Hp} {n : Nat} {q : Addr} {o : HO} (sub : FSub g F H) (w : WOk g H n) (he : ∀ b u, H b = some u → H' b = some u) (hq : H q = none) (hq' : H' q = some o) : Post g F H (upd F q o) H' n := by
  refine ⟨fun a u z _ => he a u z, fle_upd (sub.none hq), fun a u z => ?_, fun a z => ?_, w.ext he⟩
  · by_cases ha : a = q
    · subst ha
      rw [upd_same] at z
      cases z
      exact ⟨hq', w.nex hq⟩
    · rw [upd_ne ha] at z
      exact ⟨he a u (sub a u z).1, (sub a u z).2⟩
  · by_cases ha : a = q
    · subst ha
      exact .inr (.inl hq)
    · rw [upd_ne ha] at z
      exact .inl z
theorem pd_items (hc : X.calm = true) (he : PDB g X W e m) (hg : Gl X "list") (hm : X.mg "list" = none) (hbase : attributeBase e "items" X.env (eval e X.env) = eval e X.env := by rfl) (hline : (apos.endLine == cpos.line) = true := by rfl)
    (hs : starEach [.Call (.Attribute e "items" apos) [] [] cpos] X.env = (false, eval (.Call (.Attribute e "items" apos) [] [] cpos) X.env) :: starEach [] X.env := by rfl) :
    PD g X W (.Call (.Name "list" p) [.Call (.Attribute e "items" apos) [] [] cpos] [] pos) (fun γ => do dItems (← m γ)) := by
  refine ⟨(LiI.pe_listItems hc he.pe hg hm (by decide +kernel) hbase hline hs).imp fun σ H Q ⟨H0, F0, F, γ, n, s, r⟩ => ?_⟩
  refine ⟨H0, F0, F, γ, n, s, (m γ).mono r (fun d n' q F' H' v s' f r => ?_) fun _ _ q => q⟩
  cases d with
  | dct kvs =>
    cases kvs with
    | nil =>
      cases s'.notOw r (fun _ => nofun) with
      | dct0 hd =>
        refine ⟨_, [], rfl, s'.le _ _ hd, fun H2 q2 ts he2 hq hts hnq hl pr => ?_⟩
        cases pr
        have po := post_any s'.sub s'.wok he2 hq hl
        exact q _ _ _ (s'.post po) (f.trans po.fle) (.lst upd_same .nil)
    | cons _ _ => exact q.elim
  | _ => exact q.elim
def dDict : D → M D
  | .lst [] => pure (.dct [])
  | _ => M.stuck
theorem pd_dictOf (hc : X.calm = true) (he : PDB g X W e m) (hg : Gl X "dict") (hm : X.mg "dict" = none) (hs : starEach [e] X.env = (false, eval e X.env) :: starEach [] X.env := by rfl) (hpl : (backTo pos (starEach [] X.env)).any (·.1) = false := by rfl) :
    PD g X W (.Call (.Name "dict" p) [e] [] pos) (fun γ => do dDict (← m γ)) := by
  refine ⟨(pe_callTy (call_dictP hc) hg hm (by decide +kernel) (pa_cons he.pe pa_nil hs) (by decide) (by decide) hs hpl).imp fun σ H Q ⟨H0, F0, F, γ, n, s, r⟩ => ?_⟩
  refine ⟨H0, F0, F, γ, n, s, (m γ).mono r (fun d n' q F' H' v s' f r => ?_) fun _ _ q => q⟩
  cases d with
  | lst ds =>
    cases ds with
    | nil =>
      obtain ⟨a, vs, ev, sq, rl⟩ := s'.list r
      cases rl
      subst ev
      refine ⟨a, [], [], rfl, sq, .nil, fun l hl => ?_⟩
      have po := post_new (o := .dK []) s'.sub s'.wok hl
      exact q _ _ _ (s'.post po) (f.trans po.fle) (.dct0 upd_same)
    | cons _ _ => exact q.elim
  | _ => exact q.elim
/-- code that is never come to -/
theorem pe_never {X : Cx} {e : Expr} : PE X e (fun _ _ _ => False) := ⟨fun _ _ _ _ _ _ h => h.elim⟩
theorem pssd_never {sts : List Stmt} : PSsD g X W sts (fun _ => M.stuck) := ⟨⟨fun _ _ _ _ _ _ ⟨_, _, _, _, _, _, h⟩ => h.elim⟩⟩
theorem psd_never {st : Stmt} : PSD g X W st (fun _ => M.stuck) := ⟨⟨fun _ _ _ _ _ _ ⟨_, _, _, _, _, _, h⟩ => h.elim⟩⟩
theorem pd_never {e : Expr} : PD g X W e (fun _ => M.stuck) := ⟨⟨fun _ _ _ _ _ _ ⟨_, _, _, _, _, _, h⟩ => h.elim⟩⟩
def keys0 : D → M D
  | .dct [] => pure (.lst [])
  | _ => M.stuck
theorem pd_lcKeys {i : Nat} {x : Str} {px : Pos} (hc : X.calm = true) (hNd : X.N.Nodup) (ok : BlkOk X.N X.env.scope scope own) (hN : X.N[i]? = some x := by rfl) (hv : Vis X.env.scope x := by first | exact Or.inl rfl | exact Or.inr (Or.inl rfl) | exact Or.inr (Or.inr rfl)) (hd : (x == ("__debug__" : Str)) = false := by decide)
    (hcd : (x == ("__classdict__" : Str)) = false := by decide) (hs : ∀ y, foldedSetIterable (.Name x px) X.env y = pure y := by intro _; rfl) :
    PD g X W (.ListComp elt [⟨tg, .Name x px, ifs, 0⟩] scope pos) (fun γ => do keys0 (← rd i γ)) := by
  refine ⟨(pe_lock (pe_lc (wi := iKeys (tVar i)) (g := fun _ _ _ _ => False) (tt := fun _ _ _ => False) (te := fun _ _ _ => False) hc hNd (pi_keys (pe_var hN hv hd hcd)) ok (fun _ _ _ _ _ => ⟨fun _ _ _ _ _ _ _ _ _ h => h.elim⟩) (fun _ _ _ _ _ => ⟨fun _ _ _ _ _ _ h => h.elim⟩) (fun _ _ _ _ _ => pe_never) hs)).imp fun σ H Q ⟨H0, F0, F, γ, n, s, r⟩ => ?_⟩
  have r : (rd i γ).run n (fun d n' => (keys0 d).run n' (fun d n' => ∀ F' H' v, StOk g X.K H0 F0 F' H' σ γ n' → FLe F F' → Rep g X.K F' v d → Q v H') (wishX g X.K X.mg W H0 F0 σ γ)) (wishX g X.K X.mg W H0 F0 σ γ) := r
  unfold rd at r
  split at r
  · rename_i d e0
    cases d with
    | dct kvs =>
      cases kvs with
      | nil =>
        obtain ⟨v, h1, h2⟩ := s.slots i _ e0
        have h2 : Rep g X.K F v (.dct []) := h2
        cases h2 with
        | @dct0 d hd =>
          have hH := s.le _ _ hd
          refine ⟨d, .dK [], hH, True.intro, fun od => ⟨.ref d, h1, d, od, rfl, .inl ⟨[], upd_same, fun D hD => ?_⟩⟩⟩
          have ne : D ≠ d := fun z => by
            rw [z, upd_same] at hD
            cases hD
          have hD2 : H D = none := by
            rw [upd_ne ne] at hD
            exact hD
          refine ⟨fun j _ H2 => j = 0 ∧ H2 = upd (upd H d (.frz od (.dK []))) D (.lst []), ⟨0, rfl, rfl⟩, fun j k H2 ⟨ej, e2⟩ => .inl ?_⟩
          subst ej e2
          refine ⟨⟨by rw [upd_ne (Ne.symm ne)]; exact upd_same, Nat.le_refl _⟩, by rw [upd_ne (Ne.symm ne)]; exact upd_same, ?_⟩
          have eq : upd (upd (upd H d (.frz od (.dK []))) D (.lst [])) d (.dK []) = upd H D (.lst []) := by
            funext b
            by_cases hb : b = d
            · rw [hb, upd_same, upd_ne (Ne.symm ne), hH]
            · rw [upd_ne hb]
              by_cases hb2 : b = D
              · rw [hb2, upd_same, upd_same]
              · rw [upd_ne hb2, upd_ne hb, upd_ne hb2]
          rw [eq]
          have po := post_new (o := .lst []) s.sub s.wok hD2
          exact r _ _ _ (s.post po) po.fle (.lst upd_same .nil)
      | cons _ _ => exact r.elim
    | _ => exact r.elim
  · exact r.elim
end
end DL

set_option Elab.async false
set_option linter.all false
set_option maxRecDepth 100000
set_option maxHeartbeats 4000000
/-! DV: small rules for printed derivations. -/
namespace DL
open PySem PySem.Spec PyProof.Rows L2
theorem takes_cx {P : Program} {w : World} {K : PySem.W.Frag} {mg : Str → Option Value} {base : Heap} {N : List Str} {qual : Str} {scope : Scope} {f : Addr} {cdv : Value} {A : Around} {outer : List PySem.Env} {s : Shared} {H : Hp} {E : XK} :
    Takes (cxOf (L2.CX P w) P w K mg base N qual scope f cdv A outer s H E) (fun cls d _ H' => E cls d H') := takes_of rfl rfl rfl rfl
theorem takes_w0 {X : Cx} : Takes X W0 := takes0
section
variable {g : G} {X : Cx} {W : WX} {tg e : Expr} {m : Env → M D} {js : List Nat} {mt : D → Env → M Env} {pos : Pos}
/-- a, b, .. = e -/
theorem psd_tgt (he : PD g X W e m) (hg : PGD g X tg js mt) (hs : swapsWithSole [tg] e pos.line X.env = pure false := by rfl) (hw : swappedStores [tg] e X.env = pure none := by rfl) (h1 : (assignEach [tg] X.env).map (·.2) = [assign tg X.env] := by rfl) :
    PSD g X W (.Assign [tg] e pos) (fun γ => do let d ← m γ; let γ1 ← M.calm (mt d γ); pure (.nx, γ1)) := by
  refine ⟨(ps_asg he.pe hg.pg hs hw h1).imp fun D σ H ⟨H0, F0, F, γ, n, s, r⟩ => ?_⟩
  refine ⟨H0, F0, F, γ, n, s, (m γ).mono r (fun d n' q F' H' v s' f rv => ?_) fun _ _ q => wish_of q⟩
  exact ⟨H0, F0, F', γ, n', d, s', rv, (mt d γ).mono q (fun γ1 n2 q2 F2 H2 σ2 s2 _ _ => q2 F2 H2 σ2 s2) fun _ _ z => z⟩
end
section
variable {K : PySem.W.Frag} {x qual : Str} {params : Arguments} {body : List Stmt} {scope : Scope} {kws : List (Str × V)} {f : Addr} {fd : FuncData} {ps : List Str}
/-- keywords in any order -/
theorem kbinds (F : FunD K x qual params body scope [] kws f fd) {nP nK : Nat} {ks : List Str} {ord : List Nat} (h : ∀ (kV doc pm : Value) (an : Option Addr) (cdv ct : Value) (us ws : List Value), us.length = nP → ws.length = nK → bindArgs (PySem.W.fnOf x qual params body scope .none kV doc pm an cdv ct) ⟨us, ks.zip ws⟩ = pure (ps.zip (pick ord (us ++ ws)))) :
    ∀ (s : Shared) (us ws : List Value), K.In s.heap → us.length = nP → ws.length = nK → BindsTo s fd ⟨us, ks.zip ws⟩ (ps.zip (pick ord (us ++ ws))) := by
  obtain ⟨oc, od, dV, kV, doc, pm, an, cdv, ct, osl, efd, lk, hcd, hD, hK⟩ := F.ex
  subst efd
  rcases hD with ⟨_, rfl⟩ | ⟨e, _⟩
  · exact fun s us ws _ h1 h2 => .of_eq (h kV doc pm an cdv ct us ws h1 h2)
  · exact absurd rfl e
end
theorem hu64 {j : Nat} {A : Around} (hr : Room j A) : A.units + 64 < cLine := by
  have := hr.un
  omega
theorem hu65 {j : Nat} {A : Around} (hr : Room j A) : A.in1.units + 64 < cLine := by
  have := hr.un
  show A.units + 1 + 64 < cLine
  omega
def frzM (i : Nat) (m : Env → M (Fl × Env)) : Env → M (Fl × Env) := fun γ => m (freezeM i γ)
theorem pssd_frz {g : G} {X : Cx} {W : WX} {sts : List Stmt} {m : Env → M (Fl × Env)} (i : Nat) (h : PSsD g X W sts m) : PSsD g X W sts (frzM i m) := pssd_freeze i h
/-- a promise of nothing -/
theorem fnD_stuck {g : G} {P : Program} {w : World} {K : PySem.W.Frag} {mg : Str → Option Value} {base : Heap} {k : Nat} {f : Addr} {fd : FuncData} {ps : List Str} : FnD g P w K mg base k f fd ps (fun _ => M.stuck) :=
  ⟨fun vs H Q E ⟨_, _, _, _, _, _, _, h⟩ => h.elim, fun A outer s H args us vs Q E _ _ _ _ ⟨_, _, _, _, _, _, _, h⟩ => h.elim⟩
/-! ### where a lambda stands in its def -/
def kids : Expr → List Expr
  | .List es _ => es
  | .Tuple es _ _ => es
  | .Call f as ks _ => f :: (as ++ ks.map (·.value))
  | .BinOp a _ b _ => [a, b]
  | .BoolOp _ es _ => es
  | .UnaryOp _ e _ => [e]
  | .Compare a _ bs _ => a :: bs
  | .ListComp e gs _ _ => e :: gs.map (·.iter)
  | .IfExp a b c _ => [a, b, c]
  | .Subscript a b _ => [a, b]
  | _ => []
def noE : Expr := .Name "" ⟨0, 0, 0, 0⟩
def stE : Stmt → Expr
  | .Assign _ e _ => e
  | .Expr e _ => e
  | .Return (some e) _ => e
  | .If e _ _ _ => e
  | _ => noE
def stKids : Stmt → List Stmt
  | .For _ _ b _ _ => b
  | .If _ a b _ => a ++ b
  | .FunctionDef _ _ b _ _ _ _ _ _ _ => b
  | _ => []
def stAt : Stmt → List Nat → Stmt
  | s, [] => s
  | s, i :: is => stAt ((stKids s).getD i (.Pass ⟨0, 0, 0, 0⟩)) is
def exAt : Expr → List Nat → Expr
  | e, [] => e
  | e, i :: is => exAt ((kids e).getD i noE) is
def lamAt (q : Str) (ps fr : List Str) : Expr → LS
  | .Lambda a b sc _ => ⟨q, a, b, sc, ps, fr⟩
  | _ => ⟨q, defArgs (.Pass ⟨0, 0, 0, 0⟩), noE, defScope (.Pass ⟨0, 0, 0, 0⟩), ps, fr⟩
theorem takes_ncx {P : Program} {w : World} {K : PySem.W.Frag} {mg : Str → Option Value} {base : Heap} {N : List Str} {F : NdefX.NF} {f : Addr} {A : Around} {outer : List PySem.Env} {s : Shared} {H : Hp} {E : XK} :
    Takes (NdefX.ncx (L2.CX P w) P w K mg base N F f A outer s H E) (fun cls d _ H' => E cls d H') := takes_of rfl rfl rfl rfl
end DL

set_option Elab.async false
set_option linter.all false
set_option maxRecDepth 100000
set_option maxHeartbeats 4000000
/-! printed by gen_k73.py: the derivations -/
namespace DL
open PySem PySem.Spec PyProof.Rows L2
def top (i : Nat) : Stmt := PySem.Challenge.pw_wordforword_k73_counting_refused.main.body.getD i (.Pass ⟨0, 0, 0, 0⟩)
abbrev FnP (K : PySem.W.Frag) (x : Str) (st : Stmt) (f : Addr) (fd : FuncData) : Prop := FunD K x x (defArgs st) (defBody st) (defScope st) [] [] f fd

/-- what the head tells of the names -/
structure Facts (K : PySem.W.Frag) (mg : Str → Option Value) where
  f_is_list : Addr
  d_is_list : FuncData
  F_is_list : FnP K "is_list" (top 1) f_is_list d_is_list
  g_is_list : mg "is_list" = some (.ref f_is_list)
  f_is_whole : Addr
  d_is_whole : FuncData
  F_is_whole : FnP K "is_whole" (top 2) f_is_whole d_is_whole
  g_is_whole : mg "is_whole" = some (.ref f_is_whole)
  f_is_number : Addr
  d_is_number : FuncData
  F_is_number : FnP K "is_number" (top 3) f_is_number d_is_number
  g_is_number : mg "is_number" = some (.ref f_is_number)
  f_is_below : Addr
  d_is_below : FuncData
  F_is_below : FnP K "is_below" (top 4) f_is_below d_is_below
  g_is_below : mg "is_below" = some (.ref f_is_below)
  f_is_row : Addr
  d_is_row : FuncData
  F_is_row : FnP K "is_row" (top 5) f_is_row d_is_row
  g_is_row : mg "is_row" = some (.ref f_is_row)
  f_is_ascending : Addr
  d_is_ascending : FuncData
  F_is_ascending : FnP K "is_ascending" (top 6) f_is_ascending d_is_ascending
  g_is_ascending : mg "is_ascending" = some (.ref f_is_ascending)
  f_kept_word : Addr
  d_kept_word : FuncData
  F_kept_word : FnP K "kept_word" (top 11) f_kept_word d_kept_word
  g_kept_word : mg "kept_word" = some (.ref f_kept_word)
  f_kept_pair : Addr
  d_kept_pair : FuncData
  F_kept_pair : FnP K "kept_pair" (top 13) f_kept_pair d_kept_pair
  g_kept_pair : mg "kept_pair" = some (.ref f_kept_pair)
  f_kept_move : Addr
  d_kept_move : FuncData
  F_kept_move : FnP K "kept_move" (top 14) f_kept_move d_kept_move
  g_kept_move : mg "kept_move" = some (.ref f_kept_move)
  f_kept_all : Addr
  d_kept_all : FuncData
  F_kept_all : FnP K "kept_all" (top 15) f_kept_all d_kept_all
  g_kept_all : mg "kept_all" = some (.ref f_kept_all)
  f_kept_machine : Addr
  d_kept_machine : FuncData
  F_kept_machine : FnP K "kept_machine" (top 16) f_kept_machine d_kept_machine
  g_kept_machine : mg "kept_machine" = some (.ref f_kept_machine)
  f_need_machine : Addr
  d_need_machine : FuncData
  F_need_machine : FnP K "need_machine" (top 17) f_need_machine d_need_machine
  g_need_machine : mg "need_machine" = some (.ref f_need_machine)
  f_kept_side : Addr
  d_kept_side : FuncData
  F_kept_side : FnP K "kept_side" (top 45) f_kept_side d_kept_side
  g_kept_side : mg "kept_side" = some (.ref f_kept_side)
  f_most_ways : Addr
  d_most_ways : FuncData
  F_most_ways : FnP K "most_ways" (top 42) f_most_ways d_most_ways
  g_most_ways : mg "most_ways" = some (.ref f_most_ways)
  f_is_double : Addr
  d_is_double : FuncData
  F_is_double : FnP K "is_double" (top 44) f_is_double d_is_double
  g_is_double : mg "is_double" = some (.ref f_is_double)
  f_is_side : Addr
  d_is_side : FuncData
  F_is_side : FnP K "is_side" (top 46) f_is_side d_is_side
  g_is_side : mg "is_side" = some (.ref f_is_side)
  f_degree : Addr
  d_degree : FuncData
  F_degree : FnP K "degree" (top 47) f_degree d_degree
  g_degree : mg "degree" = some (.ref f_degree)
  f_chain_of : Addr
  d_chain_of : FuncData
  F_chain_of : FnP K "chain_of" (top 48) f_chain_of d_chain_of
  g_chain_of : mg "chain_of" = some (.ref f_chain_of)
  f_is_chain : Addr
  d_is_chain : FuncData
  F_is_chain : FnP K "is_chain" (top 49) f_is_chain d_is_chain
  g_is_chain : mg "is_chain" = some (.ref f_is_chain)
  f__law_stream : Addr
  d__law_stream : FuncData
  F__law_stream : FnP K "_law_stream" (top 51) f__law_stream d__law_stream
  g__law_stream : mg "_law_stream" = some (.ref f__law_stream)
  f__law_draw : Addr
  d__law_draw : FuncData
  F__law_draw : FnP K "_law_draw" (top 52) f__law_draw d__law_draw
  g__law_draw : mg "_law_draw" = some (.ref f__law_draw)
  f__law_pick : Addr
  d__law_pick : FuncData
  F__law_pick : FnP K "_law_pick" (top 53) f__law_pick d__law_pick
  g__law_pick : mg "_law_pick" = some (.ref f__law_pick)
  f__law_same : Addr
  d__law_same : FuncData
  F__law_same : FnP K "_law_same" (top 54) f__law_same d__law_same
  g__law_same : mg "_law_same" = some (.ref f__law_same)
  f__law_copied : Addr
  d__law_copied : FuncData
  F__law_copied : FnP K "_law_copied" (top 55) f__law_copied d__law_copied
  g__law_copied : mg "_law_copied" = some (.ref f__law_copied)
  f__law_said : Addr
  d__law_said : FuncData
  F__law_said : FnP K "_law_said" (top 57) f__law_said d__law_said
  g__law_said : mg "_law_said" = some (.ref f__law_said)
  f__law_unlike : Addr
  d__law_unlike : FuncData
  F__law_unlike : FnP K "_law_unlike" (top 58) f__law_unlike d__law_unlike
  g__law_unlike : mg "_law_unlike" = some (.ref f__law_unlike)
  f__law_machine : Addr
  d__law_machine : FuncData
  F__law_machine : FnP K "_law_machine" (top 59) f__law_machine d__law_machine
  g__law_machine : mg "_law_machine" = some (.ref f__law_machine)
  f__law_w_odd_machine : Addr
  d__law_w_odd_machine : FuncData
  F__law_w_odd_machine : FnP K "_law_w_odd_machine" (top 60) f__law_w_odd_machine d__law_w_odd_machine
  g__law_w_odd_machine : mg "_law_w_odd_machine" = some (.ref f__law_w_odd_machine)
  f__law_is_very : Addr
  d__law_is_very : FuncData
  F__law_is_very : FnP K "_law_is_very" (top 56) f__law_is_very d__law_is_very
  g__law_is_very : mg "_law_is_very" = some (.ref f__law_is_very)
  f__law_met : Addr
  d__law_met : FuncData
  F__law_met : FnP K "_law_met" (top 61) f__law_met d__law_met
  g__law_met : mg "_law_met" = some (.ref f__law_met)
  f__law_asks : Addr
  d__law_asks : FuncData
  F__law_asks : FnP K "_law_asks" (top 62) f__law_asks d__law_asks
  g__law_asks : mg "_law_asks" = some (.ref f__law_asks)
  f_law : Addr
  d_law : FuncData
  F_law : FnP K "law" (top 63) f_law d_law
  g_law : mg "law" = some (.ref f_law)
  n_isinstance : mg "isinstance" = none
  n_list : mg "list" = none
  n_tuple : mg "tuple" = none
  n_int : mg "int" = none
  n_bool : mg "bool" = none
  n_dict : mg "dict" = none
  n_str : mg "str" = none
  n_len : mg "len" = none
  n_all : mg "all" = none
  n_sorted : mg "sorted" = none
  n_range : mg "range" = none
  n_zip : mg "zip" = none
  n_abs : mg "abs" = none
  c_BadMachine : Addr
  i_BadMachine : Addr
  x_BadMachine : PySem.ExX.ExTxt K mg "BadMachine" "machine" "BadMachine.__init__" c_BadMachine i_BadMachine
  cd__law_is_very : Addr
  P__law_is_very : Addr
  k__law_is_very : d__law_is_very.code = .ref cd__law_is_very
  cd__law_asks : Addr
  P__law_asks : Addr
  k__law_asks : d__law_asks.code = .ref cd__law_asks
  cd_law : Addr
  P_law : Addr
  k_law : d_law.code = .ref cd_law
  ne__law_is_very__law_asks : P__law_is_very ≠ P__law_asks
  ne__law_is_very_law : P__law_is_very ≠ P_law
  ne__law_asks_law : P__law_asks ≠ P_law
theorem Facts.b_is_list {K : PySem.W.Frag} {mg : Str → Option Value} (Φ : Facts K mg) : Binds K Φ.d_is_list ["thing"] [] := Φ.F_is_list.bindsN fun _ _ _ _ _ _ us hl => match us, hl with | [_], _ => rfl
theorem Facts.b_is_whole {K : PySem.W.Frag} {mg : Str → Option Value} (Φ : Facts K mg) : Binds K Φ.d_is_whole ["thing"] [] := Φ.F_is_whole.bindsN fun _ _ _ _ _ _ us hl => match us, hl with | [_], _ => rfl
theorem Facts.b_is_number {K : PySem.W.Frag} {mg : Str → Option Value} (Φ : Facts K mg) : Binds K Φ.d_is_number ["thing"] [] := Φ.F_is_number.bindsN fun _ _ _ _ _ _ us hl => match us, hl with | [_], _ => rfl
theorem Facts.b_is_below {K : PySem.W.Frag} {mg : Str → Option Value} (Φ : Facts K mg) : Binds K Φ.d_is_below ["thing", "most"] [] := Φ.F_is_below.bindsN fun _ _ _ _ _ _ us hl => match us, hl with | [_, _], _ => rfl
theorem Facts.b_is_row {K : PySem.W.Frag} {mg : Str → Option Value} (Φ : Facts K mg) : Binds K Φ.d_is_row ["thing", "many"] [] := Φ.F_is_row.bindsN fun _ _ _ _ _ _ us hl => match us, hl with | [_, _], _ => rfl
theorem Facts.b_is_ascending {K : PySem.W.Frag} {mg : Str → Option Value} (Φ : Facts K mg) : Binds K Φ.d_is_ascending ["things"] [] := Φ.F_is_ascending.bindsN fun _ _ _ _ _ _ us hl => match us, hl with | [_], _ => rfl
theorem Facts.b_kept_word {K : PySem.W.Frag} {mg : Str → Option Value} (Φ : Facts K mg) : Binds K Φ.d_kept_word ["many", "thing"] [] := Φ.F_kept_word.bindsN fun _ _ _ _ _ _ us hl => match us, hl with | [_, _], _ => rfl
theorem Facts.b_kept_pair {K : PySem.W.Frag} {mg : Str → Option Value} (Φ : Facts K mg) : Binds K Φ.d_kept_pair ["thing", "stands", "signs"] [] := Φ.F_kept_pair.bindsN fun _ _ _ _ _ _ us hl => match us, hl with | [_, _, _], _ => rfl
theorem Facts.b_kept_move {K : PySem.W.Frag} {mg : Str → Option Value} (Φ : Facts K mg) : Binds K Φ.d_kept_move ["thing", "stands", "letters", "signs"] [] := Φ.F_kept_move.bindsN fun _ _ _ _ _ _ us hl => match us, hl with | [_, _, _, _], _ => rfl
theorem Facts.b_kept_all {K : PySem.W.Frag} {mg : Str → Option Value} (Φ : Facts K mg) : Binds K Φ.d_kept_all ["things"] [] := Φ.F_kept_all.bindsN fun _ _ _ _ _ _ us hl => match us, hl with | [_], _ => rfl
theorem Facts.b_kept_machine {K : PySem.W.Frag} {mg : Str → Option Value} (Φ : Facts K mg) : Binds K Φ.d_kept_machine ["thing"] [] := Φ.F_kept_machine.bindsN fun _ _ _ _ _ _ us hl => match us, hl with | [_], _ => rfl
theorem Facts.b_need_machine {K : PySem.W.Frag} {mg : Str → Option Value} (Φ : Facts K mg) : Binds K Φ.d_need_machine ["thing"] [] := Φ.F_need_machine.bindsN fun _ _ _ _ _ _ us hl => match us, hl with | [_], _ => rfl
theorem Facts.b_kept_side {K : PySem.W.Frag} {mg : Str → Option Value} (Φ : Facts K mg) : Binds K Φ.d_kept_side ["machine", "thing"] [] := Φ.F_kept_side.bindsN fun _ _ _ _ _ _ us hl => match us, hl with | [_, _], _ => rfl
theorem Facts.b_most_ways {K : PySem.W.Frag} {mg : Str → Option Value} (Φ : Facts K mg) : Binds K Φ.d_most_ways ["machine"] [] := Φ.F_most_ways.bindsN fun _ _ _ _ _ _ us hl => match us, hl with | [_], _ => rfl
theorem Facts.b_is_double {K : PySem.W.Frag} {mg : Str → Option Value} (Φ : Facts K mg) : Binds K Φ.d_is_double ["machine", "thing"] [] := Φ.F_is_double.bindsN fun _ _ _ _ _ _ us hl => match us, hl with | [_, _], _ => rfl
theorem Facts.b_is_side {K : PySem.W.Frag} {mg : Str → Option Value} (Φ : Facts K mg) : Binds K Φ.d_is_side ["machine", "thing"] [] := Φ.F_is_side.bindsN fun _ _ _ _ _ _ us hl => match us, hl with | [_, _], _ => rfl
theorem Facts.b_degree {K : PySem.W.Frag} {mg : Str → Option Value} (Φ : Facts K mg) : Binds K Φ.d_degree ["machine"] [] := Φ.F_degree.bindsN fun _ _ _ _ _ _ us hl => match us, hl with | [_], _ => rfl
theorem Facts.b_chain_of {K : PySem.W.Frag} {mg : Str → Option Value} (Φ : Facts K mg) : Binds K Φ.d_chain_of ["machine"] [] := Φ.F_chain_of.bindsN fun _ _ _ _ _ _ us hl => match us, hl with | [_], _ => rfl
theorem Facts.b_is_chain {K : PySem.W.Frag} {mg : Str → Option Value} (Φ : Facts K mg) : Binds K Φ.d_is_chain ["machine", "thing"] [] := Φ.F_is_chain.bindsN fun _ _ _ _ _ _ us hl => match us, hl with | [_, _], _ => rfl
theorem Facts.b__law_stream {K : PySem.W.Frag} {mg : Str → Option Value} (Φ : Facts K mg) : Binds K Φ.d__law_stream ["script"] [] := Φ.F__law_stream.bindsN fun _ _ _ _ _ _ us hl => match us, hl with | [_], _ => rfl
theorem Facts.b__law_draw {K : PySem.W.Frag} {mg : Str → Option Value} (Φ : Facts K mg) : Binds K Φ.d__law_draw ["stream", "many"] [] := Φ.F__law_draw.bindsN fun _ _ _ _ _ _ us hl => match us, hl with | [_, _], _ => rfl
theorem Facts.b__law_pick {K : PySem.W.Frag} {mg : Str → Option Value} (Φ : Facts K mg) : Binds K Φ.d__law_pick ["stream", "things"] [] := Φ.F__law_pick.bindsN fun _ _ _ _ _ _ us hl => match us, hl with | [_, _], _ => rfl
theorem Facts.b__law_same {K : PySem.W.Frag} {mg : Str → Option Value} (Φ : Facts K mg) : Binds K Φ.d__law_same ["found", "due"] [] := Φ.F__law_same.bindsN fun _ _ _ _ _ _ us hl => match us, hl with | [_, _], _ => rfl
theorem Facts.b__law_copied {K : PySem.W.Frag} {mg : Str → Option Value} (Φ : Facts K mg) : Binds K Φ.d__law_copied ["thing"] [] := Φ.F__law_copied.bindsN fun _ _ _ _ _ _ us hl => match us, hl with | [_], _ => rfl
theorem Facts.b__law_said {K : PySem.W.Frag} {mg : Str → Option Value} (Φ : Facts K mg) : Binds K Φ.d__law_said ["stream", "signs", "most"] [] := Φ.F__law_said.bindsN fun _ _ _ _ _ _ us hl => match us, hl with | [_, _, _], _ => rfl
theorem Facts.b__law_unlike {K : PySem.W.Frag} {mg : Str → Option Value} (Φ : Facts K mg) : Binds K Φ.d__law_unlike ["things"] [] := Φ.F__law_unlike.bindsN fun _ _ _ _ _ _ us hl => match us, hl with | [_], _ => rfl
theorem Facts.b__law_machine {K : PySem.W.Frag} {mg : Str → Option Value} (Φ : Facts K mg) : Binds K Φ.d__law_machine ["stream", "stands", "letters", "signs", "moves"] [] := Φ.F__law_machine.bindsN fun _ _ _ _ _ _ us hl => match us, hl with | [_, _, _, _, _], _ => rfl
theorem Facts.b__law_w_odd_machine {K : PySem.W.Frag} {mg : Str → Option Value} (Φ : Facts K mg) : Binds K Φ.d__law_w_odd_machine ["stream", "machine"] [] := Φ.F__law_w_odd_machine.bindsN fun _ _ _ _ _ _ us hl => match us, hl with | [_, _], _ => rfl
theorem Facts.b__law_is_very {K : PySem.W.Frag} {mg : Str → Option Value} (Φ : Facts K mg) : Binds K Φ.d__law_is_very ["word", "ask"] [] := Φ.F__law_is_very.bindsN fun _ _ _ _ _ _ us hl => match us, hl with | [_, _], _ => rfl
theorem Facts.b__law_met {K : PySem.W.Frag} {mg : Str → Option Value} (Φ : Facts K mg) : Binds K Φ.d__law_met ["ask"] [] := Φ.F__law_met.bindsN fun _ _ _ _ _ _ us hl => match us, hl with | [_], _ => rfl
theorem Facts.b__law_asks {K : PySem.W.Frag} {mg : Str → Option Value} (Φ : Facts K mg) : Binds K Φ.d__law_asks ["machine"] [] := Φ.F__law_asks.bindsN fun _ _ _ _ _ _ us hl => match us, hl with | [_], _ => rfl
theorem Facts.b_law {K : PySem.W.Frag} {mg : Str → Option Value} (Φ : Facts K mg) : Binds K Φ.d_law ["script"] [] := Φ.F_law.bindsN fun _ _ _ _ _ _ us hl => match us, hl with | [_], _ => rfl
abbrev s_is_list : Stmt := top 1
abbrev n_is_list : List Str := ["thing"]
theorem sc_is_list : FnScope n_is_list ["thing"] (defScope s_is_list) := ⟨rfl, rfl, rfl, by decide +kernel, rfl, by decide +kernel, by decide +kernel⟩
def B_is_list  : Env → M (Fl × Env) :=
  (fun γ => do pure (Fl.rt (← (fun γ => do pure (D.bl (← dIsi ["list", "tuple"] (← (rd 0) γ)))) γ), γ))
theorem b_is_list {g : G} {P : Program} {w : World} {K : PySem.W.Frag} {mg : Str → Option Value} {base : Heap} (Φ : Facts K mg) {f : Addr} {cdv : Value} {A : Around} {outer : List PySem.Env} {s : Shared} {H : Hp} {E : XK} (hr : Room 0 (A.deeper (envOfC "is_list" (defScope s_is_list) s.heap.objs.size f cdv))) :
    PSsD g (cxOf (L2.CX P w) P w K mg base n_is_list "is_list" (defScope s_is_list) f cdv A outer s H E) (fun cls d _ H => E cls d H) (defBody s_is_list) (B_is_list ) :=
  (pssd_one (psd_ret (pd_isiN (PD.b (pd_var 0)) (pty_cons rfl Φ.n_list (by decide +kernel) (pty_cons rfl Φ.n_tuple (by decide +kernel) pty_nil)) (by decide) (by decide) rfl Φ.n_isinstance)))
abbrev s_is_whole : Stmt := top 2
abbrev n_is_whole : List Str := ["thing"]
theorem sc_is_whole : FnScope n_is_whole ["thing"] (defScope s_is_whole) := ⟨rfl, rfl, rfl, by decide +kernel, rfl, by decide +kernel, by decide +kernel⟩
def B_is_whole  : Env → M (Fl × Env) :=
  (fun γ => do pure (Fl.rt (← (fun γ => do let x ← (fun γ => do pure (D.bl (← dIsi ["int"] (← (rd 0) γ)))) γ; bif (← tru x) then (fun γ => do pure (D.bl !(← tru (← (fun γ => do pure (D.bl (← dIsi ["bool"] (← (rd 0) γ)))) γ)))) γ else pure x) γ), γ))
theorem b_is_whole {g : G} {P : Program} {w : World} {K : PySem.W.Frag} {mg : Str → Option Value} {base : Heap} (Φ : Facts K mg) {f : Addr} {cdv : Value} {A : Around} {outer : List PySem.Env} {s : Shared} {H : Hp} {E : XK} (hr : Room 0 (A.deeper (envOfC "is_whole" (defScope s_is_whole) s.heap.objs.size f cdv))) :
    PSsD g (cxOf (L2.CX P w) P w K mg base n_is_whole "is_whole" (defScope s_is_whole) f cdv A outer s H E) (fun cls d _ H => E cls d H) (defBody s_is_whole) (B_is_whole ) :=
  (pssd_one (psd_ret (pd_and (pd_isi1 (PD.b (pd_var 0)) (by decide) rfl Φ.n_int (by decide +kernel) rfl Φ.n_isinstance) (pd_one (pd_not (PD.b (pd_isi1 (PD.b (pd_var 0)) (by decide) rfl Φ.n_bool (by decide +kernel) rfl Φ.n_isinstance)))))))
abbrev s_is_number : Stmt := top 3
abbrev n_is_number : List Str := ["thing"]
theorem sc_is_number : FnScope n_is_number ["thing"] (defScope s_is_number) := ⟨rfl, rfl, rfl, by decide +kernel, rfl, by decide +kernel, by decide +kernel⟩
def B_is_number (m_is_whole : List D → M D) : Env → M (Fl × Env) :=
  (fun γ => do pure (Fl.rt (← (fun γ => do let x ← (fun γ => do let ds ← (fun γ => do let d ← (rd 0) γ; pure (d :: (← (fun _ => pure []) γ))) γ; M.need (ds.length = (["thing"] : List Str).length); m_is_whole ds) γ; bif (← tru x) then (fun γ => do let x ← (rd 0) γ; let y ← (fun _ => pure (D.int 0)) γ; pure (D.bl (← dGe x y))) γ else pure x) γ), γ))
theorem b_is_number {g : G} {P : Program} {w : World} {K : PySem.W.Frag} {mg : Str → Option Value} {base : Heap} (Φ : Facts K mg) {m_is_whole : List D → M D} (G_is_whole : FnD g P w K mg base 1 Φ.f_is_whole Φ.d_is_whole ["thing"] m_is_whole) {f : Addr} {cdv : Value} {A : Around} {outer : List PySem.Env} {s : Shared} {H : Hp} {E : XK} (hr : Room 1 (A.deeper (envOfC "is_number" (defScope s_is_number) s.heap.objs.size f cdv))) :
    PSsD g (cxOf (L2.CX P w) P w K mg base n_is_number "is_number" (defScope s_is_number) f cdv A outer s H E) (fun cls d _ H => E cls d H) (defBody s_is_number) (B_is_number m_is_whole) :=
  (pssd_one (psd_ret (pd_and (pd_call G_is_whole (hr.mono (by decide)) rfl Φ.g_is_whole Φ.F_is_whole.kp Φ.b_is_whole takes_cx (pad_cons (pd_var 0) pad_nil)) (pd_one (pd_ge (hu64 hr) (PD.b (pd_var 0)) (PD.b pd_int))))))
abbrev s_is_below : Stmt := top 4
abbrev n_is_below : List Str := ["thing", "most"]
theorem sc_is_below : FnScope n_is_below ["thing", "most"] (defScope s_is_below) := ⟨rfl, rfl, rfl, by decide +kernel, rfl, by decide +kernel, by decide +kernel⟩
def B_is_below (m_is_number : List D → M D) : Env → M (Fl × Env) :=
  (fun γ => do pure (Fl.rt (← (fun γ => do let x ← (fun γ => do let ds ← (fun γ => do let d ← (rd 0) γ; pure (d :: (← (fun _ => pure []) γ))) γ; M.need (ds.length = (["thing"] : List Str).length); m_is_number ds) γ; bif (← tru x) then (fun γ => do let x ← (rd 0) γ; let y ← (rd 1) γ; pure (D.bl (← dLt x y))) γ else pure x) γ), γ))
theorem b_is_below {g : G} {P : Program} {w : World} {K : PySem.W.Frag} {mg : Str → Option Value} {base : Heap} (Φ : Facts K mg) {m_is_number : List D → M D} (G_is_number : FnD g P w K mg base 2 Φ.f_is_number Φ.d_is_number ["thing"] m_is_number) {f : Addr} {cdv : Value} {A : Around} {outer : List PySem.Env} {s : Shared} {H : Hp} {E : XK} (hr : Room 2 (A.deeper (envOfC "is_below" (defScope s_is_below) s.heap.objs.size f cdv))) :
    PSsD g (cxOf (L2.CX P w) P w K mg base n_is_below "is_below" (defScope s_is_below) f cdv A outer s H E) (fun cls d _ H => E cls d H) (defBody s_is_below) (B_is_below m_is_number) :=
  (pssd_one (psd_ret (pd_and (pd_call G_is_number (hr.mono (by decide)) rfl Φ.g_is_number Φ.F_is_number.kp Φ.b_is_number takes_cx (pad_cons (pd_var 0) pad_nil)) (pd_one (pd_lt (hu64 hr) (PD.b (pd_var 0)) (PD.b (pd_var 1)))))))
abbrev s_is_row : Stmt := top 5
abbrev n_is_row : List Str := ["thing", "many"]
theorem sc_is_row : FnScope n_is_row ["thing", "many"] (defScope s_is_row) := ⟨rfl, rfl, rfl, by decide +kernel, rfl, by decide +kernel, by decide +kernel⟩
def B_is_row (m_is_list : List D → M D) : Env → M (Fl × Env) :=
  (fun γ => do pure (Fl.rt (← (fun γ => do let x ← (fun γ => do let ds ← (fun γ => do let d ← (rd 0) γ; pure (d :: (← (fun _ => pure []) γ))) γ; M.need (ds.length = (["thing"] : List Str).length); m_is_list ds) γ; bif (← tru x) then (fun γ => do let x ← (fun γ => do dLen (← (rd 0) γ)) γ; let y ← (rd 1) γ; pure (D.bl (← dEq x y))) γ else pure x) γ), γ))
theorem b_is_row {g : G} {P : Program} {w : World} {K : PySem.W.Frag} {mg : Str → Option Value} {base : Heap} (Φ : Facts K mg) {m_is_list : List D → M D} (G_is_list : FnD g P w K mg base 1 Φ.f_is_list Φ.d_is_list ["thing"] m_is_list) {f : Addr} {cdv : Value} {A : Around} {outer : List PySem.Env} {s : Shared} {H : Hp} {E : XK} (hr : Room 1 (A.deeper (envOfC "is_row" (defScope s_is_row) s.heap.objs.size f cdv))) :
    PSsD g (cxOf (L2.CX P w) P w K mg base n_is_row "is_row" (defScope s_is_row) f cdv A outer s H E) (fun cls d _ H => E cls d H) (defBody s_is_row) (B_is_row m_is_list) :=
  (pssd_one (psd_ret (pd_and (pd_call G_is_list (hr.mono (by decide)) rfl Φ.g_is_list Φ.F_is_list.kp Φ.b_is_list takes_cx (pad_cons (pd_var 0) pad_nil)) (pd_one (pd_eq (hu64 hr) (PD.b (pd_len (PD.b (pd_var 0)) rfl Φ.n_len)) (PD.b (pd_var 1)))))))
abbrev s_is_ascending : Stmt := top 6
abbrev n_is_ascending : List Str := ["things", "one", "other"]
theorem sc_is_ascending : FnScope n_is_ascending ["things"] (defScope s_is_ascending) := ⟨rfl, rfl, rfl, by decide +kernel, rfl, by decide +kernel, by decide +kernel⟩
def B_is_ascending  : Env → M (Fl × Env) :=
  (fun γ => do pure (Fl.rt (← (fun γ => do pure (D.bl (← dAll (← (compM (([("one", 1), ("other", 2)] : List (Str × Nat)).map (·.2)) (fun γ => do zipOf (← (fun γ => do let d ← (rd 0) γ; pure (d :: (← (fun γ => do let d ← (fun γ => do let d ← (rd 0) γ; let l ← (fun γ => do pure (some (← asInt (← (fun _ => pure (D.int 1)) γ)))) γ; dSlice d l (← (fun _ => pure none) γ)) γ; pure (d :: (← (fun _ => pure []) γ))) γ))) γ)) (fun d γ => do M.need (∀ ds, d = D.tup ds → ds.length = 2); tupT (consT (fun d γ => pure (setM 1 d γ)) (consT (fun d γ => pure (setM 2 d γ)) (fun ds γ => do M.need (ds = []); pure γ))) d γ) (fun _ => pure true) (fun γ => do let x ← (rd 1) γ; let y ← (rd 2) γ; pure (D.bl (← dLt x y)))) γ)))) γ), γ))
theorem b_is_ascending {g : G} {P : Program} {w : World} {K : PySem.W.Frag} {mg : Str → Option Value} {base : Heap} (Φ : Facts K mg) {f : Addr} {cdv : Value} {A : Around} {outer : List PySem.Env} {s : Shared} {H : Hp} {E : XK} (hr : Room 0 (A.deeper (envOfC "is_ascending" (defScope s_is_ascending) s.heap.objs.size f cdv))) :
    PSsD g (cxOf (L2.CX P w) P w K mg base n_is_ascending "is_ascending" (defScope s_is_ascending) f cdv A outer s H E) (fun cls d _ H => E cls d H) (defBody s_is_ascending) (B_is_ascending ) :=
  (pssd_one (psd_ret (pd_all rfl (pd_lc rfl sc_is_ascending.nd (pid_zip rfl Φ.n_zip (pad_cons (pd_var 0) (pad_cons (pd_slice (PD.b (pd_var 0)) (pod_some pd_int) pod_none) pad_nil))) (blkOk_by (N := n_is_ascending) (sc := defScope s_is_ascending) (own := [("one", 1), ("other", 2)]) (by decide +kernel)) (fun _ _ _ _ _ => (pgd_tup rfl (pgsd_cons (pgd_name (i := 1) sc_is_ascending.nd rfl (by first | exact Or.inl rfl | exact Or.inr rfl)) (pgsd_cons (pgd_name (i := 2) sc_is_ascending.nd rfl (by first | exact Or.inl rfl | exact Or.inr rfl)) pgsd_nil)))) (fun _ _ _ _ _ => ptsd_nil) (fun _ _ _ _ _ => (pd_lt (hu64 hr) (PD.b (pd_var 1)) (PD.b (pd_var 2))))) rfl Φ.n_all)))
abbrev s_kept_word : Stmt := top 11
abbrev n_kept_word : List Str := ["many", "thing", "one"]
theorem sc_kept_word : FnScope n_kept_word ["many", "thing"] (defScope s_kept_word) := ⟨rfl, rfl, rfl, by decide +kernel, rfl, by decide +kernel, by decide +kernel⟩
def B_kept_word (m_is_list : List D → M D) (m_is_number : List D → M D) (m_is_below : List D → M D) : Env → M (Fl × Env) :=
  (seqM (fun γ => do bif (← (fun γ => do bif (← (fun γ => do pure !(← (fun γ => do tru (← (fun γ => do let ds ← (fun γ => do let d ← (rd 1) γ; pure (d :: (← (fun _ => pure []) γ))) γ; M.need (ds.length = (["thing"] : List Str).length); m_is_list ds) γ)) γ)) γ) then pure true else (fun γ => do pure !(← (fun γ => do tru (← (fun γ => do pure (D.bl (← dAll (← (compM (([("one", 2)] : List (Str × Nat)).map (·.2)) (fun γ => do itemsOf (← (rd 1) γ)) (fun d γ => pure (setM 2 d γ)) (fun _ => pure true) (fun γ => do bif (← (fun γ => do pure (isNon (← (rd 0) γ))) γ) then (fun γ => do let ds ← (fun γ => do let d ← (rd 2) γ; pure (d :: (← (fun _ => pure []) γ))) γ; M.need (ds.length = (["thing"] : List Str).length); m_is_number ds) γ else (fun γ => do let ds ← (fun γ => do let d ← (rd 2) γ; pure (d :: (← (fun γ => do let d ← (rd 0) γ; pure (d :: (← (fun _ => pure []) γ))) γ))) γ; M.need (ds.length = (["thing", "most"] : List Str).length); m_is_below ds) γ)) γ)))) γ)) γ)) γ) γ) then (fun γ => do pure (Fl.rt (← (fun _ => pure D.non) γ), γ)) γ else (fun γ => pure (Fl.nx, γ)) γ)
    (fun γ => do pure (Fl.rt (← (fun γ => do dTuple (← (rd 1) γ)) γ), γ)))
theorem b_kept_word {g : G} {P : Program} {w : World} {K : PySem.W.Frag} {mg : Str → Option Value} {base : Heap} (Φ : Facts K mg) {m_is_list : List D → M D} {m_is_number : List D → M D} {m_is_below : List D → M D} (G_is_list : FnD g P w K mg base 1 Φ.f_is_list Φ.d_is_list ["thing"] m_is_list) (G_is_number : FnD g P w K mg base 2 Φ.f_is_number Φ.d_is_number ["thing"] m_is_number) (G_is_below : FnD g P w K mg base 3 Φ.f_is_below Φ.d_is_below ["thing", "most"] m_is_below) {f : Addr} {cdv : Value} {A : Around} {outer : List PySem.Env} {s : Shared} {H : Hp} {E : XK} (hr : Room 3 (A.deeper (envOfC "kept_word" (defScope s_kept_word) s.heap.objs.size f cdv))) :
    PSsD g (cxOf (L2.CX P w) P w K mg base n_kept_word "kept_word" (defScope s_kept_word) f cdv A outer s H E) (fun cls d _ H => E cls d H) (defBody s_kept_word) (B_kept_word m_is_list m_is_number m_is_below) :=
  (pssd_cons (psd_if (PWD.t (pwd_or (ptd_not (ptd_truth (PD.b (pd_call G_is_list (hr.mono (by decide)) rfl Φ.g_is_list Φ.F_is_list.kp Φ.b_is_list takes_cx (pad_cons (pd_var 1) pad_nil))))) (pwd_or1 (ptd_not (ptd_truth (PD.b (pd_all rfl (pd_lc rfl sc_kept_word.nd (pid_seq (pd_var 1)) (blkOk_by (N := n_kept_word) (sc := defScope s_kept_word) (own := [("one", 2)]) (by decide +kernel)) (fun _ _ _ _ _ => (pgd_name (i := 2) sc_kept_word.nd rfl (by first | exact Or.inl rfl | exact Or.inr rfl))) (fun _ _ _ _ _ => ptsd_nil) (fun _ _ _ _ _ => (pd_ifExp (ptd_isN (PD.b (pd_var 0))) (pd_call G_is_number (hr.mono (by decide)) rfl Φ.g_is_number Φ.F_is_number.kp Φ.b_is_number takes_w0 (pad_cons (pd_var 2) pad_nil)) (pd_call G_is_below (hr.mono (by decide)) rfl Φ.g_is_below Φ.F_is_below.kp Φ.b_is_below takes_w0 (pad_cons (pd_var 2) (pad_cons (pd_var 0) pad_nil)))))) rfl Φ.n_all)))))))
    (pssd_one (psd_ret pd_non))
    pssd_nil)
    (pssd_one (psd_ret (pd_tuple (PD.b (pd_var 1)) rfl Φ.n_tuple))))
abbrev s_kept_pair : Stmt := top 13
abbrev n_kept_pair : List Str := ["thing", "stands", "signs", "word"]
theorem sc_kept_pair : FnScope n_kept_pair ["thing", "stands", "signs"] (defScope s_kept_pair) := ⟨rfl, rfl, rfl, by decide +kernel, rfl, by decide +kernel, by decide +kernel⟩
def B_kept_pair (m_is_row : List D → M D) (m_is_below : List D → M D) (m_kept_word : List D → M D) : Env → M (Fl × Env) :=
  (seqM (fun γ => do bif (← (fun γ => do bif (← (fun γ => do pure !(← (fun γ => do tru (← (fun γ => do let ds ← (fun γ => do let d ← (rd 0) γ; pure (d :: (← (fun γ => do let d ← (fun _ => pure (D.int 2)) γ; pure (d :: (← (fun _ => pure []) γ))) γ))) γ; M.need (ds.length = (["thing", "many"] : List Str).length); m_is_row ds) γ)) γ)) γ) then pure true else (fun γ => do pure !(← (fun γ => do tru (← (fun γ => do let ds ← (fun γ => do let d ← (fun γ => do let x ← (rd 0) γ; dIx x (← (fun _ => pure (D.int 0)) γ)) γ; pure (d :: (← (fun γ => do let d ← (rd 1) γ; pure (d :: (← (fun _ => pure []) γ))) γ))) γ; M.need (ds.length = (["thing", "most"] : List Str).length); m_is_below ds) γ)) γ)) γ) γ) then (fun γ => do pure (Fl.rt (← (fun _ => pure D.non) γ), γ)) γ else (fun γ => pure (Fl.nx, γ)) γ)
    (seqM (fun γ => do pure (Fl.nx, setM 3 (← (fun γ => do let ds ← (fun γ => do let d ← (rd 2) γ; pure (d :: (← (fun γ => do let d ← (fun γ => do let x ← (rd 0) γ; dIx x (← (fun _ => pure (D.int 1)) γ)) γ; pure (d :: (← (fun _ => pure []) γ))) γ))) γ; M.need (ds.length = (["many", "thing"] : List Str).length); m_kept_word ds) γ) γ))
    (fun γ => do pure (Fl.rt (← (fun γ => do bif (← (fun γ => do pure (isNon (← (rd 3) γ))) γ) then (fun _ => pure D.non) γ else (fun γ => do let ds ← (fun γ => do let d ← (fun γ => do let x ← (rd 0) γ; dIx x (← (fun _ => pure (D.int 0)) γ)) γ; pure (d :: (← (fun γ => do let d ← (rd 3) γ; pure (d :: (← (fun _ => pure []) γ))) γ))) γ; M.need (ds.length ≤ sizeLine); pure (D.tup ds)) γ) γ), γ))))
theorem b_kept_pair {g : G} {P : Program} {w : World} {K : PySem.W.Frag} {mg : Str → Option Value} {base : Heap} (Φ : Facts K mg) {m_is_row : List D → M D} {m_is_below : List D → M D} {m_kept_word : List D → M D} (G_is_row : FnD g P w K mg base 2 Φ.f_is_row Φ.d_is_row ["thing", "many"] m_is_row) (G_is_below : FnD g P w K mg base 3 Φ.f_is_below Φ.d_is_below ["thing", "most"] m_is_below) (G_kept_word : FnD g P w K mg base 4 Φ.f_kept_word Φ.d_kept_word ["many", "thing"] m_kept_word) {f : Addr} {cdv : Value} {A : Around} {outer : List PySem.Env} {s : Shared} {H : Hp} {E : XK} (hr : Room 4 (A.deeper (envOfC "kept_pair" (defScope s_kept_pair) s.heap.objs.size f cdv))) :
    PSsD g (cxOf (L2.CX P w) P w K mg base n_kept_pair "kept_pair" (defScope s_kept_pair) f cdv A outer s H E) (fun cls d _ H => E cls d H) (defBody s_kept_pair) (B_kept_pair m_is_row m_is_below m_kept_word) :=
  (pssd_cons (psd_if (PWD.t (pwd_or (ptd_not (ptd_truth (PD.b (pd_call G_is_row (hr.mono (by decide)) rfl Φ.g_is_row Φ.F_is_row.kp Φ.b_is_row takes_cx (pad_cons (pd_var 0) (pad_cons pd_int pad_nil)))))) (pwd_or1 (ptd_not (ptd_truth (PD.b (pd_call G_is_below (hr.mono (by decide)) rfl Φ.g_is_below Φ.F_is_below.kp Φ.b_is_below takes_cx (pad_cons (pd_ix (PD.b (pd_var 0)) pd_int) (pad_cons (pd_var 1) pad_nil)))))))))
    (pssd_one (psd_ret pd_non))
    pssd_nil)
    (pssd_cons (psd_set (i := 3) sc_kept_pair.nd rfl (by first | exact Or.inl rfl | exact Or.inr rfl) (pd_call G_kept_word (hr.mono (by decide)) rfl Φ.g_kept_word Φ.F_kept_word.kp Φ.b_kept_word takes_cx (pad_cons (pd_var 2) (pad_cons (pd_ix (PD.b (pd_var 0)) pd_int) pad_nil))))
    (pssd_one (psd_ret (pd_ifExp (ptd_isN (PD.b (pd_var 3))) pd_non (pd_tup (pad_cons (pd_ix (PD.b (pd_var 0)) pd_int) (pad_cons (pd_var 3) pad_nil))))))))
abbrev s_kept_move : Stmt := top 14
abbrev n_kept_move : List Str := ["thing", "stands", "letters", "signs", "word"]
theorem sc_kept_move : FnScope n_kept_move ["thing", "stands", "letters", "signs"] (defScope s_kept_move) := ⟨rfl, rfl, rfl, by decide +kernel, rfl, by decide +kernel, by decide +kernel⟩
def B_kept_move (m_is_row : List D → M D) (m_is_below : List D → M D) (m_kept_word : List D → M D) : Env → M (Fl × Env) :=
  (seqM (fun γ => do bif (← (fun γ => do bif (← (fun γ => do pure !(← (fun γ => do tru (← (fun γ => do let ds ← (fun γ => do let d ← (rd 0) γ; pure (d :: (← (fun γ => do let d ← (fun _ => pure (D.int 4)) γ; pure (d :: (← (fun _ => pure []) γ))) γ))) γ; M.need (ds.length = (["thing", "many"] : List Str).length); m_is_row ds) γ)) γ)) γ) then pure true else (fun γ => do bif (← (fun γ => do pure !(← (fun γ => do tru (← (fun γ => do let ds ← (fun γ => do let d ← (fun γ => do let x ← (rd 0) γ; dIx x (← (fun _ => pure (D.int 0)) γ)) γ; pure (d :: (← (fun γ => do let d ← (rd 1) γ; pure (d :: (← (fun _ => pure []) γ))) γ))) γ; M.need (ds.length = (["thing", "most"] : List Str).length); m_is_below ds) γ)) γ)) γ) then pure true else (fun γ => do pure !(← (fun γ => do tru (← (fun γ => do let ds ← (fun γ => do let d ← (fun γ => do let x ← (rd 0) γ; dIx x (← (fun _ => pure (D.int 1)) γ)) γ; pure (d :: (← (fun γ => do let d ← (rd 2) γ; pure (d :: (← (fun _ => pure []) γ))) γ))) γ; M.need (ds.length = (["thing", "most"] : List Str).length); m_is_below ds) γ)) γ)) γ) γ) γ) then (fun γ => do pure (Fl.rt (← (fun _ => pure D.non) γ), γ)) γ else (fun γ => pure (Fl.nx, γ)) γ)
    (seqM (fun γ => do pure (Fl.nx, setM 4 (← (fun γ => do let ds ← (fun γ => do let d ← (rd 3) γ; pure (d :: (← (fun γ => do let d ← (fun γ => do let x ← (rd 0) γ; dIx x (← (fun _ => pure (D.int 2)) γ)) γ; pure (d :: (← (fun _ => pure []) γ))) γ))) γ; M.need (ds.length = (["many", "thing"] : List Str).length); m_kept_word ds) γ) γ))
    (fun γ => do pure (Fl.rt (← (fun γ => do bif (← (fun γ => do bif (← (fun γ => do pure (isNon (← (rd 4) γ))) γ) then pure true else (fun γ => do pure !(← (fun γ => do tru (← (fun γ => do let ds ← (fun γ => do let d ← (fun γ => do let x ← (rd 0) γ; dIx x (← (fun _ => pure (D.int 3)) γ)) γ; pure (d :: (← (fun γ => do let d ← (rd 1) γ; pure (d :: (← (fun _ => pure []) γ))) γ))) γ; M.need (ds.length = (["thing", "most"] : List Str).length); m_is_below ds) γ)) γ)) γ) γ) then (fun _ => pure D.non) γ else (fun γ => do let ds ← (fun γ => do let d ← (fun γ => do let x ← (rd 0) γ; dIx x (← (fun _ => pure (D.int 0)) γ)) γ; pure (d :: (← (fun γ => do let d ← (fun γ => do let x ← (rd 0) γ; dIx x (← (fun _ => pure (D.int 1)) γ)) γ; pure (d :: (← (fun γ => do let d ← (rd 4) γ; pure (d :: (← (fun γ => do let d ← (fun γ => do let x ← (rd 0) γ; dIx x (← (fun _ => pure (D.int 3)) γ)) γ; pure (d :: (← (fun _ => pure []) γ))) γ))) γ))) γ))) γ; M.need (ds.length ≤ sizeLine); pure (D.tup ds)) γ) γ), γ))))
theorem b_kept_move {g : G} {P : Program} {w : World} {K : PySem.W.Frag} {mg : Str → Option Value} {base : Heap} (Φ : Facts K mg) {m_is_row : List D → M D} {m_is_below : List D → M D} {m_kept_word : List D → M D} (G_is_row : FnD g P w K mg base 2 Φ.f_is_row Φ.d_is_row ["thing", "many"] m_is_row) (G_is_below : FnD g P w K mg base 3 Φ.f_is_below Φ.d_is_below ["thing", "most"] m_is_below) (G_kept_word : FnD g P w K mg base 4 Φ.f_kept_word Φ.d_kept_word ["many", "thing"] m_kept_word) {f : Addr} {cdv : Value} {A : Around} {outer : List PySem.Env} {s : Shared} {H : Hp} {E : XK} (hr : Room 4 (A.deeper (envOfC "kept_move" (defScope s_kept_move) s.heap.objs.size f cdv))) :
    PSsD g (cxOf (L2.CX P w) P w K mg base n_kept_move "kept_move" (defScope s_kept_move) f cdv A outer s H E) (fun cls d _ H => E cls d H) (defBody s_kept_move) (B_kept_move m_is_row m_is_below m_kept_word) :=
  (pssd_cons (psd_if (PWD.t (pwd_or (ptd_not (ptd_truth (PD.b (pd_call G_is_row (hr.mono (by decide)) rfl Φ.g_is_row Φ.F_is_row.kp Φ.b_is_row takes_cx (pad_cons (pd_var 0) (pad_cons pd_int pad_nil)))))) (pwd_or (ptd_not (ptd_truth (PD.b (pd_call G_is_below (hr.mono (by decide)) rfl Φ.g_is_below Φ.F_is_below.kp Φ.b_is_below takes_cx (pad_cons (pd_ix (PD.b (pd_var 0)) pd_int) (pad_cons (pd_var 1) pad_nil)))))) (pwd_or1 (ptd_not (ptd_truth (PD.b (pd_call G_is_below (hr.mono (by decide)) rfl Φ.g_is_below Φ.F_is_below.kp Φ.b_is_below takes_cx (pad_cons (pd_ix (PD.b (pd_var 0)) pd_int) (pad_cons (pd_var 2) pad_nil))))))))))
    (pssd_one (psd_ret pd_non))
    pssd_nil)
    (pssd_cons (psd_set (i := 4) sc_kept_move.nd rfl (by first | exact Or.inl rfl | exact Or.inr rfl) (pd_call G_kept_word (hr.mono (by decide)) rfl Φ.g_kept_word Φ.F_kept_word.kp Φ.b_kept_word takes_cx (pad_cons (pd_var 3) (pad_cons (pd_ix (PD.b (pd_var 0)) pd_int) pad_nil))))
    (pssd_one (psd_ret (pd_ifExp (PWD.t (pwd_or (ptd_isN (PD.b (pd_var 4))) (pwd_or1 (ptd_not (ptd_truth (PD.b (pd_call G_is_below (hr.mono (by decide)) rfl Φ.g_is_below Φ.F_is_below.kp Φ.b_is_below takes_cx (pad_cons (pd_ix (PD.b (pd_var 0)) pd_int) (pad_cons (pd_var 1) pad_nil))))))))) pd_non (pd_tup (pad_cons (pd_ix (PD.b (pd_var 0)) pd_int) (pad_cons (pd_ix (PD.b (pd_var 0)) pd_int) (pad_cons (pd_var 4) (pad_cons (pd_ix (PD.b (pd_var 0)) pd_int) pad_nil))))))))))
abbrev s_kept_all : Stmt := top 15
abbrev n_kept_all : List Str := ["things"]
theorem sc_kept_all : FnScope n_kept_all ["things"] (defScope s_kept_all) := ⟨rfl, rfl, rfl, by decide +kernel, rfl, by decide +kernel, by decide +kernel⟩
def B_kept_all (m_is_ascending : List D → M D) : Env → M (Fl × Env) :=
  (fun γ => do pure (Fl.rt (← (fun γ => do bif (← (fun γ => do bif (← (fun γ => do let x ← (fun _ => pure D.non) γ; dInL x (← (rd 0) γ)) γ) then pure true else (fun γ => do pure !(← (fun γ => do tru (← (fun γ => do let ds ← (fun γ => do let d ← (rd 0) γ; pure (d :: (← (fun _ => pure []) γ))) γ; M.need (ds.length = (["things"] : List Str).length); m_is_ascending ds) γ)) γ)) γ) γ) then (fun _ => pure D.non) γ else (fun γ => do dTuple (← (rd 0) γ)) γ) γ), γ))
theorem b_kept_all {g : G} {P : Program} {w : World} {K : PySem.W.Frag} {mg : Str → Option Value} {base : Heap} (Φ : Facts K mg) {m_is_ascending : List D → M D} (G_is_ascending : FnD g P w K mg base 1 Φ.f_is_ascending Φ.d_is_ascending ["things"] m_is_ascending) {f : Addr} {cdv : Value} {A : Around} {outer : List PySem.Env} {s : Shared} {H : Hp} {E : XK} (hr : Room 1 (A.deeper (envOfC "kept_all" (defScope s_kept_all) s.heap.objs.size f cdv))) :
    PSsD g (cxOf (L2.CX P w) P w K mg base n_kept_all "kept_all" (defScope s_kept_all) f cdv A outer s H E) (fun cls d _ H => E cls d H) (defBody s_kept_all) (B_kept_all m_is_ascending) :=
  (pssd_one (psd_ret (pd_ifExp (PWD.t (pwd_or (ptd_inL (hu65 hr) (PD.b pd_non) (PD.b (pd_var 0)) (by with_unfolding_all rfl)) (pwd_or1 (ptd_not (ptd_truth (PD.b (pd_call G_is_ascending (hr.mono (by decide)) rfl Φ.g_is_ascending Φ.F_is_ascending.kp Φ.b_is_ascending takes_cx (pad_cons (pd_var 0) pad_nil)))))))) pd_non (pd_tuple (PD.b (pd_var 0)) rfl Φ.n_tuple))))
abbrev s_kept_machine : Stmt := top 16
abbrev n_kept_machine : List Str := ["thing", "starts", "moves", "ends", "stands", "letters", "signs", "part", "one"]
theorem sc_kept_machine : FnScope n_kept_machine ["thing"] (defScope s_kept_machine) := ⟨rfl, rfl, rfl, by decide +kernel, rfl, by decide +kernel, by decide +kernel⟩
def B_kept_machine (m_is_row : List D → M D) (m_is_whole : List D → M D) (m_is_list : List D → M D) (m_kept_all : List D → M D) (m_kept_pair : List D → M D) (m_kept_move : List D → M D) : Env → M (Fl × Env) :=
  (seqM (fun γ => do bif (← (fun γ => do bif (← (fun γ => do pure !(← (fun γ => do tru (← (fun γ => do let ds ← (fun γ => do let d ← (rd 0) γ; pure (d :: (← (fun γ => do let d ← (fun _ => pure (D.int 6)) γ; pure (d :: (← (fun _ => pure []) γ))) γ))) γ; M.need (ds.length = (["thing", "many"] : List Str).length); m_is_row ds) γ)) γ)) γ) then pure true else (fun γ => do pure !(← (fun γ => do tru (← (fun γ => do pure (D.bl (← dAll (← (compM (([("one", 8)] : List (Str × Nat)).map (·.2)) (fun γ => do itemsOf (← (fun γ => do let d ← (rd 0) γ; let l ← (fun _ => pure none) γ; dSlice d l (← (fun γ => do pure (some (← asInt (← (fun _ => pure (D.int 3)) γ)))) γ)) γ)) (fun d γ => pure (setM 8 d γ)) (fun _ => pure true) (fun γ => do let x ← (fun γ => do let ds ← (fun γ => do let d ← (rd 8) γ; pure (d :: (← (fun _ => pure []) γ))) γ; M.need (ds.length = (["thing"] : List Str).length); m_is_whole ds) γ; bif (← tru x) then (fun γ => do let x ← (rd 8) γ; let y ← (fun _ => pure (D.int 0)) γ; pure (D.bl (← dGt x y))) γ else pure x)) γ)))) γ)) γ)) γ) γ) then (fun γ => do pure (Fl.rt (← (fun _ => pure D.non) γ), γ)) γ else (fun γ => pure (Fl.nx, γ)) γ)
    (seqM (fun γ => do let d ← (fun γ => do let d ← (rd 0) γ; let l ← (fun _ => pure none) γ; dSlice d l (← (fun γ => do pure (some (← asInt (← (fun _ => pure (D.int 3)) γ)))) γ)) γ; let γ1 ← M.calm ((fun d γ => do M.need (∀ ds, d = D.tup ds → ds.length = 3); tupT (consT (fun d γ => pure (setM 4 d γ)) (consT (fun d γ => pure (setM 5 d γ)) (consT (fun d γ => pure (setM 6 d γ)) (fun ds γ => do M.need (ds = []); pure γ)))) d γ) d γ); pure (Fl.nx, γ1))
    (seqM (fun γ => do bif (← (fun γ => do pure !(← (fun γ => do tru (← (fun γ => do pure (D.bl (← dAll (← (compM (([("part", 7)] : List (Str × Nat)).map (·.2)) (fun γ => do itemsOf (← (fun γ => do let d ← (rd 0) γ; let l ← (fun γ => do pure (some (← asInt (← (fun _ => pure (D.int 3)) γ)))) γ; dSlice d l (← (fun _ => pure none) γ)) γ)) (fun d γ => pure (setM 7 d γ)) (fun _ => pure true) (fun γ => do let ds ← (fun γ => do let d ← (rd 7) γ; pure (d :: (← (fun _ => pure []) γ))) γ; M.need (ds.length = (["thing"] : List Str).length); m_is_list ds)) γ)))) γ)) γ)) γ) then (fun γ => do pure (Fl.rt (← (fun _ => pure D.non) γ), γ)) γ else (fun γ => pure (Fl.nx, γ)) γ)
    (seqM (fun γ => do pure (Fl.nx, setM 1 (← (fun γ => do let ds ← (fun γ => do let d ← (compM (([("part", 7)] : List (Str × Nat)).map (·.2)) (fun γ => do itemsOf (← (fun γ => do let x ← (rd 0) γ; dIx x (← (fun _ => pure (D.int 3)) γ)) γ)) (fun d γ => pure (setM 7 d γ)) (fun _ => pure true) (fun γ => do let ds ← (fun γ => do let d ← (rd 7) γ; pure (d :: (← (fun γ => do let d ← (rd 4) γ; pure (d :: (← (fun γ => do let d ← (rd 6) γ; pure (d :: (← (fun _ => pure []) γ))) γ))) γ))) γ; M.need (ds.length = (["thing", "stands", "signs"] : List Str).length); m_kept_pair ds)) γ; pure (d :: (← (fun _ => pure []) γ))) γ; M.need (ds.length = (["things"] : List Str).length); m_kept_all ds) γ) γ))
    (seqM (fun γ => do pure (Fl.nx, setM 2 (← (fun γ => do let ds ← (fun γ => do let d ← (compM (([("part", 7)] : List (Str × Nat)).map (·.2)) (fun γ => do itemsOf (← (fun γ => do let x ← (rd 0) γ; dIx x (← (fun _ => pure (D.int 4)) γ)) γ)) (fun d γ => pure (setM 7 d γ)) (fun _ => pure true) (fun γ => do let ds ← (fun γ => do let d ← (rd 7) γ; pure (d :: (← (fun γ => do let d ← (rd 4) γ; pure (d :: (← (fun γ => do let d ← (rd 5) γ; pure (d :: (← (fun γ => do let d ← (rd 6) γ; pure (d :: (← (fun _ => pure []) γ))) γ))) γ))) γ))) γ; M.need (ds.length = (["thing", "stands", "letters", "signs"] : List Str).length); m_kept_move ds)) γ; pure (d :: (← (fun _ => pure []) γ))) γ; M.need (ds.length = (["things"] : List Str).length); m_kept_all ds) γ) γ))
    (seqM (fun γ => do pure (Fl.nx, setM 3 (← (fun γ => do let ds ← (fun γ => do let d ← (compM (([("part", 7)] : List (Str × Nat)).map (·.2)) (fun γ => do itemsOf (← (fun γ => do let x ← (rd 0) γ; dIx x (← (fun _ => pure (D.int 5)) γ)) γ)) (fun d γ => pure (setM 7 d γ)) (fun _ => pure true) (fun γ => do let ds ← (fun γ => do let d ← (rd 7) γ; pure (d :: (← (fun γ => do let d ← (rd 4) γ; pure (d :: (← (fun γ => do let d ← (rd 6) γ; pure (d :: (← (fun _ => pure []) γ))) γ))) γ))) γ; M.need (ds.length = (["thing", "stands", "signs"] : List Str).length); m_kept_pair ds)) γ; pure (d :: (← (fun _ => pure []) γ))) γ; M.need (ds.length = (["things"] : List Str).length); m_kept_all ds) γ) γ))
    (fun γ => do pure (Fl.rt (← (fun γ => do bif (← (fun γ => do bif (← (fun γ => do pure (isNon (← (rd 1) γ))) γ) then pure true else (fun γ => do bif (← (fun γ => do pure (isNon (← (rd 2) γ))) γ) then pure true else (fun γ => do pure (isNon (← (rd 3) γ))) γ) γ) γ) then (fun _ => pure D.non) γ else (fun γ => do let ds ← (fun γ => do let d ← (rd 4) γ; pure (d :: (← (fun γ => do let d ← (rd 5) γ; pure (d :: (← (fun γ => do let d ← (rd 6) γ; pure (d :: (← (fun γ => do let d ← (rd 1) γ; pure (d :: (← (fun γ => do let d ← (rd 2) γ; pure (d :: (← (fun γ => do let d ← (rd 3) γ; pure (d :: (← (fun _ => pure []) γ))) γ))) γ))) γ))) γ))) γ))) γ; M.need (ds.length ≤ sizeLine); pure (D.tup ds)) γ) γ), γ))))))))
theorem b_kept_machine {g : G} {P : Program} {w : World} {K : PySem.W.Frag} {mg : Str → Option Value} {base : Heap} (Φ : Facts K mg) {m_is_row : List D → M D} {m_is_whole : List D → M D} {m_is_list : List D → M D} {m_kept_all : List D → M D} {m_kept_pair : List D → M D} {m_kept_move : List D → M D} (G_is_row : FnD g P w K mg base 2 Φ.f_is_row Φ.d_is_row ["thing", "many"] m_is_row) (G_is_whole : FnD g P w K mg base 1 Φ.f_is_whole Φ.d_is_whole ["thing"] m_is_whole) (G_is_list : FnD g P w K mg base 1 Φ.f_is_list Φ.d_is_list ["thing"] m_is_list) (G_kept_all : FnD g P w K mg base 2 Φ.f_kept_all Φ.d_kept_all ["things"] m_kept_all) (G_kept_pair : FnD g P w K mg base 5 Φ.f_kept_pair Φ.d_kept_pair ["thing", "stands", "signs"] m_kept_pair) (G_kept_move : FnD g P w K mg base 5 Φ.f_kept_move Φ.d_kept_move ["thing", "stands", "letters", "signs"] m_kept_move) {f : Addr} {cdv : Value} {A : Around} {outer : List PySem.Env} {s : Shared} {H : Hp} {E : XK} (hr : Room 5 (A.deeper (envOfC "kept_machine" (defScope s_kept_machine) s.heap.objs.size f cdv))) :
    PSsD g (cxOf (L2.CX P w) P w K mg base n_kept_machine "kept_machine" (defScope s_kept_machine) f cdv A outer s H E) (fun cls d _ H => E cls d H) (defBody s_kept_machine) (B_kept_machine m_is_row m_is_whole m_is_list m_kept_all m_kept_pair m_kept_move) :=
  (pssd_cons (psd_if (PWD.t (pwd_or (ptd_not (ptd_truth (PD.b (pd_call G_is_row (hr.mono (by decide)) rfl Φ.g_is_row Φ.F_is_row.kp Φ.b_is_row takes_cx (pad_cons (pd_var 0) (pad_cons pd_int pad_nil)))))) (pwd_or1 (ptd_not (ptd_truth (PD.b (pd_all rfl (pd_lc rfl sc_kept_machine.nd (pid_seq (pd_slice (PD.b (pd_var 0)) pod_none (pod_some pd_int))) (blkOk_by (N := n_kept_machine) (sc := defScope s_kept_machine) (own := [("one", 8)]) (by decide +kernel)) (fun _ _ _ _ _ => (pgd_name (i := 8) sc_kept_machine.nd rfl (by first | exact Or.inl rfl | exact Or.inr rfl))) (fun _ _ _ _ _ => ptsd_nil) (fun _ _ _ _ _ => (pd_and (pd_call G_is_whole (hr.mono (by decide)) rfl Φ.g_is_whole Φ.F_is_whole.kp Φ.b_is_whole takes_w0 (pad_cons (pd_var 8) pad_nil)) (pd_one (pd_gt (hu64 hr) (PD.b (pd_var 8)) (PD.b pd_int)))))) rfl Φ.n_all)))))))
    (pssd_one (psd_ret pd_non))
    pssd_nil)
    (pssd_cons (psd_tgt (pd_slice (PD.b (pd_var 0)) pod_none (pod_some pd_int)) (pgd_tup rfl (pgsd_cons (pgd_name (i := 4) sc_kept_machine.nd rfl (by first | exact Or.inl rfl | exact Or.inr rfl)) (pgsd_cons (pgd_name (i := 5) sc_kept_machine.nd rfl (by first | exact Or.inl rfl | exact Or.inr rfl)) (pgsd_cons (pgd_name (i := 6) sc_kept_machine.nd rfl (by first | exact Or.inl rfl | exact Or.inr rfl)) pgsd_nil)))))
    (pssd_cons (psd_if (ptd_not (ptd_truth (PD.b (pd_all rfl (pd_lc rfl sc_kept_machine.nd (pid_seq (pd_slice (PD.b (pd_var 0)) (pod_some pd_int) pod_none)) (blkOk_by (N := n_kept_machine) (sc := defScope s_kept_machine) (own := [("part", 7)]) (by decide +kernel)) (fun _ _ _ _ _ => (pgd_name (i := 7) sc_kept_machine.nd rfl (by first | exact Or.inl rfl | exact Or.inr rfl))) (fun _ _ _ _ _ => ptsd_nil) (fun _ _ _ _ _ => (pd_call G_is_list (hr.mono (by decide)) rfl Φ.g_is_list Φ.F_is_list.kp Φ.b_is_list takes_w0 (pad_cons (pd_var 7) pad_nil)))) rfl Φ.n_all))))
    (pssd_one (psd_ret pd_non))
    pssd_nil)
    (pssd_cons (psd_set (i := 1) sc_kept_machine.nd rfl (by first | exact Or.inl rfl | exact Or.inr rfl) (pd_call G_kept_all (hr.mono (by decide)) rfl Φ.g_kept_all Φ.F_kept_all.kp Φ.b_kept_all takes_cx (pad_cons (pd_lc rfl sc_kept_machine.nd (pid_seq (pd_ix (PD.b (pd_var 0)) pd_int)) (blkOk_by (N := n_kept_machine) (sc := defScope s_kept_machine) (own := [("part", 7)]) (by decide +kernel)) (fun _ _ _ _ _ => (pgd_name (i := 7) sc_kept_machine.nd rfl (by first | exact Or.inl rfl | exact Or.inr rfl))) (fun _ _ _ _ _ => ptsd_nil) (fun _ _ _ _ _ => (pd_call G_kept_pair (hr.mono (by decide)) rfl Φ.g_kept_pair Φ.F_kept_pair.kp Φ.b_kept_pair takes_w0 (pad_cons (pd_var 7) (pad_cons (pd_var 4) (pad_cons (pd_var 6) pad_nil)))))) pad_nil)))
    (pssd_cons (psd_set (i := 2) sc_kept_machine.nd rfl (by first | exact Or.inl rfl | exact Or.inr rfl) (pd_call G_kept_all (hr.mono (by decide)) rfl Φ.g_kept_all Φ.F_kept_all.kp Φ.b_kept_all takes_cx (pad_cons (pd_lc rfl sc_kept_machine.nd (pid_seq (pd_ix (PD.b (pd_var 0)) pd_int)) (blkOk_by (N := n_kept_machine) (sc := defScope s_kept_machine) (own := [("part", 7)]) (by decide +kernel)) (fun _ _ _ _ _ => (pgd_name (i := 7) sc_kept_machine.nd rfl (by first | exact Or.inl rfl | exact Or.inr rfl))) (fun _ _ _ _ _ => ptsd_nil) (fun _ _ _ _ _ => (pd_call G_kept_move (hr.mono (by decide)) rfl Φ.g_kept_move Φ.F_kept_move.kp Φ.b_kept_move takes_w0 (pad_cons (pd_var 7) (pad_cons (pd_var 4) (pad_cons (pd_var 5) (pad_cons (pd_var 6) pad_nil))))))) pad_nil)))
    (pssd_cons (psd_set (i := 3) sc_kept_machine.nd rfl (by first | exact Or.inl rfl | exact Or.inr rfl) (pd_call G_kept_all (hr.mono (by decide)) rfl Φ.g_kept_all Φ.F_kept_all.kp Φ.b_kept_all takes_cx (pad_cons (pd_lc rfl sc_kept_machine.nd (pid_seq (pd_ix (PD.b (pd_var 0)) pd_int)) (blkOk_by (N := n_kept_machine) (sc := defScope s_kept_machine) (own := [("part", 7)]) (by decide +kernel)) (fun _ _ _ _ _ => (pgd_name (i := 7) sc_kept_machine.nd rfl (by first | exact Or.inl rfl | exact Or.inr rfl))) (fun _ _ _ _ _ => ptsd_nil) (fun _ _ _ _ _ => (pd_call G_kept_pair (hr.mono (by decide)) rfl Φ.g_kept_pair Φ.F_kept_pair.kp Φ.b_kept_pair takes_w0 (pad_cons (pd_var 7) (pad_cons (pd_var 4) (pad_cons (pd_var 6) pad_nil)))))) pad_nil)))
    (pssd_one (psd_ret (pd_ifExp (PWD.t (pwd_or (ptd_isN (PD.b (pd_var 1))) (pwd_or (ptd_isN (PD.b (pd_var 2))) (pwd_or1 (ptd_isN (PD.b (pd_var 3))))))) pd_non (pd_tup (pad_cons (pd_var 4) (pad_cons (pd_var 5) (pad_cons (pd_var 6) (pad_cons (pd_var 1) (pad_cons (pd_var 2) (pad_cons (pd_var 3) pad_nil))))))))))))))))
abbrev s_need_machine : Stmt := top 17
abbrev n_need_machine : List Str := ["thing", "kept"]
theorem sc_need_machine : FnScope n_need_machine ["thing"] (defScope s_need_machine) := ⟨rfl, rfl, rfl, by decide +kernel, rfl, by decide +kernel, by decide +kernel⟩
def B_need_machine (m_kept_machine : List D → M D) : Env → M (Fl × Env) :=
  (seqM (fun γ => do pure (Fl.nx, setM 1 (← (fun γ => do let ds ← (fun γ => do let d ← (rd 0) γ; pure (d :: (← (fun _ => pure []) γ))) γ; M.need (ds.length = (["thing"] : List Str).length); m_kept_machine ds) γ) γ))
    (seqM (fun γ => do bif (← (fun γ => do pure (isNon (← (rd 1) γ))) γ) then (fun γ => do let d ← (rd 0) γ; M.exc ⟨"BadMachine", [("machine", d)]⟩) γ else (fun γ => pure (Fl.nx, γ)) γ)
    (fun γ => do pure (Fl.rt (← (rd 1) γ), γ))))
theorem b_need_machine {g : G} {P : Program} {w : World} {K : PySem.W.Frag} {mg : Str → Option Value} {base : Heap} (Φ : Facts K mg) {m_kept_machine : List D → M D} (G_kept_machine : FnD g P w K mg base 6 Φ.f_kept_machine Φ.d_kept_machine ["thing"] m_kept_machine) {f : Addr} {cdv : Value} {A : Around} {outer : List PySem.Env} {s : Shared} {H : Hp} {E : XK} (hr : Room 6 (A.deeper (envOfC "need_machine" (defScope s_need_machine) s.heap.objs.size f cdv))) :
    PSsD g (cxOf (L2.CX P w) P w K mg base n_need_machine "need_machine" (defScope s_need_machine) f cdv A outer s H E) (fun cls d _ H => E cls d H) (defBody s_need_machine) (B_need_machine m_kept_machine) :=
  (pssd_cons (psd_set (i := 1) sc_need_machine.nd rfl (by first | exact Or.inl rfl | exact Or.inr rfl) (pd_call G_kept_machine (hr.mono (by decide)) rfl Φ.g_kept_machine Φ.F_kept_machine.kp Φ.b_kept_machine takes_cx (pad_cons (pd_var 0) pad_nil)))
    (pssd_cons (psd_if (ptd_isN (PD.b (pd_var 1)))
    (pssd_one (psd_raise rfl Φ.x_BadMachine hr takes_cx (pd_var 0)))
    pssd_nil)
    (pssd_one (psd_ret (pd_var 1)))))
abbrev s_most_ways : Stmt := top 42
abbrev n_most_ways : List Str := ["machine", "kept", "double", "sides", "number", "word"]
theorem sc_most_ways : FnScope n_most_ways ["machine"] (defScope s_most_ways) := ⟨rfl, rfl, rfl, by decide +kernel, rfl, by decide +kernel, by decide +kernel⟩
def B_most_ways (m_need_machine : List D → M D) : Env → M (Fl × Env) :=
  (seqM (fun γ => do pure (Fl.nx, setM 1 (← (fun γ => do let ds ← (fun γ => do let d ← (rd 0) γ; pure (d :: (← (fun _ => pure []) γ))) γ; M.need (ds.length = (["thing"] : List Str).length); m_need_machine ds) γ) γ)) (fun _ => M.stuck))
theorem b_most_ways {g : G} {P : Program} {w : World} {K : PySem.W.Frag} {mg : Str → Option Value} {base : Heap} (Φ : Facts K mg) {m_need_machine : List D → M D} (G_need_machine : FnD g P w K mg base 7 Φ.f_need_machine Φ.d_need_machine ["thing"] m_need_machine) {f : Addr} {cdv : Value} {A : Around} {outer : List PySem.Env} {s : Shared} {H : Hp} {E : XK} (hr : Room 7 (A.deeper (envOfC "most_ways" (defScope s_most_ways) s.heap.objs.size f cdv))) :
    PSsD g (cxOf (L2.CX P w) P w K mg base n_most_ways "most_ways" (defScope s_most_ways) f cdv A outer s H E) (fun cls d _ H => E cls d H) (defBody s_most_ways) (B_most_ways m_need_machine) :=
  (pssd_cons (psd_set (i := 1) sc_most_ways.nd rfl (by first | exact Or.inl rfl | exact Or.inr rfl) (pd_call G_need_machine (hr.mono (by decide)) rfl Φ.g_need_machine Φ.F_need_machine.kp Φ.b_need_machine takes_cx (pad_cons (pd_var 0) pad_nil))) pssd_never)
abbrev s_is_double : Stmt := top 44
abbrev n_is_double : List Str := ["machine", "thing", "kept", "word", "rows", "part"]
theorem sc_is_double : FnScope n_is_double ["machine", "thing"] (defScope s_is_double) := ⟨rfl, rfl, rfl, by decide +kernel, rfl, by decide +kernel, by decide +kernel⟩
def B_is_double (m_need_machine : List D → M D) : Env → M (Fl × Env) :=
  (seqM (fun γ => do pure (Fl.nx, setM 2 (← (fun γ => do let ds ← (fun γ => do let d ← (rd 0) γ; pure (d :: (← (fun _ => pure []) γ))) γ; M.need (ds.length = (["thing"] : List Str).length); m_need_machine ds) γ) γ)) (fun _ => M.stuck))
theorem b_is_double {g : G} {P : Program} {w : World} {K : PySem.W.Frag} {mg : Str → Option Value} {base : Heap} (Φ : Facts K mg) {m_need_machine : List D → M D} (G_need_machine : FnD g P w K mg base 7 Φ.f_need_machine Φ.d_need_machine ["thing"] m_need_machine) {f : Addr} {cdv : Value} {A : Around} {outer : List PySem.Env} {s : Shared} {H : Hp} {E : XK} (hr : Room 7 (A.deeper (envOfC "is_double" (defScope s_is_double) s.heap.objs.size f cdv))) :
    PSsD g (cxOf (L2.CX P w) P w K mg base n_is_double "is_double" (defScope s_is_double) f cdv A outer s H E) (fun cls d _ H => E cls d H) (defBody s_is_double) (B_is_double m_need_machine) :=
  (pssd_cons (psd_set (i := 2) sc_is_double.nd rfl (by first | exact Or.inl rfl | exact Or.inr rfl) (pd_call G_need_machine (hr.mono (by decide)) rfl Φ.g_need_machine Φ.F_need_machine.kp Φ.b_need_machine takes_cx (pad_cons (pd_var 0) pad_nil))) pssd_never)
abbrev s_is_side : Stmt := top 46
abbrev n_is_side : List Str := ["machine", "thing"]
theorem sc_is_side : FnScope n_is_side ["machine", "thing"] (defScope s_is_side) := ⟨rfl, rfl, rfl, by decide +kernel, rfl, by decide +kernel, by decide +kernel⟩
def B_is_side (m_kept_side : List D → M D) (m_need_machine : List D → M D) : Env → M (Fl × Env) :=
  (seqM (fun γ => do pure (Fl.rt (← (fun γ => do pure (D.bl !(isNon (← (fun γ => do let ds ← (fun γ => do let d ← (fun γ => do let ds ← (fun γ => do let d ← (rd 0) γ; pure (d :: (← (fun _ => pure []) γ))) γ; M.need (ds.length = (["thing"] : List Str).length); m_need_machine ds) γ; pure (d :: (← (fun γ => do let d ← (rd 1) γ; pure (d :: (← (fun _ => pure []) γ))) γ))) γ; M.need (ds.length = (["machine", "thing"] : List Str).length); m_kept_side ds) γ)))) γ), γ)) (fun _ => M.stuck))
theorem b_is_side {g : G} {P : Program} {w : World} {K : PySem.W.Frag} {mg : Str → Option Value} {base : Heap} (Φ : Facts K mg) {m_kept_side : List D → M D} {m_need_machine : List D → M D} (G_kept_side : FnD g P w K mg base 1 Φ.f_kept_side Φ.d_kept_side ["machine", "thing"] m_kept_side) (G_need_machine : FnD g P w K mg base 7 Φ.f_need_machine Φ.d_need_machine ["thing"] m_need_machine) {f : Addr} {cdv : Value} {A : Around} {outer : List PySem.Env} {s : Shared} {H : Hp} {E : XK} (hr : Room 7 (A.deeper (envOfC "is_side" (defScope s_is_side) s.heap.objs.size f cdv))) :
    PSsD g (cxOf (L2.CX P w) P w K mg base n_is_side "is_side" (defScope s_is_side) f cdv A outer s H E) (fun cls d _ H => E cls d H) (defBody s_is_side) (B_is_side m_kept_side m_need_machine) :=
  (pssd_cons (psd_ret (pd_notN (PD.b (pd_call G_kept_side (hr.mono (by decide)) rfl Φ.g_kept_side Φ.F_kept_side.kp Φ.b_kept_side takes_cx (pad_cons (pd_call G_need_machine (hr.mono (by decide)) rfl Φ.g_need_machine Φ.F_need_machine.kp Φ.b_need_machine takes_cx (pad_cons (pd_var 0) pad_nil)) (pad_cons (pd_var 1) pad_nil)))))) pssd_never)
abbrev s_degree : Stmt := top 47
abbrev n_degree : List Str := ["machine", "kept"]
theorem sc_degree : FnScope n_degree ["machine"] (defScope s_degree) := ⟨rfl, rfl, rfl, by decide +kernel, rfl, by decide +kernel, by decide +kernel⟩
def B_degree (m_need_machine : List D → M D) : Env → M (Fl × Env) :=
  (seqM (fun γ => do pure (Fl.nx, setM 1 (← (fun γ => do let ds ← (fun γ => do let d ← (rd 0) γ; pure (d :: (← (fun _ => pure []) γ))) γ; M.need (ds.length = (["thing"] : List Str).length); m_need_machine ds) γ) γ)) (fun _ => M.stuck))
theorem b_degree {g : G} {P : Program} {w : World} {K : PySem.W.Frag} {mg : Str → Option Value} {base : Heap} (Φ : Facts K mg) {m_need_machine : List D → M D} (G_need_machine : FnD g P w K mg base 7 Φ.f_need_machine Φ.d_need_machine ["thing"] m_need_machine) {f : Addr} {cdv : Value} {A : Around} {outer : List PySem.Env} {s : Shared} {H : Hp} {E : XK} (hr : Room 7 (A.deeper (envOfC "degree" (defScope s_degree) s.heap.objs.size f cdv))) :
    PSsD g (cxOf (L2.CX P w) P w K mg base n_degree "degree" (defScope s_degree) f cdv A outer s H E) (fun cls d _ H => E cls d H) (defBody s_degree) (B_degree m_need_machine) :=
  (pssd_cons (psd_set (i := 1) sc_degree.nd rfl (by first | exact Or.inl rfl | exact Or.inr rfl) (pd_call G_need_machine (hr.mono (by decide)) rfl Φ.g_need_machine Φ.F_need_machine.kp Φ.b_need_machine takes_cx (pad_cons (pd_var 0) pad_nil))) pssd_never)
abbrev s_chain_of : Stmt := top 48
abbrev n_chain_of : List Str := ["machine", "kept"]
theorem sc_chain_of : FnScope n_chain_of ["machine"] (defScope s_chain_of) := ⟨rfl, rfl, rfl, by decide +kernel, rfl, by decide +kernel, by decide +kernel⟩
def B_chain_of (m_need_machine : List D → M D) : Env → M (Fl × Env) :=
  (seqM (fun γ => do pure (Fl.nx, setM 1 (← (fun γ => do let ds ← (fun γ => do let d ← (rd 0) γ; pure (d :: (← (fun _ => pure []) γ))) γ; M.need (ds.length = (["thing"] : List Str).length); m_need_machine ds) γ) γ)) (fun _ => M.stuck))
theorem b_chain_of {g : G} {P : Program} {w : World} {K : PySem.W.Frag} {mg : Str → Option Value} {base : Heap} (Φ : Facts K mg) {m_need_machine : List D → M D} (G_need_machine : FnD g P w K mg base 7 Φ.f_need_machine Φ.d_need_machine ["thing"] m_need_machine) {f : Addr} {cdv : Value} {A : Around} {outer : List PySem.Env} {s : Shared} {H : Hp} {E : XK} (hr : Room 7 (A.deeper (envOfC "chain_of" (defScope s_chain_of) s.heap.objs.size f cdv))) :
    PSsD g (cxOf (L2.CX P w) P w K mg base n_chain_of "chain_of" (defScope s_chain_of) f cdv A outer s H E) (fun cls d _ H => E cls d H) (defBody s_chain_of) (B_chain_of m_need_machine) :=
  (pssd_cons (psd_set (i := 1) sc_chain_of.nd rfl (by first | exact Or.inl rfl | exact Or.inr rfl) (pd_call G_need_machine (hr.mono (by decide)) rfl Φ.g_need_machine Φ.F_need_machine.kp Φ.b_need_machine takes_cx (pad_cons (pd_var 0) pad_nil))) pssd_never)
abbrev s_is_chain : Stmt := top 49
abbrev n_is_chain : List Str := ["machine", "thing", "kept", "pairs", "links", "part", "move", "one", "later"]
theorem sc_is_chain : FnScope n_is_chain ["machine", "thing"] (defScope s_is_chain) := ⟨rfl, rfl, rfl, by decide +kernel, rfl, by decide +kernel, by decide +kernel⟩
def B_is_chain (m_need_machine : List D → M D) : Env → M (Fl × Env) :=
  (seqM (fun γ => do pure (Fl.nx, setM 2 (← (fun γ => do let ds ← (fun γ => do let d ← (rd 0) γ; pure (d :: (← (fun _ => pure []) γ))) γ; M.need (ds.length = (["thing"] : List Str).length); m_need_machine ds) γ) γ)) (fun _ => M.stuck))
theorem b_is_chain {g : G} {P : Program} {w : World} {K : PySem.W.Frag} {mg : Str → Option Value} {base : Heap} (Φ : Facts K mg) {m_need_machine : List D → M D} (G_need_machine : FnD g P w K mg base 7 Φ.f_need_machine Φ.d_need_machine ["thing"] m_need_machine) {f : Addr} {cdv : Value} {A : Around} {outer : List PySem.Env} {s : Shared} {H : Hp} {E : XK} (hr : Room 7 (A.deeper (envOfC "is_chain" (defScope s_is_chain) s.heap.objs.size f cdv))) :
    PSsD g (cxOf (L2.CX P w) P w K mg base n_is_chain "is_chain" (defScope s_is_chain) f cdv A outer s H E) (fun cls d _ H => E cls d H) (defBody s_is_chain) (B_is_chain m_need_machine) :=
  (pssd_cons (psd_set (i := 2) sc_is_chain.nd rfl (by first | exact Or.inl rfl | exact Or.inr rfl) (pd_call G_need_machine (hr.mono (by decide)) rfl Φ.g_need_machine Φ.F_need_machine.kp Φ.b_need_machine takes_cx (pad_cons (pd_var 0) pad_nil))) pssd_never)
abbrev s__law_pick : Stmt := top 53
abbrev n__law_pick : List Str := ["stream", "things"]
theorem sc__law_pick : FnScope n__law_pick ["stream", "things"] (defScope s__law_pick) := ⟨rfl, rfl, rfl, by decide +kernel, rfl, by decide +kernel, by decide +kernel⟩
def B__law_pick (m__law_draw : List D → M D) : Env → M (Fl × Env) :=
  (fun γ => do pure (Fl.rt (← (fun γ => do let x ← (rd 1) γ; dIx x (← (fun γ => do let ds ← (fun γ => do let d ← (rd 0) γ; pure (d :: (← (fun γ => do let d ← (fun γ => do dLen (← (rd 1) γ)) γ; pure (d :: (← (fun _ => pure []) γ))) γ))) γ; M.need (ds.length = (["stream", "many"] : List Str).length); m__law_draw ds) γ)) γ), γ))
theorem b__law_pick {g : G} {P : Program} {w : World} {K : PySem.W.Frag} {mg : Str → Option Value} {base : Heap} (Φ : Facts K mg) {m__law_draw : List D → M D} (G__law_draw : FnD g P w K mg base 1 Φ.f__law_draw Φ.d__law_draw ["stream", "many"] m__law_draw) {f : Addr} {cdv : Value} {A : Around} {outer : List PySem.Env} {s : Shared} {H : Hp} {E : XK} (hr : Room 1 (A.deeper (envOfC "_law_pick" (defScope s__law_pick) s.heap.objs.size f cdv))) :
    PSsD g (cxOf (L2.CX P w) P w K mg base n__law_pick "_law_pick" (defScope s__law_pick) f cdv A outer s H E) (fun cls d _ H => E cls d H) (defBody s__law_pick) (B__law_pick m__law_draw) :=
  (pssd_one (psd_ret (pd_ix (PD.b (pd_var 1)) (pd_call G__law_draw (hr.mono (by decide)) rfl Φ.g__law_draw Φ.F__law_draw.kp Φ.b__law_draw takes_cx (pad_cons (pd_var 0) (pad_cons (pd_len (PD.b (pd_var 1)) rfl Φ.n_len) pad_nil))))))
abbrev s__law_same : Stmt := top 54
abbrev n__law_same : List Str := ["found", "due", "mine", "theirs"]
theorem sc__law_same : FnScope n__law_same ["found", "due"] (defScope s__law_same) := ⟨rfl, rfl, rfl, by decide +kernel, rfl, by decide +kernel, by decide +kernel⟩
def B__law_same (m__law_same : List D → M D) : Env → M (Fl × Env) :=
  (seqM (fun γ => do bif (← (fun γ => do tru (← (fun γ => do pure (D.bl (← dIsi ["list", "tuple"] (← (rd 1) γ)))) γ)) γ) then (seqM (fun γ => do bif (← (fun γ => do bif (← (fun γ => do let x ← (fun γ => do pure (D.bl (← dIsi ["list"] (← (rd 0) γ)))) γ; dNe x (← (fun γ => do pure (D.bl (← dIsi ["list"] (← (rd 1) γ)))) γ)) γ) then pure true else (fun γ => do let x ← (fun γ => do pure (D.bl (← dIsi ["tuple"] (← (rd 0) γ)))) γ; dNe x (← (fun γ => do pure (D.bl (← dIsi ["tuple"] (← (rd 1) γ)))) γ)) γ) γ) then (fun γ => do pure (Fl.rt (← (fun _ => pure (D.bl false)) γ), γ)) γ else (fun γ => pure (Fl.nx, γ)) γ)
    (fun γ => do pure (Fl.rt (← (fun γ => do let x ← (fun γ => do let x ← (fun γ => do dLen (← (rd 0) γ)) γ; let y ← (fun γ => do dLen (← (rd 1) γ)) γ; pure (D.bl (← dEq x y))) γ; bif (← tru x) then (fun γ => do pure (D.bl (← dAll (← (compM (([("mine", 2), ("theirs", 3)] : List (Str × Nat)).map (·.2)) (fun γ => do zipOf (← (fun γ => do let d ← (rd 0) γ; pure (d :: (← (fun γ => do let d ← (rd 1) γ; pure (d :: (← (fun _ => pure []) γ))) γ))) γ)) (fun d γ => do M.need (∀ ds, d = D.tup ds → ds.length = 2); tupT (consT (fun d γ => pure (setM 2 d γ)) (consT (fun d γ => pure (setM 3 d γ)) (fun ds γ => do M.need (ds = []); pure γ))) d γ) (fun _ => pure true) (fun γ => do let ds ← (fun γ => do let d ← (rd 2) γ; pure (d :: (← (fun γ => do let d ← (rd 3) γ; pure (d :: (← (fun _ => pure []) γ))) γ))) γ; M.need (ds.length = (["found", "due"] : List Str).length); m__law_same ds)) γ)))) γ else pure x) γ), γ))) γ else (fun γ => pure (Fl.nx, γ)) γ)
    (seqM (fun γ => do bif (← (fun γ => do tru (← (fun γ => do pure (D.bl (← dIsi ["dict"] (← (rd 1) γ)))) γ)) γ) then (fun γ => do pure (Fl.rt (← (fun γ => do let x ← (fun γ => do pure (D.bl (← dIsi ["dict"] (← (rd 0) γ)))) γ; bif (← tru x) then (fun γ => do let ds ← (fun γ => do let d ← (fun γ => do dItems (← (rd 0) γ)) γ; pure (d :: (← (fun γ => do let d ← (fun γ => do dItems (← (rd 1) γ)) γ; pure (d :: (← (fun _ => pure []) γ))) γ))) γ; M.need (ds.length = (["found", "due"] : List Str).length); m__law_same ds) γ else pure x) γ), γ)) γ else (fun γ => pure (Fl.nx, γ)) γ)
    (seqM (fun γ => do bif (← (fun γ => do bif (← (fun γ => do tru (← (fun γ => do pure (D.bl (← dIsi ["bool"] (← (rd 1) γ)))) γ)) γ) then pure true else (fun γ => do tru (← (fun γ => do pure (D.bl (← dIsi ["bool"] (← (rd 0) γ)))) γ)) γ) γ) then (fun γ => do pure (Fl.rt (← (fun γ => do let x ← (fun γ => do pure (D.bl (← dIsi ["bool"] (← (rd 1) γ)))) γ; bif (← tru x) then (fun γ => do let x ← (fun γ => do pure (D.bl (← dIsi ["bool"] (← (rd 0) γ)))) γ; bif (← tru x) then (fun γ => do let x ← (rd 0) γ; let y ← (rd 1) γ; pure (D.bl (← dEq x y))) γ else pure x) γ else pure x) γ), γ)) γ else (fun γ => pure (Fl.nx, γ)) γ)
    (seqM (fun γ => do bif (← (fun γ => do bif (← (fun γ => do pure (isNon (← (rd 1) γ))) γ) then pure true else (fun γ => do pure (isNon (← (rd 0) γ))) γ) γ) then (fun γ => do pure (Fl.rt (← (fun γ => do let x ← (fun γ => do pure (D.bl (isNon (← (rd 1) γ)))) γ; bif (← tru x) then (fun γ => do pure (D.bl (isNon (← (rd 0) γ)))) γ else pure x) γ), γ)) γ else (fun γ => pure (Fl.nx, γ)) γ)
    (seqM (fun γ => do bif (← (fun γ => do bif (← (fun γ => do let x ← (fun γ => do pure (D.bl (← dIsi ["int"] (← (rd 1) γ)))) γ; dNe x (← (fun γ => do pure (D.bl (← dIsi ["int"] (← (rd 0) γ)))) γ)) γ) then pure true else (fun γ => do let x ← (fun γ => do pure (D.bl (← dIsi ["str"] (← (rd 1) γ)))) γ; dNe x (← (fun γ => do pure (D.bl (← dIsi ["str"] (← (rd 0) γ)))) γ)) γ) γ) then (fun γ => do pure (Fl.rt (← (fun _ => pure (D.bl false)) γ), γ)) γ else (fun γ => pure (Fl.nx, γ)) γ)
    (fun γ => do pure (Fl.rt (← (fun γ => do let x ← (fun γ => do pure (D.bl !(← tru (← (fun γ => do pure (D.bl (← dIsi ["list", "tuple", "dict"] (← (rd 0) γ)))) γ)))) γ; bif (← tru x) then (fun γ => do let x ← (rd 0) γ; let y ← (rd 1) γ; pure (D.bl (← dEq x y))) γ else pure x) γ), γ)))))))
theorem b__law_same {g : G} {P : Program} {w : World} {K : PySem.W.Frag} {mg : Str → Option Value} {base : Heap} (Φ : Facts K mg) {j : Nat} {m__law_same : List D → M D} (G__law_same : FnD g P w K mg base j Φ.f__law_same Φ.d__law_same ["found", "due"] m__law_same) {f : Addr} {cdv : Value} {A : Around} {outer : List PySem.Env} {s : Shared} {H : Hp} {E : XK} (hr : Room j (A.deeper (envOfC "_law_same" (defScope s__law_same) s.heap.objs.size f cdv))) :
    PSsD g (cxOf (L2.CX P w) P w K mg base n__law_same "_law_same" (defScope s__law_same) f cdv A outer s H E) (fun cls d _ H => E cls d H) (defBody s__law_same) (B__law_same m__law_same) :=
  (pssd_cons (psd_if (ptd_truth (PD.b (pd_isiN (PD.b (pd_var 1)) (pty_cons rfl Φ.n_list (by decide +kernel) (pty_cons rfl Φ.n_tuple (by decide +kernel) pty_nil)) (by decide) (by decide) rfl Φ.n_isinstance)))
    (pssd_cons (psd_if (PWD.t (pwd_or (ptd_ne (hu64 hr) (PD.b (pd_isi1 (PD.b (pd_var 0)) (by decide) rfl Φ.n_list (by decide +kernel) rfl Φ.n_isinstance)) (PD.b (pd_isi1 (PD.b (pd_var 1)) (by decide) rfl Φ.n_list (by decide +kernel) rfl Φ.n_isinstance))) (pwd_or1 (ptd_ne (hu64 hr) (PD.b (pd_isi1 (PD.b (pd_var 0)) (by decide) rfl Φ.n_tuple (by decide +kernel) rfl Φ.n_isinstance)) (PD.b (pd_isi1 (PD.b (pd_var 1)) (by decide) rfl Φ.n_tuple (by decide +kernel) rfl Φ.n_isinstance))))))
    (pssd_one (psd_ret pd_bl))
    pssd_nil)
    (pssd_one (psd_ret (pd_and (pd_eq (hu64 hr) (PD.b (pd_len (PD.b (pd_var 0)) rfl Φ.n_len)) (PD.b (pd_len (PD.b (pd_var 1)) rfl Φ.n_len))) (pd_one (pd_all rfl (pd_lc rfl sc__law_same.nd (pid_zip rfl Φ.n_zip (pad_cons (pd_var 0) (pad_cons (pd_var 1) pad_nil))) (blkOk_by (N := n__law_same) (sc := defScope s__law_same) (own := [("mine", 2), ("theirs", 3)]) (by decide +kernel)) (fun _ _ _ _ _ => (pgd_tup rfl (pgsd_cons (pgd_name (i := 2) sc__law_same.nd rfl (by first | exact Or.inl rfl | exact Or.inr rfl)) (pgsd_cons (pgd_name (i := 3) sc__law_same.nd rfl (by first | exact Or.inl rfl | exact Or.inr rfl)) pgsd_nil)))) (fun _ _ _ _ _ => ptsd_nil) (fun _ _ _ _ _ => (pd_call G__law_same hr rfl Φ.g__law_same Φ.F__law_same.kp Φ.b__law_same takes_w0 (pad_cons (pd_var 2) (pad_cons (pd_var 3) pad_nil))))) rfl Φ.n_all))))))
    pssd_nil)
    (pssd_cons (psd_if (ptd_truth (PD.b (pd_isi1 (PD.b (pd_var 1)) (by decide) rfl Φ.n_dict (by decide +kernel) rfl Φ.n_isinstance)))
    (pssd_one (psd_ret (pd_and (pd_isi1 (PD.b (pd_var 0)) (by decide) rfl Φ.n_dict (by decide +kernel) rfl Φ.n_isinstance) (pd_one (pd_call G__law_same hr rfl Φ.g__law_same Φ.F__law_same.kp Φ.b__law_same takes_cx (pad_cons (pd_items rfl (PD.b (pd_var 0)) rfl Φ.n_list) (pad_cons (pd_items rfl (PD.b (pd_var 1)) rfl Φ.n_list) pad_nil)))))))
    pssd_nil)
    (pssd_cons (psd_if (PWD.t (pwd_or (ptd_truth (PD.b (pd_isi1 (PD.b (pd_var 1)) (by decide) rfl Φ.n_bool (by decide +kernel) rfl Φ.n_isinstance))) (pwd_or1 (ptd_truth (PD.b (pd_isi1 (PD.b (pd_var 0)) (by decide) rfl Φ.n_bool (by decide +kernel) rfl Φ.n_isinstance))))))
    (pssd_one (psd_ret (pd_and (pd_isi1 (PD.b (pd_var 1)) (by decide) rfl Φ.n_bool (by decide +kernel) rfl Φ.n_isinstance) (pd_and (pd_isi1 (PD.b (pd_var 0)) (by decide) rfl Φ.n_bool (by decide +kernel) rfl Φ.n_isinstance) (pd_one (pd_eq (hu64 hr) (PD.b (pd_var 0)) (PD.b (pd_var 1))))))))
    pssd_nil)
    (pssd_cons (psd_if (PWD.t (pwd_or (ptd_isN (PD.b (pd_var 1))) (pwd_or1 (ptd_isN (PD.b (pd_var 0))))))
    (pssd_one (psd_ret (pd_and (pd_isN (PD.b (pd_var 1))) (pd_one (pd_isN (PD.b (pd_var 0)))))))
    pssd_nil)
    (pssd_cons (psd_if (PWD.t (pwd_or (ptd_ne (hu64 hr) (PD.b (pd_isi1 (PD.b (pd_var 1)) (by decide) rfl Φ.n_int (by decide +kernel) rfl Φ.n_isinstance)) (PD.b (pd_isi1 (PD.b (pd_var 0)) (by decide) rfl Φ.n_int (by decide +kernel) rfl Φ.n_isinstance))) (pwd_or1 (ptd_ne (hu64 hr) (PD.b (pd_isi1 (PD.b (pd_var 1)) (by decide) rfl Φ.n_str (by decide +kernel) rfl Φ.n_isinstance)) (PD.b (pd_isi1 (PD.b (pd_var 0)) (by decide) rfl Φ.n_str (by decide +kernel) rfl Φ.n_isinstance))))))
    (pssd_one (psd_ret pd_bl))
    pssd_nil)
    (pssd_one (psd_ret (pd_and (pd_not (PD.b (pd_isiN (PD.b (pd_var 0)) (pty_cons rfl Φ.n_list (by decide +kernel) (pty_cons rfl Φ.n_tuple (by decide +kernel) (pty_cons rfl Φ.n_dict (by decide +kernel) pty_nil))) (by decide) (by decide) rfl Φ.n_isinstance))) (pd_one (pd_eq (hu64 hr) (PD.b (pd_var 0)) (PD.b (pd_var 1))))))))))))
abbrev s__law_copied : Stmt := top 55
abbrev n__law_copied : List Str := ["thing", "some", "one", "key"]
theorem sc__law_copied : FnScope n__law_copied ["thing"] (defScope s__law_copied) := ⟨rfl, rfl, rfl, by decide +kernel, rfl, by decide +kernel, by decide +kernel⟩
def B__law_copied (m__law_copied : List D → M D) : Env → M (Fl × Env) :=
  (seqM (fun γ => do bif (← (fun γ => do tru (← (fun γ => do pure (D.bl (← dIsi ["dict"] (← (rd 0) γ)))) γ)) γ) then (fun γ => do pure (Fl.rt (← (fun γ => do dDict (← (fun γ => do keys0 (← rd 0 γ)) γ)) γ), γ)) γ else (fun γ => pure (Fl.nx, γ)) γ)
    (seqM (fun γ => do pure (Fl.nx, setM 1 (← (fun γ => do bif (← (fun γ => do tru (← (fun γ => do pure (D.bl (← dIsi ["list", "tuple"] (← (rd 0) γ)))) γ)) γ) then (compM (([("one", 2)] : List (Str × Nat)).map (·.2)) (fun γ => do itemsOf (← (rd 0) γ)) (fun d γ => pure (setM 2 d γ)) (fun _ => pure true) (fun γ => do let ds ← (fun γ => do let d ← (rd 2) γ; pure (d :: (← (fun _ => pure []) γ))) γ; M.need (ds.length = (["thing"] : List Str).length); m__law_copied ds)) γ else (rd 0) γ) γ) γ))
    (fun γ => do pure (Fl.rt (← (fun γ => do bif (← (fun γ => do tru (← (fun γ => do pure (D.bl (← dIsi ["tuple"] (← (rd 0) γ)))) γ)) γ) then (fun γ => do dTuple (← (rd 1) γ)) γ else (rd 1) γ) γ), γ))))
theorem b__law_copied {g : G} {P : Program} {w : World} {K : PySem.W.Frag} {mg : Str → Option Value} {base : Heap} (Φ : Facts K mg) {j : Nat} {m__law_copied : List D → M D} (G__law_copied : FnD g P w K mg base j Φ.f__law_copied Φ.d__law_copied ["thing"] m__law_copied) {f : Addr} {cdv : Value} {A : Around} {outer : List PySem.Env} {s : Shared} {H : Hp} {E : XK} (hr : Room j (A.deeper (envOfC "_law_copied" (defScope s__law_copied) s.heap.objs.size f cdv))) :
    PSsD g (cxOf (L2.CX P w) P w K mg base n__law_copied "_law_copied" (defScope s__law_copied) f cdv A outer s H E) (fun cls d _ H => E cls d H) (defBody s__law_copied) (B__law_copied m__law_copied) :=
  (pssd_cons (psd_if (ptd_truth (PD.b (pd_isi1 (PD.b (pd_var 0)) (by decide) rfl Φ.n_dict (by decide +kernel) rfl Φ.n_isinstance)))
    (pssd_one (psd_ret (pd_dictOf rfl (PD.b (pd_lcKeys (i := 0) rfl sc__law_copied.nd (blkOk_by (N := n__law_copied) (sc := defScope s__law_copied) (own := [("key", 3)]) (by decide +kernel)))) rfl Φ.n_dict)))
    pssd_nil)
    (pssd_cons (psd_set (i := 1) sc__law_copied.nd rfl (by first | exact Or.inl rfl | exact Or.inr rfl) (pd_ifExp (ptd_truth (PD.b (pd_isiN (PD.b (pd_var 0)) (pty_cons rfl Φ.n_list (by decide +kernel) (pty_cons rfl Φ.n_tuple (by decide +kernel) pty_nil)) (by decide) (by decide) rfl Φ.n_isinstance))) (pd_lc rfl sc__law_copied.nd (pid_seq (pd_var 0)) (blkOk_by (N := n__law_copied) (sc := defScope s__law_copied) (own := [("one", 2)]) (by decide +kernel)) (fun _ _ _ _ _ => (pgd_name (i := 2) sc__law_copied.nd rfl (by first | exact Or.inl rfl | exact Or.inr rfl))) (fun _ _ _ _ _ => ptsd_nil) (fun _ _ _ _ _ => (pd_call G__law_copied hr rfl Φ.g__law_copied Φ.F__law_copied.kp Φ.b__law_copied takes_w0 (pad_cons (pd_var 2) pad_nil)))) (pd_var 0)))
    (pssd_one (psd_ret (pd_ifExp (ptd_truth (PD.b (pd_isi1 (PD.b (pd_var 0)) (by decide) rfl Φ.n_tuple (by decide +kernel) rfl Φ.n_isinstance))) (pd_tuple (PD.b (pd_var 1)) rfl Φ.n_tuple) (pd_var 1))))))
abbrev s__law_said : Stmt := top 57
abbrev n__law_said : List Str := ["stream", "signs", "most", "k"]
theorem sc__law_said : FnScope n__law_said ["stream", "signs", "most"] (defScope s__law_said) := ⟨rfl, rfl, rfl, by decide +kernel, rfl, by decide +kernel, by decide +kernel⟩
def B__law_said (m__law_pick : List D → M D) (m__law_draw : List D → M D) : Env → M (Fl × Env) :=
  (fun γ => do pure (Fl.rt (← (fun γ => do let d ← (compM (([("k", 3)] : List (Str × Nat)).map (·.2)) (fun γ => do let ds ← (fun γ => do let d ← (fun γ => do let ds ← (fun γ => do let d ← (rd 0) γ; pure (d :: (← (fun γ => do let d ← (fun γ => do pure (D.lst (← (fun γ => do let ds ← (fun γ => do let d ← (fun _ => pure (D.int 0)) γ; pure (d :: (← (fun γ => do let d ← (fun _ => pure (D.int 1)) γ; pure (d :: (← (fun γ => do let d ← (fun _ => pure (D.int 1)) γ; pure (d :: (← (fun γ => do let d ← (fun _ => pure (D.int 1)) γ; pure (d :: (← (fun γ => do let d ← (fun _ => pure (D.int 2)) γ; pure (d :: (← (fun γ => do let d ← (rd 2) γ; pure (d :: (← (fun _ => pure []) γ))) γ))) γ))) γ))) γ))) γ))) γ; M.need (ds.length ≤ sizeLine); pure ds) γ))) γ; pure (d :: (← (fun _ => pure []) γ))) γ))) γ; M.need (ds.length = (["stream", "things"] : List Str).length); m__law_pick ds) γ; pure (d :: (← (fun _ => pure []) γ))) γ; M.need (∃ j : Int, ds = [D.int j] ∧ -(2 ^ 62) ≤ j ∧ j < 2 ^ 62); rangeOf ds) (fun d γ => pure (setM 3 d γ)) (fun _ => pure true) (fun γ => do let ds ← (fun γ => do let d ← (rd 0) γ; pure (d :: (← (fun γ => do let d ← (rd 1) γ; pure (d :: (← (fun _ => pure []) γ))) γ))) γ; M.need (ds.length = (["stream", "many"] : List Str).length); m__law_draw ds)) γ; let l ← (fun _ => pure none) γ; dSlice d l (← (fun γ => do pure (some (← asInt (← (rd 2) γ)))) γ)) γ), γ))
theorem b__law_said {g : G} {P : Program} {w : World} {K : PySem.W.Frag} {mg : Str → Option Value} {base : Heap} (Φ : Facts K mg) {m__law_pick : List D → M D} {m__law_draw : List D → M D} (G__law_pick : FnD g P w K mg base 2 Φ.f__law_pick Φ.d__law_pick ["stream", "things"] m__law_pick) (G__law_draw : FnD g P w K mg base 1 Φ.f__law_draw Φ.d__law_draw ["stream", "many"] m__law_draw) {f : Addr} {cdv : Value} {A : Around} {outer : List PySem.Env} {s : Shared} {H : Hp} {E : XK} (hr : Room 2 (A.deeper (envOfC "_law_said" (defScope s__law_said) s.heap.objs.size f cdv))) :
    PSsD g (cxOf (L2.CX P w) P w K mg base n__law_said "_law_said" (defScope s__law_said) f cdv A outer s H E) (fun cls d _ H => E cls d H) (defBody s__law_said) (B__law_said m__law_pick m__law_draw) :=
  (pssd_one (psd_ret (pd_slice (PD.b (pd_lc rfl sc__law_said.nd (pid_range1 rfl Φ.n_range (pad_cons (pd_call G__law_pick (hr.mono (by decide)) rfl Φ.g__law_pick Φ.F__law_pick.kp Φ.b__law_pick takes_cx (pad_cons (pd_var 0) (pad_cons (PFD.pd (pfd_lst (pad_cons pd_int (pad_cons pd_int (pad_cons pd_int (pad_cons pd_int (pad_cons pd_int (pad_cons (pd_var 2) pad_nil)))))))) pad_nil))) pad_nil)) (blkOk_by (N := n__law_said) (sc := defScope s__law_said) (own := [("k", 3)]) (by decide +kernel)) (fun _ _ _ _ _ => (pgd_name (i := 3) sc__law_said.nd rfl (by first | exact Or.inl rfl | exact Or.inr rfl))) (fun _ _ _ _ _ => ptsd_nil) (fun _ _ _ _ _ => (pd_call G__law_draw (hr.mono (by decide)) rfl Φ.g__law_draw Φ.F__law_draw.kp Φ.b__law_draw takes_w0 (pad_cons (pd_var 0) (pad_cons (pd_var 1) pad_nil)))))) pod_none (pod_some (pd_var 2)))))
abbrev s__law_unlike : Stmt := top 58
abbrev n__law_unlike : List Str := ["things", "found", "one"]
theorem sc__law_unlike : FnScope n__law_unlike ["things"] (defScope s__law_unlike) := ⟨rfl, rfl, rfl, by decide +kernel, rfl, by decide +kernel, by decide +kernel⟩
def B__law_unlike  : Env → M (Fl × Env) :=
  (seqM (fun γ => do pure (Fl.nx, setOwM 1 (← (fun γ => do let ds ← (fun _ => pure []) γ; M.need (ds.length ≤ sizeLine); pure ds) γ) γ))
    (seqM (fun γ => do forL (fun d γ => pure (setM 2 d γ)) (fun γ => do bif (← (fun γ => do bif (← (fun γ => do let x ← (rdB 1) γ; dEq x (← (fun γ => do pure (D.lst (← (fun γ => do let ds ← (fun _ => pure []) γ; M.need (ds.length ≤ sizeLine); pure ds) γ))) γ)) γ) then pure true else (fun γ => do let x ← (fun γ => do let x ← (rdB 1) γ; dIx x (← (fun _ => pure (D.int (-1))) γ)) γ; dNe x (← (rd 2) γ)) γ) γ) then (fun γ => do let ds ← ownM 1 γ; let d ← (rd 2) γ; M.need (ds.length < sizeLine); pure (Fl.nx, setOwM 1 (ds ++ [d]) γ)) γ else (fun γ => pure (Fl.nx, γ)) γ) (← (fun γ => do itemsOf (← (fun γ => do pure (D.lst (← (fun γ => do dSort (← (rd 0) γ)) γ))) γ)) γ) γ)
    (frzM 1 (fun γ => do pure (Fl.rt (← (rd 1) γ), γ)))))
theorem b__law_unlike {g : G} {P : Program} {w : World} {K : PySem.W.Frag} {mg : Str → Option Value} {base : Heap} (Φ : Facts K mg) {f : Addr} {cdv : Value} {A : Around} {outer : List PySem.Env} {s : Shared} {H : Hp} {E : XK} (hr : Room 0 (A.deeper (envOfC "_law_unlike" (defScope s__law_unlike) s.heap.objs.size f cdv))) :
    PSsD g (cxOf (L2.CX P w) P w K mg base n__law_unlike "_law_unlike" (defScope s__law_unlike) f cdv A outer s H E) (fun cls d _ H => E cls d H) (defBody s__law_unlike) (B__law_unlike ) :=
  (pssd_cons (psd_setOw (i := 1) sc__law_unlike.nd rfl (by first | exact Or.inl rfl | exact Or.inr rfl) (pfd_lst pad_nil))
    (pssd_cons (psd_for PassesOwn.leaving rfl (pid_seq (PFD.pd (pfd_sorted (hu64 hr) (PD.b (pd_var 0)) rfl Φ.n_sorted))) (pgd_name (i := 2) sc__law_unlike.nd rfl (by first | exact Or.inl rfl | exact Or.inr rfl)) (pssd_one (psd_if (PWD.t (pwd_or (ptd_eq (hu64 hr) (pdb_var 1) (PD.b (PFD.pd (pfd_lst pad_nil)))) (pwd_or1 (ptd_ne (hu64 hr) (PD.b (pd_ix (pdb_var 1) pd_neg1)) (PD.b (pd_var 2))))))
    (pssd_one (psd_append (i := 1) (pd_var 2)))
    pssd_nil)))
    (pssd_frz 1 (pssd_one (psd_ret (pd_var 1))))))
abbrev s__law_machine : Stmt := top 59
abbrev n__law_machine : List Str := ["stream", "stands", "letters", "signs", "moves", "starts", "rows", "k", "ends"]
theorem sc__law_machine : FnScope n__law_machine ["stream", "stands", "letters", "signs", "moves"] (defScope s__law_machine) := ⟨rfl, rfl, rfl, by decide +kernel, rfl, by decide +kernel, by decide +kernel⟩
def B__law_machine (m__law_unlike : List D → M D) (m__law_draw : List D → M D) (m__law_said : List D → M D) : Env → M (Fl × Env) :=
  (seqM (fun γ => do pure (Fl.nx, setM 5 (← (fun γ => do let ds ← (fun γ => do let d ← (compM (([("k", 7)] : List (Str × Nat)).map (·.2)) (fun γ => do let ds ← (fun γ => do let d ← (fun γ => do let x ← (fun _ => pure (D.int 1)) γ; dAdd x (← (fun γ => do let ds ← (fun γ => do let d ← (rd 0) γ; pure (d :: (← (fun γ => do let d ← (fun _ => pure (D.int 2)) γ; pure (d :: (← (fun _ => pure []) γ))) γ))) γ; M.need (ds.length = (["stream", "many"] : List Str).length); m__law_draw ds) γ)) γ; pure (d :: (← (fun _ => pure []) γ))) γ; M.need (∃ j : Int, ds = [D.int j] ∧ -(2 ^ 62) ≤ j ∧ j < 2 ^ 62); rangeOf ds) (fun d γ => pure (setM 7 d γ)) (fun _ => pure true) (fun γ => do let ds ← (fun γ => do let d ← (fun γ => do let ds ← (fun γ => do let d ← (rd 0) γ; pure (d :: (← (fun γ => do let d ← (rd 1) γ; pure (d :: (← (fun _ => pure []) γ))) γ))) γ; M.need (ds.length = (["stream", "many"] : List Str).length); m__law_draw ds) γ; pure (d :: (← (fun γ => do let d ← (fun γ => do let ds ← (fun γ => do let d ← (rd 0) γ; pure (d :: (← (fun γ => do let d ← (rd 3) γ; pure (d :: (← (fun γ => do let d ← (fun _ => pure (D.int 2)) γ; pure (d :: (← (fun _ => pure []) γ))) γ))) γ))) γ; M.need (ds.length = (["stream", "signs", "most"] : List Str).length); m__law_said ds) γ; pure (d :: (← (fun _ => pure []) γ))) γ))) γ; M.need (ds.length ≤ sizeLine); pure (D.tup ds))) γ; pure (d :: (← (fun _ => pure []) γ))) γ; M.need (ds.length = (["things"] : List Str).length); m__law_unlike ds) γ) γ))
    (seqM (fun γ => do pure (Fl.nx, setOwM 6 (← (fun γ => do let ds ← (fun _ => pure []) γ; M.need (ds.length ≤ sizeLine); pure ds) γ) γ))
    (seqM (fun γ => do forL (fun d γ => pure (setM 7 d γ)) (fun γ => do let ds ← ownM 6 γ; let d ← (fun γ => do let ds ← (fun γ => do let d ← (fun γ => do let ds ← (fun γ => do let d ← (rd 0) γ; pure (d :: (← (fun γ => do let d ← (rd 1) γ; pure (d :: (← (fun _ => pure []) γ))) γ))) γ; M.need (ds.length = (["stream", "many"] : List Str).length); m__law_draw ds) γ; pure (d :: (← (fun γ => do let d ← (fun γ => do let ds ← (fun γ => do let d ← (rd 0) γ; pure (d :: (← (fun γ => do let d ← (rd 2) γ; pure (d :: (← (fun _ => pure []) γ))) γ))) γ; M.need (ds.length = (["stream", "many"] : List Str).length); m__law_draw ds) γ; pure (d :: (← (fun γ => do let d ← (fun γ => do let ds ← (fun γ => do let d ← (rd 0) γ; pure (d :: (← (fun γ => do let d ← (rd 3) γ; pure (d :: (← (fun γ => do let d ← (fun _ => pure (D.int 2)) γ; pure (d :: (← (fun _ => pure []) γ))) γ))) γ))) γ; M.need (ds.length = (["stream", "signs", "most"] : List Str).length); m__law_said ds) γ; pure (d :: (← (fun γ => do let d ← (fun γ => do let ds ← (fun γ => do let d ← (rd 0) γ; pure (d :: (← (fun γ => do let d ← (rd 1) γ; pure (d :: (← (fun _ => pure []) γ))) γ))) γ; M.need (ds.length = (["stream", "many"] : List Str).length); m__law_draw ds) γ; pure (d :: (← (fun _ => pure []) γ))) γ))) γ))) γ))) γ; M.need (ds.length ≤ sizeLine); pure (D.tup ds)) γ; M.need (ds.length < sizeLine); pure (Fl.nx, setOwM 6 (ds ++ [d]) γ)) (← (fun γ => do let ds ← (fun γ => do let d ← (rd 4) γ; pure (d :: (← (fun _ => pure []) γ))) γ; M.need (∃ j : Int, ds = [D.int j] ∧ -(2 ^ 62) ≤ j ∧ j < 2 ^ 62); rangeOf ds) γ) γ)
    (seqM (fun γ => do pure (Fl.nx, setM 8 (← (fun γ => do let ds ← (fun γ => do let d ← (compM (([("k", 7)] : List (Str × Nat)).map (·.2)) (fun γ => do let ds ← (fun γ => do let d ← (fun γ => do let x ← (fun _ => pure (D.int 1)) γ; dAdd x (← (fun γ => do let ds ← (fun γ => do let d ← (rd 0) γ; pure (d :: (← (fun γ => do let d ← (fun _ => pure (D.int 3)) γ; pure (d :: (← (fun _ => pure []) γ))) γ))) γ; M.need (ds.length = (["stream", "many"] : List Str).length); m__law_draw ds) γ)) γ; pure (d :: (← (fun _ => pure []) γ))) γ; M.need (∃ j : Int, ds = [D.int j] ∧ -(2 ^ 62) ≤ j ∧ j < 2 ^ 62); rangeOf ds) (fun d γ => pure (setM 7 d γ)) (fun _ => pure true) (fun γ => do let ds ← (fun γ => do let d ← (fun γ => do let ds ← (fun γ => do let d ← (rd 0) γ; pure (d :: (← (fun γ => do let d ← (rd 1) γ; pure (d :: (← (fun _ => pure []) γ))) γ))) γ; M.need (ds.length = (["stream", "many"] : List Str).length); m__law_draw ds) γ; pure (d :: (← (fun γ => do let d ← (fun γ => do let ds ← (fun γ => do let d ← (rd 0) γ; pure (d :: (← (fun γ => do let d ← (rd 3) γ; pure (d :: (← (fun γ => do let d ← (fun _ => pure (D.int 1)) γ; pure (d :: (← (fun _ => pure []) γ))) γ))) γ))) γ; M.need (ds.length = (["stream", "signs", "most"] : List Str).length); m__law_said ds) γ; pure (d :: (← (fun _ => pure []) γ))) γ))) γ; M.need (ds.length ≤ sizeLine); pure (D.tup ds))) γ; pure (d :: (← (fun _ => pure []) γ))) γ; M.need (ds.length = (["things"] : List Str).length); m__law_unlike ds) γ) γ))
    (frzM 6 (fun γ => do pure (Fl.rt (← (fun γ => do let ds ← (fun γ => do let d ← (rd 1) γ; pure (d :: (← (fun γ => do let d ← (rd 2) γ; pure (d :: (← (fun γ => do let d ← (rd 3) γ; pure (d :: (← (fun γ => do let d ← (rd 5) γ; pure (d :: (← (fun γ => do let d ← (fun γ => do let ds ← (fun γ => do let d ← (rd 6) γ; pure (d :: (← (fun _ => pure []) γ))) γ; M.need (ds.length = (["things"] : List Str).length); m__law_unlike ds) γ; pure (d :: (← (fun γ => do let d ← (rd 8) γ; pure (d :: (← (fun _ => pure []) γ))) γ))) γ))) γ))) γ))) γ))) γ; M.need (ds.length ≤ sizeLine); pure (D.tup ds)) γ), γ)))))))
theorem b__law_machine {g : G} {P : Program} {w : World} {K : PySem.W.Frag} {mg : Str → Option Value} {base : Heap} (Φ : Facts K mg) {m__law_unlike : List D → M D} {m__law_draw : List D → M D} {m__law_said : List D → M D} (G__law_unlike : FnD g P w K mg base 1 Φ.f__law_unlike Φ.d__law_unlike ["things"] m__law_unlike) (G__law_draw : FnD g P w K mg base 1 Φ.f__law_draw Φ.d__law_draw ["stream", "many"] m__law_draw) (G__law_said : FnD g P w K mg base 3 Φ.f__law_said Φ.d__law_said ["stream", "signs", "most"] m__law_said) {f : Addr} {cdv : Value} {A : Around} {outer : List PySem.Env} {s : Shared} {H : Hp} {E : XK} (hr : Room 3 (A.deeper (envOfC "_law_machine" (defScope s__law_machine) s.heap.objs.size f cdv))) :
    PSsD g (cxOf (L2.CX P w) P w K mg base n__law_machine "_law_machine" (defScope s__law_machine) f cdv A outer s H E) (fun cls d _ H => E cls d H) (defBody s__law_machine) (B__law_machine m__law_unlike m__law_draw m__law_said) :=
  (pssd_cons (psd_set (i := 5) sc__law_machine.nd rfl (by first | exact Or.inl rfl | exact Or.inr rfl) (pd_call G__law_unlike (hr.mono (by decide)) rfl Φ.g__law_unlike Φ.F__law_unlike.kp Φ.b__law_unlike takes_cx (pad_cons (pd_lc rfl sc__law_machine.nd (pid_range1 rfl Φ.n_range (pad_cons (pd_add (PD.b pd_int) (PD.b (pd_call G__law_draw (hr.mono (by decide)) rfl Φ.g__law_draw Φ.F__law_draw.kp Φ.b__law_draw takes_cx (pad_cons (pd_var 0) (pad_cons pd_int pad_nil))))) pad_nil)) (blkOk_by (N := n__law_machine) (sc := defScope s__law_machine) (own := [("k", 7)]) (by decide +kernel)) (fun _ _ _ _ _ => (pgd_name (i := 7) sc__law_machine.nd rfl (by first | exact Or.inl rfl | exact Or.inr rfl))) (fun _ _ _ _ _ => ptsd_nil) (fun _ _ _ _ _ => (pd_tup (pad_cons (pd_call G__law_draw (hr.mono (by decide)) rfl Φ.g__law_draw Φ.F__law_draw.kp Φ.b__law_draw takes_w0 (pad_cons (pd_var 0) (pad_cons (pd_var 1) pad_nil))) (pad_cons (pd_call G__law_said (hr.mono (by decide)) rfl Φ.g__law_said Φ.F__law_said.kp Φ.b__law_said takes_w0 (pad_cons (pd_var 0) (pad_cons (pd_var 3) (pad_cons pd_int pad_nil)))) pad_nil))))) pad_nil)))
    (pssd_cons (psd_setOw (i := 6) sc__law_machine.nd rfl (by first | exact Or.inl rfl | exact Or.inr rfl) (pfd_lst pad_nil))
    (pssd_cons (psd_for PassesOwn.leaving rfl (pid_range1 rfl Φ.n_range (pad_cons (pd_var 4) pad_nil)) (pgd_name (i := 7) sc__law_machine.nd rfl (by first | exact Or.inl rfl | exact Or.inr rfl)) (pssd_one (psd_append (i := 6) (pd_tup (pad_cons (pd_call G__law_draw (hr.mono (by decide)) rfl Φ.g__law_draw Φ.F__law_draw.kp Φ.b__law_draw takes_cx (pad_cons (pd_var 0) (pad_cons (pd_var 1) pad_nil))) (pad_cons (pd_call G__law_draw (hr.mono (by decide)) rfl Φ.g__law_draw Φ.F__law_draw.kp Φ.b__law_draw takes_cx (pad_cons (pd_var 0) (pad_cons (pd_var 2) pad_nil))) (pad_cons (pd_call G__law_said (hr.mono (by decide)) rfl Φ.g__law_said Φ.F__law_said.kp Φ.b__law_said takes_cx (pad_cons (pd_var 0) (pad_cons (pd_var 3) (pad_cons pd_int pad_nil)))) (pad_cons (pd_call G__law_draw (hr.mono (by decide)) rfl Φ.g__law_draw Φ.F__law_draw.kp Φ.b__law_draw takes_cx (pad_cons (pd_var 0) (pad_cons (pd_var 1) pad_nil))) pad_nil))))))))
    (pssd_cons (psd_set (i := 8) sc__law_machine.nd rfl (by first | exact Or.inl rfl | exact Or.inr rfl) (pd_call G__law_unlike (hr.mono (by decide)) rfl Φ.g__law_unlike Φ.F__law_unlike.kp Φ.b__law_unlike takes_cx (pad_cons (pd_lc rfl sc__law_machine.nd (pid_range1 rfl Φ.n_range (pad_cons (pd_add (PD.b pd_int) (PD.b (pd_call G__law_draw (hr.mono (by decide)) rfl Φ.g__law_draw Φ.F__law_draw.kp Φ.b__law_draw takes_cx (pad_cons (pd_var 0) (pad_cons pd_int pad_nil))))) pad_nil)) (blkOk_by (N := n__law_machine) (sc := defScope s__law_machine) (own := [("k", 7)]) (by decide +kernel)) (fun _ _ _ _ _ => (pgd_name (i := 7) sc__law_machine.nd rfl (by first | exact Or.inl rfl | exact Or.inr rfl))) (fun _ _ _ _ _ => ptsd_nil) (fun _ _ _ _ _ => (pd_tup (pad_cons (pd_call G__law_draw (hr.mono (by decide)) rfl Φ.g__law_draw Φ.F__law_draw.kp Φ.b__law_draw takes_w0 (pad_cons (pd_var 0) (pad_cons (pd_var 1) pad_nil))) (pad_cons (pd_call G__law_said (hr.mono (by decide)) rfl Φ.g__law_said Φ.F__law_said.kp Φ.b__law_said takes_w0 (pad_cons (pd_var 0) (pad_cons (pd_var 3) (pad_cons pd_int pad_nil)))) pad_nil))))) pad_nil)))
    (pssd_frz 6 (pssd_one (psd_ret (pd_tup (pad_cons (pd_var 1) (pad_cons (pd_var 2) (pad_cons (pd_var 3) (pad_cons (pd_var 5) (pad_cons (pd_call G__law_unlike (hr.mono (by decide)) rfl Φ.g__law_unlike Φ.F__law_unlike.kp Φ.b__law_unlike takes_cx (pad_cons (pd_var 6) pad_nil)) (pad_cons (pd_var 8) pad_nil))))))))))))))
abbrev s__law_w_odd_machine : Stmt := top 60
abbrev n__law_w_odd_machine : List Str := ["stream", "machine", "odds", "stands", "letters", "signs", "starts", "moves", "ends"]
theorem sc__law_w_odd_machine : FnScope n__law_w_odd_machine ["stream", "machine"] (defScope s__law_w_odd_machine) := ⟨rfl, rfl, rfl, by decide +kernel, rfl, by decide +kernel, by decide +kernel⟩
def B__law_w_odd_machine (m__law_pick : List D → M D) : Env → M (Fl × Env) :=
  (seqM (fun γ => do let d ← (rd 1) γ; let γ1 ← M.calm ((fun d γ => do M.need (∀ ds, d = D.tup ds → ds.length = 6); tupT (consT (fun d γ => pure (setM 3 d γ)) (consT (fun d γ => pure (setM 4 d γ)) (consT (fun d γ => pure (setM 5 d γ)) (consT (fun d γ => pure (setM 6 d γ)) (consT (fun d γ => pure (setM 7 d γ)) (consT (fun d γ => pure (setM 8 d γ)) (fun ds γ => do M.need (ds = []); pure γ))))))) d γ) d γ); pure (Fl.nx, γ1))
    (seqM (fun γ => do pure (Fl.nx, setOwM 2 (← (fun γ => do let ds ← (fun γ => do let d ← (fun _ => pure D.non) γ; pure (d :: (← (fun γ => do let d ← (fun _ => pure (D.int 5)) γ; pure (d :: (← (fun γ => do let d ← (fun _ => pure (D.str "ab")) γ; pure (d :: (← (fun γ => do let d ← (fun _ => pure (D.dct [])) γ; pure (d :: (← (fun γ => do let d ← (fun γ => do pure (D.lst (← (fun γ => do let ds ← (fun _ => pure []) γ; M.need (ds.length ≤ sizeLine); pure ds) γ))) γ; pure (d :: (← (fun γ => do let d ← (fun γ => do let ds ← (fun γ => do let d ← (rd 3) γ; pure (d :: (← (fun γ => do let d ← (rd 4) γ; pure (d :: (← (fun γ => do let d ← (rd 5) γ; pure (d :: (← (fun γ => do let d ← (rd 6) γ; pure (d :: (← (fun γ => do let d ← (rd 7) γ; pure (d :: (← (fun _ => pure []) γ))) γ))) γ))) γ))) γ))) γ; M.need (ds.length ≤ sizeLine); pure (D.tup ds)) γ; pure (d :: (← (fun γ => do let d ← (fun γ => do let ds ← (fun γ => do let d ← (fun _ => pure (D.int 0)) γ; pure (d :: (← (fun γ => do let d ← (rd 4) γ; pure (d :: (← (fun γ => do let d ← (rd 5) γ; pure (d :: (← (fun γ => do let d ← (fun γ => do pure (D.lst (← (fun γ => do let ds ← (fun _ => pure []) γ; M.need (ds.length ≤ sizeLine); pure ds) γ))) γ; pure (d :: (← (fun γ => do let d ← (fun γ => do pure (D.lst (← (fun γ => do let ds ← (fun _ => pure []) γ; M.need (ds.length ≤ sizeLine); pure ds) γ))) γ; pure (d :: (← (fun γ => do let d ← (fun γ => do pure (D.lst (← (fun γ => do let ds ← (fun _ => pure []) γ; M.need (ds.length ≤ sizeLine); pure ds) γ))) γ; pure (d :: (← (fun _ => pure []) γ))) γ))) γ))) γ))) γ))) γ))) γ; M.need (ds.length ≤ sizeLine); pure (D.tup ds)) γ; pure (d :: (← (fun γ => do let d ← (fun γ => do let ds ← (fun γ => do let d ← (fun _ => pure (D.bl true)) γ; pure (d :: (← (fun γ => do let d ← (rd 4) γ; pure (d :: (← (fun γ => do let d ← (rd 5) γ; pure (d :: (← (fun γ => do let d ← (fun γ => do pure (D.lst (← (fun γ => do let ds ← (fun _ => pure []) γ; M.need (ds.length ≤ sizeLine); pure ds) γ))) γ; pure (d :: (← (fun γ => do let d ← (fun γ => do pure (D.lst (← (fun γ => do let ds ← (fun _ => pure []) γ; M.need (ds.length ≤ sizeLine); pure ds) γ))) γ; pure (d :: (← (fun γ => do let d ← (fun γ => do pure (D.lst (← (fun γ => do let ds ← (fun _ => pure []) γ; M.need (ds.length ≤ sizeLine); pure ds) γ))) γ; pure (d :: (← (fun _ => pure []) γ))) γ))) γ))) γ))) γ))) γ))) γ; M.need (ds.length ≤ sizeLine); pure (D.tup ds)) γ; pure (d :: (← (fun _ => pure []) γ))) γ))) γ))) γ))) γ))) γ))) γ))) γ))) γ; M.need (ds.length ≤ sizeLine); pure ds) γ) γ))
    (seqM (fun γ => do let ds ← ownM 2 γ; match (← (fun γ => do pure (D.lst (← (fun γ => do let ds ← (fun γ => do let d ← (fun γ => do let ds ← (fun γ => do let d ← (rd 3) γ; pure (d :: (← (fun γ => do let d ← (rd 4) γ; pure (d :: (← (fun γ => do let d ← (rd 5) γ; pure (d :: (← (fun γ => do let d ← (fun _ => pure D.non) γ; pure (d :: (← (fun γ => do let d ← (rd 7) γ; pure (d :: (← (fun γ => do let d ← (rd 8) γ; pure (d :: (← (fun _ => pure []) γ))) γ))) γ))) γ))) γ))) γ))) γ; M.need (ds.length ≤ sizeLine); pure (D.tup ds)) γ; pure (d :: (← (fun γ => do let d ← (fun γ => do let ds ← (fun γ => do let d ← (rd 3) γ; pure (d :: (← (fun γ => do let d ← (rd 4) γ; pure (d :: (← (fun γ => do let d ← (rd 5) γ; pure (d :: (← (fun γ => do let d ← (fun γ => do pure (D.lst (← (fun γ => do let ds ← (fun γ => do let d ← (fun γ => do let ds ← (fun γ => do let d ← (rd 3) γ; pure (d :: (← (fun γ => do let d ← (fun γ => do pure (D.lst (← (fun γ => do let ds ← (fun _ => pure []) γ; M.need (ds.length ≤ sizeLine); pure ds) γ))) γ; pure (d :: (← (fun _ => pure []) γ))) γ))) γ; M.need (ds.length ≤ sizeLine); pure (D.tup ds)) γ; pure (d :: (← (fun _ => pure []) γ))) γ; M.need (ds.length ≤ sizeLine); pure ds) γ))) γ; pure (d :: (← (fun γ => do let d ← (rd 7) γ; pure (d :: (← (fun γ => do let d ← (rd 8) γ; pure (d :: (← (fun _ => pure []) γ))) γ))) γ))) γ))) γ))) γ))) γ; M.need (ds.length ≤ sizeLine); pure (D.tup ds)) γ; pure (d :: (← (fun γ => do let d ← (fun γ => do let ds ← (fun γ => do let d ← (rd 3) γ; pure (d :: (← (fun γ => do let d ← (rd 4) γ; pure (d :: (← (fun γ => do let d ← (rd 5) γ; pure (d :: (← (fun γ => do let d ← (rd 6) γ; pure (d :: (← (fun γ => do let d ← (rd 7) γ; pure (d :: (← (fun γ => do let d ← (fun γ => do pure (D.lst (← (fun γ => do let ds ← (fun γ => do let d ← (fun γ => do let ds ← (fun γ => do let d ← (fun _ => pure (D.int 0)) γ; pure (d :: (← (fun γ => do let d ← (fun γ => do pure (D.lst (← (fun γ => do let ds ← (fun γ => do let d ← (rd 5) γ; pure (d :: (← (fun _ => pure []) γ))) γ; M.need (ds.length ≤ sizeLine); pure ds) γ))) γ; pure (d :: (← (fun _ => pure []) γ))) γ))) γ; M.need (ds.length ≤ sizeLine); pure (D.tup ds)) γ; pure (d :: (← (fun _ => pure []) γ))) γ; M.need (ds.length ≤ sizeLine); pure ds) γ))) γ; pure (d :: (← (fun _ => pure []) γ))) γ))) γ))) γ))) γ))) γ))) γ; M.need (ds.length ≤ sizeLine); pure (D.tup ds)) γ; pure (d :: (← (fun _ => pure []) γ))) γ))) γ))) γ; M.need (ds.length ≤ sizeLine); pure ds) γ))) γ) with | D.lst es => (do M.need (ds.length + es.length ≤ sizeLine); pure (Fl.nx, setOwM 2 (ds ++ es) γ)) | _ => M.stuck)
    (seqM (fun γ => do let ds ← ownM 2 γ; match (← (fun γ => do pure (D.lst (← (fun γ => do let ds ← (fun γ => do let d ← (fun γ => do let ds ← (fun γ => do let d ← (rd 3) γ; pure (d :: (← (fun γ => do let d ← (rd 4) γ; pure (d :: (← (fun γ => do let d ← (rd 5) γ; pure (d :: (← (fun γ => do let d ← (rd 6) γ; pure (d :: (← (fun γ => do let d ← (fun γ => do pure (D.lst (← (fun γ => do let ds ← (fun γ => do let d ← (fun γ => do let ds ← (fun γ => do let d ← (fun _ => pure (D.int 0)) γ; pure (d :: (← (fun γ => do let d ← (rd 4) γ; pure (d :: (← (fun γ => do let d ← (fun γ => do pure (D.lst (← (fun γ => do let ds ← (fun _ => pure []) γ; M.need (ds.length ≤ sizeLine); pure ds) γ))) γ; pure (d :: (← (fun γ => do let d ← (fun _ => pure (D.int 0)) γ; pure (d :: (← (fun _ => pure []) γ))) γ))) γ))) γ))) γ; M.need (ds.length ≤ sizeLine); pure (D.tup ds)) γ; pure (d :: (← (fun _ => pure []) γ))) γ; M.need (ds.length ≤ sizeLine); pure ds) γ))) γ; pure (d :: (← (fun γ => do let d ← (rd 8) γ; pure (d :: (← (fun _ => pure []) γ))) γ))) γ))) γ))) γ))) γ))) γ; M.need (ds.length ≤ sizeLine); pure (D.tup ds)) γ; pure (d :: (← (fun γ => do let d ← (fun γ => do let ds ← (fun γ => do let d ← (rd 3) γ; pure (d :: (← (fun γ => do let d ← (rd 4) γ; pure (d :: (← (fun γ => do let d ← (rd 5) γ; pure (d :: (← (fun γ => do let d ← (fun γ => do pure (D.lst (← (fun γ => do let ds ← (fun γ => do let d ← (fun γ => do let ds ← (fun γ => do let d ← (fun _ => pure (D.int 0)) γ; pure (d :: (← (fun γ => do let d ← (fun γ => do pure (D.lst (← (fun γ => do let ds ← (fun γ => do let d ← (fun _ => pure (D.int 0)) γ; pure (d :: (← (fun _ => pure []) γ))) γ; M.need (ds.length ≤ sizeLine); pure ds) γ))) γ; pure (d :: (← (fun _ => pure []) γ))) γ))) γ; M.need (ds.length ≤ sizeLine); pure (D.tup ds)) γ; pure (d :: (← (fun γ => do let d ← (fun γ => do let ds ← (fun γ => do let d ← (fun _ => pure (D.int 0)) γ; pure (d :: (← (fun γ => do let d ← (fun γ => do pure (D.lst (← (fun γ => do let ds ← (fun _ => pure []) γ; M.need (ds.length ≤ sizeLine); pure ds) γ))) γ; pure (d :: (← (fun _ => pure []) γ))) γ))) γ; M.need (ds.length ≤ sizeLine); pure (D.tup ds)) γ; pure (d :: (← (fun _ => pure []) γ))) γ))) γ; M.need (ds.length ≤ sizeLine); pure ds) γ))) γ; pure (d :: (← (fun γ => do let d ← (rd 7) γ; pure (d :: (← (fun γ => do let d ← (rd 8) γ; pure (d :: (← (fun _ => pure []) γ))) γ))) γ))) γ))) γ))) γ))) γ; M.need (ds.length ≤ sizeLine); pure (D.tup ds)) γ; pure (d :: (← (fun _ => pure []) γ))) γ))) γ; M.need (ds.length ≤ sizeLine); pure ds) γ))) γ) with | D.lst es => (do M.need (ds.length + es.length ≤ sizeLine); pure (Fl.nx, setOwM 2 (ds ++ es) γ)) | _ => M.stuck)
    (fun γ => do pure (Fl.rt (← (fun γ => do let ds ← (fun γ => do let d ← (rd 0) γ; pure (d :: (← (fun γ => do let d ← (fun γ => do let x ← (rdB 2) γ; dAdd x (← (fun γ => do pure (D.lst (← (fun γ => do let ds ← (fun γ => do let d ← (fun γ => do let ds ← (fun γ => do let d ← (rd 3) γ; pure (d :: (← (fun γ => do let d ← (rd 4) γ; pure (d :: (← (fun γ => do let d ← (rd 5) γ; pure (d :: (← (fun γ => do let d ← (rd 6) γ; pure (d :: (← (fun γ => do let d ← (rd 7) γ; pure (d :: (← (fun γ => do let d ← (fun γ => do pure (D.lst (← (fun γ => do let ds ← (fun γ => do let d ← (fun γ => do let ds ← (fun γ => do let d ← (fun _ => pure (D.int 0)) γ; pure (d :: (← (fun γ => do let d ← (fun γ => do pure (D.lst (← (fun γ => do let ds ← (fun _ => pure []) γ; M.need (ds.length ≤ sizeLine); pure ds) γ))) γ; pure (d :: (← (fun _ => pure []) γ))) γ))) γ; M.need (ds.length ≤ sizeLine); pure (D.tup ds)) γ; pure (d :: (← (fun γ => do let d ← (fun γ => do let ds ← (fun γ => do let d ← (fun _ => pure (D.int 0)) γ; pure (d :: (← (fun γ => do let d ← (fun γ => do pure (D.lst (← (fun γ => do let ds ← (fun _ => pure []) γ; M.need (ds.length ≤ sizeLine); pure ds) γ))) γ; pure (d :: (← (fun _ => pure []) γ))) γ))) γ; M.need (ds.length ≤ sizeLine); pure (D.tup ds)) γ; pure (d :: (← (fun _ => pure []) γ))) γ))) γ; M.need (ds.length ≤ sizeLine); pure ds) γ))) γ; pure (d :: (← (fun _ => pure []) γ))) γ))) γ))) γ))) γ))) γ))) γ; M.need (ds.length ≤ sizeLine); pure (D.tup ds)) γ; pure (d :: (← (fun γ => do let d ← (fun γ => do let ds ← (fun γ => do let d ← (rd 3) γ; pure (d :: (← (fun γ => do let d ← (rd 4) γ; pure (d :: (← (fun γ => do let d ← (rd 5) γ; pure (d :: (← (fun γ => do let d ← (rd 6) γ; pure (d :: (← (fun γ => do let d ← (fun γ => do pure (D.lst (← (fun γ => do let ds ← (fun γ => do let d ← (fun γ => do let ds ← (fun γ => do let d ← (fun _ => pure (D.int 0)) γ; pure (d :: (← (fun γ => do let d ← (fun _ => pure (D.int 0)) γ; pure (d :: (← (fun γ => do let d ← (fun γ => do pure (D.lst (← (fun γ => do let ds ← (fun _ => pure []) γ; M.need (ds.length ≤ sizeLine); pure ds) γ))) γ; pure (d :: (← (fun γ => do let d ← (fun _ => pure (D.int 0)) γ; pure (d :: (← (fun γ => do let d ← (fun _ => pure (D.int 0)) γ; pure (d :: (← (fun _ => pure []) γ))) γ))) γ))) γ))) γ))) γ; M.need (ds.length ≤ sizeLine); pure (D.tup ds)) γ; pure (d :: (← (fun _ => pure []) γ))) γ; M.need (ds.length ≤ sizeLine); pure ds) γ))) γ; pure (d :: (← (fun γ => do let d ← (rd 8) γ; pure (d :: (← (fun _ => pure []) γ))) γ))) γ))) γ))) γ))) γ))) γ; M.need (ds.length ≤ sizeLine); pure (D.tup ds)) γ; pure (d :: (← (fun _ => pure []) γ))) γ))) γ; M.need (ds.length ≤ sizeLine); pure ds) γ))) γ)) γ; pure (d :: (← (fun _ => pure []) γ))) γ))) γ; M.need (ds.length = (["stream", "things"] : List Str).length); m__law_pick ds) γ), γ))))))
theorem b__law_w_odd_machine {g : G} {P : Program} {w : World} {K : PySem.W.Frag} {mg : Str → Option Value} {base : Heap} (Φ : Facts K mg) {m__law_pick : List D → M D} (G__law_pick : FnD g P w K mg base 2 Φ.f__law_pick Φ.d__law_pick ["stream", "things"] m__law_pick) {f : Addr} {cdv : Value} {A : Around} {outer : List PySem.Env} {s : Shared} {H : Hp} {E : XK} (hr : Room 2 (A.deeper (envOfC "_law_w_odd_machine" (defScope s__law_w_odd_machine) s.heap.objs.size f cdv))) :
    PSsD g (cxOf (L2.CX P w) P w K mg base n__law_w_odd_machine "_law_w_odd_machine" (defScope s__law_w_odd_machine) f cdv A outer s H E) (fun cls d _ H => E cls d H) (defBody s__law_w_odd_machine) (B__law_w_odd_machine m__law_pick) :=
  (pssd_cons (psd_tgt (pd_var 1) (pgd_tup rfl (pgsd_cons (pgd_name (i := 3) sc__law_w_odd_machine.nd rfl (by first | exact Or.inl rfl | exact Or.inr rfl)) (pgsd_cons (pgd_name (i := 4) sc__law_w_odd_machine.nd rfl (by first | exact Or.inl rfl | exact Or.inr rfl)) (pgsd_cons (pgd_name (i := 5) sc__law_w_odd_machine.nd rfl (by first | exact Or.inl rfl | exact Or.inr rfl)) (pgsd_cons (pgd_name (i := 6) sc__law_w_odd_machine.nd rfl (by first | exact Or.inl rfl | exact Or.inr rfl)) (pgsd_cons (pgd_name (i := 7) sc__law_w_odd_machine.nd rfl (by first | exact Or.inl rfl | exact Or.inr rfl)) (pgsd_cons (pgd_name (i := 8) sc__law_w_odd_machine.nd rfl (by first | exact Or.inl rfl | exact Or.inr rfl)) pgsd_nil))))))))
    (pssd_cons (psd_setOw (i := 2) sc__law_w_odd_machine.nd rfl (by first | exact Or.inl rfl | exact Or.inr rfl) (pfd_lst (pad_cons pd_non (pad_cons pd_int (pad_cons pd_str (pad_cons pd_dict0 (pad_cons (PFD.pd (pfd_lst pad_nil)) (pad_cons (pd_tup (pad_cons (pd_var 3) (pad_cons (pd_var 4) (pad_cons (pd_var 5) (pad_cons (pd_var 6) (pad_cons (pd_var 7) pad_nil)))))) (pad_cons (pd_tup (pad_cons pd_int (pad_cons (pd_var 4) (pad_cons (pd_var 5) (pad_cons (PFD.pd (pfd_lst pad_nil)) (pad_cons (PFD.pd (pfd_lst pad_nil)) (pad_cons (PFD.pd (pfd_lst pad_nil)) pad_nil))))))) (pad_cons (pd_tup (pad_cons pd_bl (pad_cons (pd_var 4) (pad_cons (pd_var 5) (pad_cons (PFD.pd (pfd_lst pad_nil)) (pad_cons (PFD.pd (pfd_lst pad_nil)) (pad_cons (PFD.pd (pfd_lst pad_nil)) pad_nil))))))) pad_nil))))))))))
    (pssd_cons (psd_extend (i := 2) (PD.b (PFD.pd (pfd_lst (pad_cons (pd_tup (pad_cons (pd_var 3) (pad_cons (pd_var 4) (pad_cons (pd_var 5) (pad_cons pd_non (pad_cons (pd_var 7) (pad_cons (pd_var 8) pad_nil))))))) (pad_cons (pd_tup (pad_cons (pd_var 3) (pad_cons (pd_var 4) (pad_cons (pd_var 5) (pad_cons (PFD.pd (pfd_lst (pad_cons (pd_tup (pad_cons (pd_var 3) (pad_cons (PFD.pd (pfd_lst pad_nil)) pad_nil))) pad_nil))) (pad_cons (pd_var 7) (pad_cons (pd_var 8) pad_nil))))))) (pad_cons (pd_tup (pad_cons (pd_var 3) (pad_cons (pd_var 4) (pad_cons (pd_var 5) (pad_cons (pd_var 6) (pad_cons (pd_var 7) (pad_cons (PFD.pd (pfd_lst (pad_cons (pd_tup (pad_cons pd_int (pad_cons (PFD.pd (pfd_lst (pad_cons (pd_var 5) pad_nil))) pad_nil))) pad_nil))) pad_nil))))))) pad_nil)))))))
    (pssd_cons (psd_extend (i := 2) (PD.b (PFD.pd (pfd_lst (pad_cons (pd_tup (pad_cons (pd_var 3) (pad_cons (pd_var 4) (pad_cons (pd_var 5) (pad_cons (pd_var 6) (pad_cons (PFD.pd (pfd_lst (pad_cons (pd_tup (pad_cons pd_int (pad_cons (pd_var 4) (pad_cons (PFD.pd (pfd_lst pad_nil)) (pad_cons pd_int pad_nil))))) pad_nil))) (pad_cons (pd_var 8) pad_nil))))))) (pad_cons (pd_tup (pad_cons (pd_var 3) (pad_cons (pd_var 4) (pad_cons (pd_var 5) (pad_cons (PFD.pd (pfd_lst (pad_cons (pd_tup (pad_cons pd_int (pad_cons (PFD.pd (pfd_lst (pad_cons pd_int pad_nil))) pad_nil))) (pad_cons (pd_tup (pad_cons pd_int (pad_cons (PFD.pd (pfd_lst pad_nil)) pad_nil))) pad_nil)))) (pad_cons (pd_var 7) (pad_cons (pd_var 8) pad_nil))))))) pad_nil))))))
    (pssd_one (psd_ret (pd_call G__law_pick (hr.mono (by decide)) rfl Φ.g__law_pick Φ.F__law_pick.kp Φ.b__law_pick takes_cx (pad_cons (pd_var 0) (pad_cons (pd_add (pdb_var 2) (PD.b (PFD.pd (pfd_lst (pad_cons (pd_tup (pad_cons (pd_var 3) (pad_cons (pd_var 4) (pad_cons (pd_var 5) (pad_cons (pd_var 6) (pad_cons (pd_var 7) (pad_cons (PFD.pd (pfd_lst (pad_cons (pd_tup (pad_cons pd_int (pad_cons (PFD.pd (pfd_lst pad_nil)) pad_nil))) (pad_cons (pd_tup (pad_cons pd_int (pad_cons (PFD.pd (pfd_lst pad_nil)) pad_nil))) pad_nil)))) pad_nil))))))) (pad_cons (pd_tup (pad_cons (pd_var 3) (pad_cons (pd_var 4) (pad_cons (pd_var 5) (pad_cons (pd_var 6) (pad_cons (PFD.pd (pfd_lst (pad_cons (pd_tup (pad_cons pd_int (pad_cons pd_int (pad_cons (PFD.pd (pfd_lst pad_nil)) (pad_cons pd_int (pad_cons pd_int pad_nil)))))) pad_nil))) (pad_cons (pd_var 8) pad_nil))))))) pad_nil)))))) pad_nil)))))))))
end DL

set_option Elab.async false
set_option linter.all false
set_option maxRecDepth 100000
set_option maxHeartbeats 4000000
/-! printed by gen_k73.py: the lambdas -/
namespace DL
open PySem PySem.Spec PyProof.Rows L2

def L_0 : LS := lamAt "_law_asks.<locals>.<lambda>" [] ["machine"] (exAt (stE (stAt (top 62) [0])) [0])
def B_lam0 (m_most_ways : List D → M D) : Env → M D :=
  (fun γ => do let ds ← (fun γ => do let d ← (rd 0) γ; pure (d :: (← (fun _ => pure []) γ))) γ; M.need (ds.length = (["machine"] : List Str).length); m_most_ways ds)
def m_lam0 (m_most_ways : List D → M D) (caps ds : List D) : M D := do M.need (ds.length = 0); B_lam0 m_most_ways (startD ["machine"] (ds ++ caps))
theorem clo0 {g : G} {P : Program} {w : World} {K : PySem.W.Frag} {mg : Str → Option Value} {base : Heap} (Φ : Facts K mg) (hk : g.L 0 = L_0) {m_most_ways : List D → M D} (G_most_ways : FnD g P w K mg base 8 Φ.f_most_ways Φ.d_most_ways ["machine"] m_most_ways) : CloD g P w K mg base 9 0 (m_lam0 m_most_ways) :=
  cloD (j := 8) (S := L_0) (mb := B_lam0 m_most_ways) hk (NdefX.nscope_by (by decide +kernel)) (fun _ _ _ _ us hl => match us, hl with | [], _ => rfl)
    (fun A outer s H E f cl c' hr => by unfold B_lam0; exact (pd_call G_most_ways (hr.mono (by decide)) rfl Φ.g_most_ways Φ.F_most_ways.kp Φ.b_most_ways takes_ncx (pad_cons (pd_var 0) pad_nil)))
    (fun caps ds => M.Le.refl _)
def L_1 : LS := lamAt "_law_asks.<locals>.<lambda>" [] ["machine"] (exAt (stE (stAt (top 62) [1])) [1])
def B_lam1 (m_is_double : List D → M D) : Env → M D :=
  (fun γ => do let ds ← (fun γ => do let d ← (rd 0) γ; pure (d :: (← (fun γ => do let d ← (fun _ => pure D.non) γ; pure (d :: (← (fun _ => pure []) γ))) γ))) γ; M.need (ds.length = (["machine", "thing"] : List Str).length); m_is_double ds)
def m_lam1 (m_is_double : List D → M D) (caps ds : List D) : M D := do M.need (ds.length = 0); B_lam1 m_is_double (startD ["machine"] (ds ++ caps))
theorem clo1 {g : G} {P : Program} {w : World} {K : PySem.W.Frag} {mg : Str → Option Value} {base : Heap} (Φ : Facts K mg) (hk : g.L 1 = L_1) {m_is_double : List D → M D} (G_is_double : FnD g P w K mg base 8 Φ.f_is_double Φ.d_is_double ["machine", "thing"] m_is_double) : CloD g P w K mg base 9 1 (m_lam1 m_is_double) :=
  cloD (j := 8) (S := L_1) (mb := B_lam1 m_is_double) hk (NdefX.nscope_by (by decide +kernel)) (fun _ _ _ _ us hl => match us, hl with | [], _ => rfl)
    (fun A outer s H E f cl c' hr => by unfold B_lam1; exact (pd_call G_is_double (hr.mono (by decide)) rfl Φ.g_is_double Φ.F_is_double.kp Φ.b_is_double takes_ncx (pad_cons (pd_var 0) (pad_cons pd_non pad_nil))))
    (fun caps ds => M.Le.refl _)
def L_2 : LS := lamAt "_law_asks.<locals>.<lambda>" [] ["machine"] (exAt (stE (stAt (top 62) [2])) [1])
def B_lam2 (m_is_side : List D → M D) (m__law_copied : List D → M D) : Env → M D :=
  (fun γ => do let zs ← (fun γ => do let d ← (fun _ => pure D.non) γ; pure (d :: (← (fun γ => do let d ← (fun γ => do let ds ← (fun γ => do let d ← (rd 0) γ; pure (d :: (← (fun _ => pure []) γ))) γ; M.need (ds.length = (["thing"] : List Str).length); m__law_copied ds) γ; pure (d :: (← (fun _ => pure []) γ))) γ))) γ; M.need (zs.length = 2 ∧ (pick [1, 0] zs).length = (["machine", "thing"] : List Str).length); m_is_side (pick [1, 0] zs))
def m_lam2 (m_is_side : List D → M D) (m__law_copied : List D → M D) (caps ds : List D) : M D := do M.need (ds.length = 0); B_lam2 m_is_side m__law_copied (startD ["machine"] (ds ++ caps))
theorem clo2 {g : G} {P : Program} {w : World} {K : PySem.W.Frag} {mg : Str → Option Value} {base : Heap} (Φ : Facts K mg) (hk : g.L 2 = L_2) {m_is_side : List D → M D} (G_is_side : FnD g P w K mg base 8 Φ.f_is_side Φ.d_is_side ["machine", "thing"] m_is_side) {m__law_copied : List D → M D} (G__law_copied : FnD g P w K mg base 9 Φ.f__law_copied Φ.d__law_copied ["thing"] m__law_copied) : CloD g P w K mg base 10 2 (m_lam2 m_is_side m__law_copied) :=
  cloD (j := 9) (S := L_2) (mb := B_lam2 m_is_side m__law_copied) hk (NdefX.nscope_by (by decide +kernel)) (fun _ _ _ _ us hl => match us, hl with | [], _ => rfl)
    (fun A outer s H E f cl c' hr => by unfold B_lam2; exact (by refine pd_callK0 (ps := ["machine", "thing"]) (m := m_is_side) (ks := ["thing", "machine"]) (nK := 2) (ord := [1, 0]) G_is_side (hr.mono (by decide)) ?hg Φ.g_is_side Φ.F_is_side.kp (kbinds (ks := ["thing", "machine"]) (ord := [1, 0]) Φ.F_is_side fun _ _ _ _ _ _ us ws h1 h2 => match us, ws, h1, h2 with | [], [_, _], _, _ => rfl) takes_ncx (pkd_cons pd_non (pkd_cons (pd_call G__law_copied (hr.mono (by decide)) rfl Φ.g__law_copied Φ.F__law_copied.kp Φ.b__law_copied takes_ncx (pad_cons (pd_var 0) pad_nil)) pkd_nil)) <;> rfl))
    (fun caps ds => M.Le.refl _)
def L_3 : LS := lamAt "_law_asks.<locals>.<lambda>" [] ["machine"] (exAt (stE (stAt (top 62) [3])) [1])
def B_lam3 (m_degree : List D → M D) (m__law_copied : List D → M D) : Env → M D :=
  (fun γ => do let zs ← (fun γ => do let d ← (fun γ => do let ds ← (fun γ => do let d ← (rd 0) γ; pure (d :: (← (fun _ => pure []) γ))) γ; M.need (ds.length = (["thing"] : List Str).length); m__law_copied ds) γ; pure (d :: (← (fun _ => pure []) γ))) γ; M.need (zs.length = 1 ∧ (pick [0] zs).length = (["machine"] : List Str).length); m_degree (pick [0] zs))
def m_lam3 (m_degree : List D → M D) (m__law_copied : List D → M D) (caps ds : List D) : M D := do M.need (ds.length = 0); B_lam3 m_degree m__law_copied (startD ["machine"] (ds ++ caps))
theorem clo3 {g : G} {P : Program} {w : World} {K : PySem.W.Frag} {mg : Str → Option Value} {base : Heap} (Φ : Facts K mg) (hk : g.L 3 = L_3) {m_degree : List D → M D} (G_degree : FnD g P w K mg base 8 Φ.f_degree Φ.d_degree ["machine"] m_degree) {m__law_copied : List D → M D} (G__law_copied : FnD g P w K mg base 9 Φ.f__law_copied Φ.d__law_copied ["thing"] m__law_copied) : CloD g P w K mg base 10 3 (m_lam3 m_degree m__law_copied) :=
  cloD (j := 9) (S := L_3) (mb := B_lam3 m_degree m__law_copied) hk (NdefX.nscope_by (by decide +kernel)) (fun _ _ _ _ us hl => match us, hl with | [], _ => rfl)
    (fun A outer s H E f cl c' hr => by unfold B_lam3; exact (by refine pd_callK0 (ps := ["machine"]) (m := m_degree) (ks := ["machine"]) (nK := 1) (ord := [0]) G_degree (hr.mono (by decide)) ?hg Φ.g_degree Φ.F_degree.kp (kbinds (ks := ["machine"]) (ord := [0]) Φ.F_degree fun _ _ _ _ _ _ us ws h1 h2 => match us, ws, h1, h2 with | [], [_], _, _ => rfl) takes_ncx (pkd_cons (pd_call G__law_copied (hr.mono (by decide)) rfl Φ.g__law_copied Φ.F__law_copied.kp Φ.b__law_copied takes_ncx (pad_cons (pd_var 0) pad_nil)) pkd_nil) <;> rfl))
    (fun caps ds => M.Le.refl _)
def L_4 : LS := lamAt "_law_asks.<locals>.<lambda>" [] ["machine"] (exAt (stE (stAt (top 62) [4])) [1])
def B_lam4 (m_chain_of : List D → M D) : Env → M D :=
  (fun γ => do let ds ← (fun γ => do let d ← (rd 0) γ; pure (d :: (← (fun _ => pure []) γ))) γ; M.need (ds.length = (["machine"] : List Str).length); m_chain_of ds)
def m_lam4 (m_chain_of : List D → M D) (caps ds : List D) : M D := do M.need (ds.length = 0); B_lam4 m_chain_of (startD ["machine"] (ds ++ caps))
theorem clo4 {g : G} {P : Program} {w : World} {K : PySem.W.Frag} {mg : Str → Option Value} {base : Heap} (Φ : Facts K mg) (hk : g.L 4 = L_4) {m_chain_of : List D → M D} (G_chain_of : FnD g P w K mg base 8 Φ.f_chain_of Φ.d_chain_of ["machine"] m_chain_of) : CloD g P w K mg base 9 4 (m_lam4 m_chain_of) :=
  cloD (j := 8) (S := L_4) (mb := B_lam4 m_chain_of) hk (NdefX.nscope_by (by decide +kernel)) (fun _ _ _ _ us hl => match us, hl with | [], _ => rfl)
    (fun A outer s H E f cl c' hr => by unfold B_lam4; exact (pd_call G_chain_of (hr.mono (by decide)) rfl Φ.g_chain_of Φ.F_chain_of.kp Φ.b_chain_of takes_ncx (pad_cons (pd_var 0) pad_nil)))
    (fun caps ds => M.Le.refl _)
def L_5 : LS := lamAt "_law_asks.<locals>.<lambda>" [] ["machine"] (exAt (stE (stAt (top 62) [5])) [1, 0])
def B_lam5 (m_is_chain : List D → M D) (m__law_copied : List D → M D) : Env → M D :=
  (fun γ => do let zs ← (fun γ => do let d ← (fun _ => pure D.non) γ; pure (d :: (← (fun γ => do let d ← (fun γ => do let ds ← (fun γ => do let d ← (rd 0) γ; pure (d :: (← (fun _ => pure []) γ))) γ; M.need (ds.length = (["thing"] : List Str).length); m__law_copied ds) γ; pure (d :: (← (fun _ => pure []) γ))) γ))) γ; M.need (zs.length = 2 ∧ (pick [1, 0] zs).length = (["machine", "thing"] : List Str).length); m_is_chain (pick [1, 0] zs))
def m_lam5 (m_is_chain : List D → M D) (m__law_copied : List D → M D) (caps ds : List D) : M D := do M.need (ds.length = 0); B_lam5 m_is_chain m__law_copied (startD ["machine"] (ds ++ caps))
theorem clo5 {g : G} {P : Program} {w : World} {K : PySem.W.Frag} {mg : Str → Option Value} {base : Heap} (Φ : Facts K mg) (hk : g.L 5 = L_5) {m_is_chain : List D → M D} (G_is_chain : FnD g P w K mg base 8 Φ.f_is_chain Φ.d_is_chain ["machine", "thing"] m_is_chain) {m__law_copied : List D → M D} (G__law_copied : FnD g P w K mg base 9 Φ.f__law_copied Φ.d__law_copied ["thing"] m__law_copied) : CloD g P w K mg base 10 5 (m_lam5 m_is_chain m__law_copied) :=
  cloD (j := 9) (S := L_5) (mb := B_lam5 m_is_chain m__law_copied) hk (NdefX.nscope_by (by decide +kernel)) (fun _ _ _ _ us hl => match us, hl with | [], _ => rfl)
    (fun A outer s H E f cl c' hr => by unfold B_lam5; exact (by refine pd_callK0 (ps := ["machine", "thing"]) (m := m_is_chain) (ks := ["thing", "machine"]) (nK := 2) (ord := [1, 0]) G_is_chain (hr.mono (by decide)) ?hg Φ.g_is_chain Φ.F_is_chain.kp (kbinds (ks := ["thing", "machine"]) (ord := [1, 0]) Φ.F_is_chain fun _ _ _ _ _ _ us ws h1 h2 => match us, ws, h1, h2 with | [], [_, _], _, _ => rfl) takes_ncx (pkd_cons pd_non (pkd_cons (pd_call G__law_copied (hr.mono (by decide)) rfl Φ.g__law_copied Φ.F__law_copied.kp Φ.b__law_copied takes_ncx (pad_cons (pd_var 0) pad_nil)) pkd_nil)) <;> rfl))
    (fun caps ds => M.Le.refl _)
def L_7 : LS := lamAt "law.<locals>.<lambda>" ["odd"] [] (exAt (stE (stAt (top 63) [2])) [0, 1])
def B_lam7 (m_most_ways : List D → M D) : Env → M D :=
  (fun γ => do let ds ← (fun γ => do let d ← (rd 0) γ; pure (d :: (← (fun _ => pure []) γ))) γ; M.need (ds.length = (["machine"] : List Str).length); m_most_ways ds)
def m_lam7 (m_most_ways : List D → M D) (caps ds : List D) : M D := do M.need (ds.length = 1); B_lam7 m_most_ways (startD ["odd"] (ds ++ caps))
theorem clo7 {g : G} {P : Program} {w : World} {K : PySem.W.Frag} {mg : Str → Option Value} {base : Heap} (Φ : Facts K mg) (hk : g.L 7 = L_7) {m_most_ways : List D → M D} (G_most_ways : FnD g P w K mg base 8 Φ.f_most_ways Φ.d_most_ways ["machine"] m_most_ways) : CloD g P w K mg base 9 7 (m_lam7 m_most_ways) :=
  cloD (j := 8) (S := L_7) (mb := B_lam7 m_most_ways) hk (NdefX.nscope_by (by decide +kernel)) (fun _ _ _ _ us hl => match us, hl with | [_], _ => rfl)
    (fun A outer s H E f cl c' hr => by unfold B_lam7; exact (pd_call G_most_ways (hr.mono (by decide)) rfl Φ.g_most_ways Φ.F_most_ways.kp Φ.b_most_ways takes_ncx (pad_cons (pd_var 0) pad_nil)))
    (fun caps ds => M.Le.refl _)
def L_8 : LS := lamAt "law.<locals>.<lambda>" ["odd"] [] (exAt (stE (stAt (top 63) [2])) [1, 1])
def B_lam8 (m_is_chain : List D → M D) : Env → M D :=
  (fun γ => do let ds ← (fun γ => do let d ← (rd 0) γ; pure (d :: (← (fun γ => do let d ← (fun γ => do pure (D.lst (← (fun γ => do let ds ← (fun _ => pure []) γ; M.need (ds.length ≤ sizeLine); pure ds) γ))) γ; pure (d :: (← (fun _ => pure []) γ))) γ))) γ; M.need (ds.length = (["machine", "thing"] : List Str).length); m_is_chain ds)
def m_lam8 (m_is_chain : List D → M D) (caps ds : List D) : M D := do M.need (ds.length = 1); B_lam8 m_is_chain (startD ["odd"] (ds ++ caps))
theorem clo8 {g : G} {P : Program} {w : World} {K : PySem.W.Frag} {mg : Str → Option Value} {base : Heap} (Φ : Facts K mg) (hk : g.L 8 = L_8) {m_is_chain : List D → M D} (G_is_chain : FnD g P w K mg base 8 Φ.f_is_chain Φ.d_is_chain ["machine", "thing"] m_is_chain) : CloD g P w K mg base 9 8 (m_lam8 m_is_chain) :=
  cloD (j := 8) (S := L_8) (mb := B_lam8 m_is_chain) hk (NdefX.nscope_by (by decide +kernel)) (fun _ _ _ _ us hl => match us, hl with | [_], _ => rfl)
    (fun A outer s H E f cl c' hr => by unfold B_lam8; exact (pd_call G_is_chain (hr.mono (by decide)) rfl Φ.g_is_chain Φ.F_is_chain.kp Φ.b_is_chain takes_ncx (pad_cons (pd_var 0) (pad_cons (PFD.pd (pfd_lst pad_nil)) pad_nil))))
    (fun caps ds => M.Le.refl _)
def L_6 : LS := lamAt "_law_is_very.<locals>.<lambda>" [] ["ask", "odd"] (exAt (stE (stAt (top 56) [1])) [1])
def B_lam6  (lam : Nat → List D → List D → M D) : Env → M D :=
  (fun γ => do let f ← rdC 0 γ; let ds ← (fun γ => do let d ← (rd 1) γ; pure (d :: (← (fun _ => pure []) γ))) γ; callM lam f ds)
def m_lam6  (lam : Nat → List D → List D → M D) (caps ds : List D) : M D := do M.need (ds.length = 0); B_lam6  lam (startD ["ask", "odd"] (ds ++ caps))
theorem clo6 {g : G} {P : Program} {w : World} {K : PySem.W.Frag} {mg : Str → Option Value} {base : Heap} (Φ : Facts K mg) (hk : g.L 6 = L_6) {lam : Nat → List D → List D → M D} (hC : ∀ k, CloD g P w K mg base 10 k (lam k)) : CloD g P w K mg base 11 6 (m_lam6  lam) :=
  cloD (j := 10) (S := L_6) (mb := B_lam6  lam) hk (NdefX.nscope_by (by decide +kernel)) (fun _ _ _ _ us hl => match us, hl with | [], _ => rfl)
    (fun A outer s H E f cl c' hr => by unfold B_lam6; exact (pd_callC (i := 0) hC (hr.mono (by decide)) takes_ncx (pad_cons (pd_var 1) pad_nil)))
    (fun caps ds => M.Le.refl _)
end DL

set_option Elab.async false
set_option linter.all false
set_option maxRecDepth 100000
set_option maxHeartbeats 4000000
/-! EA: the stream's defs. -/
namespace DL
open PySem PySem.Spec PyProof.Rows L2
abbrev sDraw : Stmt := top 52
abbrev nDraw : List Str := ["stream", "many", "cell", "digit", "mixed"]
theorem scDraw : FnScope nDraw ["stream", "many"] (defScope sDraw) := ⟨rfl, rfl, rfl, by decide +kernel, rfl, by decide +kernel, by decide +kernel⟩
section
variable {P : Program} {w : World} {K : PySem.W.Frag} {mg : Str → Option Value} {base : Heap} {f : Addr} {cdv : Value} {A : Around} {outer : List PySem.Env} {s : Shared} {H : Hp} {E : XK}
abbrev xDraw (P : Program) (w : World) (K : PySem.W.Frag) (mg : Str → Option Value) (base : Heap) (f : Addr) (cdv : Value) (A : Around) (outer : List PySem.Env) (s : Shared) (H : Hp) (E : XK) : Cx := cxOf (L2.CX P w) P w K mg base nDraw "_law_draw" (defScope sDraw) f cdv A outer s H E
abbrev ixR (K : PySem.W.Frag) (i : Int) : TE := tOp (rIx K) (tVar 0) (tC (.int i))
end
/-- the stream's lists amid a draw, begun in H0 -/
structure DrI (a b : Addr) (H0 H : Hp) (is : List Int) (c k m : Int) : Prop where
  ne : a ≠ b
  la : H a = some (.lst [.ref b, .int c, .int k, .int m])
  lb : H b = some (.lst (is.map V.int))
  ext : ∀ y o, H0 y = some o → y ≠ a → y ≠ b → H y = some o
  c0 : 0 ≤ c
  m0 : 0 ≤ m
  m1 : m < 2147483647
section
variable {K : PySem.W.Frag} {a b : Addr} {H0 H : Hp} {is : List Int} {c k m : Int} {σ : L2.St}
theorem rd_ix {Q : VK} {vs : List V} {i : Int} {v : V} (h0 : σ[0]? = some (some (.ref a))) (hH : H a = some (.lst vs)) (hv : atI vs i = some v) (q : Q v H) : ixR K i σ H Q := ⟨_, h0, .inl ⟨a, vs, i, v, rfl, rfl, .inl (.inl hH), hv, q⟩⟩
theorem st_ix {Q : L2.St → Hp → Prop} {vs : List V} {i : Int} {j : Nat} {v : V} (h0 : σ[0]? = some (some (.ref a))) (hH : H a = some (.lst vs)) (hv : ixN vs.length i = some j) (q : Q σ (upd H a (.lst (vs.set j v)))) : gSub (tVar 0) (tC (.int i)) rSetL v σ H Q :=
  ⟨_, h0, a, vs, i, j, rfl, rfl, hH, hv, q⟩
theorem DrI.setA (x : DrI a b H0 H is c k m) {c' k' m' : Int} (h0 : 0 ≤ c') (h1 : 0 ≤ m') (h2 : m' < 2147483647) : DrI a b H0 (upd H a (.lst [.ref b, .int c', .int k', .int m'])) is c' k' m' :=
  ⟨x.ne, upd_same, by rw [upd_ne (Ne.symm x.ne)]; exact x.lb, fun y o e h1 h2 => by rw [upd_ne h1]; exact x.ext y o e h1 h2, h0, h1, h2⟩
theorem DrI.setB (x : DrI a b H0 H is c k m) (is' : List Int) : DrI a b H0 (upd H b (.lst (is'.map V.int))) is' c k m :=
  ⟨x.ne, by rw [upd_ne x.ne]; exact x.la, upd_same, fun y o e h1 h2 => by rw [upd_ne h2]; exact x.ext y o e h1 h2, x.c0, x.m0, x.m1⟩
theorem DrI.new (x : DrI a b H0 H is c k m) {p : Addr} {o : HO} (hp : H p = none) : DrI a b H0 (upd H p o) is c k m :=
  ⟨x.ne, by rw [upd_ne (ne_of_none x.la hp)]; exact x.la, by rw [upd_ne (ne_of_none x.lb hp)]; exact x.lb, fun y u e h1 h2 => by
    have z := x.ext y u e h1 h2
    rw [upd_ne (ne_of_none z hp)]
    exact z, x.c0, x.m0, x.m1⟩
theorem dp_ints {F : Hp} : ∀ is : List Int, DpAll K F (is.map V.int) (is.map PyData.int)
  | [] => .nil
  | i :: is => .cons (.int i) (dp_ints is)
theorem shaped_ints (is : List Int) : SeqAt.shaped (.list (is.map PyData.int)) = true := by
  have h1 : ∀ is : List Int, PyData.canLayAll0 (is.map PyData.int) = true := fun is => by
    induction is with
    | nil => rfl
    | cons i is ih => simp only [List.map_cons, PyData.canLayAll0, PyData.canLay0, ih, Bool.and_self]
  have h2 := PySem.W.depth_ints is
  unfold SeqAt.shaped
  rw [PyData.canLay0, h1, Bool.true_and, decide_eq_true_eq, PyData.depth, h2]
  decide
end
/-! the parts of draw's reading -/
abbrev rPl : R2 := rI0 fun i j => .int (i + j)
abbrev rTi : R2 := rI CMul fun i j => .int (i * j)
abbrev rMo : R2 := rI (fun _ j => 0 < j) fun i j => .int (i % j)
abbrev rPo : R2 := rI CPow fun i j => .int (i ^ j.toNat)
abbrev rIn1 : List V → Hp → VK → Prop := fun xs H Q => (∃ i, xs = [V.int i] ∧ Q (V.int i) H) ∨ ∃ k, xs = [V.bl k] ∧ Q (V.int (if k = true then 1 else 0)) H
abbrev rAb : List V → Hp → VK → Prop := fun xs H Q => ∃ i, xs = [V.int i] ∧ Q (V.int (if i < 0 then -i else i)) H
abbrev tInt (t : TE) : TE := tCB rIn1 (tCons t tNil)
abbrev ci (i : Int) : TE := tC (.int i)
def dT1 (K : PySem.W.Frag) : TS := tAsg (tOp rPl (ixR K 2) (ci 1)) (gSub (tVar 0) (ci 2) rSetL)
def dCond (K : PySem.W.Frag) : TT := tAnd (tTest (tOp rEq (ixR K 1) (ci 0))) (tTest (tOp (rPy K cEq fun p q => !PyData.eqv p q) (ixR K 0) (tLst tNil)))
def dB1 (K : PySem.W.Frag) : TS := tAsg (tCB rAb (tCons (tBM K "list" rPopAt (ixR K 0) (tCons (ci 0) tNil)) tNil)) (gName 2)
def dB2 (K : PySem.W.Frag) : TS := tAsg (tOp rMo (tInt (tOp rPl (tOp rPl (tOp rTi (ixR K 3) (ci 8191)) (tVar 2)) (ci 3))) (ci 2147483647)) (gSub (tVar 0) (ci 3) rSetL)
def dB3 : TS := tAsg (tIf (tTest (tOp (rI0 fun i j => .bl (decide (j ≤ i))) (tVar 2) (tOp rPo (ci 10) (ci 18)))) (tVar 2) (ci 0)) (gSub (tVar 0) (ci 1) rSetL)
def dIf (K : PySem.W.Frag) : TS := tIfS (tTest (tOp (rI0 fun i j => .bl (decide (j < i))) (ixR K 1) (ci 0)))
  (tSeq (tAsg (tOp rMo (tInt (ixR K 1)) (tVar 1)) (gName 3)) (tSeq (tAsg (tOp (rI CDiv fun i j => .int (i / j)) (ixR K 1) (tVar 1)) (gSub (tVar 0) (ci 1) rSetL)) (tRet (tVar 3)))) tNext
def dMix (K : PySem.W.Frag) : TS := tAsg (tOp rMo (tInt (tOp rPo (tOp rPl (tOp rPl (ixR K 3) (tOp rTi (ci 7919) (ixR K 2))) (ci 104729)) (ci 5))) (ci 2147483629)) (gName 4)
def dRet (K : PySem.W.Frag) : TS := tRet (tOp rMo (tOp rMo (tInt (tOp rPo (tOp rPl (tOp rPl (tOp rTi (tVar 4) (ci 48271)) (tOp rTi (ci 30011) (ixR K 2))) (ci 29)) (ci 3))) (ci 1000000007)) (tVar 1))
def dEnd (K : PySem.W.Frag) : TS := tSeq (dIf K) (tSeq (dMix K) (dRet K))
def drAll (K : PySem.W.Frag) : TS := tSeq (dT1 K) (tSeq (tWhile (dCond K) (tSeq (dB1 K) (tSeq (dB2 K) dB3))) (dEnd K))
section
variable {P : Program} {w : World} {K : PySem.W.Frag} {mg : Str → Option Value} {base : Heap} {f : Addr} {cdv : Value} {A : Around} {outer : List PySem.Env} {s : Shared} {H : Hp} {E : XK}
theorem draw_ps (gA : mg "abs" = none) (gI : mg "int" = none) {j : Nat} (hr : Room j (A.deeper (envOfC "_law_draw" (defScope sDraw) s.heap.objs.size f cdv))) : PSs (xDraw P w K mg base f cdv A outer s H E) (defBody sDraw) (drAll K) := by
  have hu : (A.deeper (envOfC "_law_draw" (defScope sDraw) s.heap.objs.size f cdv)).units + 64 < cLine := by
    have := hr.un
    omega
  have h : ∃ t, PSs (xDraw P w K mg base f cdv A outer s H E) (defBody sDraw) t ∧ t = drAll K := ⟨_, pss_cons (ps_asg (pe_op op_add (pe_ix ix_seq (pv 0) pe_int (fun _ _ => rfl)) pe_int) (pg_sub (pv 0) pe_int set_list))
    (pss_cons (ps_while PassesOwn.leaving (pw_and (pt_cmpR op_eq (pe_ix ix_seq (pv 0) pe_int (fun _ _ => rfl)) pe_int (nomark _)) (pw_and1 (pt_cmpR (op_neP (X := xDraw P w K mg base f cdv A outer s H E) hu) (pe_ix ix_seq (pv 0) pe_int (fun _ _ => rfl)) (pe_lst pa_nil) (nomark _)))).pt
      (pss_cons (ps_set (i := 2) scDraw.nd rfl (Or.inl rfl) (pe_callB call_abs rfl gA (by decide +kernel) (pa_cons (pe_bm PySem.F.plainAttrs_list PySem.F.slot_list_pop PySem.F.type_list_pop mt_popAt (pe_ix ix_seq (pv 0) pe_int (fun _ _ => rfl)) (pa_cons pe_int pa_nil)) pa_nil)))
      (pss_cons (ps_asg (pe_op op_mod (pe_callTy call_int1 rfl gI (by decide +kernel) (pa_cons (pe_op op_add (pe_op op_add (pe_op op_mul (pe_ix ix_seq (pv 0) pe_int (fun _ _ => rfl)) pe_int) (pv 2)) pe_int) pa_nil)) pe_int) (pg_sub (pv 0) pe_int set_list))
      (pss_one (ps_asg (pe_ifExp (pt_cmpR op_ge (pv 2) (pe_op op_pow pe_int pe_int) (nomark _)) (pv 2) pe_int) (pg_sub (pv 0) pe_int set_list))))))
    (pss_cons (ps_if (pt_cmpR op_gt (pe_ix ix_seq (pv 0) pe_int (fun _ _ => rfl)) pe_int (nomark _))
      (pss_cons (ps_set (i := 3) scDraw.nd rfl (Or.inl rfl) (pe_op op_mod (pe_callTy call_int1 rfl gI (by decide +kernel) (pa_cons (pe_ix ix_seq (pv 0) pe_int (fun _ _ => rfl)) pa_nil)) (pv 1)))
      (pss_cons (ps_asg (pe_op op_fdiv (pe_ix ix_seq (pv 0) pe_int (fun _ _ => rfl)) (pv 1)) (pg_sub (pv 0) pe_int set_list))
      (pss_one (ps_ret (pv 3))))) pss_nil)
    (pss_cons (ps_set (i := 4) scDraw.nd rfl (Or.inl rfl) (pe_op op_mod (pe_callTy call_int1 rfl gI (by decide +kernel) (pa_cons (pe_op op_pow (pe_op op_add (pe_op op_add (pe_ix ix_seq (pv 0) pe_int (fun _ _ => rfl)) (pe_op op_mul pe_int (pe_ix ix_seq (pv 0) pe_int (fun _ _ => rfl)))) pe_int) pe_int) pa_nil)) pe_int))
    (pss_one (ps_ret (pe_op op_mod (pe_op op_mod (pe_callTy call_int1 rfl gI (by decide +kernel) (pa_cons (pe_op op_pow (pe_op op_add (pe_op op_add (pe_op op_mul (pv 4) pe_int) (pe_op op_mul pe_int (pe_ix ix_seq (pv 0) pe_int (fun _ _ => rfl)))) pe_int) pe_int) pa_nil)) pe_int) (pv 1))))))), rfl⟩
  obtain ⟨t, h1, h2⟩ := h
  rw [h2] at h1
  exact h1
end
section
variable {K : PySem.W.Frag} {a b : Addr} {H0 H : Hp} {is : List Int} {c k m many : Int} {x2 : Option V}
theorem ifT {c : Bool} {A B : Prop} (h : c = true) (x : A) : if c = true then A else B := by
  rw [if_pos h]
  exact x
theorem ifF {c : Bool} {A B : Prop} (h : c = false) (x : B) : if c = true then A else B := by
  rw [h, if_neg Bool.false_ne_true]
  exact x
theorem pow_ok {i j : Int} (h1 : 0 ≤ j) (h2 : j ≤ 1000000) (h3 : i.natAbs < 2 ^ 64) : CPow i j := ⟨h1, h2, h3⟩
theorem dr_mix (x : DrI a b H0 H is c k m) (hk : 0 ≤ k) (hk2 : k ≤ 2 ^ 40) (hm0 : 0 < many) {D : Ends} (hQ : ∀ r, 0 ≤ r → r < many → D.rt (.int r) H) : tSeq (dMix K) (dRet K) D [some (.ref a), some (.int many), x2, none, none] H := by
  have mx := x.m0
  have mx1 := x.m1
  refine rd_ix rfl x.la (v := .int m) rfl (rd_ix rfl x.la (v := .int k) rfl ⟨7919, k, rfl, rfl, .inl ⟨by decide, by decide⟩, m, 7919 * k, rfl, rfl, _, _, rfl, rfl, _, _, rfl, rfl, pow_ok (by decide) (by decide) ?_, .inl ⟨_, rfl, _, _, rfl, rfl, (show (0 : Int) < 2147483629 by decide), ?_⟩⟩)
  · omega
  · show dRet K D ([some (.ref a), some (.int many), x2, none, none].set 4 (some (.int (((m + 7919 * k + 104729) ^ (5 : Int).toNat) % 2147483629)))) H
    generalize hx : ((m + 7919 * k + 104729) ^ (5 : Int).toNat) % 2147483629 = mixed
    have b0 : 0 ≤ mixed := by
      rw [← hx]
      exact Int.emod_nonneg _ (by decide)
    have b1 : mixed < 2147483629 := by
      rw [← hx]
      exact Int.emod_lt_of_pos _ (by decide)
    refine ⟨.int mixed, rfl, mixed, 48271, rfl, rfl, .inl ⟨by omega, by omega⟩, rd_ix rfl x.la (v := .int k) rfl ⟨30011, k, rfl, rfl, .inl ⟨by decide, by decide⟩, _, _, rfl, rfl, _, _, rfl, rfl, _, _, rfl, rfl, pow_ok (by decide) (by decide) ?_, .inl ⟨_, rfl, _, _, rfl, rfl, (show (0 : Int) < 1000000007 by decide), .int many, rfl, _, many, rfl, rfl, hm0, ?_⟩⟩⟩
    · omega
    · exact hQ _ (Int.emod_nonneg _ (by omega)) (Int.emod_lt_of_pos _ hm0)
theorem dr_end (x : DrI a b H0 H is c k m) (hk : 0 ≤ k) (hk2 : k ≤ 2 ^ 40) (hm0 : 0 < many) (hm1 : many < 1073741824) {D : Ends} (hQ : ∀ c m r H', DrI a b H0 H' is c k m → 0 ≤ r → r < many → D.rt (.int r) H') : dEnd K D [some (.ref a), some (.int many), x2, none, none] H := by
  refine rd_ix rfl x.la (v := .int c) rfl ⟨c, 0, rfl, rfl, decide (0 < c), rfl, ?_⟩
  by_cases hc : 0 < c
  · refine ifT (decide_eq_true hc) ?_
    refine rd_ix rfl x.la (v := .int c) rfl (.inl ⟨c, rfl, .int many, rfl, c, many, rfl, rfl, hm0, ?_⟩)
    refine rd_ix rfl x.la (v := .int c) rfl ⟨.int many, rfl, c, many, rfl, rfl, ⟨hm0, hm1⟩, ?_⟩
    refine st_ix (j := 1) rfl x.la rfl ⟨.int (c % many), rfl, ?_⟩
    exact hQ (c / many) m (c % many) _ (x.setA (Int.ediv_nonneg (by omega) (by omega)) x.m0 x.m1) (Int.emod_nonneg _ (by omega)) (Int.emod_lt_of_pos _ hm0)
  · refine ifF (decide_eq_false hc) ?_
    exact dr_mix x hk hk2 hm0 fun r h1 h2 => hQ c m r H x h1 h2
theorem dr_turn {i0 : Int} (x : DrI a b H0 H (i0 :: is) 0 k m) {D : Ends} (hQ : ∀ c m x2 H', DrI a b H0 H' is c k m → D.nx [some (.ref a), some (.int many), x2, none, none] H') : tSeq (dB1 K) (tSeq (dB2 K) dB3) D [some (.ref a), some (.int many), x2, none, none] H := by
  have y := x.setB is
  refine rd_ix rfl x.la (v := .ref b) rfl ⟨.inl ⟨rfl, _, .inl (.inl x.lb)⟩, b, _, 0, 0, .int i0, rfl, rfl, x.lb, by decide, by decide, ?_, rfl, i0, rfl, ?_⟩
  · simp [seqIndex?]
  · generalize hcell : (if i0 < 0 then -i0 else i0) = cell
    have b0 : 0 ≤ cell := by
      rw [← hcell]
      split <;> omega
    have e1 : upd H b (.lst (((i0 :: is).map V.int).eraseIdx 0)) = upd H b (.lst (is.map V.int)) := rfl
    rw [e1]
    have mx := y.m0
    have mx1 := y.m1
    refine rd_ix rfl y.la (v := .int m) rfl ⟨m, 8191, rfl, rfl, .inl ⟨by omega, by omega⟩, .int cell, rfl, _, _, rfl, rfl, _, _, rfl, rfl, .inl ⟨_, rfl, _, _, rfl, rfl, (show (0 : Int) < 2147483647 by decide), ?_⟩⟩
    have z0 : 0 ≤ (m * 8191 + cell + 3) % 2147483647 := Int.emod_nonneg _ (by decide)
    have z1 : (m * 8191 + cell + 3) % 2147483647 < 2147483647 := Int.emod_lt_of_pos _ (by decide)
    refine st_ix (j := 3) rfl y.la rfl ?_
    have u := y.setA (c' := 0) (k' := k) (m' := (m * 8191 + cell + 3) % 2147483647) (Int.le_refl 0) z0 z1
    refine ⟨.int cell, rfl, 10, 18, rfl, rfl, pow_ok (by decide) (by decide) (by decide), cell, 10 ^ (18 : Int).toNat, rfl, rfl, decide (10 ^ (18 : Int).toNat ≤ cell), rfl, ?_⟩
    by_cases hc : (10 : Int) ^ (18 : Int).toNat ≤ cell
    · refine ifT (decide_eq_true hc) ?_
      refine ⟨.int cell, rfl, st_ix (j := 1) rfl u.la rfl (hQ cell _ _ _ (u.setA b0 z0 z1))⟩
    · refine ifF (decide_eq_false hc) ?_
      exact st_ix (j := 1) rfl u.la rfl (hQ 0 _ _ _ (u.setA (Int.le_refl 0) z0 z1))
theorem dr_all (x : DrI a b H0 H is c k m) (hk : 0 ≤ k) (hk2 : k < 2 ^ 40) (hm0 : 0 < many) (hm1 : many < 1073741824) {D : Ends} (hQ : ∀ is c m r H', DrI a b H0 H' is c (k + 1) m → 0 ≤ r → r < many → D.rt (.int r) H') : drAll K D [some (.ref a), some (.int many), none, none, none] H := by
  refine rd_ix rfl x.la (v := .int k) rfl ⟨k, 1, rfl, rfl, st_ix (j := 2) rfl x.la rfl ?_⟩
  have x1 : DrI a b H0 (upd H a (.lst [.ref b, .int c, .int (k + 1), .int m])) is c (k + 1) m := x.setA x.c0 x.m0 x.m1
  refine ⟨fun n σ H' => ∃ is c m x2, n = is.length ∧ σ = [some (V.ref a), some (V.int many), x2, none, none] ∧ DrI a b H0 H' is c (k + 1) m, ⟨is.length, is, c, m, none, rfl, rfl, x1⟩, ?_⟩
  rintro n σ H1 ⟨is1, c1, m1, x2, rfl, rfl, y⟩
  refine rd_ix rfl y.la (v := .int c1) rfl ⟨rfl, _, rfl, ?_⟩
  by_cases hc : c1 = 0
  · refine ifT (by rw [hc]; rfl) ?_
    refine rd_ix rfl y.la (v := .ref b) rfl ⟨by decide, fun p hp => ?_⟩
    have yp := y.new (o := .lst []) hp
    refine ⟨.list (is1.map PyData.int), .list [], .lst (.inl (.inl yp.lb)) (dp_ints is1), .lst (.inl (.inl upd_same)) .nil, ⟨shaped_ints is1, shaped_ints []⟩, _, rfl, ?_⟩
    cases is1 with
    | nil =>
      refine ifF (by simp [PyData.eqv, PyData.eqvAll]) ?_
      exact dr_end yp (by omega) (by omega) hm0 hm1 fun c m r H' z h1 h2 => hQ _ _ _ _ _ z h1 h2
    | cons i0 is1 =>
      refine ifT (by simp [PyData.eqv, PyData.eqvAll]) ?_
      rw [hc] at yp
      refine ⟨fun σ' H' => ∃ c m x2, σ' = [some (V.ref a), some (V.int many), x2, none, none] ∧ DrI a b H0 H' is1 c (k + 1) m, fun σ' H' ⟨c, m, x2, e, z⟩ => ⟨is1.length, Nat.lt_succ_self _, is1, c, m, x2, rfl, e, z⟩, ?_⟩
      exact dr_turn yp fun c m x2 H' z => ⟨c, m, x2, rfl, z⟩
  · refine ifF (decide_eq_false (fun z => hc (V.int.inj z))) (ifF rfl ?_)
    exact dr_end y (by omega) (by omega) hm0 hm1 fun c m r H' z h1 h2 => hQ _ _ _ _ _ z h1 h2
end
/-- what a draw gives: any number below many; one draw more -/
def mDraw (g : G) : List D → M D
  | [.ref a, .int many] => ⟨fun n Q _ => a = g.sa ∧ 0 < many ∧ many < 1073741824 ∧ n < 2 ^ 40 ∧ ∀ r : Int, 0 ≤ r → r < many → Q (.int r) (n + 1), fun h hq _ => ⟨h.1, h.2.1, h.2.2.1, h.2.2.2.1, fun r h0 h1 => hq _ _ (h.2.2.2.2 r h0 h1)⟩⟩
  | _ => M.stuck
theorem tabs_keep {T : List (Addr × Str)} {H H' : Hp} (t : LamX.Tabs T H) (h : ∀ y o, H y = some o → (∀ vs, o ≠ .lst vs) → H' y = some o) : LamX.Tabs T H' := fun p hp => by
  obtain ⟨ps, e1, e2, e3⟩ := t p hp
  refine ⟨ps, h _ _ e1 fun vs z => (nomatch z), e2, fun pos cv hc => ?_⟩
  obtain ⟨c', q1, q2⟩ := e3 pos cv hc
  exact ⟨c', q1, h _ _ q2 fun vs z => codeO_ne_lst z⟩
section
variable {g : G} {P : Program} {w : World} {K : PySem.W.Frag} {mg : Str → Option Value} {base : Heap} {f : Addr} {fd : FuncData}
theorem draw_ok (F : FnP K "_law_draw" sDraw f fd) (gA : mg "abs" = none) (gI : mg "int" = none) : FnD g P w K mg base 1 f fd ["stream", "many"] (mDraw g) := by
  refine FunD.ok F scDraw (fun vs H Q E ⟨F, ds, n, e, _, _, r, _⟩ => by rw [r.length, e]) fun cdv A outer s H vs Q E hr ⟨Fr, ds, n, e, sub, wk, rl, q⟩ => ⟨_, draw_ps gA gI hr, ?_⟩
  obtain ⟨a, many, rfl⟩ : ∃ a many, ds = [.ref a, .int many] := by
    match ds, e, q with
    | [x, y], _, q =>
      cases x with
      | ref a =>
        cases y with
        | int many => exact ⟨a, many, rfl⟩
        | _ => exact q.elim
      | _ => cases y <;> exact q.elim
  obtain ⟨rfl, hm0, hm1, hn, q⟩ := q
  cases rl with
  | cons r1 rl =>
    cases r1
    cases rl with
    | cons r2 rl =>
      cases r2
      cases rl
      obtain ⟨⟨hne, is, c, k, m, h1, h2, h3, h4, h5, h6, h7⟩, tb⟩ := wk
      have x : DrI g.sa g.sb H H is c k m := ⟨hne, h1, h2, fun _ _ e _ _ => e, h3, h6, h7⟩
      refine dr_all x h4 (by omega) hm0 hm1 fun is' c' m' r H' y hr0 hr1 => ?_
      refine q r hr0 hr1 Fr H' (.int r) ⟨fun y' o e nx => ?_, FLe.refl _, fun y' o e => ?_, fun y' z => .inl z, ⟨⟨hne, is', c', k + 1, m', y.la, y.lb, y.c0, by omega, by omega, y.m0, y.m1⟩, tabs_keep tb fun y' o e nl => ?_⟩⟩ (.int r)
      · exact y.ext y' o e (fun z => nx (.inl z)) fun z => nx (.inr (.inl z))
      · obtain ⟨e1, e2⟩ := sub y' o e
        exact ⟨y.ext y' o e1 (fun z => e2 (.inl z)) fun z => e2 (.inr (.inl z)), e2⟩
      · refine y.ext y' o e (fun z => ?_) fun z => ?_
        · rw [z, h1] at e
          exact nl _ (Option.some.inj e).symm
        · rw [z, h2] at e
          exact nl _ (Option.some.inj e).symm
end
abbrev sStream : Stmt := top 51
abbrev nStream : List Str := ["script"]
theorem scStream : FnScope nStream ["script"] (defScope sStream) := ⟨rfl, rfl, rfl, by decide +kernel, rfl, by decide +kernel, by decide +kernel⟩
def spStream (K : PySem.W.Frag) : Sp := fun vs H Q _ => ∃ (a : Addr) (is : List Int), vs = [.ref a] ∧ SqL K H a (is.map V.int) ∧
  ∀ sb sa : Addr, H sb = none → sa ≠ sb → H sa = none → Q (.ref sa) (upd (upd H sb (.lst (is.map V.int))) sa (.lst [.ref sb, .int 0, .int 0, .int 17]))
section
variable {P : Program} {w : World} {K : PySem.W.Frag} {mg : Str → Option Value} {base : Heap} {f : Addr} {fd : FuncData}
theorem stream_ok (F : FnP K "_law_stream" sStream f fd) (gL : mg "list" = none) : FnOk P w K mg base (L2.CX P w) 1 f fd ["script"] (spStream K) := by
  refine FunD.ok F scStream (fun vs H Q E ⟨a, is, e, _⟩ => by rw [e]; rfl) fun cdv A outer s H vs Q E hr ⟨a, is, e, sq, q⟩ => ⟨_, pss_one (ps_ret (pe_lst (pa_cons (pe_callTy call_list_of rfl gL (by decide +kernel) (pa_cons (pv 0) pa_nil)) (pa_cons pe_int (pa_cons pe_int (pa_cons pe_int pa_nil)))))), ?_⟩
  subst e
  refine ⟨.ref a, rfl, a, _, rfl, .inl sq, fun sb hb => ⟨(show 4 ≤ sizeLine by decide), fun sa ha => ?_⟩⟩
  have ne : sa ≠ sb := fun z => by
    rw [z, upd_same] at ha
    cases ha
  rw [upd_ne ne] at ha
  exact q sb sa hb ne ha
end
end DL

set_option Elab.async false
set_option linter.all false
set_option maxRecDepth 100000
set_option maxHeartbeats 4000000
/-! FC: _law_met, _law_asks (k73). -/
namespace DL
open PySem PySem.Spec PyProof.Rows L2
/-! ### _law_met -/
abbrev s__law_met : Stmt := top 61
abbrev n__law_met : List Str := ["ask", "e"]
theorem sc__law_met : FnScope n__law_met ["ask"] (defScope s__law_met) := ⟨rfl, rfl, rfl, by decide +kernel, rfl, by decide +kernel, by decide +kernel⟩
def subMet (nm : Str) : Option Bool := if nm = "BadMachine" then some true else none
def B__law_met (lam : Nat → List D → List D → M D) : Env → M (Fl × Env) :=
  tryM 2 1 subMet (fun γ => do pure (Fl.rt (← (fun γ => do let ds ← (fun γ => do let d ← (fun _ => pure (D.str "told")) γ; pure (d :: (← (fun γ => do let d ← (fun γ => do let f ← rd 0 γ; callM lam f []) γ; pure (d :: (← (fun _ => pure []) γ))) γ))) γ; M.need (ds.length ≤ sizeLine); pure (D.tup ds)) γ), γ))
    (fun a nm dd => fun γ => do pure (Fl.rt (← (fun γ => do let ds ← (fun γ => do let d ← (fun _ => pure (D.str "machine")) γ; pure (d :: (← (fun γ => do let d ← (rdF 1 a nm "BadMachine" "machine" dd) γ; pure (d :: (← (fun _ => pure []) γ))) γ))) γ; M.need (ds.length ≤ sizeLine); pure (D.tup ds)) γ), γ))
theorem b__law_met {g : G} {P : Program} {w : World} {K : PySem.W.Frag} {mg : Str → Option Value} {base : Heap} (Φ : Facts K mg) {lam : Nat → List D → List D → M D} {j : Nat} (hC : ∀ k, CloD g P w K mg base j k (lam k)) {f : Addr} {cdv : Value} {A : Around} {outer : List PySem.Env} {s : Shared} {H : Hp} {E : XK} (hr : Room j (A.deeper (envOfC "_law_met" (defScope s__law_met) s.heap.objs.size f cdv))) :
    PSsD g (cxOf (L2.CX P w) P w K mg base n__law_met "_law_met" (defScope s__law_met) f cdv A outer s H E) (fun cls d _ H => E cls d H) (defBody s__law_met) (B__law_met lam) :=
  pssd_one (psd_try (i := 1) (nme := "e") (c := .ref Φ.c_BadMachine) rfl rfl sc__law_met.nd rfl rfl ⟨rfl, rfl, .inl Φ.x_BadMachine.gC⟩ takes_cx (fun nm b C' h1 h2 => by
      unfold subMet at h1
      split at h1
      · rename_i e
        cases h1
        have h3 := Φ.x_BadMachine.gC
        have h2 : mg nm = some (.ref C') := h2
        rw [e, h3] at h2
        cases h2
        exact Φ.x_BadMachine.te
      · cases h1)
    (fun W pn xe tk _ => pssd_one (psd_ret (pd_tup (pad_cons pd_str (pad_cons (pd_callC0 (i := 0) hC hr tk) pad_nil)))))
    (fun a oe cls d pn nm hz hf hc => pssd_one (psd_ret (pd_tup (pad_cons pd_str (pad_cons (pd_fld 1 Φ.x_BadMachine hz hf hc) pad_nil))))))
/-! ### _law_asks -/
abbrev s__law_asks : Stmt := top 62
abbrev n__law_asks : List Str := ["machine", "found"]
theorem sc__law_asks : FnScope n__law_asks ["machine"] (defScope s__law_asks) := ⟨rfl, rfl, rfl, by decide +kernel, rfl, by decide +kernel, by decide +kernel⟩
def lamTab : Nat → LS
  | 0 => L_0 | 1 => L_1 | 2 => L_2 | 3 => L_3 | 4 => L_4 | 5 => L_5 | 6 => L_6 | 7 => L_7 | _ => L_8
/-- the law's own things -/
structure GOk {K : PySem.W.Frag} {mg : Str → Option Value} (Φ : Facts K mg) (base : Heap) (g : G) : Prop where
  T : g.T = [(Φ.P__law_is_very, ("_law_is_very.<locals>.<lambda>" : Str)), (Φ.P__law_asks, ("_law_asks.<locals>.<lambda>" : Str)), (Φ.P_law, ("law.<locals>.<lambda>" : Str))]
  L : g.L = lamTab
  t1 : LamX.TabB base mg Φ.cd__law_is_very Φ.P__law_is_very
  t2 : LamX.TabB base mg Φ.cd__law_asks Φ.P__law_asks
  t3 : LamX.TabB base mg Φ.cd_law Φ.P_law
section
variable {g : G} {P : Program} {w : World} {K : PySem.W.Frag} {mg : Str → Option Value} {base : Heap} {Φ : Facts K mg}
theorem GOk.at1 (O : GOk Φ base g) {X : Cx} (hb : X.base = base) (hm : X.mg = mg) (hc : X.env.code = .ref Φ.cd__law_is_very) (hq : X.env.qual ++ "<lambda>" = "_law_is_very.<locals>.<lambda>") : LamAt g X Φ.cd__law_is_very Φ.P__law_is_very := by
  refine ⟨by rw [hb, hm]; exact O.t1, hc, by rw [O.T, hq]; simp, fun p hp e => ?_⟩
  rw [O.T] at hp
  rw [hq]
  simp only [List.mem_cons, List.not_mem_nil, or_false] at hp
  rcases hp with rfl | rfl | rfl
  · rfl
  · exact absurd e.symm Φ.ne__law_is_very__law_asks
  · exact absurd e.symm Φ.ne__law_is_very_law
theorem GOk.at2 (O : GOk Φ base g) {X : Cx} (hb : X.base = base) (hm : X.mg = mg) (hc : X.env.code = .ref Φ.cd__law_asks) (hq : X.env.qual ++ "<lambda>" = "_law_asks.<locals>.<lambda>") : LamAt g X Φ.cd__law_asks Φ.P__law_asks := by
  refine ⟨by rw [hb, hm]; exact O.t2, hc, by rw [O.T, hq]; simp, fun p hp e => ?_⟩
  rw [O.T] at hp
  rw [hq]
  simp only [List.mem_cons, List.not_mem_nil, or_false] at hp
  rcases hp with rfl | rfl | rfl
  · exact absurd e Φ.ne__law_is_very__law_asks
  · rfl
  · exact absurd e.symm Φ.ne__law_asks_law
theorem GOk.at3 (O : GOk Φ base g) {X : Cx} (hb : X.base = base) (hm : X.mg = mg) (hc : X.env.code = .ref Φ.cd_law) (hq : X.env.qual ++ "<lambda>" = "law.<locals>.<lambda>") : LamAt g X Φ.cd_law Φ.P_law := by
  refine ⟨by rw [hb, hm]; exact O.t3, hc, by rw [O.T, hq]; simp, fun p hp e => ?_⟩
  rw [O.T] at hp
  rw [hq]
  simp only [List.mem_cons, List.not_mem_nil, or_false] at hp
  rcases hp with rfl | rfl | rfl
  · exact absurd e Φ.ne__law_is_very_law
  · exact absurd e Φ.ne__law_asks_law
  · rfl
abbrev lamX (C : List (Str × Addr)) (k : Nat) : Env → M D := fun _ => pure (D.pclo k (cloFrom C (lamTab k).scope.names []))
def B__law_asks (C : List (Str × Addr)) : Env → M (D × Env) :=
  seqRD (fun γ => do pure (Fl.nx, setOwM 1 (← (fun γ => do let ds ← (fun γ => do let d ← (lamX C 0) γ; pure (d :: (← (fun _ => pure []) γ))) γ; M.need (ds.length ≤ sizeLine); pure ds) γ) γ))
  (seqRD (fun γ => do let ds ← ownM 1 γ; let d ← (lamX C 1) γ; M.need (ds.length < sizeLine); pure (Fl.nx, setOwM 1 (ds ++ [d]) γ))
  (seqRD (fun γ => do let ds ← ownM 1 γ; let d ← (lamX C 2) γ; M.need (ds.length < sizeLine); pure (Fl.nx, setOwM 1 (ds ++ [d]) γ))
  (seqRD (fun γ => do let ds ← ownM 1 γ; let d ← (lamX C 3) γ; M.need (ds.length < sizeLine); pure (Fl.nx, setOwM 1 (ds ++ [d]) γ))
  (seqRD (fun γ => do let ds ← ownM 1 γ; let d ← (lamX C 4) γ; M.need (ds.length < sizeLine); pure (Fl.nx, setOwM 1 (ds ++ [d]) γ))
  (retRD (fun γ => do let x ← (rdB 1) γ; dAdd x (← (fun γ => do pure (D.lst (← (fun γ => do let ds ← (fun γ => do let d ← (lamX C 5) γ; pure (d :: (← (fun _ => pure []) γ))) γ; M.need (ds.length ≤ sizeLine); pure ds) γ))) γ)))))))
theorem free_asks (k : Nat) (hk : k < 6) : ∀ y ∈ (lamTab k).scope.names, y.2 = .free → (defScope s__law_asks).names.lookup y.1 = some .cell ∨ (defScope s__law_asks).names.lookup y.1 = some .free := by
  have h : ∀ k < 6, (lamTab k).scope.names.all (fun y => !decide (y.2 = .free) || decide ((defScope s__law_asks).names.lookup y.1 = some .cell) || decide ((defScope s__law_asks).names.lookup y.1 = some .free)) = true := by decide +kernel
  intro y hy e
  have h2 := List.all_eq_true.mp (h k hk) y hy
  simp only [Bool.or_eq_true, Bool.not_eq_true', decide_eq_false_iff_not, decide_eq_true_eq] at h2
  rcases h2 with (h2 | h2) | h2
  · exact absurd e h2
  · exact .inl h2
  · exact .inr h2
theorem b__law_asks (O : GOk Φ base g) {f : Addr} {cdv : Value} (hcd : cdv = .ref Φ.cd__law_asks) {A : Around} {outer : List PySem.Env} {s : Shared} {H : Hp} {E : XK} :
    PRD g (cxOf (L2.CX P w) P w K mg base n__law_asks "_law_asks" (defScope s__law_asks) f cdv A outer s H E) (fun cls d _ H => E cls d H) (defBody s__law_asks) (B__law_asks (envOfC "_law_asks" (defScope s__law_asks) s.heap.objs.size f cdv).cells) := by
  have L : LamAt g (cxOf (L2.CX P w) P w K mg base n__law_asks "_law_asks" (defScope s__law_asks) f cdv A outer s H E) Φ.cd__law_asks Φ.P__law_asks := O.at2 rfl rfl hcd rfl
  have hL : ∀ k, g.L k = lamTab k := fun k => by rw [O.L]
  unfold B__law_asks
  refine prd_cons (psd_setOw (i := 1) sc__law_asks.nd rfl (by first | exact Or.inl rfl | exact Or.inr rfl) (pfd_lst (pad_cons (pd_lam 0 (hL 0) L rfl rfl (free_asks 0 (by decide))) pad_nil))) ?_
  refine prd_cons (psd_append (i := 1) (pd_lam 1 (hL 1) L rfl rfl (free_asks 1 (by decide)))) ?_
  refine prd_cons (psd_append (i := 1) (pd_lam 2 (hL 2) L rfl rfl (free_asks 2 (by decide)))) ?_
  refine prd_cons (psd_append (i := 1) (pd_lam 3 (hL 3) L rfl rfl (free_asks 3 (by decide)))) ?_
  refine prd_cons (psd_append (i := 1) (pd_lam 4 (hL 4) L rfl rfl (free_asks 4 (by decide)))) ?_
  exact prd_ret (pd_add (pdb_var 1) (PD.b (PFD.pd (pfd_lst (pad_cons (pd_lam 5 (hL 5) L rfl rfl (free_asks 5 (by decide))) pad_nil)))))
end
end DL

set_option Elab.async false
set_option linter.all false
set_option maxRecDepth 100000
set_option maxHeartbeats 4000000
/-! FD: _law_is_very (k73). -/
namespace DL
open PySem PySem.Spec PyProof.Rows L2
/-- FunD.ok, the code object told -/
theorem okc {P : Program} {w : World} {K : PySem.W.Frag} {mg : Str → Option Value} {base : Heap} {x qual : Str} {params : Arguments} {body : List Stmt} {scope : Scope} {dvs : List V} {kws : List (Str × V)} {f : Addr} {fd : FuncData} {CX : CXT} {N ps : List Str} {k : Nat} {sp : Sp} (F : FunD K x qual params body scope dvs kws f fd) (S : FnScope N ps scope) (len : ∀ vs H Q E, sp vs H Q E → vs.length = ps.length)
    (hbody : ∀ (cdv : Value) (A : Around) (outer : List PySem.Env) (s : Shared) (H : Hp) (vs : List V) (Q : VK) (E : XK), fd.code = cdv → Room k (A.deeper (envOfC qual scope s.heap.objs.size f cdv)) → sp vs H Q E →
      ∃ t, PSs (cxOf CX P w K mg base N qual scope f cdv A outer s H E) body t ∧ t { nx := fun _ H' => Q .non H', rt := Q } (L2.start N vs) H) : FnOk P w K mg base CX (k + 1) f fd ps sp := by
  obtain ⟨oc, od, dV, kV, doc, pm, an, cdv, ct, osl, e, lk, hcd, _, _⟩ := F.ex
  subst e
  exact fn_of lk hcd S len fun A outer s H vs Q E hr hsp => hbody cdv A outer s H vs Q E rfl hr hsp
abbrev s__law_is_very : Stmt := top 56
abbrev n__law_is_very : List Str := ["word", "ask", "odd", "found"]
theorem sc__law_is_very : FnScope n__law_is_very ["word", "ask"] (defScope s__law_is_very) := ⟨rfl, rfl, rfl, by decide +kernel, rfl, by decide +kernel, by decide +kernel⟩
def jkVery (k : Nat) : Option (List Nat) := if k = 6 then some [1, 2] else none
/-- what it gives: the very object came back -/
def mVery (m__law_met m__law_same : List D → M D) : List D → M D
  | [word, ask] => ⟨fun n Q E => ∀ a : Addr, (flatX (m__law_met [.clo 6 [ask, .lstA a [.str "odd"]]])).run n (fun d n' => ∃ z : Str, d = .tup [.str z, .lstA a [.str "odd"]] ∧ (m__law_same [.tup [.str z, .lst [.str "odd", .str "late"]], .tup [word, .lst [.str "odd", .str "late"]]]).run n' Q E) E,
      fun h hq he a => (flatX _).mono (h a) (fun d n' ⟨z, e, q⟩ => ⟨z, e, M.mono _ q hq he⟩) he⟩
  | _ => M.stuck
def M1very (L : Nat → LS) (m__law_met : List D → M D) (C : List (Str × Addr)) : Env → M D := fun γ => do let ds ← (fun γ => do let d ← (lamX C 6) γ; pure (d :: (← (fun _ => pure []) γ))) γ; let ds ← resAll C L jkVery γ ds; M.need (ds.length = (["ask"] : List Str).length); flatX (m__law_met ds)
def M2very (m__law_same : List D → M D) : Env → M (Fl × Env) := fun γ => do pure (Fl.rt (← (fun γ => do let ds ← (fun γ => do let d ← (rd 3) γ; pure (d :: (← (fun γ => do let d ← (fun γ => do let ds ← (fun γ => do let d ← (rd 0) γ; pure (d :: (← (fun γ => do let d ← (rd 2) γ; pure (d :: (← (fun _ => pure []) γ))) γ))) γ; M.need (ds.length ≤ sizeLine); pure (D.tup ds)) γ; pure (d :: (← (fun _ => pure []) γ))) γ))) γ; M.need (ds.length = (["found", "due"] : List Str).length); m__law_same ds) γ), γ)
section
variable {g : G} {P : Program} {w : World} {K : PySem.W.Frag} {mg : Str → Option Value} {base : Heap} {Φ : Facts K mg}
theorem caps_very (hL : g.L = lamTab) {X : Cx} (hN : X.N = n__law_is_very) (hs : X.env.scope = defScope s__law_is_very) : CapsK g X jkVery := by
  have key : (lamTab 6).scope.names.all (fun y => (!decide (y.2 = .free) || (decide ((defScope s__law_is_very).names.lookup y.1 = some .cell) && decide (y.1 ∈ (lamTab 6).fr)))) = true ∧ (lamTab 6).fr.all (fun y => decide ((y, NameKind.free) ∈ (lamTab 6).scope.names)) = true ∧ [1, 2].map (fun j => n__law_is_very[j]?) = (lamTab 6).fr.map some := by decide +kernel
  obtain ⟨k1, k2, k3⟩ := key
  have only : ∀ k js, jkVery k = some js → k = 6 ∧ js = [1, 2] := fun k js h => by
    unfold jkVery at h
    split at h
    · rename_i e
      cases h
      exact ⟨e, rfl⟩
    · cases h
  have k4 : ∀ y, (y, NameKind.free) ∈ (lamTab 6).scope.names → (defScope s__law_is_very).names.lookup y = some .cell ∧ y ∈ (lamTab 6).fr := fun y hy => by
    have h := List.all_eq_true.mp k1 _ hy
    simpa using h
  refine ⟨fun k js h y hy e => ?_, fun k js h y hy => ?_, fun k js h y hy => ?_, fun k js h => ?_⟩
  · obtain ⟨rfl, rfl⟩ := only k js h
    rw [hL] at hy
    rw [hs]
    obtain ⟨y1, y2⟩ := y
    simp only at e
    subst e
    exact .inl (k4 y1 hy).1
  · obtain ⟨rfl, rfl⟩ := only k js h
    rw [hL] at hy ⊢
    have h := List.all_eq_true.mp k2 y hy
    simpa using h
  · obtain ⟨rfl, rfl⟩ := only k js h
    rw [hL] at hy ⊢
    exact (k4 y hy).2
  · obtain ⟨rfl, rfl⟩ := only k js h
    rw [hL, hN]
    exact k3
theorem free_very : ∀ y ∈ (lamTab 6).scope.names, y.2 = .free → (defScope s__law_is_very).names.lookup y.1 = some .cell ∨ (defScope s__law_is_very).names.lookup y.1 = some .free := by
  have h : (lamTab 6).scope.names.all (fun y => !decide (y.2 = .free) || decide ((defScope s__law_is_very).names.lookup y.1 = some .cell)) = true := by decide +kernel
  intro y hy e
  have h2 := List.all_eq_true.mp h y hy
  simp only [Bool.or_eq_true, Bool.not_eq_true', decide_eq_false_iff_not, decide_eq_true_eq] at h2
  exact h2.elim (fun z => absurd e z) .inl
theorem run1very {L : Nat → LS} {m__law_met : List D → M D} {C : List (Str × Addr)} {word ask d : D} {n : Nat} {Q : D → Nat → Prop} {E : Exc → Nat → Prop} (hL : L = lamTab) (h : (flatX (m__law_met [.clo 6 [ask, d]])).run n Q E) : (M1very L m__law_met C [some (.fz word), some (.fz ask), some (.fz d), none]).run n Q E := by
  subst hL
  exact ⟨rfl, rfl, h⟩
theorem run2very {m__law_same : List D → M D} {word found odd : D} {n : Nat} {Q : Fl × Env → Nat → Prop} {E : Exc → Nat → Prop} (h : (m__law_same [found, .tup [word, odd]]).run n (fun d n' => Q (.rt d, [some (.fz word), none, some (.fz odd), some (.fz found)]) n') E) : (M2very m__law_same [some (.fz word), none, some (.fz odd), some (.fz found)]).run n Q E :=
  ⟨(show 2 ≤ sizeLine by decide), rfl, h⟩
theorem very_ok (O : GOk Φ base g) {m__law_met m__law_same : List D → M D} {j1 j2 j : Nat} (G__law_met : FnD g P w K mg base j1 Φ.f__law_met Φ.d__law_met ["ask"] m__law_met) (G__law_same : FnD g P w K mg base j2 Φ.f__law_same Φ.d__law_same ["found", "due"] m__law_same) (h1 : j1 ≤ j) (h2 : j2 ≤ j) :
    FnD g P w K mg base (j + 1) Φ.f__law_is_very Φ.d__law_is_very ["word", "ask"] (mVery m__law_met m__law_same) := by
  refine okc Φ.F__law_is_very sc__law_is_very (fun vs H Q E ⟨F, ds, n, e, _, _, r, _⟩ => by rw [r.length, e]) fun cdv A outer s H vs Q E hcd hr ⟨F0, ds, n, e, sub, wk, rl, q⟩ => ?_
  have hcd2 : cdv = .ref Φ.cd__law_is_very := hcd.symm.trans Φ.k__law_is_very
  have L : LamAt g (cxOf (L2.CX P w) P w K mg base n__law_is_very "_law_is_very" (defScope s__law_is_very) Φ.f__law_is_very cdv A outer s H E) Φ.cd__law_is_very Φ.P__law_is_very := O.at1 rfl rfl hcd2 rfl
  have hL : ∀ k, g.L k = lamTab k := fun k => by rw [O.L]
  have hcall : PD g (cxOf (L2.CX P w) P w K mg base n__law_is_very "_law_is_very" (defScope s__law_is_very) Φ.f__law_is_very cdv A outer s H E) (fun cls d _ H => E cls d H) (stE (stAt s__law_is_very [1])) (M1very g.L m__law_met (envOfC "_law_is_very" (defScope s__law_is_very) s.heap.objs.size Φ.f__law_is_very cdv).cells) :=
    pd_callP G__law_met (hr.mono h1) (fun _ => rfl) (caps_very O.L rfl rfl) rfl Φ.g__law_met Φ.F__law_met.kp Φ.b__law_met takes_cx (pad_cons (pd_lam 6 (hL 6) L rfl (by rfl) free_very) pad_nil)
  have hret : PSD g (cxOf (L2.CX P w) P w K mg base n__law_is_very "_law_is_very" (defScope s__law_is_very) Φ.f__law_is_very cdv A outer s H E) (fun cls d _ H => E cls d H) (stAt s__law_is_very [3]) (M2very m__law_same) :=
    psd_ret (pd_call G__law_same (hr.mono h2) rfl Φ.g__law_same Φ.F__law_same.kp Φ.b__law_same takes_cx (pad_cons (pd_var 3) (pad_cons (pd_tup (pad_cons (pd_var 0) (pad_cons (pd_var 2) pad_nil))) pad_nil)))
  refine ⟨_, pss_cons (ps_set (i := 2) sc__law_is_very.nd rfl (by first | exact Or.inl rfl | exact Or.inr rfl) (pe_lst (pa_cons pe_str pa_nil)))
    (pss_cons (ps_set (i := 3) sc__law_is_very.nd rfl (by first | exact Or.inl rfl | exact Or.inr rfl) hcall.pe)
    (pss_cons (ps_expr (pe_bm PySem.F.plainAttrs_list PySem.F.slot_list_append PySem.F.type_list_append mt_append (pv 2) (pa_cons pe_str pa_nil)))
    (pss_one hret.ps))), ?_⟩
  match ds, e, q with
  | [word, ask], _, q =>
  cases rl with
  | @cons vw _ _ _ r1 rl =>
  cases rl with
  | @cons va _ _ _ r2 rl =>
  cases rl
  refine ⟨(show 1 ≤ sizeLine by decide), fun p hp => ?_⟩
  have st0 : StOk g K H F0 F0 H (L2.start n__law_is_very [vw, va]) (startD n__law_is_very [word, ask]) n := start_ok sub wk (.cons r1 (.cons r2 .nil))
  have po := post_new (o := .lst [V.str "odd"]) sub wk hp
  have rodd : Rep g K (upd F0 p (.lst [V.str "odd"])) (.ref p) (.lstA p [.str "odd"]) := .lstA upd_same (.cons (.str _) .nil)
  have st1 := (st0.post po).setFz 2 rodd
  have q := q p
  refine ⟨H, F0, _, _, n, st1, ?_⟩
  refine run1very (word := word) O.L ((flatX _).mono q (fun d n' ⟨z, ed, q2⟩ F' H' v st2 fl2 rv => ?_) fun x n' q2 F' H' cls dd st2 xr => q2 F' H' cls dd (post_of st2) xr)
  subst ed
  have hp' : F' p = some (.lst [V.str "odd"]) := fl2 p _ upd_same
  have hH' : H' p = some (.lst [V.str "odd"]) := (st2.sub p _ hp').1
  refine ⟨.ref p, rfl, .inl ⟨rfl, _, .inl (.inl hH')⟩, p, _, _, rfl, rfl, hH', (show 1 < sizeLine by decide), ?_⟩
  have fp0 : F0 p = none := sub.none hp
  have nx : ¬ g.ex p := (st2.sub p _ hp').2
  -- what stands now
  have fl3 : FLe F0 (upd F' p (.lst ([V.str "odd"] ++ [V.str "late"]))) := fun b u eb => by
    rw [upd_ne (fun zz => by rw [zz, fp0] at eb; cases eb)]
    exact st2.f0 b u eb
  have rfound : Rep g K (upd F' p (.lst ([V.str "odd"] ++ [V.str "late"]))) v (.tup [.str z, .lst [.str "odd", .str "late"]]) := by
    cases rv with
    | @tup b _ _ sq rl2 =>
      cases rl2 with
      | cons ra rb =>
        cases ra
        cases rb with
        | cons rc rd =>
          cases rd
          cases rc with
          | lstA h3 h4 =>
            have sq2 : SqT K (upd F' p (.lst ([V.str "odd"] ++ [V.str "late"]))) b [V.str z, V.ref p] := by
              rcases sq with (y | ⟨o, y⟩) | y
              · exact .inl (.inl (by rw [upd_ne (fun zz => by rw [zz, hp'] at y; cases y)]; exact y))
              · exact .inl (.inr ⟨o, by rw [upd_ne (fun zz => by rw [zz, hp'] at y; cases y)]; exact y⟩)
              · exact .inr y
            exact .tup sq2 (.cons (.str z) (.cons (.lst upd_same (.cons (.str _) (.cons (.str _) .nil))) .nil))
  have st3 : StOk g K H F0 (upd F' p (.lst ([V.str "odd"] ++ [V.str "late"]))) (upd H' p (.lst ([V.str "odd"] ++ [V.str "late"]))) [some vw, some va, some (.ref p), some v] [some (.fz word), none, some (.fz (.lst [.str "odd", .str "late"])), some (.fz (.tup [.str z, .lst [.str "odd", .str "late"]]))] n' := by
    refine ⟨fun b u eb nb => ?_, fl3, fun b u eb => ?_, fun b hb => ?_, st2.wok.updL hH' nx, rfl, fun i t ht => ?_, fun i k b hik h1 h2 _ _ => ?_⟩
    · rw [upd_ne (fun zz => by rw [zz, hp] at eb; cases eb)]
      exact st2.ext b u eb nb
    · by_cases hb : b = p
      · rw [hb, upd_same] at eb ⊢
        exact ⟨eb, nx⟩
      · rw [upd_ne hb] at eb ⊢
        exact st2.sub b u eb
    · by_cases hb2 : b = p
      · rw [hb2]
        exact .inr (.inl hp)
      · rw [upd_ne hb2] at hb
        exact st2.new b hb
    · match i, ht with
      | 0, ht =>
        cases ht
        exact ⟨vw, rfl, r1.fle fl3⟩
      | 1, ht => cases ht
      | 2, ht =>
        cases ht
        exact ⟨.ref p, rfl, .lst upd_same (.cons (.str _) (.cons (.str _) .nil))⟩
      | 3, ht =>
        cases ht
        exact ⟨v, rfl, rfound⟩
      | i + 4, ht => simp at ht
    · match i, h1 with
      | 0, h1 => cases h1
      | 1, h1 => cases h1
      | 2, h1 => cases h1
      | 3, h1 => cases h1
      | i + 4, h1 => simp [isOw] at h1
  refine ⟨H, F0, _, _, n', st3, ?_⟩
  refine run2very ((m__law_same _).mono q2 (fun d n2 q3 F2 H2 σ2 st4 v2 rv2 => q3 F2 H2 v2 (post_of st4) rv2) fun x n2 q3 F2 H2 cls dd σ2 γ2 st4 xr => q3 F2 H2 cls dd (post_of st4) xr)
end
end DL

set_option Elab.async false
set_option linter.all false
set_option maxRecDepth 100000
set_option maxHeartbeats 4000000
/-! printed by gen_k73.py: the law behind its first statement -/
namespace DL
open PySem PySem.Spec PyProof.Rows L2

abbrev s_law : Stmt := top 63
abbrev n_law : List Str := ["script", "stream", "turn", "asks", "odd", "word", "ask"]
theorem sc_law : FnScope n_law ["script"] (defScope s_law) := ⟨rfl, rfl, rfl, by decide +kernel, rfl, by decide +kernel, by decide +kernel⟩
def B_law (m__law_w_odd_machine : List D → M D) (m__law_machine : List D → M D) (m__law_same : List D → M D) (m__law_asks : List D → M D) (m__law_met : List D → M D) (m__law_is_very : List D → M D) : Env → M (Fl × Env) :=
  (seqM (fun γ => do forL (fun d γ => pure (setM 2 d γ)) (seqM (fun γ => do pure (Fl.nx, setM 4 (← (fun γ => do let ds ← (fun γ => do let d ← (rd 1) γ; pure (d :: (← (fun γ => do let d ← (fun γ => do let ds ← (fun γ => do let d ← (rd 1) γ; pure (d :: (← (fun γ => do let d ← (fun _ => pure (D.int 2)) γ; pure (d :: (← (fun γ => do let d ← (fun _ => pure (D.int 2)) γ; pure (d :: (← (fun γ => do let d ← (fun _ => pure (D.int 2)) γ; pure (d :: (← (fun γ => do let d ← (fun _ => pure (D.int 4)) γ; pure (d :: (← (fun _ => pure []) γ))) γ))) γ))) γ))) γ))) γ; M.need (ds.length = (["stream", "stands", "letters", "signs", "moves"] : List Str).length); m__law_machine ds) γ; pure (d :: (← (fun _ => pure []) γ))) γ))) γ; M.need (ds.length = (["stream", "machine"] : List Str).length); m__law_w_odd_machine ds) γ) γ))
    (fun γ => do bif (← (fun γ => do pure !(← (fun γ => do tru (← (fun γ => do let ds ← (fun γ => do let d ← (compM (([("ask", 6)] : List (Str × Nat)).map (·.2)) (fun γ => do itemsOf (← (fun γ => do let ds ← (fun γ => do let d ← (rd 4) γ; pure (d :: (← (fun _ => pure []) γ))) γ; M.need (ds.length = (["machine"] : List Str).length); m__law_asks ds) γ)) (fun d γ => pure (setM 6 d γ)) (fun _ => pure true) (fun γ => do let ds ← (fun γ => do let d ← (rd 6) γ; pure (d :: (← (fun _ => pure []) γ))) γ; M.need (ds.length = (["ask"] : List Str).length); m__law_met ds)) γ; pure (d :: (← (fun γ => do let d ← (fun γ => do let x ← (fun γ => do pure (D.lst (← (fun γ => do let ds ← (fun γ => do let d ← (fun γ => do let ds ← (fun γ => do let d ← (fun _ => pure (D.str "machine")) γ; pure (d :: (← (fun γ => do let d ← (rd 4) γ; pure (d :: (← (fun _ => pure []) γ))) γ))) γ; M.need (ds.length ≤ sizeLine); pure (D.tup ds)) γ; pure (d :: (← (fun _ => pure []) γ))) γ; M.need (ds.length ≤ sizeLine); pure ds) γ))) γ; dMul x (← (fun _ => pure (D.int 6)) γ)) γ; pure (d :: (← (fun _ => pure []) γ))) γ))) γ; M.need (ds.length = (["found", "due"] : List Str).length); m__law_same ds) γ)) γ)) γ) then (fun γ => do pure (Fl.rt (← (fun _ => pure (D.bl false)) γ), γ)) γ else (fun γ => pure (Fl.nx, γ)) γ)) (← (fun γ => do let ds ← (fun γ => do let d ← (fun _ => pure (D.int 8)) γ; pure (d :: (← (fun _ => pure []) γ))) γ; M.need (∃ j : Int, ds = [D.int j] ∧ -(2 ^ 62) ≤ j ∧ j < 2 ^ 62); rangeOf ds) γ) γ)
    (seqM (fun γ => do pure (Fl.nx, setM 3 (← (fun γ => do pure (D.lst (← (fun γ => do let ds ← (fun γ => do let d ← (fun γ => do let ds ← (fun γ => do let d ← (fun _ => pure (D.str "machine")) γ; pure (d :: (← (fun γ => do let d ← (fun _ => pure (D.clo 7 [])) γ; pure (d :: (← (fun _ => pure []) γ))) γ))) γ; M.need (ds.length ≤ sizeLine); pure (D.tup ds)) γ; pure (d :: (← (fun γ => do let d ← (fun γ => do let ds ← (fun γ => do let d ← (fun _ => pure (D.str "machine")) γ; pure (d :: (← (fun γ => do let d ← (fun _ => pure (D.clo 8 [])) γ; pure (d :: (← (fun _ => pure []) γ))) γ))) γ; M.need (ds.length ≤ sizeLine); pure (D.tup ds)) γ; pure (d :: (← (fun _ => pure []) γ))) γ))) γ; M.need (ds.length ≤ sizeLine); pure ds) γ))) γ) γ))
    (fun γ => do pure (Fl.rt (← (fun γ => do pure (D.bl (← dAll (← (compM (([("word", 5), ("ask", 6)] : List (Str × Nat)).map (·.2)) (fun γ => do itemsOf (← (rd 3) γ)) (fun d γ => do M.need (∀ ds, d = D.tup ds → ds.length = 2); tupT (consT (fun d γ => pure (setM 5 d γ)) (consT (fun d γ => pure (setM 6 d γ)) (fun ds γ => do M.need (ds = []); pure γ))) d γ) (fun _ => pure true) (fun γ => do let ds ← (fun γ => do let d ← (rd 5) γ; pure (d :: (← (fun γ => do let d ← (rd 6) γ; pure (d :: (← (fun _ => pure []) γ))) γ))) γ; M.need (ds.length = (["word", "ask"] : List Str).length); m__law_is_very ds)) γ)))) γ), γ))))
theorem b_law {g : G} {P : Program} {w : World} {K : PySem.W.Frag} {mg : Str → Option Value} {base : Heap} {Φ : Facts K mg} (O : GOk Φ base g) {m__law_w_odd_machine : List D → M D} (G__law_w_odd_machine : FnD g P w K mg base 3 Φ.f__law_w_odd_machine Φ.d__law_w_odd_machine ["stream", "machine"] m__law_w_odd_machine) {m__law_machine : List D → M D} (G__law_machine : FnD g P w K mg base 4 Φ.f__law_machine Φ.d__law_machine ["stream", "stands", "letters", "signs", "moves"] m__law_machine) {m__law_same : List D → M D} (G__law_same : FnD g P w K mg base 13 Φ.f__law_same Φ.d__law_same ["found", "due"] m__law_same) {m__law_asks : List D → M D} (G__law_asks : FnD g P w K mg base 1 Φ.f__law_asks Φ.d__law_asks ["machine"] m__law_asks) {m__law_met : List D → M D} (G__law_met : FnD g P w K mg base 12 Φ.f__law_met Φ.d__law_met ["ask"] m__law_met) {m__law_is_very : List D → M D} (G__law_is_very : FnD g P w K mg base 14 Φ.f__law_is_very Φ.d__law_is_very ["word", "ask"] m__law_is_very) {cdv : Value} (hcd : cdv = .ref Φ.cd_law) {A : Around} {outer : List PySem.Env} {s : Shared} {H : Hp} {E : XK} (hr : Room 14 (A.deeper (envOfC "law" (defScope s_law) s.heap.objs.size Φ.f_law cdv))) :
    PSsD g (cxOf (L2.CX P w) P w K mg base n_law "law" (defScope s_law) Φ.f_law cdv A outer s H E) (fun cls d _ H => E cls d H) ((defBody s_law).drop 1) (B_law m__law_w_odd_machine m__law_machine m__law_same m__law_asks m__law_met m__law_is_very) := by
  have L3 : LamAt g (cxOf (L2.CX P w) P w K mg base n_law "law" (defScope s_law) Φ.f_law cdv A outer s H E) Φ.cd_law Φ.P_law := O.at3 rfl rfl hcd rfl
  have hL : ∀ k, g.L k = lamTab k := fun k => by rw [O.L]
  exact (pssd_cons (psd_for PassesOwn.leaving rfl (pid_range1 rfl Φ.n_range (pad_cons pd_int pad_nil)) (pgd_name (i := 2) sc_law.nd rfl (by first | exact Or.inl rfl | exact Or.inr rfl)) (pssd_cons (psd_set (i := 4) sc_law.nd rfl (by first | exact Or.inl rfl | exact Or.inr rfl) (pd_call G__law_w_odd_machine (hr.mono (by decide)) rfl Φ.g__law_w_odd_machine Φ.F__law_w_odd_machine.kp Φ.b__law_w_odd_machine takes_cx (pad_cons (pd_var 1) (pad_cons (pd_call G__law_machine (hr.mono (by decide)) rfl Φ.g__law_machine Φ.F__law_machine.kp Φ.b__law_machine takes_cx (pad_cons (pd_var 1) (pad_cons pd_int (pad_cons pd_int (pad_cons pd_int (pad_cons pd_int pad_nil)))))) pad_nil))))
    (pssd_one (psd_if (ptd_not (ptd_truth (PD.b (pd_call G__law_same (hr.mono (by decide)) rfl Φ.g__law_same Φ.F__law_same.kp Φ.b__law_same takes_cx (pad_cons (pd_lc rfl sc_law.nd (pid_seq (pd_call G__law_asks (hr.mono (by decide)) rfl Φ.g__law_asks Φ.F__law_asks.kp Φ.b__law_asks takes_cx (pad_cons (pd_var 4) pad_nil))) (blkOk_by (N := n_law) (sc := defScope s_law) (own := [("ask", 6)]) (by decide +kernel)) (fun _ _ _ _ _ => (pgd_name (i := 6) sc_law.nd rfl (by first | exact Or.inl rfl | exact Or.inr rfl))) (fun _ _ _ _ _ => ptsd_nil) (fun _ _ _ _ _ => (pd_call G__law_met (hr.mono (by decide)) rfl Φ.g__law_met Φ.F__law_met.kp Φ.b__law_met takes_w0 (pad_cons (pd_var 6) pad_nil)))) (pad_cons (pd_mul (PD.b (PFD.pd (pfd_lst (pad_cons (pd_tup (pad_cons pd_str (pad_cons (pd_var 4) pad_nil))) pad_nil)))) (PD.b pd_int)) pad_nil))))))
    (pssd_one (psd_ret pd_bl))
    pssd_nil))))
    (pssd_cons (psd_set (i := 3) sc_law.nd rfl (by first | exact Or.inl rfl | exact Or.inr rfl) (PFD.pd (pfd_lst (pad_cons (pd_tup (pad_cons pd_str (pad_cons (pd_lam0 7 (hL 7) L3 (by rfl)) pad_nil))) (pad_cons (pd_tup (pad_cons pd_str (pad_cons (pd_lam0 8 (hL 8) L3 (by rfl)) pad_nil))) pad_nil)))))
    (pssd_one (psd_ret (pd_all rfl (pd_lc rfl sc_law.nd (pid_seq (pd_var 3)) (blkOk_by (N := n_law) (sc := defScope s_law) (own := [("word", 5), ("ask", 6)]) (by decide +kernel)) (fun _ _ _ _ _ => (pgd_tup rfl (pgsd_cons (pgd_name (i := 5) sc_law.nd rfl (by first | exact Or.inl rfl | exact Or.inr rfl)) (pgsd_cons (pgd_name (i := 6) sc_law.nd rfl (by first | exact Or.inl rfl | exact Or.inr rfl)) pgsd_nil)))) (fun _ _ _ _ _ => ptsd_nil) (fun _ _ _ _ _ => (pd_call G__law_is_very (hr.mono (by decide)) rfl Φ.g__law_is_very Φ.F__law_is_very.kp Φ.b__law_is_very takes_w0 (pad_cons (pd_var 5) (pad_cons (pd_var 6) pad_nil))))) rfl Φ.n_all)))))
end DL

set_option Elab.async false
set_option linter.all false
set_option maxRecDepth 100000
set_option maxHeartbeats 4000000
/-! FF: the law's promise from the pure law (k73). -/
namespace DL
open PySem PySem.Spec PyProof.Rows L2
def tabsOf {K : PySem.W.Frag} {mg : Str → Option Value} (Φ : Facts K mg) : List (Addr × Addr) := [(Φ.cd__law_is_very, Φ.P__law_is_very), (Φ.cd__law_asks, Φ.P__law_asks), (Φ.cd_law, Φ.P_law)]
def tabT {K : PySem.W.Frag} {mg : Str → Option Value} (Φ : Facts K mg) : List (Addr × Str) := [(Φ.P__law_is_very, ("_law_is_very.<locals>.<lambda>" : Str)), (Φ.P__law_asks, ("_law_asks.<locals>.<lambda>" : Str)), (Φ.P_law, ("law.<locals>.<lambda>" : Str))]
def spLaw {K : PySem.W.Frag} {mg : Str → Option Value} (Φ : Facts K mg) : Sp := fun vs H Q _ => ∃ (a : Addr) (is : List Int), vs = [.ref a] ∧ SqL K H a (is.map V.int) ∧ (∀ p ∈ tabsOf Φ, H p.2 = some (.tbl #[])) ∧ ∀ H', Q (.bl true) H'
/-- the slots behind the law's first statement -/
def envLaw (sa : Addr) : Env := [none, some (.fz (.ref sa)), none, none, none, none, none]
section
variable {P : Program} {w : World} {K : PySem.W.Frag} {mg : Str → Option Value} {base : Heap} {Φ : Facts K mg}
theorem env_ok {g : G} {H : Hp} {v : V} (w : WOk g H 0) : StOk g K H (fun _ => none) (fun _ => none) H [some v, some (.ref g.sa), none, none, none, none, none] (envLaw g.sa) 0 := by
  refine ⟨ExtE.refl H, FLe.refl _, fun a o e => (nomatch e), fun a h => absurd rfl h, w, rfl, fun i t ht => ?_, fun i j a hij h1 _ _ _ => ?_⟩
  · match i, ht with
    | 0, ht => cases ht
    | 1, ht =>
      cases ht
      exact ⟨_, rfl, .ref _⟩
    | 2, ht => cases ht
    | 3, ht => cases ht
    | 4, ht => cases ht
    | 5, ht => cases ht
    | 6, ht => cases ht
    | i + 7, ht => simp [envLaw] at ht
  · match i, h1 with
    | 0, h1 => cases h1
    | 1, h1 => cases h1
    | 2, h1 => cases h1
    | 3, h1 => cases h1
    | 4, h1 => cases h1
    | 5, h1 => cases h1
    | 6, h1 => cases h1
    | i + 7, h1 => simp [envLaw, isOw] at h1
theorem law_ok (gS : mg "list" = none) (t1 : LamX.TabB base mg Φ.cd__law_is_very Φ.P__law_is_very) (t2 : LamX.TabB base mg Φ.cd__law_asks Φ.P__law_asks) (t3 : LamX.TabB base mg Φ.cd_law Φ.P_law)
    (hB : ∀ g : G, GOk Φ base g → ∃ m : Env → M (Fl × Env), (m (envLaw g.sa)).run 0 (fun r _ => r.1 = .rt (.bl true)) (fun _ _ => False) ∧
      ∀ (cdv : Value) (A : Around) (outer : List PySem.Env) (s : Shared) (H : Hp) (E : XK), cdv = .ref Φ.cd_law → Room 14 (A.deeper (envOfC "law" (defScope s_law) s.heap.objs.size Φ.f_law cdv)) →
        PSsD g (cxOf (L2.CX P w) P w K mg base n_law "law" (defScope s_law) Φ.f_law cdv A outer s H E) (fun cls d _ H => E cls d H) ((defBody s_law).drop 1) m) :
    FnOk P w K mg base (L2.CX P w) 15 Φ.f_law Φ.d_law ["script"] (spLaw Φ) := by
  refine okc Φ.F_law sc_law (fun vs H Q E ⟨a, is, e, _⟩ => by rw [e]; rfl) fun cdv A outer s H vs Q E hcd hr ⟨a, is, e, sq, ht, hQ⟩ => ?_
  subst e
  have hcd2 : cdv = .ref Φ.cd_law := hcd.symm.trans Φ.k_law
  refine ⟨tSeq (tAsg (tCallS (spStream K) (fun _ => E0) (tCons (tVar 0) tNil)) (gName 1)) (fun D σ H1 => ∃ g m, GOk Φ base g ∧ (PSsD g (cxOf (L2.CX P w) P w K mg base n_law "law" (defScope s_law) Φ.f_law cdv A outer s H E) (fun cls d _ H => E cls d H) ((defBody s_law).drop 1) m) ∧ tSD g K mg (fun cls d _ H => E cls d H) m D σ H1), ?_, ?_⟩
  · refine pss_cons (ps_set (i := 1) sc_law.nd rfl (by first | exact Or.inl rfl | exact Or.inr rfl) (pe_callS (stream_ok Φ.F__law_stream gS) (hr.mono (by decide)) rfl Φ.g__law_stream Φ.F__law_stream.kp Φ.b__law_stream (fun σ pins H s e s' I h => passL pins σ H s e s' I h) (pa_cons (pv 0) pa_nil))) ?_
    exact ⟨fun pins s' σ H' D I ⟨g, m, _, hp, h⟩ => hp.ps.run pins s' σ H' D I h⟩
  · refine ⟨.ref a, rfl, a, is, rfl, sq, fun sb sa hb hne ha => ?_⟩
    have O : GOk Φ base ⟨sa, sb, tabT Φ, lamTab⟩ := ⟨rfl, rfl, t1, t2, t3⟩
    obtain ⟨m, hm, hp⟩ := hB ⟨sa, sb, tabT Φ, lamTab⟩ O
    have wk : WOk ⟨sa, sb, tabT Φ, lamTab⟩ (upd (upd H sb (.lst (is.map V.int))) sa (.lst [.ref sb, .int 0, .int 0, .int 17])) 0 := by
      refine ⟨⟨hne, is, 0, 0, 17, upd_same, ?_, by decide, by decide, by decide, by decide, by decide⟩, fun p hp => ?_⟩
      · show upd (upd H sb _) sa _ sb = _
        rw [upd_ne (Ne.symm hne)]
        exact upd_same
      · have old : ∀ Pt, H Pt = some (.tbl #[]) → upd (upd H sb (.lst (is.map V.int))) sa (.lst [.ref sb, .int 0, .int 0, .int 17]) Pt = some (.tbl #[]) := fun Pt e => by
          rw [upd_ne (ne_of_none e ha), upd_ne (ne_of_none e hb)]
          exact e
        have hp' : p ∈ tabT Φ := hp
        simp only [tabT, List.mem_cons, List.not_mem_nil, or_false] at hp'
        rcases hp' with rfl | rfl | rfl
        · exact LamX.TabS.nil (old _ (ht (Φ.cd__law_is_very, Φ.P__law_is_very) (by simp [tabsOf])))
        · exact LamX.TabS.nil (old _ (ht (Φ.cd__law_asks, Φ.P__law_asks) (by simp [tabsOf])))
        · exact LamX.TabS.nil (old _ (ht (Φ.cd_law, Φ.P_law) (by simp [tabsOf])))
    refine ⟨_, m, O, hp cdv A outer s H E hcd2 hr, _, _, _, _, 0, env_ok (v := .ref a) wk, m _ |>.mono hm (fun r n' er F' H' σ' st => ?_) fun _ _ z => z.elim⟩
    obtain ⟨fl, γ'⟩ := r
    have er : fl = .rt (.bl true) := er
    subst er
    intro v rv
    cases rv
    exact hQ H'
end
end DL

set_option Elab.async false
set_option linter.all false
set_option maxRecDepth 100000
set_option maxHeartbeats 4000000
/-! printed by gen_k73.py: each def does what its text says -/
namespace DL
open PySem PySem.Spec PyProof.Rows L2

def r_kept_side : List D → M D := fun _ => M.stuck
theorem o_kept_side {g : G} {P : Program} {w : World} {K : PySem.W.Frag} {mg : Str → Option Value} {base : Heap} (Φ : Facts K mg) : FnD g P w K mg base 1 Φ.f_kept_side Φ.d_kept_side ["machine", "thing"] r_kept_side := fnD_stuck
def r__law_draw (g : G) : List D → M D := mDraw g
theorem o__law_draw {g : G} {P : Program} {w : World} {K : PySem.W.Frag} {mg : Str → Option Value} {base : Heap} (Φ : Facts K mg) : FnD g P w K mg base 1 Φ.f__law_draw Φ.d__law_draw ["stream", "many"] (r__law_draw g) := draw_ok Φ.F__law_draw Φ.n_abs Φ.n_int
def r_is_list : List D → M D := runFn n_is_list (B_is_list )
theorem o_is_list {g : G} {P : Program} {w : World} {K : PySem.W.Frag} {mg : Str → Option Value} {base : Heap} (Φ : Facts K mg) : FnD g P w K mg base 1 Φ.f_is_list Φ.d_is_list ["thing"] (r_is_list) := fnD Φ.F_is_list sc_is_list (fun cdv A outer s H E hr => b_is_list Φ  hr) (fun ds _ => M.Le.refl _)
def r_is_whole : List D → M D := runFn n_is_whole (B_is_whole )
theorem o_is_whole {g : G} {P : Program} {w : World} {K : PySem.W.Frag} {mg : Str → Option Value} {base : Heap} (Φ : Facts K mg) : FnD g P w K mg base 1 Φ.f_is_whole Φ.d_is_whole ["thing"] (r_is_whole) := fnD Φ.F_is_whole sc_is_whole (fun cdv A outer s H E hr => b_is_whole Φ  hr) (fun ds _ => M.Le.refl _)
def r_is_number : List D → M D := runFn n_is_number (B_is_number r_is_whole)
theorem o_is_number {g : G} {P : Program} {w : World} {K : PySem.W.Frag} {mg : Str → Option Value} {base : Heap} (Φ : Facts K mg) : FnD g P w K mg base 2 Φ.f_is_number Φ.d_is_number ["thing"] (r_is_number) := fnD Φ.F_is_number sc_is_number (fun cdv A outer s H E hr => b_is_number Φ (o_is_whole Φ) hr) (fun ds _ => M.Le.refl _)
def r_is_below : List D → M D := runFn n_is_below (B_is_below r_is_number)
theorem o_is_below {g : G} {P : Program} {w : World} {K : PySem.W.Frag} {mg : Str → Option Value} {base : Heap} (Φ : Facts K mg) : FnD g P w K mg base 3 Φ.f_is_below Φ.d_is_below ["thing", "most"] (r_is_below) := fnD Φ.F_is_below sc_is_below (fun cdv A outer s H E hr => b_is_below Φ (o_is_number Φ) hr) (fun ds _ => M.Le.refl _)
def r_is_row : List D → M D := runFn n_is_row (B_is_row r_is_list)
theorem o_is_row {g : G} {P : Program} {w : World} {K : PySem.W.Frag} {mg : Str → Option Value} {base : Heap} (Φ : Facts K mg) : FnD g P w K mg base 2 Φ.f_is_row Φ.d_is_row ["thing", "many"] (r_is_row) := fnD Φ.F_is_row sc_is_row (fun cdv A outer s H E hr => b_is_row Φ (o_is_list Φ) hr) (fun ds _ => M.Le.refl _)
def r_is_ascending : List D → M D := runFn n_is_ascending (B_is_ascending )
theorem o_is_ascending {g : G} {P : Program} {w : World} {K : PySem.W.Frag} {mg : Str → Option Value} {base : Heap} (Φ : Facts K mg) : FnD g P w K mg base 1 Φ.f_is_ascending Φ.d_is_ascending ["things"] (r_is_ascending) := fnD Φ.F_is_ascending sc_is_ascending (fun cdv A outer s H E hr => b_is_ascending Φ  hr) (fun ds _ => M.Le.refl _)
def r_kept_word : List D → M D := runFn n_kept_word (B_kept_word r_is_list r_is_number r_is_below)
theorem o_kept_word {g : G} {P : Program} {w : World} {K : PySem.W.Frag} {mg : Str → Option Value} {base : Heap} (Φ : Facts K mg) : FnD g P w K mg base 4 Φ.f_kept_word Φ.d_kept_word ["many", "thing"] (r_kept_word) := fnD Φ.F_kept_word sc_kept_word (fun cdv A outer s H E hr => b_kept_word Φ (o_is_list Φ) (o_is_number Φ) (o_is_below Φ) hr) (fun ds _ => M.Le.refl _)
def r_kept_pair : List D → M D := runFn n_kept_pair (B_kept_pair r_is_row r_is_below r_kept_word)
theorem o_kept_pair {g : G} {P : Program} {w : World} {K : PySem.W.Frag} {mg : Str → Option Value} {base : Heap} (Φ : Facts K mg) : FnD g P w K mg base 5 Φ.f_kept_pair Φ.d_kept_pair ["thing", "stands", "signs"] (r_kept_pair) := fnD Φ.F_kept_pair sc_kept_pair (fun cdv A outer s H E hr => b_kept_pair Φ (o_is_row Φ) (o_is_below Φ) (o_kept_word Φ) hr) (fun ds _ => M.Le.refl _)
def r_kept_move : List D → M D := runFn n_kept_move (B_kept_move r_is_row r_is_below r_kept_word)
theorem o_kept_move {g : G} {P : Program} {w : World} {K : PySem.W.Frag} {mg : Str → Option Value} {base : Heap} (Φ : Facts K mg) : FnD g P w K mg base 5 Φ.f_kept_move Φ.d_kept_move ["thing", "stands", "letters", "signs"] (r_kept_move) := fnD Φ.F_kept_move sc_kept_move (fun cdv A outer s H E hr => b_kept_move Φ (o_is_row Φ) (o_is_below Φ) (o_kept_word Φ) hr) (fun ds _ => M.Le.refl _)
def r_kept_all : List D → M D := runFn n_kept_all (B_kept_all r_is_ascending)
theorem o_kept_all {g : G} {P : Program} {w : World} {K : PySem.W.Frag} {mg : Str → Option Value} {base : Heap} (Φ : Facts K mg) : FnD g P w K mg base 2 Φ.f_kept_all Φ.d_kept_all ["things"] (r_kept_all) := fnD Φ.F_kept_all sc_kept_all (fun cdv A outer s H E hr => b_kept_all Φ (o_is_ascending Φ) hr) (fun ds _ => M.Le.refl _)
def r_kept_machine : List D → M D := runFn n_kept_machine (B_kept_machine r_is_row r_is_whole r_is_list r_kept_all r_kept_pair r_kept_move)
theorem o_kept_machine {g : G} {P : Program} {w : World} {K : PySem.W.Frag} {mg : Str → Option Value} {base : Heap} (Φ : Facts K mg) : FnD g P w K mg base 6 Φ.f_kept_machine Φ.d_kept_machine ["thing"] (r_kept_machine) := fnD Φ.F_kept_machine sc_kept_machine (fun cdv A outer s H E hr => b_kept_machine Φ (o_is_row Φ) (o_is_whole Φ) (o_is_list Φ) (o_kept_all Φ) (o_kept_pair Φ) (o_kept_move Φ) hr) (fun ds _ => M.Le.refl _)
def r_need_machine : List D → M D := runFn n_need_machine (B_need_machine r_kept_machine)
theorem o_need_machine {g : G} {P : Program} {w : World} {K : PySem.W.Frag} {mg : Str → Option Value} {base : Heap} (Φ : Facts K mg) : FnD g P w K mg base 7 Φ.f_need_machine Φ.d_need_machine ["thing"] (r_need_machine) := fnD Φ.F_need_machine sc_need_machine (fun cdv A outer s H E hr => b_need_machine Φ (o_kept_machine Φ) hr) (fun ds _ => M.Le.refl _)
def r_most_ways : List D → M D := runFn n_most_ways (B_most_ways r_need_machine)
theorem o_most_ways {g : G} {P : Program} {w : World} {K : PySem.W.Frag} {mg : Str → Option Value} {base : Heap} (Φ : Facts K mg) : FnD g P w K mg base 8 Φ.f_most_ways Φ.d_most_ways ["machine"] (r_most_ways) := fnD Φ.F_most_ways sc_most_ways (fun cdv A outer s H E hr => b_most_ways Φ (o_need_machine Φ) hr) (fun ds _ => M.Le.refl _)
def r_is_double : List D → M D := runFn n_is_double (B_is_double r_need_machine)
theorem o_is_double {g : G} {P : Program} {w : World} {K : PySem.W.Frag} {mg : Str → Option Value} {base : Heap} (Φ : Facts K mg) : FnD g P w K mg base 8 Φ.f_is_double Φ.d_is_double ["machine", "thing"] (r_is_double) := fnD Φ.F_is_double sc_is_double (fun cdv A outer s H E hr => b_is_double Φ (o_need_machine Φ) hr) (fun ds _ => M.Le.refl _)
def r_is_side : List D → M D := runFn n_is_side (B_is_side r_kept_side r_need_machine)
theorem o_is_side {g : G} {P : Program} {w : World} {K : PySem.W.Frag} {mg : Str → Option Value} {base : Heap} (Φ : Facts K mg) : FnD g P w K mg base 8 Φ.f_is_side Φ.d_is_side ["machine", "thing"] (r_is_side) := fnD Φ.F_is_side sc_is_side (fun cdv A outer s H E hr => b_is_side Φ (o_kept_side Φ) (o_need_machine Φ) hr) (fun ds _ => M.Le.refl _)
def r_degree : List D → M D := runFn n_degree (B_degree r_need_machine)
theorem o_degree {g : G} {P : Program} {w : World} {K : PySem.W.Frag} {mg : Str → Option Value} {base : Heap} (Φ : Facts K mg) : FnD g P w K mg base 8 Φ.f_degree Φ.d_degree ["machine"] (r_degree) := fnD Φ.F_degree sc_degree (fun cdv A outer s H E hr => b_degree Φ (o_need_machine Φ) hr) (fun ds _ => M.Le.refl _)
def r_chain_of : List D → M D := runFn n_chain_of (B_chain_of r_need_machine)
theorem o_chain_of {g : G} {P : Program} {w : World} {K : PySem.W.Frag} {mg : Str → Option Value} {base : Heap} (Φ : Facts K mg) : FnD g P w K mg base 8 Φ.f_chain_of Φ.d_chain_of ["machine"] (r_chain_of) := fnD Φ.F_chain_of sc_chain_of (fun cdv A outer s H E hr => b_chain_of Φ (o_need_machine Φ) hr) (fun ds _ => M.Le.refl _)
def r_is_chain : List D → M D := runFn n_is_chain (B_is_chain r_need_machine)
theorem o_is_chain {g : G} {P : Program} {w : World} {K : PySem.W.Frag} {mg : Str → Option Value} {base : Heap} (Φ : Facts K mg) : FnD g P w K mg base 8 Φ.f_is_chain Φ.d_is_chain ["machine", "thing"] (r_is_chain) := fnD Φ.F_is_chain sc_is_chain (fun cdv A outer s H E hr => b_is_chain Φ (o_need_machine Φ) hr) (fun ds _ => M.Le.refl _)
def r__law_pick (g : G) : List D → M D := runFn n__law_pick (B__law_pick (r__law_draw g))
theorem o__law_pick {g : G} {P : Program} {w : World} {K : PySem.W.Frag} {mg : Str → Option Value} {base : Heap} (Φ : Facts K mg) : FnD g P w K mg base 2 Φ.f__law_pick Φ.d__law_pick ["stream", "things"] (r__law_pick g) := fnD Φ.F__law_pick sc__law_pick (fun cdv A outer s H E hr => b__law_pick Φ (o__law_draw Φ) hr) (fun ds _ => M.Le.refl _)
def r__law_same : Nat → List D → M D
  | 0 => fun _ => M.stuck
  | j + 1 => runFn n__law_same (B__law_same (r__law_same j))
theorem o__law_same {g : G} {P : Program} {w : World} {K : PySem.W.Frag} {mg : Str → Option Value} {base : Heap} (Φ : Facts K mg) : ∀ j : Nat, FnD g P w K mg base j Φ.f__law_same Φ.d__law_same ["found", "due"] (r__law_same j)
  | 0 => fnD_stuck
  | j + 1 => fnD Φ.F__law_same sc__law_same (fun cdv A outer s H E hr => b__law_same Φ (o__law_same Φ j) hr) (fun ds _ => M.Le.refl _)
def r__law_copied : Nat → List D → M D
  | 0 => fun _ => M.stuck
  | j + 1 => runFn n__law_copied (B__law_copied (r__law_copied j))
theorem o__law_copied {g : G} {P : Program} {w : World} {K : PySem.W.Frag} {mg : Str → Option Value} {base : Heap} (Φ : Facts K mg) : ∀ j : Nat, FnD g P w K mg base j Φ.f__law_copied Φ.d__law_copied ["thing"] (r__law_copied j)
  | 0 => fnD_stuck
  | j + 1 => fnD Φ.F__law_copied sc__law_copied (fun cdv A outer s H E hr => b__law_copied Φ (o__law_copied Φ j) hr) (fun ds _ => M.Le.refl _)
def r__law_said (g : G) : List D → M D := runFn n__law_said (B__law_said (r__law_pick g) (r__law_draw g))
theorem o__law_said {g : G} {P : Program} {w : World} {K : PySem.W.Frag} {mg : Str → Option Value} {base : Heap} (Φ : Facts K mg) : FnD g P w K mg base 3 Φ.f__law_said Φ.d__law_said ["stream", "signs", "most"] (r__law_said g) := fnD Φ.F__law_said sc__law_said (fun cdv A outer s H E hr => b__law_said Φ (o__law_pick Φ) (o__law_draw Φ) hr) (fun ds _ => M.Le.refl _)
def r__law_unlike : List D → M D := runFn n__law_unlike (B__law_unlike )
theorem o__law_unlike {g : G} {P : Program} {w : World} {K : PySem.W.Frag} {mg : Str → Option Value} {base : Heap} (Φ : Facts K mg) : FnD g P w K mg base 1 Φ.f__law_unlike Φ.d__law_unlike ["things"] (r__law_unlike) := fnD Φ.F__law_unlike sc__law_unlike (fun cdv A outer s H E hr => b__law_unlike Φ  hr) (fun ds _ => M.Le.refl _)
def r__law_machine (g : G) : List D → M D := runFn n__law_machine (B__law_machine r__law_unlike (r__law_draw g) (r__law_said g))
theorem o__law_machine {g : G} {P : Program} {w : World} {K : PySem.W.Frag} {mg : Str → Option Value} {base : Heap} (Φ : Facts K mg) : FnD g P w K mg base 4 Φ.f__law_machine Φ.d__law_machine ["stream", "stands", "letters", "signs", "moves"] (r__law_machine g) := fnD Φ.F__law_machine sc__law_machine (fun cdv A outer s H E hr => b__law_machine Φ (o__law_unlike Φ) (o__law_draw Φ) (o__law_said Φ) hr) (fun ds _ => M.Le.refl _)
def r__law_w_odd_machine (g : G) : List D → M D := runFn n__law_w_odd_machine (B__law_w_odd_machine (r__law_pick g))
theorem o__law_w_odd_machine {g : G} {P : Program} {w : World} {K : PySem.W.Frag} {mg : Str → Option Value} {base : Heap} (Φ : Facts K mg) : FnD g P w K mg base 3 Φ.f__law_w_odd_machine Φ.d__law_w_odd_machine ["stream", "machine"] (r__law_w_odd_machine g) := fnD Φ.F__law_w_odd_machine sc__law_w_odd_machine (fun cdv A outer s H E hr => b__law_w_odd_machine Φ (o__law_pick Φ) hr) (fun ds _ => M.Le.refl _)
theorem CloD.mono {g : G} {P : Program} {w : World} {K : PySem.W.Frag} {mg : Str → Option Value} {base : Heap} {j j' k : Nat} {m : List D → List D → M D} (h : CloD g P w K mg base j k m) (hj : j ≤ j') : CloD g P w K mg base j' k m :=
  fun A outer s H us vs Q E F f caps ds n hr => h A outer s H us vs Q E F f caps ds n (hr.mono hj)
theorem cloD_stuck {g : G} {P : Program} {w : World} {K : PySem.W.Frag} {mg : Str → Option Value} {base : Heap} {j k : Nat} : CloD g P w K mg base j k (fun _ _ => M.stuck) :=
  fun A outer s H us vs Q E F f caps ds n _ _ _ _ _ _ _ _ _ h => h.elim
def lam0 : Nat → List D → List D → M D
  | 0 => m_lam0 r_most_ways
  | 1 => m_lam1 r_is_double
  | 2 => m_lam2 r_is_side (r__law_copied 9)
  | 3 => m_lam3 r_degree (r__law_copied 9)
  | 4 => m_lam4 r_chain_of
  | 5 => m_lam5 r_is_chain (r__law_copied 9)
  | 7 => m_lam7 r_most_ways
  | 8 => m_lam8 r_is_chain
  | _ => fun _ _ => M.stuck
def lam1 : Nat → List D → List D → M D
  | 6 => m_lam6 lam0
  | 0 => lam0 0
  | 1 => lam0 1
  | 2 => lam0 2
  | 3 => lam0 3
  | 4 => lam0 4
  | 5 => lam0 5
  | 7 => lam0 7
  | 8 => lam0 8
  | _ => fun _ _ => M.stuck
theorem hC0 {g : G} {P : Program} {w : World} {K : PySem.W.Frag} {mg : Str → Option Value} {base : Heap} (Φ : Facts K mg) (hL : ∀ k, g.L k = lamTab k) : ∀ k, CloD g P w K mg base 10 k (lam0 k)
  | 0 => (clo0 Φ (hL 0) (o_most_ways Φ)).mono (by decide)
  | 1 => (clo1 Φ (hL 1) (o_is_double Φ)).mono (by decide)
  | 2 => (clo2 Φ (hL 2) (o_is_side Φ) (o__law_copied Φ 9)).mono (by decide)
  | 3 => (clo3 Φ (hL 3) (o_degree Φ) (o__law_copied Φ 9)).mono (by decide)
  | 4 => (clo4 Φ (hL 4) (o_chain_of Φ)).mono (by decide)
  | 5 => (clo5 Φ (hL 5) (o_is_chain Φ) (o__law_copied Φ 9)).mono (by decide)
  | 7 => (clo7 Φ (hL 7) (o_most_ways Φ)).mono (by decide)
  | 8 => (clo8 Φ (hL 8) (o_is_chain Φ)).mono (by decide)
  | 6 => cloD_stuck
  | k + 9 => cloD_stuck
theorem hC1 {g : G} {P : Program} {w : World} {K : PySem.W.Frag} {mg : Str → Option Value} {base : Heap} (Φ : Facts K mg) (hL : ∀ k, g.L k = lamTab k) : ∀ k, CloD g P w K mg base 11 k (lam1 k)
  | 0 => (hC0 Φ hL 0).mono (by decide)
  | 1 => (hC0 Φ hL 1).mono (by decide)
  | 2 => (hC0 Φ hL 2).mono (by decide)
  | 3 => (hC0 Φ hL 3).mono (by decide)
  | 4 => (hC0 Φ hL 4).mono (by decide)
  | 5 => (hC0 Φ hL 5).mono (by decide)
  | 7 => (hC0 Φ hL 7).mono (by decide)
  | 8 => (hC0 Φ hL 8).mono (by decide)
  | 6 => (clo6 Φ (hL 6) (hC0 Φ hL))
  | k + 9 => cloD_stuck
def r__law_met : List D → M D := runFn n__law_met (B__law_met lam1)
theorem o__law_met {g : G} {P : Program} {w : World} {K : PySem.W.Frag} {mg : Str → Option Value} {base : Heap} (Φ : Facts K mg) (hL : ∀ k, g.L k = lamTab k) : FnD g P w K mg base 12 Φ.f__law_met Φ.d__law_met ["ask"] r__law_met := fnD Φ.F__law_met sc__law_met (fun cdv A outer s H E hr => b__law_met Φ (hC1 Φ hL) hr) (fun ds _ => M.Le.refl _)
def r__law_asks : List D → M D
  | [d] => pure (.lst [.clo 0 [d], .clo 1 [d], .clo 2 [d], .clo 3 [d], .clo 4 [d], .clo 5 [d]])
  | _ => M.stuck
def jkAsks (k : Nat) : Option (List Nat) := if k < 6 then some [0] else none
theorem caps_asks {g : G} (hL : g.L = lamTab) {X : Cx} (hN : X.N = n__law_asks) (hs : X.env.scope = defScope s__law_asks) : CapsK g X jkAsks := by
  have key : ∀ k < 6, (lamTab k).scope.names.all (fun y => (!decide (y.2 = .free) || (decide ((defScope s__law_asks).names.lookup y.1 = some .cell) && decide (y.1 ∈ (lamTab k).fr)))) = true ∧ (lamTab k).fr.all (fun y => decide ((y, NameKind.free) ∈ (lamTab k).scope.names)) = true ∧ [0].map (fun j => n__law_asks[j]?) = (lamTab k).fr.map some := by decide +kernel
  have only : ∀ k js, jkAsks k = some js → k < 6 ∧ js = [0] := fun k js h => by
    unfold jkAsks at h
    split at h
    · rename_i e
      cases h
      exact ⟨e, rfl⟩
    · cases h
  have k4 : ∀ k < 6, ∀ y, (y, NameKind.free) ∈ (lamTab k).scope.names → (defScope s__law_asks).names.lookup y = some .cell ∧ y ∈ (lamTab k).fr := fun k hk y hy => by
    have h := List.all_eq_true.mp (key k hk).1 _ hy
    simpa using h
  refine ⟨fun k js h y hy e => ?_, fun k js h y hy => ?_, fun k js h y hy => ?_, fun k js h => ?_⟩
  · obtain ⟨hk, rfl⟩ := only k js h
    rw [hL] at hy
    rw [hs]
    obtain ⟨y1, y2⟩ := y
    simp only at e
    subst e
    exact .inl (k4 k hk y1 hy).1
  · obtain ⟨hk, rfl⟩ := only k js h
    rw [hL] at hy ⊢
    have h := List.all_eq_true.mp (key k hk).2.1 y hy
    simpa using h
  · obtain ⟨hk, rfl⟩ := only k js h
    rw [hL] at hy ⊢
    exact (k4 k hk y hy).2
  · obtain ⟨hk, rfl⟩ := only k js h
    rw [hL, hN]
    exact (key k hk).2.2
theorem o__law_asks {g : G} {P : Program} {w : World} {K : PySem.W.Frag} {mg : Str → Option Value} {base : Heap} {Φ : Facts K mg} (O : GOk Φ base g) : FnD g P w K mg base 1 Φ.f__law_asks Φ.d__law_asks ["machine"] r__law_asks := by
  refine fnDC (mb := B__law_asks) (jk := jkAsks) Φ.F__law_asks sc__law_asks (fun cdv A outer s H E hcd hr => ⟨caps_asks O.L rfl rfl, b__law_asks O (hcd.symm.trans Φ.k__law_asks)⟩) fun C ds hl n Q E h => ?_
  match ds, hl, h with
  | [d], _, h =>
    rw [O.L]
    exact ⟨(show 1 ≤ sizeLine by decide), (show 1 < sizeLine by decide), (show 2 < sizeLine by decide), (show 3 < sizeLine by decide), (show 4 < sizeLine by decide), (show 1 ≤ sizeLine by decide), (show 5 + 1 ≤ sizeLine by decide), rfl, rfl, rfl, rfl, rfl, rfl, h⟩
theorem o__law_is_very {g : G} {P : Program} {w : World} {K : PySem.W.Frag} {mg : Str → Option Value} {base : Heap} {Φ : Facts K mg} (O : GOk Φ base g) : FnD g P w K mg base 14 Φ.f__law_is_very Φ.d__law_is_very ["word", "ask"] (mVery r__law_met (r__law_same 13)) :=
  very_ok O (o__law_met Φ fun k => by rw [O.L]) (o__law_same Φ 13) (by decide) (by decide)
theorem b_law_all {g : G} {P : Program} {w : World} {K : PySem.W.Frag} {mg : Str → Option Value} {base : Heap} {Φ : Facts K mg} (O : GOk Φ base g) (cdv : Value) (A : Around) (outer : List PySem.Env) (s : Shared) (H : Hp) (E : XK) (hcd : cdv = .ref Φ.cd_law) (hr : Room 14 (A.deeper (envOfC "law" (defScope s_law) s.heap.objs.size Φ.f_law cdv))) :
    PSsD g (cxOf (L2.CX P w) P w K mg base n_law "law" (defScope s_law) Φ.f_law cdv A outer s H E) (fun cls d _ H => E cls d H) ((defBody s_law).drop 1) (B_law (r__law_w_odd_machine g) (r__law_machine g) (r__law_same 13) r__law_asks r__law_met (mVery r__law_met (r__law_same 13))) :=
  b_law O (o__law_w_odd_machine Φ) (o__law_machine Φ) (o__law_same Φ 13) (o__law_asks O) (o__law_met Φ fun k => by rw [O.L]) (o__law_is_very O) hcd hr
end DL

set_option Elab.async false
set_option linter.all false
set_option maxRecDepth 100000
set_option maxHeartbeats 0
/-! printed by gen_head.py: the head -/
namespace DL
open PySem PySem.Spec PyProof.Rows L2 PySem.HandSPX
def dOf (x : Str) (i : Nat) : He.DefD := ⟨(x, none), x, x, defArgs (top i), defBody (top i), defScope (top i), [], []⟩
def clsSt (s : Stmt) (i : Nat) : Stmt := match s with
  | .ClassDef _ _ _ b _ _ _ _ _ _ _ => b.getD i (.Pass ⟨0, 0, 0, 0⟩)
  | _ => .Pass ⟨0, 0, 0, 0⟩
def iOf (c q : Str) (i j : Nat) : He.DefD := ⟨(c, some "__init__"), "__init__", q, defArgs (clsSt (top i) j), defBody (clsSt (top i) j), defScope (clsSt (top i) j), [], []⟩
/-- the class over ValueError at C -/
def clsVE (K : PySem.W.Frag) (C : Addr) : Bool := match K.lookup C with
  | some ⟨.type t, _, .cls cd, sl⟩ => t == "type" && (match cd.mro, sl.toList with
    | .ref C' :: bm, [_, _, _, _, some (.builtin n), _] => C' == C && (n == "ValueError.__new__" && (cd.hasDict && (!cd.hasDel && refsVE bm)))
    | _, _ => false)
  | _ => false
theorem clsVE_ok {K : PySem.W.Frag} {C : Addr} (h : clsVE K C = true) : ∃ nm q N bs bm sn sub ab col dd k0 k1 k2 k3 k5, K.lookup C = some (excClassObj nm q C N bs bm true sn sub ab col dd k0 k1 k2 k3 k5 "ValueError.__new__") ∧ refsVE bm = true := by
  unfold clsVE at h
  split at h
  · rename_i t dd cd sl e
    obtain ⟨ht, h⟩ := Bool.and_eq_true_iff.mp h
    split at h
    · rename_i C' bm k0 k1 k2 k3 n k5 em es
      simp only [Bool.and_eq_true, beq_iff_eq, Bool.not_eq_true'] at h ht
      obtain ⟨z1, z2, z3, z4, z5⟩ := h
      obtain ⟨nm, bs, mro, ns, q, hd, sn, sub, ab, col, del⟩ := cd
      dsimp only at em z3 z4
      subst em z3 z4 z1 z2 ht
      obtain ⟨l⟩ := sl
      dsimp only at es
      subst es
      exact ⟨nm, q, ns, bs, bm, sn, sub, ab, col, dd, k0, k1, k2, k3, k5, e, z5⟩
    · cases h
  · cases h
/-- what is asked of an own exception's class -/
def excB (K : PySem.W.Frag) (x fl : Str) : Bool :=
  clsVE K (He.ga K x) && (He.eqO (PySem.W.findIn K (.ref (He.ga K x)) "__setattr__") (some (some (.builtin "object.__setattr__"))) && (He.eqO (PySem.W.findIn K (.ref (He.ga K x)) "__getattribute__") (some (some (.builtin "BaseException.__getattribute__"))) && (He.eqO (PySem.W.findIn K (.ref (He.ga K x)) "__getattr__") (some none) && (He.eqO (PySem.W.findIn K (.ref (He.ga K x)) fl) (some none) && (He.eqO (PySem.W.findIn K (.ref (He.ga K x)) "__init__") (some (some (.ref (He.ma K (He.ga K x) "__init__")))) && (decide (PySem.W.typeIn K (.ref (He.ma K (He.ga K x) "__init__")) = some (.type "function")) && (PySem.W.keepIn K (.ref (He.ga K x)) && (decide (PySem.W.subIn K (.ref (He.ga K x)) (.type "BaseException") = some true) && (decide (PySem.W.typeIn K (.ref (He.ga K x)) = some (.type "type")) && (PySem.W.hasDictIn K (He.ga K x) && decide (PySem.W.exmOne K (.ref (He.ga K x)) (.ref (He.ga K x)) = some true)))))))))))
theorem excB_ok {K : PySem.W.Frag} {mg : Str → Option Value} {x fl q : Str} {i j : Nat} {fd : FuncData} (h : excB K x fl = true) (g : mg x = some (.ref (He.ga K x))) (F : FunD K "__init__" q (defArgs (clsSt (top i) j)) (defBody (clsSt (top i) j)) (defScope (clsSt (top i) j)) [] [] (He.ma K (He.ga K x) "__init__") fd) (ne : (fl == ("self" : Str)) = false) (nd : (fl == ("__debug__" : Str)) = false) (cd : (x == ("__debug__" : Str)) = false)
    (bd : ∀ (kV doc pm : Value) (an : Option Addr) (cdv ct y v : Value) (p1 p2 q1 q2 q3 q4 : Pos), bindArgs (PySem.W.fnOf "__init__" q (PySem.ExX.iA fl p1 p2) (PySem.ExX.iB fl q1 q2 q3 q4) (PySem.ExX.iS fl) .none kV doc pm an cdv ct) ⟨[y, v], []⟩ = pure [(("self" : Str), y), (fl, v)])
    (hA : ∃ p1 p2, defArgs (clsSt (top i) j) = PySem.ExX.iA fl p1 p2) (hB : ∃ q1 q2 q3 q4, defBody (clsSt (top i) j) = PySem.ExX.iB fl q1 q2 q3 q4) (hS : defScope (clsSt (top i) j) = PySem.ExX.iS fl) : PySem.ExX.ExTxt K mg x fl q (He.ga K x) (He.ma K (He.ga K x) "__init__") := by
  unfold excB at h
  simp only [Bool.and_eq_true] at h
  obtain ⟨h1, h2, h3, h4, h5, h6, h7, h8, h9, h10, h11, h12⟩ := h
  obtain ⟨oc, od, dV, kV, doc, pm, an, cdv, ct, osl, efd, lk, hcd, hD, _⟩ := F.ex
  obtain ⟨p1, p2, hA⟩ := hA
  obtain ⟨q1, q2, q3, q4, hB⟩ := hB
  have hdV : dV = .none := by
    rcases hD with ⟨_, z⟩ | ⟨z, _⟩
    · exact z
    · exact absurd rfl z
  subst efd
  rw [hA, hB, hS, hdV] at lk
  exact ⟨ne, nd, bd, cd, g, clsVE_ok h1, He.eqO_ok h2, He.eqO_ok h3, He.eqO_ok h4, He.eqO_ok h5, He.eqO_ok h6, of_decide_eq_true h7, h8, of_decide_eq_true h9, of_decide_eq_true h10, h11, of_decide_eq_true h12, oc, od, kV, doc, pm, an, cdv, ct, osl, p1, p2, q1, q2, q3, q4, lk, hcd⟩
def hfn0 : List He.DefD := [dOf "is_list" 1, dOf "is_whole" 2, dOf "is_number" 3, dOf "is_below" 4, dOf "is_row" 5, dOf "is_ascending" 6, dOf "kept_word" 11, dOf "kept_pair" 13, dOf "kept_move" 14, dOf "kept_all" 15, dOf "kept_machine" 16, dOf "need_machine" 17, dOf "kept_side" 45, dOf "most_ways" 42, dOf "is_double" 44, dOf "is_side" 46, dOf "degree" 47, dOf "chain_of" 48, dOf "is_chain" 49, dOf "_law_stream" 51, dOf "_law_draw" 52, dOf "_law_pick" 53, dOf "_law_same" 54, dOf "_law_copied" 55, dOf "_law_said" 57, dOf "_law_unlike" 58, dOf "_law_machine" 59, dOf "_law_w_odd_machine" 60, dOf "_law_is_very" 56, dOf "_law_met" 61]
def hfn1 : List He.DefD := [dOf "_law_asks" 62, dOf "law" 63, iOf "BadMachine" "BadMachine.__init__" 9 0]
def hfn : List He.DefD := hfn0 ++ hfn1
def hfa0 : List He.Fa := [.glo "is_list", .glo "is_whole", .glo "is_number", .glo "is_below", .glo "is_row", .glo "is_ascending", .glo "kept_word", .glo "kept_pair", .glo "kept_move", .glo "kept_all", .glo "kept_machine", .glo "need_machine", .glo "kept_side", .glo "most_ways", .glo "is_double", .glo "is_side", .glo "degree", .glo "chain_of", .glo "is_chain", .glo "_law_stream", .glo "_law_draw", .glo "_law_pick", .glo "_law_same", .glo "_law_copied", .glo "_law_said", .glo "_law_unlike", .glo "_law_machine", .glo "_law_w_odd_machine", .glo "_law_is_very", .glo "_law_met"]
def hfa1 : List He.Fa := [.glo "_law_asks", .glo "law", .glo "BadMachine", .free "isinstance", .free "list", .free "tuple", .free "int", .free "bool", .free "dict", .free "str", .free "len", .free "all", .free "sorted", .free "range", .free "zip", .free "abs"]
def hfa : List He.Fa := hfa0 ++ hfa1
def htf : List He.Defn := [("_law_is_very", none), ("_law_asks", none), ("law", none)]
def hex (K : PySem.W.Frag) : Bool := excB K "BadMachine" "machine" && (decide ((He.cT K ("_law_is_very", none)).2 ≠ (He.cT K ("_law_asks", none)).2) && (decide ((He.cT K ("_law_is_very", none)).2 ≠ (He.cT K ("law", none)).2) && (decide ((He.cT K ("_law_asks", none)).2 ≠ (He.cT K ("law", none)).2))))
def hloose0 : List Str := ["is_list", "is_whole", "is_number", "is_below", "is_row", "is_ascending", "ReadError", "BadMachine", "kept_word", "kept_pair", "kept_move", "kept_all", "kept_machine", "need_machine", "reached", "useful_stands", "with_stands", "useful_of", "Doubled", "kept_row", "end_of", "first_counts", "last_counts", "counts_on", "ended", "own_moves", "joint_steps", "way_between", "chain_to", "word_of"]
def hloose1 : List Str := ["double_of", "sides_of", "longest_chain", "most_of", "most_ways", "kept_round", "is_double", "kept_side", "is_side", "degree", "chain_of", "is_chain", "_law_stream", "_law_draw", "_law_pick", "_law_same", "_law_copied", "_law_is_very", "_law_said", "_law_unlike", "_law_machine", "_law_w_odd_machine", "_law_met", "_law_asks"]
def hloose : List Str := hloose0 ++ hloose1
abbrev RR : PySem.W.OpenRow := PySem.W.OpenLaw.row PySem.Challenge.rw_wordforword_k73_counting_refused
abbrev hk : PySem.W.Hook := He.hookX 4 hfa hfn [] htf hex
def hob (s : PySem.W.SharedT) : He.AlX := He.obsX 4 hfa hfn [] htf hex (HandSHeadRun.getT s)
theorem hob_eq (s : PySem.W.SharedT) : hob s = hk.obs s.abs := He.obsX_eq (HandSHeadRun.getT_eq s)
theorem hrun (w : World) : HandSHeadRun.RunEq RR (PySem.W.view RR.prog [63]) hk hob 4000 hloose w := by
  intro os
  kernel_rfl
theorem facts_of {K : PySem.W.Frag} {h : Heap} {mg : Str → Option Value} {w : World} (X : K.In h) (G : h.Ns mainGlobals mg) (c : He.SaysX hfa hfn [] htf hex w h K) : ∃ Φ : Facts K mg, tabsOf Φ = htf.map (He.cT K) ∧ Φ.f_law = He.ga K "law" := by
  have sd := c.t.d
  have gl : ∀ x : Str, He.Fa.glo x ∈ hfa → mg x = some (.ref (He.ga K x)) := fun x hx => He.glo_ok X G (sd.facts hx)
  have fr : ∀ x : Str, He.Fa.free x ∈ hfa → mg x = none := fun x hx => He.free_ok X G (sd.facts hx)
  have hx := c.more
  unfold hex at hx
  simp only [Bool.and_eq_true, decide_eq_true_eq] at hx
  obtain ⟨e0, e1, e2, e3⟩ := hx
  obtain ⟨fd0, F0⟩ := sd.defs (d := dOf "is_list" 1) (List.mem_iff_getElem?.mpr ⟨0, rfl⟩)
  obtain ⟨fd1, F1⟩ := sd.defs (d := dOf "is_whole" 2) (List.mem_iff_getElem?.mpr ⟨1, rfl⟩)
  obtain ⟨fd2, F2⟩ := sd.defs (d := dOf "is_number" 3) (List.mem_iff_getElem?.mpr ⟨2, rfl⟩)
  obtain ⟨fd3, F3⟩ := sd.defs (d := dOf "is_below" 4) (List.mem_iff_getElem?.mpr ⟨3, rfl⟩)
  obtain ⟨fd4, F4⟩ := sd.defs (d := dOf "is_row" 5) (List.mem_iff_getElem?.mpr ⟨4, rfl⟩)
  obtain ⟨fd5, F5⟩ := sd.defs (d := dOf "is_ascending" 6) (List.mem_iff_getElem?.mpr ⟨5, rfl⟩)
  obtain ⟨fd6, F6⟩ := sd.defs (d := dOf "kept_word" 11) (List.mem_iff_getElem?.mpr ⟨6, rfl⟩)
  obtain ⟨fd7, F7⟩ := sd.defs (d := dOf "kept_pair" 13) (List.mem_iff_getElem?.mpr ⟨7, rfl⟩)
  obtain ⟨fd8, F8⟩ := sd.defs (d := dOf "kept_move" 14) (List.mem_iff_getElem?.mpr ⟨8, rfl⟩)
  obtain ⟨fd9, F9⟩ := sd.defs (d := dOf "kept_all" 15) (List.mem_iff_getElem?.mpr ⟨9, rfl⟩)
  obtain ⟨fd10, F10⟩ := sd.defs (d := dOf "kept_machine" 16) (List.mem_iff_getElem?.mpr ⟨10, rfl⟩)
  obtain ⟨fd11, F11⟩ := sd.defs (d := dOf "need_machine" 17) (List.mem_iff_getElem?.mpr ⟨11, rfl⟩)
  obtain ⟨fd12, F12⟩ := sd.defs (d := dOf "kept_side" 45) (List.mem_iff_getElem?.mpr ⟨12, rfl⟩)
  obtain ⟨fd13, F13⟩ := sd.defs (d := dOf "most_ways" 42) (List.mem_iff_getElem?.mpr ⟨13, rfl⟩)
  obtain ⟨fd14, F14⟩ := sd.defs (d := dOf "is_double" 44) (List.mem_iff_getElem?.mpr ⟨14, rfl⟩)
  obtain ⟨fd15, F15⟩ := sd.defs (d := dOf "is_side" 46) (List.mem_iff_getElem?.mpr ⟨15, rfl⟩)
  obtain ⟨fd16, F16⟩ := sd.defs (d := dOf "degree" 47) (List.mem_iff_getElem?.mpr ⟨16, rfl⟩)
  obtain ⟨fd17, F17⟩ := sd.defs (d := dOf "chain_of" 48) (List.mem_iff_getElem?.mpr ⟨17, rfl⟩)
  obtain ⟨fd18, F18⟩ := sd.defs (d := dOf "is_chain" 49) (List.mem_iff_getElem?.mpr ⟨18, rfl⟩)
  obtain ⟨fd19, F19⟩ := sd.defs (d := dOf "_law_stream" 51) (List.mem_iff_getElem?.mpr ⟨19, rfl⟩)
  obtain ⟨fd20, F20⟩ := sd.defs (d := dOf "_law_draw" 52) (List.mem_iff_getElem?.mpr ⟨20, rfl⟩)
  obtain ⟨fd21, F21⟩ := sd.defs (d := dOf "_law_pick" 53) (List.mem_iff_getElem?.mpr ⟨21, rfl⟩)
  obtain ⟨fd22, F22⟩ := sd.defs (d := dOf "_law_same" 54) (List.mem_iff_getElem?.mpr ⟨22, rfl⟩)
  obtain ⟨fd23, F23⟩ := sd.defs (d := dOf "_law_copied" 55) (List.mem_iff_getElem?.mpr ⟨23, rfl⟩)
  obtain ⟨fd24, F24⟩ := sd.defs (d := dOf "_law_said" 57) (List.mem_iff_getElem?.mpr ⟨24, rfl⟩)
  obtain ⟨fd25, F25⟩ := sd.defs (d := dOf "_law_unlike" 58) (List.mem_iff_getElem?.mpr ⟨25, rfl⟩)
  obtain ⟨fd26, F26⟩ := sd.defs (d := dOf "_law_machine" 59) (List.mem_iff_getElem?.mpr ⟨26, rfl⟩)
  obtain ⟨fd27, F27⟩ := sd.defs (d := dOf "_law_w_odd_machine" 60) (List.mem_iff_getElem?.mpr ⟨27, rfl⟩)
  obtain ⟨fd28, F28⟩ := sd.defs (d := dOf "_law_is_very" 56) (List.mem_iff_getElem?.mpr ⟨28, rfl⟩)
  obtain ⟨fd29, F29⟩ := sd.defs (d := dOf "_law_met" 61) (List.mem_iff_getElem?.mpr ⟨29, rfl⟩)
  obtain ⟨fd30, F30⟩ := sd.defs (d := dOf "_law_asks" 62) (List.mem_iff_getElem?.mpr ⟨30, rfl⟩)
  obtain ⟨fd31, F31⟩ := sd.defs (d := dOf "law" 63) (List.mem_iff_getElem?.mpr ⟨31, rfl⟩)
  obtain ⟨fi_BadMachine, FI_BadMachine⟩ := sd.defs (d := iOf "BadMachine" "BadMachine.__init__" 9 0) (List.mem_iff_getElem?.mpr ⟨32, rfl⟩)
  have c__law_is_very : fd28.code = .ref (He.codeOf K ("_law_is_very", none)) := by
    obtain ⟨oc, od, dV, kV, doc, pm, an, cdv, ct, osl, efd, lk, hcd, _, _⟩ := F28.ex
    obtain ⟨c0, ec⟩ := He.codeIn_ref hcd
    have e1 : fd28.code = .ref c0 := by
      rw [efd]
      exact ec
    exact e1.trans (congrArg Value.ref (He.codeOf_eq (p := ("_law_is_very", none)) lk e1).symm)
  have c__law_asks : fd30.code = .ref (He.codeOf K ("_law_asks", none)) := by
    obtain ⟨oc, od, dV, kV, doc, pm, an, cdv, ct, osl, efd, lk, hcd, _, _⟩ := F30.ex
    obtain ⟨c0, ec⟩ := He.codeIn_ref hcd
    have e1 : fd30.code = .ref c0 := by
      rw [efd]
      exact ec
    exact e1.trans (congrArg Value.ref (He.codeOf_eq (p := ("_law_asks", none)) lk e1).symm)
  have c_law : fd31.code = .ref (He.codeOf K ("law", none)) := by
    obtain ⟨oc, od, dV, kV, doc, pm, an, cdv, ct, osl, efd, lk, hcd, _, _⟩ := F31.ex
    obtain ⟨c0, ec⟩ := He.codeIn_ref hcd
    have e1 : fd31.code = .ref c0 := by
      rw [efd]
      exact ec
    exact e1.trans (congrArg Value.ref (He.codeOf_eq (p := ("law", none)) lk e1).symm)
  refine ⟨{
    f_is_list := He.ga K "is_list"
    d_is_list := fd0
    F_is_list := F0
    g_is_list := gl "is_list" (List.mem_iff_getElem?.mpr ⟨0, rfl⟩)
    f_is_whole := He.ga K "is_whole"
    d_is_whole := fd1
    F_is_whole := F1
    g_is_whole := gl "is_whole" (List.mem_iff_getElem?.mpr ⟨1, rfl⟩)
    f_is_number := He.ga K "is_number"
    d_is_number := fd2
    F_is_number := F2
    g_is_number := gl "is_number" (List.mem_iff_getElem?.mpr ⟨2, rfl⟩)
    f_is_below := He.ga K "is_below"
    d_is_below := fd3
    F_is_below := F3
    g_is_below := gl "is_below" (List.mem_iff_getElem?.mpr ⟨3, rfl⟩)
    f_is_row := He.ga K "is_row"
    d_is_row := fd4
    F_is_row := F4
    g_is_row := gl "is_row" (List.mem_iff_getElem?.mpr ⟨4, rfl⟩)
    f_is_ascending := He.ga K "is_ascending"
    d_is_ascending := fd5
    F_is_ascending := F5
    g_is_ascending := gl "is_ascending" (List.mem_iff_getElem?.mpr ⟨5, rfl⟩)
    f_kept_word := He.ga K "kept_word"
    d_kept_word := fd6
    F_kept_word := F6
    g_kept_word := gl "kept_word" (List.mem_iff_getElem?.mpr ⟨6, rfl⟩)
    f_kept_pair := He.ga K "kept_pair"
    d_kept_pair := fd7
    F_kept_pair := F7
    g_kept_pair := gl "kept_pair" (List.mem_iff_getElem?.mpr ⟨7, rfl⟩)
    f_kept_move := He.ga K "kept_move"
    d_kept_move := fd8
    F_kept_move := F8
    g_kept_move := gl "kept_move" (List.mem_iff_getElem?.mpr ⟨8, rfl⟩)
    f_kept_all := He.ga K "kept_all"
    d_kept_all := fd9
    F_kept_all := F9
    g_kept_all := gl "kept_all" (List.mem_iff_getElem?.mpr ⟨9, rfl⟩)
    f_kept_machine := He.ga K "kept_machine"
    d_kept_machine := fd10
    F_kept_machine := F10
    g_kept_machine := gl "kept_machine" (List.mem_iff_getElem?.mpr ⟨10, rfl⟩)
    f_need_machine := He.ga K "need_machine"
    d_need_machine := fd11
    F_need_machine := F11
    g_need_machine := gl "need_machine" (List.mem_iff_getElem?.mpr ⟨11, rfl⟩)
    f_kept_side := He.ga K "kept_side"
    d_kept_side := fd12
    F_kept_side := F12
    g_kept_side := gl "kept_side" (List.mem_iff_getElem?.mpr ⟨12, rfl⟩)
    f_most_ways := He.ga K "most_ways"
    d_most_ways := fd13
    F_most_ways := F13
    g_most_ways := gl "most_ways" (List.mem_iff_getElem?.mpr ⟨13, rfl⟩)
    f_is_double := He.ga K "is_double"
    d_is_double := fd14
    F_is_double := F14
    g_is_double := gl "is_double" (List.mem_iff_getElem?.mpr ⟨14, rfl⟩)
    f_is_side := He.ga K "is_side"
    d_is_side := fd15
    F_is_side := F15
    g_is_side := gl "is_side" (List.mem_iff_getElem?.mpr ⟨15, rfl⟩)
    f_degree := He.ga K "degree"
    d_degree := fd16
    F_degree := F16
    g_degree := gl "degree" (List.mem_iff_getElem?.mpr ⟨16, rfl⟩)
    f_chain_of := He.ga K "chain_of"
    d_chain_of := fd17
    F_chain_of := F17
    g_chain_of := gl "chain_of" (List.mem_iff_getElem?.mpr ⟨17, rfl⟩)
    f_is_chain := He.ga K "is_chain"
    d_is_chain := fd18
    F_is_chain := F18
    g_is_chain := gl "is_chain" (List.mem_iff_getElem?.mpr ⟨18, rfl⟩)
    f__law_stream := He.ga K "_law_stream"
    d__law_stream := fd19
    F__law_stream := F19
    g__law_stream := gl "_law_stream" (List.mem_iff_getElem?.mpr ⟨19, rfl⟩)
    f__law_draw := He.ga K "_law_draw"
    d__law_draw := fd20
    F__law_draw := F20
    g__law_draw := gl "_law_draw" (List.mem_iff_getElem?.mpr ⟨20, rfl⟩)
    f__law_pick := He.ga K "_law_pick"
    d__law_pick := fd21
    F__law_pick := F21
    g__law_pick := gl "_law_pick" (List.mem_iff_getElem?.mpr ⟨21, rfl⟩)
    f__law_same := He.ga K "_law_same"
    d__law_same := fd22
    F__law_same := F22
    g__law_same := gl "_law_same" (List.mem_iff_getElem?.mpr ⟨22, rfl⟩)
    f__law_copied := He.ga K "_law_copied"
    d__law_copied := fd23
    F__law_copied := F23
    g__law_copied := gl "_law_copied" (List.mem_iff_getElem?.mpr ⟨23, rfl⟩)
    f__law_said := He.ga K "_law_said"
    d__law_said := fd24
    F__law_said := F24
    g__law_said := gl "_law_said" (List.mem_iff_getElem?.mpr ⟨24, rfl⟩)
    f__law_unlike := He.ga K "_law_unlike"
    d__law_unlike := fd25
    F__law_unlike := F25
    g__law_unlike := gl "_law_unlike" (List.mem_iff_getElem?.mpr ⟨25, rfl⟩)
    f__law_machine := He.ga K "_law_machine"
    d__law_machine := fd26
    F__law_machine := F26
    g__law_machine := gl "_law_machine" (List.mem_iff_getElem?.mpr ⟨26, rfl⟩)
    f__law_w_odd_machine := He.ga K "_law_w_odd_machine"
    d__law_w_odd_machine := fd27
    F__law_w_odd_machine := F27
    g__law_w_odd_machine := gl "_law_w_odd_machine" (List.mem_iff_getElem?.mpr ⟨27, rfl⟩)
    f__law_is_very := He.ga K "_law_is_very"
    d__law_is_very := fd28
    F__law_is_very := F28
    g__law_is_very := gl "_law_is_very" (List.mem_iff_getElem?.mpr ⟨28, rfl⟩)
    f__law_met := He.ga K "_law_met"
    d__law_met := fd29
    F__law_met := F29
    g__law_met := gl "_law_met" (List.mem_iff_getElem?.mpr ⟨29, rfl⟩)
    f__law_asks := He.ga K "_law_asks"
    d__law_asks := fd30
    F__law_asks := F30
    g__law_asks := gl "_law_asks" (List.mem_iff_getElem?.mpr ⟨30, rfl⟩)
    f_law := He.ga K "law"
    d_law := fd31
    F_law := F31
    g_law := gl "law" (List.mem_iff_getElem?.mpr ⟨31, rfl⟩)
    n_isinstance := fr "isinstance" (List.mem_iff_getElem?.mpr ⟨33, rfl⟩)
    n_list := fr "list" (List.mem_iff_getElem?.mpr ⟨34, rfl⟩)
    n_tuple := fr "tuple" (List.mem_iff_getElem?.mpr ⟨35, rfl⟩)
    n_int := fr "int" (List.mem_iff_getElem?.mpr ⟨36, rfl⟩)
    n_bool := fr "bool" (List.mem_iff_getElem?.mpr ⟨37, rfl⟩)
    n_dict := fr "dict" (List.mem_iff_getElem?.mpr ⟨38, rfl⟩)
    n_str := fr "str" (List.mem_iff_getElem?.mpr ⟨39, rfl⟩)
    n_len := fr "len" (List.mem_iff_getElem?.mpr ⟨40, rfl⟩)
    n_all := fr "all" (List.mem_iff_getElem?.mpr ⟨41, rfl⟩)
    n_sorted := fr "sorted" (List.mem_iff_getElem?.mpr ⟨42, rfl⟩)
    n_range := fr "range" (List.mem_iff_getElem?.mpr ⟨43, rfl⟩)
    n_zip := fr "zip" (List.mem_iff_getElem?.mpr ⟨44, rfl⟩)
    n_abs := fr "abs" (List.mem_iff_getElem?.mpr ⟨45, rfl⟩)
    c_BadMachine := He.ga K "BadMachine"
    i_BadMachine := He.ma K (He.ga K "BadMachine") "__init__"
    x_BadMachine := excB_ok (i := 9) (j := 0) (q := "BadMachine.__init__") e0 (gl "BadMachine" (List.mem_iff_getElem?.mpr ⟨32, rfl⟩)) FI_BadMachine (by decide) (by decide) (by decide) (fun _ _ _ _ _ _ _ _ _ _ _ _ _ _ => rfl) ⟨_, _, rfl⟩ ⟨_, _, _, _, rfl⟩ rfl
    cd__law_is_very := He.codeOf K ("_law_is_very", none)
    P__law_is_very := (He.cT K ("_law_is_very", none)).2
    k__law_is_very := c__law_is_very
    cd__law_asks := He.codeOf K ("_law_asks", none)
    P__law_asks := (He.cT K ("_law_asks", none)).2
    k__law_asks := c__law_asks
    cd_law := He.codeOf K ("law", none)
    P_law := (He.cT K ("law", none)).2
    k_law := c_law
    ne__law_is_very__law_asks := e1
    ne__law_is_very_law := e2
    ne__law_asks_law := e3
  }, rfl, rfl⟩
end DL

set_option Elab.async false
set_option linter.all false
set_option maxRecDepth 100000
set_option maxHeartbeats 4000000
/-! FK: tools for the pure law. -/
namespace DL
open PySem PySem.Spec PyProof.Rows L2
namespace M
theorem need_true {p : Prop} (h : p) : need p = pure () := ext fun n Q E => by simp [h]
@[simp] theorem calm_pure {α : Type} (x : α) : calm (pure x) = pure x := rfl
end M
/-- at most c draws, P holds of what comes -/
def Spec {α : Type} (c : Nat) (m : M α) (P : α → Prop) : Prop := ∀ n Q E, n + c < 2 ^ 40 → (∀ x n', n' ≤ n + c → P x → Q x n') → m.run n Q E
theorem Spec.pure {α : Type} {c : Nat} {x : α} {P : α → Prop} (h : P x) : Spec c (Pure.pure x : M α) P := fun n Q E _ q => q x n (Nat.le_add_right _ _) h
theorem Spec.bind {α β : Type} {a b : Nat} {m : M α} {k : α → M β} {P : α → Prop} {P' : β → Prop} (h : Spec a m P) (h' : ∀ x, P x → Spec b (k x) P') : Spec (a + b) (m >>= k) P' := fun n Q E hn q =>
  h n _ E (by omega) fun x n' hn' px => h' x px n' Q E (by omega) fun y n2 h2 py => q y n2 (by omega) py
theorem Spec.mono {α : Type} {a b : Nat} {m : M α} {P P' : α → Prop} (h : Spec a m P) (hab : a ≤ b) (hp : ∀ x, P x → P' x) : Spec b m P' := fun n Q E hn q => h n Q E (by omega) fun x n' h1 h2 => q x n' (by omega) (hp x h2)
theorem Spec.need {c : Nat} {p : Prop} {P : Unit → Prop} (hp : p) (h : P ()) : Spec c (M.need p) P := fun n Q E _ q => ⟨hp, q () n (Nat.le_add_right _ _) h⟩
theorem Spec.calm {α : Type} {c : Nat} {m : M α} {P : α → Prop} (h : Spec c m P) : Spec c (M.calm m) P := fun n Q _ hn q => h n Q _ hn q
theorem Spec.draw {g : G} {many : Int} {P : D → Prop} (h0 : 0 < many) (h1 : many < 1073741824) (h : ∀ r, 0 ≤ r → r < many → P (.int r)) : Spec 1 (mDraw g [.ref g.sa, .int many]) P := fun n Q E hn q =>
  ⟨rfl, h0, h1, by omega, fun r a b => q _ _ (by omega) (h r a b)⟩
/-- a list of turns -/
theorem spec_comp {c : Nat} {mt : D → Env → M Env} {mc : Env → M Bool} {me : Env → M D} {γ : Env} {P : D → Prop} : ∀ {ds : List D}, (∀ d ∈ ds, Spec c (turnL mt mc me γ d) (fun r => ∀ x ∈ r, P x)) → Spec (c * ds.length) (compL mt mc me γ ds) (fun r => ∀ x ∈ r, P x)
  | [], _ => .pure (by simp)
  | d :: ds, h => by
    have h1 := h d (List.mem_cons_self ..)
    have h2 := spec_comp (ds := ds) fun x hx => h x (List.mem_cons_of_mem _ hx)
    have e : c * (d :: ds).length = c + c * ds.length := by rw [List.length_cons, Nat.mul_succ, Nat.add_comm]
    rw [e]
    refine h1.bind fun r hr => ?_
    have h3 : Spec (c * ds.length + 0) (compL mt mc me γ ds >>= fun rs => pure (r ++ rs)) (fun r => ∀ x ∈ r, P x) := h2.bind fun rs hrs => .pure fun x hx => (List.mem_append.mp hx).elim (hr x) (hrs x)
    exact h3
theorem comp_pure {mt : D → Env → M Env} {mc : Env → M Bool} {me : Env → M D} {γ : Env} {f : D → List D} : ∀ {ds : List D}, (∀ d ∈ ds, turnL mt mc me γ d = pure (f d)) → compL mt mc me γ ds = pure (ds.flatMap f)
  | [], _ => rfl
  | d :: ds, h => by
    rw [compL, h d (List.mem_cons_self ..), comp_pure (ds := ds) fun x hx => h x (List.mem_cons_of_mem _ hx)]
    simp
/-! ### comparisons of ints -/
theorem dLt_int (i j : Int) : dLt (.int i) (.int j) = pure (decide (i < j)) := by
  simp [dLt, py2, toPy, PySem.W.dataLt_int, M.need_true (show ltOk (.int i) (.int j) from ⟨rfl, nofun, by simp [PyData.depth]⟩)]
theorem dGt_int (i j : Int) : dGt (.int i) (.int j) = pure (decide (j < i)) := by
  simp [dGt, py2, toPy, PySem.W.dataLt_int, M.need_true (show ltOk (.int i) (.int j) from ⟨rfl, nofun, by simp [PyData.depth]⟩)]
theorem dGe_int (i j : Int) : dGe (.int i) (.int j) = pure (decide (j ≤ i)) := by
  have e : (!decide (i < j)) = decide (j ≤ i) := by
    by_cases h : i < j
    · rw [decide_eq_true h, decide_eq_false (by omega)]
      rfl
    · rw [decide_eq_false h, decide_eq_true (by omega)]
      rfl
  simp [dGe, py2, toPy, PySem.W.dataLt_int, M.need_true (show ltOk (.int i) (.int j) from ⟨rfl, nofun, by simp [PyData.depth]⟩), e]
theorem dEq_int (i j : Int) : dEq (.int i) (.int j) = pure (i == j) := by
  simp [dEq, py2, toPy, eqP, PyData.eqv, M.need_true (show SeqAt.shaped (.int i) = true ∧ SeqAt.shaped (.int j) = true from ⟨rfl, rfl⟩)]
theorem dLen_lst (xs : List D) : dLen (.lst xs) = pure (.int xs.length) := rfl
theorem dLen_tup (xs : List D) : dLen (.tup xs) = pure (.int xs.length) := rfl
/-! ### the small defs -/
def TyOk (d : D) : Prop := (tyName d).isSome = true
def isSeqD : D → Bool
  | .lst _ => true
  | .lstA _ _ => true
  | .tup _ => true
  | _ => false
def isIntD : D → Bool
  | .int _ => true
  | _ => false
def isNumD : D → Bool
  | .int i => decide (0 ≤ i)
  | _ => false
def isBelD (m : Int) : D → Bool
  | .int i => decide (0 ≤ i) && decide (i < m)
  | _ => false
def lenD : D → Nat
  | .lst xs => xs.length
  | .lstA _ xs => xs.length
  | .tup xs => xs.length
  | _ => 0
theorem e_is_list {d : D} (h : TyOk d) : r_is_list [d] = pure (.bl (isSeqD d)) := by
  cases d <;> first | (unfold TyOk tyName at h; cases h; done) | (simp [r_is_list, runFn, B_is_list, startD, rd, dIsi, tyName, isSeqD, isSub] <;> decide)
theorem e_is_whole {d : D} (h : TyOk d) : r_is_whole [d] = pure (.bl (isIntD d)) := by
  cases d <;> first | (unfold TyOk tyName at h; cases h; done) | (simp [r_is_whole, runFn, B_is_whole, startD, rd, dIsi, tyName, isIntD, isSub, tru] <;> decide)
theorem e_is_number {d : D} (h : TyOk d) : r_is_number [d] = pure (.bl (isNumD d)) := by
  cases d with
  | int i => simp [r_is_number, runFn, B_is_number, startD, rd, M.need_true, e_is_whole (d := .int i) rfl, isIntD, tru, dGe_int, isNumD]
  | _ => first | (unfold TyOk tyName at h; cases h; done) | (simp [r_is_number, runFn, B_is_number, startD, rd, M.need_true, e_is_whole h, isIntD, tru, isNumD])
theorem e_is_below {d : D} (m : Int) (h : TyOk d) : r_is_below [d, .int m] = pure (.bl (isBelD m d)) := by
  cases d with
  | int i =>
    simp [r_is_below, runFn, B_is_below, startD, rd, M.need_true, e_is_number (d := .int i) rfl, isNumD, tru, dLt_int, isBelD]
    cases decide (0 ≤ i) <;> simp
  | _ => first | (unfold TyOk tyName at h; cases h; done) | (simp [r_is_below, runFn, B_is_below, startD, rd, M.need_true, e_is_number h, isNumD, tru, isBelD])
theorem e_is_row {d : D} (m : Int) (h : TyOk d) : r_is_row [d, .int m] = pure (.bl (isSeqD d && ((lenD d : Int) == m))) := by
  cases d <;> first | (unfold TyOk tyName at h; cases h; done) | (simp [r_is_row, runFn, B_is_row, startD, rd, M.need_true, e_is_list h, isSeqD, lenD, tru, dLen, dEq_int])
def elsD : D → List D
  | .lst xs => xs
  | .tup xs => xs
  | _ => []
/-- data whose items are data, of a size that is walked -/
def OkL (xs : List D) : Prop := xs.length ≤ sizeLine ∧ ∀ x ∈ xs, TyOk x
theorem bools_map (xs : List D) (p : D → Bool) : bools (xs.flatMap fun d => [D.bl (p d)]) = some (xs.map p) := by
  induction xs with
  | nil => rfl
  | cons x xs ih =>
    rw [List.flatMap_cons, List.singleton_append, bools, ih]
    rfl
theorem all_map (xs : List D) (p : D → Bool) : (xs.map p).all id = xs.all p := by
  rw [List.all_map]
  rfl
def keptWordD (m : Int) (d : D) : D := match d with
  | .lst xs => bif xs.all (isBelD m) then .tup xs else .non
  | .tup xs => bif xs.all (isBelD m) then .tup xs else .non
  | _ => .non
theorem compM_pure {own : List Nat} {mi : Env → M (List D)} {mt : D → Env → M Env} {mc : Env → M Bool} {me : Env → M D} {γ : Env} {ds : List D} (f : D → List D) (h1 : mi γ = pure ds) (h2 : noOw γ own) (h3 : ∀ d ∈ ds, turnL mt mc me (wipeD γ own) d = pure (f d)) : compM own mi mt mc me γ = pure (.lst (ds.flatMap f)) := by
  unfold compM
  rw [h1, pure_bind, M.need_true h2, pure_bind, comp_pure h3, M.calm_pure, pure_bind]
theorem items_lst {xs : List D} (h : xs.length ≤ sizeLine) : itemsOf (.lst xs) = pure xs := by
  show (do M.need (xs.length ≤ sizeLine); pure xs : M (List D)) = _
  rw [M.need_true h, pure_bind]
theorem items_tup {xs : List D} (h : xs.length ≤ sizeLine) : itemsOf (.tup xs) = pure xs := by
  show (do M.need (xs.length ≤ sizeLine); pure xs : M (List D)) = _
  rw [M.need_true h, pure_bind]
theorem dAll_map (xs : List D) (p : D → Bool) : dAll (.lst (xs.flatMap fun d => [D.bl (p d)])) = pure (xs.all p) := by
  show (match bools (xs.flatMap fun d => [D.bl (p d)]) with
    | some bs => (pure (bs.all id) : M Bool)
    | none => M.stuck) = _
  rw [bools_map]
  show pure ((xs.map p).all id) = _
  rw [all_map]
theorem e_kept_word {d : D} (m : Int) (h : TyOk d) (hn : ∀ a xs, d ≠ .lstA a xs) (hx : OkL (elsD d)) : r_kept_word [.int m, d] = pure (keptWordD m d) := by
  cases d with
  | lst xs =>
    simp only [r_kept_word, runFn, B_kept_word, seqM, startD, List.map_cons, List.map_nil, List.length_cons, List.length_nil, List.cons_append, List.nil_append, rd, pure_bind, List.getElem?_cons_succ, List.getElem?_cons_zero, M.need_true, e_is_list h, isSeqD, tru, Bool.not_true, cond_false]
    rw [compM_pure (ds := xs) (fun d => [D.bl (isBelD m d)])]
    · rw [pure_bind, dAll_map, show keptWordD m (.lst xs) = bif xs.all (isBelD m) then .tup xs else .non from rfl]
      generalize xs.all (isBelD m) = bb
      cases bb <;> simp [dTuple, tru]
    · simp only [rd, List.getElem?_cons_succ, List.getElem?_cons_zero, pure_bind, items_lst (show xs.length ≤ sizeLine from hx.1)]
    · intro i hi
      simp at hi
      subst hi
      rfl
    · intro d hd
      simp [turnL, wipeD, setM, rd, isNon, M.need_true, e_is_below m (hx.2 d hd)]
  | tup xs =>
    simp only [r_kept_word, runFn, B_kept_word, seqM, startD, List.map_cons, List.map_nil, List.length_cons, List.length_nil, List.cons_append, List.nil_append, rd, pure_bind, List.getElem?_cons_succ, List.getElem?_cons_zero, M.need_true, e_is_list h, isSeqD, tru, Bool.not_true, cond_false]
    rw [compM_pure (ds := xs) (fun d => [D.bl (isBelD m d)])]
    · rw [pure_bind, dAll_map, show keptWordD m (.tup xs) = bif xs.all (isBelD m) then .tup xs else .non from rfl]
      generalize xs.all (isBelD m) = bb
      cases bb <;> simp [dTuple, tru]
    · simp only [rd, List.getElem?_cons_succ, List.getElem?_cons_zero, pure_bind, items_tup (show xs.length ≤ sizeLine from hx.1)]
    · intro i hi
      simp at hi
      subst hi
      rfl
    · intro d hd
      simp [turnL, wipeD, setM, rd, isNon, M.need_true, e_is_below m (hx.2 d hd)]
  | lstA a xs => exact absurd rfl (hn a xs)
  | _ =>
    first
      | (unfold TyOk tyName at h; cases h; done)
      | simp [r_kept_word, runFn, B_kept_word, seqM, startD, rd, M.need_true, e_is_list h, isSeqD, tru, keptWordD]
def keptPairD (st sg : Int) (a b : D) : D := bif isBelD st a then (bif isNon (keptWordD sg b) then .non else .tup [a, keptWordD sg b]) else .non
theorem atI0 {α : Type} (a : α) (l : List α) : atI (a :: l) 0 = some a := by
  simp [atI, ixN]
theorem atI1 {α : Type} (a b : α) (l : List α) : atI (a :: b :: l) 1 = some b := by
  simp [atI, ixN]
  rw [if_pos (by omega)]
  rfl
theorem atI2 {α : Type} (a b c : α) (l : List α) : atI (a :: b :: c :: l) 2 = some c := by
  simp [atI, ixN]
  rw [if_pos (by omega)]
  rfl
theorem atI3 {α : Type} (a b c d : α) (l : List α) : atI (a :: b :: c :: d :: l) 3 = some d := by
  simp [atI, ixN]
  rw [if_pos (by omega)]
  rfl
theorem e_kept_pair {a b : D} (st sg : Int) (ha : TyOk a) (hb : TyOk b) (hn : ∀ p xs, b ≠ .lstA p xs) (hx : OkL (elsD b)) : r_kept_pair [.tup [a, b], .int st, .int sg] = pure (keptPairD st sg a b) := by
  simp [r_kept_pair, runFn, B_kept_pair, seqM, startD, rd, M.need_true, e_is_row 2 (show TyOk (.tup [a, b]) from rfl), isSeqD, lenD, tru, dIx, atI0, atI1, e_is_below st ha, e_kept_word sg hb hn hx, setM, keptPairD]
  generalize isBelD st a = bb
  cases bb with
  | false => simp
  | true =>
    generalize ew : keptWordD sg b = ww
    cases hw : isNon ww <;> simp [hw, atI0, atI1, e_kept_word sg hb hn hx, ew, M.need_true (show 2 ≤ sizeLine by decide)]
theorem e_kept_pairN {xs : List D} (st sg : Int) (h : xs.length ≠ 2) : r_kept_pair [.tup xs, .int st, .int sg] = pure .non := by
  have e : ((xs.length : Int) == 2) = false := by
    rw [beq_eq_false_iff_ne]
    omega
  simp [r_kept_pair, runFn, B_kept_pair, seqM, startD, rd, M.need_true, e_is_row 2 (show TyOk (.tup xs) from rfl), isSeqD, lenD, tru, e]
def keptMoveD (st lt sg : Int) (a b w c : D) : D := bif isBelD st a && isBelD lt b then (bif isNon (keptWordD sg w) || !isBelD st c then .non else .tup [a, b, keptWordD sg w, c]) else .non
theorem e_kept_move {a b w c : D} (st lt sg : Int) (ha : TyOk a) (hb : TyOk b) (hw : TyOk w) (hc : TyOk c) (hn : ∀ p xs, w ≠ .lstA p xs) (hx : OkL (elsD w)) : r_kept_move [.tup [a, b, w, c], .int st, .int lt, .int sg] = pure (keptMoveD st lt sg a b w c) := by
  simp [r_kept_move, runFn, B_kept_move, seqM, startD, rd, M.need_true, e_is_row 4 (show TyOk (.tup [a, b, w, c]) from rfl), isSeqD, lenD, tru, dIx, atI0, atI1, atI2, atI3, e_is_below st ha, e_is_below lt hb, e_is_below st hc, e_kept_word sg hw hn hx, setM, keptMoveD]
  generalize isBelD st a = b1
  generalize isBelD lt b = b2
  cases b1 with
  | false => simp
  | true =>
    cases b2 with
    | false => simp [atI0, atI1, e_is_below st ha, e_is_below lt hb, tru]
    | true =>
      generalize ew : keptWordD sg w = ww
      generalize eb : isBelD st c = b3
      cases hw : isNon ww <;> cases b3 <;> simp [hw, atI0, atI1, atI2, atI3, e_is_below lt hb, e_is_below st hc, e_kept_word sg ‹TyOk w› hn hx, ew, eb, tru, M.need_true (show 4 ≤ sizeLine by decide)]
theorem e_kept_moveN {xs : List D} (st lt sg : Int) (h : xs.length ≠ 4) : r_kept_move [.tup xs, .int st, .int lt, .int sg] = pure .non := by
  have e : ((xs.length : Int) == 4) = false := by
    rw [beq_eq_false_iff_ne]
    omega
  simp [r_kept_move, runFn, B_kept_move, seqM, startD, rd, M.need_true, e_is_row 4 (show TyOk (.tup xs) from rfl), isSeqD, lenD, tru, e]
/-! ### kept_all -/
def ltB (x y : D) : Bool := PySem.W.dataLt (pyD x) (pyD y)
def ltP : D → Bool
  | .tup [x, y] => ltB x y
  | _ => false
/-- items that < takes -/
def LtAll (xs : List D) : Prop := ∀ x ∈ xs, ∀ y ∈ xs, dLt x y = pure (ltB x y)
def ascD (xs : List D) : Bool := (zipD xs (cutD xs (some 1) none)).all ltP
theorem mem_cut {xs : List D} {l u : Option Int} {x : D} (h : x ∈ cutD xs l u) : x ∈ xs := List.mem_of_mem_drop (List.mem_of_mem_take h)
theorem mem_zipD {xs ys : List D} {d : D} (h : d ∈ zipD xs ys) : ∃ x ∈ xs, ∃ y ∈ ys, d = .tup [x, y] := by
  unfold zipD at h
  obtain ⟨p, hp, e⟩ := List.mem_map.mp h
  obtain ⟨h1, h2⟩ := List.of_mem_zip hp
  exact ⟨p.1, h1, p.2, h2, e.symm⟩
theorem e_is_ascending {xs : List D} (hl : xs.length ≤ sizeLine) (hA : LtAll xs) : r_is_ascending [.lst xs] = pure (.bl (ascD xs)) := by
  simp only [r_is_ascending, runFn, B_is_ascending, startD, List.map_cons, List.map_nil, List.length_cons, List.length_nil, List.cons_append, List.nil_append, rd, pure_bind, List.getElem?_cons_succ, List.getElem?_cons_zero]
  rw [compM_pure (ds := zipD xs (cutD xs (some 1) none)) (fun d => [D.bl (ltP d)])]
  · rw [pure_bind, dAll_map]
    rfl
  · simp only [rd, List.getElem?_cons_succ, List.getElem?_cons_zero, pure_bind, asInt, dSlice]
    show (do M.need (xs.length ≤ sizeLine); pure (zipD xs (cutD xs (some 1) none)) : M (List D)) = _
    rw [M.need_true hl, pure_bind]
  · intro i hi
    simp at hi
    rcases hi with rfl | rfl <;> rfl
  · intro d hd
    obtain ⟨x, hx, y, hy, e⟩ := mem_zipD hd
    subst e
    have h1 : M.need (∀ ds, D.tup [x, y] = D.tup ds → ds.length = 2) = pure () := M.need_true fun ds e => by cases e; rfl
    simp [turnL, wipeD, setM, rd, tupT, consT, h1, M.need_true, hA x hx y (mem_cut hy), ltP]
def keptAllD (xs : List D) : D := bif xs.any isNon || !ascD xs then .non else .tup xs
/-- items that can be looked through for None -/
def ShAll (xs : List D) : Prop := ∀ x ∈ xs, ∃ p, toPy x = some p ∧ SeqAt.shaped p = true ∧ (p = .none → x = .non)
theorem toPyL_of : ∀ {xs : List D}, ShAll xs → ∃ ps, toPyL xs = some ps ∧ (∀ p ∈ ps, SeqAt.shaped p = true) ∧ (ps.any fun q => PyData.eqv q .none) = xs.any isNon
  | [], _ => ⟨[], rfl, by simp, rfl⟩
  | x :: xs, h => by
    obtain ⟨p, h1, h2, h3⟩ := h x (List.mem_cons_self ..)
    obtain ⟨ps, h4, h5, h6⟩ := toPyL_of (xs := xs) fun y hy => h y (List.mem_cons_of_mem _ hy)
    refine ⟨p :: ps, by rw [toPyL, h1, h4], fun q hq => ?_, ?_⟩
    · rcases List.mem_cons.mp hq with rfl | hq
      · exact h2
      · exact h5 q hq
    · rw [List.any_cons, List.any_cons, h6]
      congr 1
      cases p with
      | none =>
        rw [h3 rfl]
        rfl
      | _ =>
        have : isNon x = false := by
          cases x <;> first | rfl | (simp [toPy] at h1)
        rw [this]
        rfl
theorem dInL_non {xs : List D} (h : ShAll xs) : dInL .non (.lst xs) = pure (xs.any isNon) := by
  obtain ⟨ps, h1, h2, h3⟩ := toPyL_of h
  unfold dInL
  simp only [toPy, h1]
  rw [M.need_true (show inOk .none ps from ⟨rfl, h2⟩), pure_bind, h3]
theorem e_kept_all {xs : List D} (hl : xs.length ≤ sizeLine) (hs : ShAll xs) (hA : xs.any isNon = false → LtAll xs) : r_kept_all [.lst xs] = pure (keptAllD xs) := by
  simp [r_kept_all, runFn, B_kept_all, startD, rd, M.need_true, dInL_non hs, keptAllD]
  cases e : xs.any isNon with
  | true => simp
  | false =>
    simp [e_is_ascending hl (hA e), tru]
    cases ascD xs <;> simp [dTuple]
end DL

set_option Elab.async false
set_option linter.all false
set_option maxRecDepth 100000
set_option maxHeartbeats 4000000
/-! FL: kept_machine, need_machine (k73). -/
namespace DL
open PySem PySem.Spec PyProof.Rows L2
theorem e_whole_int (i : Int) : r_is_whole [.int i] = pure (.bl true) := e_is_whole (d := .int i) rfl
def posD : D → Bool
  | .int i => decide (0 < i)
  | _ => false
theorem e_km_row {d : D} (h : TyOk d) (hr : (isSeqD d && ((lenD d : Int) == 6)) = false) : r_kept_machine [d] = pure .non := by
  simp [r_kept_machine, runFn, B_kept_machine, seqM, startD, rd, M.need_true, e_is_row 6 h, hr, tru]
theorem cut3 {α : Type} (a b c d e f : α) : cutD [a, b, c, d, e, f] none (some 3) = [a, b, c] := by rfl
theorem cut3b {α : Type} (a b c d e f : α) : cutD [a, b, c, d, e, f] (some 3) none = [d, e, f] := by rfl
theorem flat1 (xs : List D) (f : D → D) : (xs.flatMap fun d => [f d]) = xs.map f := by
  induction xs with
  | nil => rfl
  | cons x xs ih => rw [List.flatMap_cons, ih]; rfl
section
variable {a b c S T U : D}
theorem e_km_pos (ha : TyOk a) (hb : TyOk b) (hc : TyOk c) (h : (posD a && (posD b && posD c)) = false) : r_kept_machine [.tup [a, b, c, S, T, U]] = pure .non := by
  have e6 : (isSeqD (.tup [a, b, c, S, T, U]) && ((lenD (.tup [a, b, c, S, T, U]) : Int) == 6)) = true := rfl
  simp only [r_kept_machine, runFn, B_kept_machine, seqM, startD, List.map_cons, List.map_nil, List.length_cons, List.length_nil, List.cons_append, List.nil_append, rd, pure_bind, List.getElem?_cons_succ, List.getElem?_cons_zero, M.need_true, e_is_row 6 (show TyOk (.tup [a, b, c, S, T, U]) from rfl), e6, tru, Bool.not_true, cond_false]
  rw [compM_pure (ds := [a, b, c]) (fun d => [D.bl (posD d)])]
  · rw [pure_bind, dAll_map]
    have e : [a, b, c].all posD = false := by simpa using h
    rw [e]
    simp [tru]
  · simp only [rd, rdB, List.getElem?_cons_succ, List.getElem?_cons_zero, pure_bind, asInt, dSlice, cut3]
    exact items_tup (show 3 ≤ sizeLine by decide)
  · intro i hi
    simp at hi
    subst hi
    rfl
  · intro d hd
    have ht : TyOk d := by
      simp at hd
      rcases hd with rfl | rfl | rfl <;> assumption
    cases d with
    | int i =>
      simp [turnL, wipeD, setM, rd, M.need_true, e_is_whole ht, isIntD, tru, dGt_int, posD]
    | _ => first | (unfold TyOk tyName at ht; cases ht; done) | simp [turnL, wipeD, setM, rd, M.need_true, e_is_whole ht, isIntD, tru, posD]
theorem e_km_parts {i j k : Int} (hi : 0 < i) (hj : 0 < j) (hk : 0 < k) (hS : TyOk S) (hT : TyOk T) (hU : TyOk U) (h : (isSeqD S && (isSeqD T && isSeqD U)) = false) : r_kept_machine [.tup [.int i, .int j, .int k, S, T, U]] = pure .non := by
  have e6 : (isSeqD (.tup [.int i, .int j, .int k, S, T, U]) && ((lenD (.tup [.int i, .int j, .int k, S, T, U]) : Int) == 6)) = true := rfl
  simp only [r_kept_machine, runFn, B_kept_machine, seqM, startD, List.map_cons, List.map_nil, List.length_cons, List.length_nil, List.cons_append, List.nil_append, rd, pure_bind, List.getElem?_cons_succ, List.getElem?_cons_zero, M.need_true, e_is_row 6 (show TyOk (.tup [.int i, .int j, .int k, S, T, U]) from rfl), e6, tru, Bool.not_true, cond_false]
  rw [compM_pure (ds := [.int i, .int j, .int k]) (fun d => [D.bl (posD d)])]
  · rw [pure_bind, dAll_map]
    have e : [D.int i, .int j, .int k].all posD = true := by simp [posD, hi, hj, hk]
    have n3 : M.need (∀ ds, D.tup [.int i, .int j, .int k] = D.tup ds → ds.length = 3) = pure () := M.need_true fun ds e => by cases e; rfl
    rw [e]
    simp only [pure_bind, tru, Bool.not_true, cond_false, asInt, rd, List.getElem?_cons_succ, List.getElem?_cons_zero, dSlice, cut3, n3, tupT, consT, setM, M.need_true, M.calm_pure, List.set_cons_succ, List.set_cons_zero, Nat.sub_zero, List.replicate_succ, List.replicate_zero]
    rw [compM_pure (ds := [S, T, U]) (fun d => [D.bl (isSeqD d)])]
    · rw [pure_bind, dAll_map]
      have e2 : [S, T, U].all isSeqD = false := by simpa using h
      rw [e2]
      simp [tru]
    · simp only [rd, List.getElem?_cons_succ, List.getElem?_cons_zero, pure_bind, asInt, dSlice, cut3b]
      exact items_tup (show 3 ≤ sizeLine by decide)
    · intro i hi
      simp at hi
      subst hi
      rfl
    · intro d hd
      have ht : TyOk d := by
        simp at hd
        rcases hd with rfl | rfl | rfl <;> assumption
      simp [turnL, wipeD, setM, rd, M.need_true, e_is_list ht]
  · simp only [rd, rdB, List.getElem?_cons_succ, List.getElem?_cons_zero, pure_bind, asInt, dSlice, cut3]
    exact items_tup (show 3 ≤ sizeLine by decide)
  · intro i hi
    simp at hi
    subst hi
    rfl
  · intro d hd
    simp at hd
    rcases hd with rfl | rfl | rfl <;> simp [turnL, wipeD, setM, rd, M.need_true, e_whole_int, tru, dGt_int, posD]
end
theorem atI4 {α : Type} (a b c d e f : α) : atI [a, b, c, d, e, f] 4 = some e := by
  simp [atI, ixN]
theorem atI5 {α : Type} (a b c d e f : α) : atI [a, b, c, d, e, f] 5 = some f := by
  simp [atI, ixN]
theorem e_km_lists {i j k : Int} (hi : 0 < i) (hj : 0 < j) (hk : 0 < k) {ss ts us : List D} {fS fT fU : D → D} {S T U : D} (lS : ss.length ≤ sizeLine) (lT : ts.length ≤ sizeLine) (lU : us.length ≤ sizeLine)
    (hS : ∀ x ∈ ss, r_kept_pair [x, .int i, .int k] = pure (fS x)) (hT : ∀ x ∈ ts, r_kept_move [x, .int i, .int j, .int k] = pure (fT x)) (hU : ∀ x ∈ us, r_kept_pair [x, .int i, .int k] = pure (fU x))
    (kS : r_kept_all [.lst (ss.map fS)] = pure S) (kT : r_kept_all [.lst (ts.map fT)] = pure T) (kU : r_kept_all [.lst (us.map fU)] = pure U) :
    r_kept_machine [.tup [.int i, .int j, .int k, .lst ss, .lst ts, .lst us]] = pure (bif isNon S || (isNon T || isNon U) then .non else .tup [.int i, .int j, .int k, S, T, U]) := by
  have e6 : (isSeqD (.tup [.int i, .int j, .int k, .lst ss, .lst ts, .lst us]) && ((lenD (.tup [.int i, .int j, .int k, .lst ss, .lst ts, .lst us]) : Int) == 6)) = true := rfl
  simp only [r_kept_machine, runFn, B_kept_machine, seqM, startD, List.map_cons, List.map_nil, List.length_cons, List.length_nil, List.cons_append, List.nil_append, rd, pure_bind, List.getElem?_cons_succ, List.getElem?_cons_zero, M.need_true, e_is_row 6 (show TyOk (.tup [.int i, .int j, .int k, .lst ss, .lst ts, .lst us]) from rfl), e6, tru, Bool.not_true, cond_false]
  rw [compM_pure (ds := [.int i, .int j, .int k]) (fun d => [D.bl (posD d)])]
  · rw [pure_bind, dAll_map]
    have e : [D.int i, .int j, .int k].all posD = true := by simp [posD, hi, hj, hk]
    have n3 : M.need (∀ ds, D.tup [.int i, .int j, .int k] = D.tup ds → ds.length = 3) = pure () := M.need_true fun ds e => by cases e; rfl
    rw [e]
    simp only [pure_bind, tru, Bool.not_true, cond_false, asInt, rd, List.getElem?_cons_succ, List.getElem?_cons_zero, dSlice, cut3, n3, tupT, consT, setM, M.need_true, M.calm_pure, List.set_cons_succ, List.set_cons_zero, Nat.sub_zero, List.replicate_succ, List.replicate_zero]
    rw [compM_pure (ds := [.lst ss, .lst ts, .lst us]) (fun d => [D.bl (isSeqD d)])]
    · rw [pure_bind, dAll_map]
      have e2 : [D.lst ss, .lst ts, .lst us].all isSeqD = true := rfl
      rw [e2]
      simp only [pure_bind, tru, Bool.not_true, cond_false]
      rw [compM_pure (ds := ss) (fun d => [fS d])]
      · rw [flat1]
        simp only [pure_bind, List.length_cons, List.length_nil, M.need_true, kS, setM, List.set_cons_succ, List.set_cons_zero]
        rw [compM_pure (ds := ts) (fun d => [fT d])]
        · rw [flat1]
          simp only [pure_bind, List.length_cons, List.length_nil, M.need_true, kT, setM, List.set_cons_succ, List.set_cons_zero]
          rw [compM_pure (ds := us) (fun d => [fU d])]
          · rw [flat1]
            simp only [pure_bind, List.length_cons, List.length_nil, M.need_true, kU, setM, List.set_cons_succ, List.set_cons_zero, rd, List.getElem?_cons_succ, List.getElem?_cons_zero]
            cases isNon S <;> cases isNon T <;> cases isNon U <;> simp [M.need_true (show 6 ≤ sizeLine by decide)]
          · simp only [rd, List.getElem?_cons_succ, List.getElem?_cons_zero, pure_bind, dIx, atI5]
            exact items_lst lU
          · intro i hi
            simp at hi
            subst hi
            rfl
          · intro d hd
            simp [turnL, wipeD, setM, rd, M.need_true, hU d hd]
        · simp only [rd, List.getElem?_cons_succ, List.getElem?_cons_zero, pure_bind, dIx, atI4]
          exact items_lst lT
        · intro i hi
          simp at hi
          subst hi
          rfl
        · intro d hd
          simp [turnL, wipeD, setM, rd, M.need_true, hT d hd]
      · simp only [rd, List.getElem?_cons_succ, List.getElem?_cons_zero, pure_bind, dIx, atI3]
        exact items_lst lS
      · intro i hi
        simp at hi
        subst hi
        rfl
      · intro d hd
        simp [turnL, wipeD, setM, rd, M.need_true, hS d hd]
    · simp only [rd, List.getElem?_cons_succ, List.getElem?_cons_zero, pure_bind, asInt, dSlice, cut3b]
      exact items_tup (show 3 ≤ sizeLine by decide)
    · intro i hi
      simp at hi
      subst hi
      rfl
    · intro d hd
      have ht : TyOk d := by
        simp at hd
        rcases hd with rfl | rfl | rfl <;> rfl
      simp [turnL, wipeD, setM, rd, M.need_true, e_is_list ht]
  · simp only [rd, rdB, List.getElem?_cons_succ, List.getElem?_cons_zero, pure_bind, asInt, dSlice, cut3]
    exact items_tup (show 3 ≤ sizeLine by decide)
  · intro i hi
    simp at hi
    subst hi
    rfl
  · intro d hd
    simp at hd
    rcases hd with rfl | rfl | rfl <;> simp [turnL, wipeD, setM, rd, M.need_true, e_whole_int, tru, dGt_int, posD]
end DL

set_option Elab.async false
set_option linter.all false
set_option maxRecDepth 100000
set_option maxHeartbeats 4000000
/-! FM: an unkept machine is refused by each def. -/
namespace DL
open PySem PySem.Spec PyProof.Rows L2
theorem M.exc_bind {α β : Type} (x : Exc) (k : α → M β) : (M.exc x >>= k) = M.exc x := M.ext fun n Q E => rfl
theorem M.exc_map {α β : Type} (x : Exc) (f : α → β) : (f <$> (M.exc x : M α)) = M.exc x := M.ext fun n Q E => rfl
abbrev badX (d : D) : Exc := ⟨"BadMachine", [("machine", d)]⟩
theorem e_need_machine {d : D} (h : r_kept_machine [d] = pure .non) : r_need_machine [d] = M.exc (badX d) := by
  simp [r_need_machine, runFn, B_need_machine, seqM, startD, rd, M.need_true, h, setM, isNon, M.exc_bind]
theorem e_most_ways {d : D} (h : r_kept_machine [d] = pure .non) : r_most_ways [d] = M.exc (badX d) := by
  simp [r_most_ways, runFn, B_most_ways, seqM, startD, rd, M.need_true, e_need_machine h, M.exc_bind]
theorem e_is_double {d t : D} (h : r_kept_machine [d] = pure .non) : r_is_double [d, t] = M.exc (badX d) := by
  simp [r_is_double, runFn, B_is_double, seqM, startD, rd, M.need_true, e_need_machine h, M.exc_bind]
theorem e_is_side {d t : D} (h : r_kept_machine [d] = pure .non) : r_is_side [d, t] = M.exc (badX d) := by
  simp [r_is_side, runFn, B_is_side, seqM, startD, rd, M.need_true, e_need_machine h, M.exc_bind, M.exc_map]
theorem e_degree {d : D} (h : r_kept_machine [d] = pure .non) : r_degree [d] = M.exc (badX d) := by
  simp [r_degree, runFn, B_degree, seqM, startD, rd, M.need_true, e_need_machine h, M.exc_bind]
theorem e_chain_of {d : D} (h : r_kept_machine [d] = pure .non) : r_chain_of [d] = M.exc (badX d) := by
  simp [r_chain_of, runFn, B_chain_of, seqM, startD, rd, M.need_true, e_need_machine h, M.exc_bind]
theorem e_is_chain {d t : D} (h : r_kept_machine [d] = pure .non) : r_is_chain [d, t] = M.exc (badX d) := by
  simp [r_is_chain, runFn, B_is_chain, seqM, startD, rd, M.need_true, e_need_machine h, M.exc_bind]
theorem pick10 (a b : D) : pick [1, 0] [a, b] = [b, a] := rfl
theorem pick0 (a : D) : pick [0] [a] = [a] := rfl
theorem e_lam0 {d : D} (h : r_kept_machine [d] = pure .non) : m_lam0 r_most_ways [d] [] = M.exc (badX d) := by
  simp [m_lam0, B_lam0, startD, rd, M.need_true, e_most_ways h]
theorem e_lam1 {d : D} (h : r_kept_machine [d] = pure .non) : m_lam1 r_is_double [d] [] = M.exc (badX d) := by
  simp [m_lam1, B_lam1, startD, rd, M.need_true, e_is_double h]
theorem e_lam2 {d : D} (h : r_kept_machine [d] = pure .non) (hc : r__law_copied 9 [d] = pure d) : m_lam2 r_is_side (r__law_copied 9) [d] [] = M.exc (badX d) := by
  simp [m_lam2, B_lam2, startD, rd, M.need_true, hc, pick10, pick0, e_is_side h]
theorem e_lam3 {d : D} (h : r_kept_machine [d] = pure .non) (hc : r__law_copied 9 [d] = pure d) : m_lam3 r_degree (r__law_copied 9) [d] [] = M.exc (badX d) := by
  simp [m_lam3, B_lam3, startD, rd, M.need_true, hc, pick10, pick0, e_degree h]
theorem e_lam4 {d : D} (h : r_kept_machine [d] = pure .non) : m_lam4 r_chain_of [d] [] = M.exc (badX d) := by
  simp [m_lam4, B_lam4, startD, rd, M.need_true, e_chain_of h]
theorem e_lam5 {d : D} (h : r_kept_machine [d] = pure .non) (hc : r__law_copied 9 [d] = pure d) : m_lam5 r_is_chain (r__law_copied 9) [d] [] = M.exc (badX d) := by
  simp [m_lam5, B_lam5, startD, rd, M.need_true, hc, pick10, pick0, e_is_chain h, M.exc_bind, M.exc_map, tru]
end DL

set_option Elab.async false
set_option linter.all false
set_option maxRecDepth 100000
set_option maxHeartbeats 4000000
/-! FN: the two lambdas of the law. -/
namespace DL
open PySem PySem.Spec PyProof.Rows L2
theorem e_lam7 {d : D} (h : r_kept_machine [d] = pure .non) : m_lam7 r_most_ways [] [d] = M.exc (badX d) := by
  simp [m_lam7, B_lam7, startD, rd, M.need_true, e_most_ways h]
end DL

set_option Elab.async false
set_option linter.all false
set_option maxRecDepth 100000
set_option maxHeartbeats 1000000
/-! FO: copies of plain atoms. -/
namespace DL
open PySem PySem.Spec PyProof.Rows L2
theorem e_copied_int (j : Nat) (i : Int) : r__law_copied (j + 1) [.int i] = pure (.int i) := by
  have h1 : isSub "int" "dict" = false := rfl
  have h2 : isSub "int" "list" = false := rfl
  have h3 : isSub "int" "tuple" = false := rfl
  simp [r__law_copied, runFn, B__law_copied, seqM, startD, rd, M.need_true, dIsi, tyName, tru, setM, h1, h2, h3]
theorem e_copied_non (j : Nat)  : r__law_copied (j + 1) [.non] = pure (.non) := by
  have h1 : isSub "NoneType" "dict" = false := rfl
  have h2 : isSub "NoneType" "list" = false := rfl
  have h3 : isSub "NoneType" "tuple" = false := rfl
  simp [r__law_copied, runFn, B__law_copied, seqM, startD, rd, M.need_true, dIsi, tyName, tru, setM, h1, h2, h3]
theorem e_copied_bl (j : Nat) (b : Bool) : r__law_copied (j + 1) [.bl b] = pure (.bl b) := by
  have h1 : isSub "bool" "dict" = false := rfl
  have h2 : isSub "bool" "list" = false := rfl
  have h3 : isSub "bool" "tuple" = false := rfl
  simp [r__law_copied, runFn, B__law_copied, seqM, startD, rd, M.need_true, dIsi, tyName, tru, setM, h1, h2, h3]
theorem e_copied_str (j : Nat) (b : Str) : r__law_copied (j + 1) [.str b] = pure (.str b) := by
  have h1 : isSub "str" "dict" = false := rfl
  have h2 : isSub "str" "list" = false := rfl
  have h3 : isSub "str" "tuple" = false := rfl
  simp [r__law_copied, runFn, B__law_copied, seqM, startD, rd, M.need_true, dIsi, tyName, tru, setM, h1, h2, h3]
end DL

set_option Elab.async false
set_option linter.all false
set_option maxRecDepth 100000
set_option maxHeartbeats 1000000
/-! FP: equal plain atoms. -/
namespace DL
open PySem PySem.Spec PyProof.Rows L2
theorem dNe_bb (b : Bool) : dNe (.bl b) (.bl b) = pure false := by
  simp [dNe, dEq, py2, toPy, eqP, PyData.eqv, M.need_true (show SeqAt.shaped (.bool b) = true from rfl)]
theorem e_same_non (j : Nat)  : r__law_same (j + 1) [.non, .non] = pure (.bl true) := by
  have h0 : isSub "NoneType" "dict" = false := rfl
  have h1 : isSub "NoneType" "list" = false := rfl
  have h2 : isSub "NoneType" "tuple" = false := rfl
  have h3 : isSub "NoneType" "bool" = false := rfl
  have h4 : isSub "NoneType" "int" = false := rfl
  have h5 : isSub "NoneType" "str" = false := rfl
  simp [r__law_same, runFn, B__law_same, seqM, startD, rd, M.need_true, dIsi, tyName, tru, setM, isNon, dNe_bb, dEq_int, h0, h1, h2, h3, h4, h5]
theorem e_same_int (j : Nat) (i : Int) : r__law_same (j + 1) [.int i, .int i] = pure (.bl true) := by
  have h0 : isSub "int" "dict" = false := rfl
  have h1 : isSub "int" "list" = false := rfl
  have h2 : isSub "int" "tuple" = false := rfl
  have h3 : isSub "int" "bool" = false := rfl
  have h4 : isSub "int" "int" = true := rfl
  have h5 : isSub "int" "str" = false := rfl
  simp [r__law_same, runFn, B__law_same, seqM, startD, rd, M.need_true, dIsi, tyName, tru, setM, isNon, dNe_bb, dEq_int, h0, h1, h2, h3, h4, h5]
end DL

set_option Elab.async false
set_option linter.all false
set_option maxRecDepth 100000
set_option maxHeartbeats 4000000
/-! FQ: what is met; copies and equality of plain data. -/
namespace DL
open PySem PySem.Spec PyProof.Rows L2
@[simp] theorem M.need_T : M.need True = pure () := M.need_true trivial
theorem e_met {k : Nat} {d : D} (hf : flat d = true) (h : lam1 k [d] [] = M.exc (badX d)) : r__law_met [.clo k [d]] = pure (.tup [.str "machine", d]) := by
  refine M.ext fun n Q E => ?_
  have e1 : flatL [d] = true := by simp [flatL, hf]
  have e2 : flatL [] = true := rfl
  simp [r__law_met, runFn, B__law_met, tryM, startD, rd, callM, h, e1, e2, subMet]
  constructor
  · intro q
    have q := q 0 (some 1) (by simp)
    simpa [exEnv, rdF, show 2 ≤ sizeLine by decide] using q
  · intro q a d' hd
    cases d' with
    | none => exact absurd rfl hd
    | some d' => simpa [exEnv, rdF, show 2 ≤ sizeLine by decide] using q
/-- plain data of a depth -/
def plain : Nat → D → Bool
  | 0, _ => false
  | _ + 1, .non => true
  | _ + 1, .bl _ => true
  | _ + 1, .int _ => true
  | _ + 1, .str s => (PyData.str s).canLay0
  | j + 1, .lst xs => decide (xs.length ≤ 1000) && xs.all (plain j)
  | j + 1, .tup xs => decide (xs.length ≤ 1000) && xs.all (plain j)
  | j + 1, .dct [] => decide (1 ≤ j)
  | _, _ => false
theorem le_line {n : Nat} (h : n ≤ 1000) : n ≤ sizeLine := Nat.le_trans h (by decide)
theorem flat1' (xs : List D) : (xs.flatMap fun d => [d]) = xs := by
  induction xs with
  | nil => rfl
  | cons x xs ih => rw [List.flatMap_cons, ih]; rfl
theorem e_copied : ∀ (j : Nat) (d : D), plain j d = true → r__law_copied j [d] = pure d := by
  intro j
  induction j with
  | zero => intro d h; cases h
  | succ j ih =>
    intro d h
    cases d with
    | non => exact e_copied_non j
    | bl b => exact e_copied_bl j b
    | int i => exact e_copied_int j i
    | str s => exact e_copied_str j s
    | lst xs =>
      simp only [plain, Bool.and_eq_true, decide_eq_true_eq, List.all_eq_true] at h
      have h1 : isSub "list" "dict" = false := rfl
      have h2 : isSub "list" "list" = true := rfl
      have h3 : isSub "list" "tuple" = false := rfl
      simp [r__law_copied, runFn, B__law_copied, seqM, startD, rd, M.need_true, dIsi, tyName, tru, setM, h1, h2, h3]
      rw [compM_pure (ds := xs) (fun d => [d])]
      · simp [flat1']
      · simp [rd, items_lst (le_line h.1)]
      · intro i hi
        simp at hi
        subst hi
        rfl
      · intro d hd
        simp [turnL, wipeD, setM, rd, M.need_true, ih d (h.2 d hd)]
    | tup xs =>
      simp only [plain, Bool.and_eq_true, decide_eq_true_eq, List.all_eq_true] at h
      have h1 : isSub "tuple" "dict" = false := rfl
      have h2 : isSub "tuple" "list" = false := rfl
      have h3 : isSub "tuple" "tuple" = true := rfl
      simp [r__law_copied, runFn, B__law_copied, seqM, startD, rd, M.need_true, dIsi, tyName, tru, setM, h1, h2, h3]
      rw [compM_pure (ds := xs) (fun d => [d])]
      · simp [flat1', dTuple]
      · simp [rd, items_tup (le_line h.1)]
      · intro i hi
        simp at hi
        subst hi
        rfl
      · intro d hd
        simp [turnL, wipeD, setM, rd, M.need_true, ih d (h.2 d hd)]
    | dct kvs =>
      cases kvs with
      | nil =>
        have h1 : isSub "dict" "dict" = true := rfl
        simp [r__law_copied, runFn, B__law_copied, seqM, startD, rd, M.need_true, dIsi, tyName, tru, setM, h1, keys0, dDict]
      | cons p kvs => cases h
    | _ => cases h
theorem e_same_bl (j : Nat) (b : Bool) : r__law_same (j + 1) [.bl b, .bl b] = pure (.bl true) := by
  have h0 : isSub "bool" "dict" = false := rfl
  have h1 : isSub "bool" "list" = false := rfl
  have h2 : isSub "bool" "tuple" = false := rfl
  have h3 : isSub "bool" "bool" = true := rfl
  have hE : dEq (.bl b) (.bl b) = pure true := by
    simp [dEq, py2, toPy, eqP, PyData.eqv, M.need_true (show SeqAt.shaped (.bool b) = true from rfl)]
  simp [r__law_same, runFn, B__law_same, seqM, startD, rd, M.need_true, dIsi, tyName, tru, setM, isNon, dNe_bb, hE, h0, h1, h2, h3]
theorem shaped_str {i : Str} (h : (PyData.str i).canLay0 = true) : SeqAt.shaped (.str i) = true := by
  unfold SeqAt.shaped
  rw [h]
  simp [PyData.depth]
theorem dEq_str {i j : Str} (hi : (PyData.str i).canLay0 = true) (hj : (PyData.str j).canLay0 = true) : dEq (.str i) (.str j) = pure (i == j) := by
  simp [dEq, py2, toPy, eqP, PyData.eqv, shaped_str hi, shaped_str hj]
theorem e_same_str (j : Nat) (i : Str) (hi : (PyData.str i).canLay0 = true) : r__law_same (j + 1) [.str i, .str i] = pure (.bl true) := by
  have h0 : isSub "str" "dict" = false := rfl
  have h1 : isSub "str" "list" = false := rfl
  have h2 : isSub "str" "tuple" = false := rfl
  have h3 : isSub "str" "bool" = false := rfl
  have h4 : isSub "str" "int" = false := rfl
  have h5 : isSub "str" "str" = true := rfl
  simp [r__law_same, runFn, B__law_same, seqM, startD, rd, M.need_true, dIsi, tyName, tru, setM, isNon, dNe_bb, dEq_str hi hi, h0, h1, h2, h3, h4, h5]
theorem dAll_true {xs : List D} : dAll (.lst (xs.flatMap fun _ => [D.bl true])) = pure true := by
  rw [dAll_map xs fun _ => true]
  congr 1
  simp
theorem zip_self {xs : List D} {d : D} (h : d ∈ zipD xs xs) : ∃ x ∈ xs, d = .tup [x, x] := by
  unfold zipD at h
  obtain ⟨p, hp, e⟩ := List.mem_map.mp h
  have key : ∀ (ys : List D) (q : D × D), q ∈ ys.zip ys → ∃ x ∈ ys, q = (x, x) := by
    intro ys
    induction ys with
    | nil => intro q hq; cases hq
    | cons y ys ih =>
      intro q hq
      rw [List.zip_cons_cons] at hq
      rcases List.mem_cons.mp hq with rfl | hq
      · exact ⟨y, List.mem_cons_self .., rfl⟩
      · obtain ⟨x, hx, e⟩ := ih q hq
        exact ⟨x, List.mem_cons_of_mem _ hx, e⟩
  obtain ⟨x, hx, rfl⟩ := key xs p hp
  exact ⟨x, hx, e.symm⟩
theorem e_same : ∀ (j : Nat) (d : D), plain j d = true → r__law_same j [d, d] = pure (.bl true) := by
  intro j
  induction j with
  | zero => intro d h; cases h
  | succ j ih =>
    intro d h
    cases d with
    | non => exact e_same_non j
    | bl b => exact e_same_bl j b
    | int i => exact e_same_int j i
    | str s => exact e_same_str j s h
    | lst xs =>
      simp only [plain, Bool.and_eq_true, decide_eq_true_eq, List.all_eq_true] at h
      have h2 : isSub "list" "list" = true := rfl
      have h3 : isSub "list" "tuple" = false := rfl
      simp [r__law_same, runFn, B__law_same, seqM, startD, rd, M.need_true, dIsi, tyName, tru, setM, dNe_bb, h2, h3, dLen, dEq_int]
      rw [compM_pure (ds := zipD xs xs) (fun d => [.bl true])]
      · rw [pure_bind, dAll_true]
        simp
      · simp only [rd, List.getElem?_cons_succ, List.getElem?_cons_zero, pure_bind, zipOf]
        rw [M.need_true (le_line h.1)]
        rfl
      · intro i hi
        simp at hi
        rcases hi with rfl | rfl <;> rfl
      · intro d hd
        obtain ⟨x, hx, rfl⟩ := zip_self hd
        have h1 : M.need (∀ ds, D.tup [x, x] = D.tup ds → ds.length = 2) = pure () := M.need_true fun ds e => by cases e; rfl
        simp [turnL, wipeD, rd, tupT, consT, h1, M.need_true, ih x (h.2 x hx)]
    | tup xs =>
      simp only [plain, Bool.and_eq_true, decide_eq_true_eq, List.all_eq_true] at h
      have h2 : isSub "tuple" "list" = false := rfl
      have h3 : isSub "tuple" "tuple" = true := rfl
      simp [r__law_same, runFn, B__law_same, seqM, startD, rd, M.need_true, dIsi, tyName, tru, setM, dNe_bb, h2, h3, dLen, dEq_int]
      rw [compM_pure (ds := zipD xs xs) (fun d => [.bl true])]
      · rw [pure_bind, dAll_true]
        simp
      · simp only [rd, List.getElem?_cons_succ, List.getElem?_cons_zero, pure_bind, zipOf]
        rw [M.need_true (le_line h.1)]
        rfl
      · intro i hi
        simp at hi
        rcases hi with rfl | rfl <;> rfl
      · intro d hd
        obtain ⟨x, hx, rfl⟩ := zip_self hd
        have h1 : M.need (∀ ds, D.tup [x, x] = D.tup ds → ds.length = 2) = pure () := M.need_true fun ds e => by cases e; rfl
        simp [turnL, wipeD, rd, tupT, consT, h1, M.need_true, ih x (h.2 x hx)]
    | dct kvs =>
      cases kvs with
      | nil =>
        simp only [plain, decide_eq_true_eq] at h
        have h1 : isSub "dict" "dict" = true := rfl
        have h2 : isSub "dict" "list" = false := rfl
        have h3 : isSub "dict" "tuple" = false := rfl
        have h4 : plain j (.lst []) = true := by
          cases j with
          | zero => omega
          | succ j => rfl
        simp [r__law_same, runFn, B__law_same, seqM, startD, rd, M.need_true, dIsi, tyName, tru, setM, h1, h2, h3, dItems, ih _ h4]
      | cons p kvs => cases h
    | _ => cases h
end DL

set_option Elab.async false
set_option linter.all false
set_option maxRecDepth 100000
set_option maxHeartbeats 4000000
/-! FR: shapes of data; draws. -/
namespace DL
open PySem PySem.Spec PyProof.Rows L2
/-- shapes of data that can be compared -/
inductive Sh where
  | int | lst (s : Sh) | tupl (s : Sh) | tup (ss : List Sh)
mutual
def Fits : Sh → D → Prop
  | .int, d => ∃ i, d = .int i
  | .lst s, d => ∃ xs, d = .lst xs ∧ ∀ x ∈ xs, Fits s x
  | .tupl s, d => ∃ xs, d = .tup xs ∧ ∀ x ∈ xs, Fits s x
  | .tup ss, d => ∃ xs, d = .tup xs ∧ FitsL ss xs
def FitsL : List Sh → List D → Prop
  | [], xs => xs = []
  | s :: ss, xs => ∃ y ys, xs = y :: ys ∧ Fits s y ∧ FitsL ss ys
end
mutual
def Sh.dep : Sh → Nat
  | .int => 0
  | .lst s => s.dep + 1
  | .tupl s => s.dep + 1
  | .tup ss => Sh.depL ss + 1
def Sh.depL : List Sh → Nat
  | [] => 0
  | s :: ss => max s.dep (Sh.depL ss)
end
theorem toPyL_all {xs : List D} {n : Nat} (h : ∀ x ∈ xs, ∃ p, toPy x = some p ∧ p.canLay0 = true ∧ p.depth ≤ n) : ∃ ps, toPyL xs = some ps ∧ PyData.canLayAll0 ps = true ∧ PyData.depthAll ps ≤ n ∧ ps.length = xs.length := by
  induction xs with
  | nil => exact ⟨[], rfl, rfl, by simp [PyData.depthAll], rfl⟩
  | cons x xs ih =>
    obtain ⟨p, h1, h2, h3⟩ := h x (List.mem_cons_self ..)
    obtain ⟨ps, h4, h5, h6, h7⟩ := ih fun y hy => h y (List.mem_cons_of_mem _ hy)
    refine ⟨p :: ps, by rw [toPyL, h1, h4], by rw [PyData.canLayAll0, h2, h5]; rfl, ?_, by simp [h7]⟩
    rw [PyData.depthAll]
    omega
mutual
theorem fits_py : ∀ (s : Sh) (x : D), Fits s x → ∃ p, toPy x = some p ∧ p.canLay0 = true ∧ p.depth ≤ s.dep
  | .int, x, h => by
    rw [Fits] at h
    obtain ⟨i, rfl⟩ := h
    exact ⟨.int i, rfl, rfl, by simp [PyData.depth, Sh.dep]⟩
  | .lst s, x, h => by
    rw [Fits] at h
    obtain ⟨xs, rfl, h⟩ := h
    obtain ⟨ps, h1, h2, h3, _⟩ := toPyL_all (n := s.dep) fun x hx => fits_py s x (h x hx)
    exact ⟨.list ps, by rw [toPy, h1]; rfl, h2, by rw [PyData.depth, Sh.dep]; omega⟩
  | .tupl s, x, h => by
    rw [Fits] at h
    obtain ⟨xs, rfl, h⟩ := h
    obtain ⟨ps, h1, h2, h3, _⟩ := toPyL_all (n := s.dep) fun x hx => fits_py s x (h x hx)
    exact ⟨.tuple ps, by rw [toPy, h1]; rfl, h2, by rw [PyData.depth, Sh.dep]; omega⟩
  | .tup ss, x, h => by
    rw [Fits] at h
    obtain ⟨xs, rfl, h⟩ := h
    obtain ⟨ps, h1, h2, h3⟩ := fits_pyL ss xs h
    exact ⟨.tuple ps, by rw [toPy, h1]; rfl, h2, by rw [PyData.depth, Sh.dep]; omega⟩
theorem fits_pyL : ∀ (ss : List Sh) (xs : List D), FitsL ss xs → ∃ ps, toPyL xs = some ps ∧ PyData.canLayAll0 ps = true ∧ PyData.depthAll ps ≤ Sh.depL ss
  | [], xs, h => by
    rw [FitsL] at h
    subst h
    exact ⟨[], rfl, rfl, by simp [PyData.depthAll, Sh.depL]⟩
  | s :: ss, xs, h => by
    rw [FitsL] at h
    obtain ⟨y, ys, rfl, h1, h2⟩ := h
    obtain ⟨p, e1, e2, e3⟩ := fits_py s y h1
    obtain ⟨ps, e4, e5, e6⟩ := fits_pyL ss ys h2
    exact ⟨p :: ps, by rw [toPyL, e1, e4], by rw [PyData.canLayAll0, e2, e5]; rfl, by rw [PyData.depthAll, Sh.depL]; omega⟩
end
theorem toPyL_cons {x : D} {xs : List D} {ps : List PyData} (h : toPyL (x :: xs) = some ps) : ∃ p qs, ps = p :: qs ∧ toPy x = some p ∧ toPyL xs = some qs := by
  rw [toPyL] at h
  split at h
  · cases h
    exact ⟨_, _, rfl, by assumption, by assumption⟩
  · cases h
theorem alikeAll_of {xs ys : List D} {ps qs : List PyData} (h : ∀ x ∈ xs, ∀ y ∈ ys, ∀ p q, toPy x = some p → toPy y = some q → PySem.W.alike p q = true) (h1 : toPyL xs = some ps) (h2 : toPyL ys = some qs) : PySem.W.alikeAll ps qs = true := by
  induction xs generalizing ys ps qs with
  | nil =>
    cases h1
    rw [PySem.W.alikeAll]
  | cons x xs ih =>
    obtain ⟨p, ps', rfl, e1, e2⟩ := toPyL_cons h1
    cases ys with
    | nil =>
      cases h2
      rw [PySem.W.alikeAll]
    | cons y ys =>
      obtain ⟨q, qs', rfl, e3, e4⟩ := toPyL_cons h2
      rw [PySem.W.alikeAll, h x (List.mem_cons_self ..) y (List.mem_cons_self ..) p q e1 e3, ih (fun a ha b hb => h a (List.mem_cons_of_mem _ ha) b (List.mem_cons_of_mem _ hb)) e2 e4]
      rfl
theorem map_list {xs : List D} {p : PyData} (h : (toPyL xs).map PyData.list = some p) : ∃ ps, toPyL xs = some ps ∧ p = .list ps := by
  cases e : toPyL xs with
  | none => rw [e] at h; cases h
  | some ps => rw [e] at h; cases h; exact ⟨ps, rfl, rfl⟩
theorem map_tup {xs : List D} {p : PyData} (h : (toPyL xs).map PyData.tuple = some p) : ∃ ps, toPyL xs = some ps ∧ p = .tuple ps := by
  cases e : toPyL xs with
  | none => rw [e] at h; cases h
  | some ps => rw [e] at h; cases h; exact ⟨ps, rfl, rfl⟩
mutual
theorem fits_alike : ∀ (s : Sh) (x y : D) (p q : PyData), Fits s x → Fits s y → toPy x = some p → toPy y = some q → PySem.W.alike p q = true
  | .int, x, y, p, q, h, h', e, e' => by
    rw [Fits] at h h'
    obtain ⟨i, rfl⟩ := h
    obtain ⟨j, rfl⟩ := h'
    cases e
    cases e'
    rfl
  | .lst s, x, y, p, q, h, h', e, e' => by
    rw [Fits] at h h'
    obtain ⟨xs, rfl, h⟩ := h
    obtain ⟨ys, rfl, h'⟩ := h'
    obtain ⟨ps, e1, rfl⟩ := map_list e
    obtain ⟨qs, e2, rfl⟩ := map_list e'
    rw [PySem.W.alike]
    exact alikeAll_of (fun a ha b hb p q => fits_alike s a b p q (h a ha) (h' b hb)) e1 e2
  | .tupl s, x, y, p, q, h, h', e, e' => by
    rw [Fits] at h h'
    obtain ⟨xs, rfl, h⟩ := h
    obtain ⟨ys, rfl, h'⟩ := h'
    obtain ⟨ps, e1, rfl⟩ := map_tup e
    obtain ⟨qs, e2, rfl⟩ := map_tup e'
    rw [PySem.W.alike]
    exact alikeAll_of (fun a ha b hb p q => fits_alike s a b p q (h a ha) (h' b hb)) e1 e2
  | .tup ss, x, y, p, q, h, h', e, e' => by
    rw [Fits] at h h'
    obtain ⟨xs, rfl, h⟩ := h
    obtain ⟨ys, rfl, h'⟩ := h'
    obtain ⟨ps, e1, rfl⟩ := map_tup e
    obtain ⟨qs, e2, rfl⟩ := map_tup e'
    rw [PySem.W.alike]
    exact fits_alikeL ss xs ys ps qs h h' e1 e2
theorem fits_alikeL : ∀ (ss : List Sh) (xs ys : List D) (ps qs : List PyData), FitsL ss xs → FitsL ss ys → toPyL xs = some ps → toPyL ys = some qs → PySem.W.alikeAll ps qs = true
  | [], xs, ys, ps, qs, h, h', e, e' => by
    rw [FitsL] at h
    subst h
    cases e
    rw [PySem.W.alikeAll]
  | s :: ss, xs, ys, ps, qs, h, h', e, e' => by
    rw [FitsL] at h h'
    obtain ⟨x, xs, rfl, h1, h2⟩ := h
    obtain ⟨y, ys, rfl, h3, h4⟩ := h'
    obtain ⟨p, ps, rfl, e1, e2⟩ := toPyL_cons e
    obtain ⟨q, qs, rfl, e3, e4⟩ := toPyL_cons e'
    rw [PySem.W.alikeAll, fits_alike s x y p q h1 h3 e1 e3, fits_alikeL ss xs ys ps qs h2 h4 e2 e4]
    rfl
end
theorem toPy_none {x : D} (h : toPy x = some .none) : x = .non := by
  cases x with
  | non => rfl
  | lst xs => rw [toPy] at h; cases e : toPyL xs <;> rw [e] at h <;> cases h
  | tup xs => rw [toPy] at h; cases e : toPyL xs <;> rw [e] at h <;> cases h
  | _ => cases h
theorem fits_non {s : Sh} {x : D} (h : Fits s x) : x ≠ .non := by
  rintro rfl
  cases s <;> rw [Fits] at h
  · obtain ⟨i, e⟩ := h; cases e
  · obtain ⟨i, e, _⟩ := h; cases e
  · obtain ⟨i, e, _⟩ := h; cases e
  · obtain ⟨i, e, _⟩ := h; cases e
theorem fits_ltAll {s : Sh} (hs : s.dep ≤ 60) {xs : List D} (h : ∀ x ∈ xs, Fits s x) : LtAll xs := by
  intro x hx y hy
  obtain ⟨p, h1, h2, h3⟩ := fits_py s x (h x hx)
  obtain ⟨q, h4, h5, h6⟩ := fits_py s y (h y hy)
  have hp : p ≠ .none := fun e => fits_non (h x hx) (toPy_none (e ▸ h1))
  have ok : ltOk p q := ⟨fits_alike s x y p q (h x hx) (h y hy) h1 h4, hp, by omega⟩
  simp [dLt, py2, h1, h4, M.need_true ok, ltB, pyD]
theorem fits_shAll {s : Sh} (hs : s.dep ≤ 60) {xs : List D} (h : ∀ x ∈ xs, Fits s x) : ShAll xs := by
  intro x hx
  obtain ⟨p, h1, h2, h3⟩ := fits_py s x (h x hx)
  refine ⟨p, h1, ?_, fun e => toPy_none (e ▸ h1)⟩
  unfold SeqAt.shaped
  rw [h2, decide_eq_true (by omega)]
  rfl
theorem fits_shaped {s : Sh} (hs : s.dep ≤ 60) {x : D} (h : Fits s x) : ∃ p, toPy x = some p ∧ SeqAt.shaped p = true := by
  obtain ⟨p, h1, h2, h3⟩ := fits_py s x h
  refine ⟨p, h1, ?_⟩
  unfold SeqAt.shaped
  rw [h2, decide_eq_true (by omega)]
  rfl
theorem fits_eq {s s' : Sh} (hs : s.dep ≤ 60) (hs' : s'.dep ≤ 60) {x y : D} (h : Fits s x) (h' : Fits s' y) : ∃ b, dEq x y = pure b := by
  obtain ⟨p, h1, h2⟩ := fits_shaped hs h
  obtain ⟨q, h3, h4⟩ := fits_shaped hs' h'
  exact ⟨PyData.eqv p q, by simp [dEq, py2, h1, h3, eqP, M.need_true (show SeqAt.shaped p = true ∧ SeqAt.shaped q = true from ⟨h2, h4⟩)]⟩
/-- tuples with an item -/
theorem fits_sort {s : Sh} {ss : List Sh} (hs : (Sh.tup (s :: ss)).dep ≤ 60) {xs : List D} (h : ∀ x ∈ xs, Fits (.tup (s :: ss)) x) : sortOk xs := by
  refine ⟨fun d hd => ?_, fun d hd d' hd' => ?_, .inl fun d hd => ?_⟩
  · obtain ⟨p, h1, h2, h3⟩ := fits_py _ d (h d hd)
    refine ⟨by rw [h1]; rfl, ?_⟩
    unfold pyD
    rw [h1]
    exact Nat.le_trans h3 hs
  · obtain ⟨x, hx, rfl⟩ := List.mem_map.mp hd
    obtain ⟨y, hy, rfl⟩ := List.mem_map.mp hd'
    obtain ⟨p, h1, _⟩ := fits_py _ x (h x hx)
    obtain ⟨q, h2, _⟩ := fits_py _ y (h y hy)
    have z := fits_alike _ x y p q (h x hx) (h y hy) h1 h2
    simpa [pyD, h1, h2] using z
  · obtain ⟨x, hx, rfl⟩ := List.mem_map.mp hd
    have hf := h x hx
    rw [Fits] at hf
    obtain ⟨ys, rfl, hf⟩ := hf
    rw [FitsL] at hf
    obtain ⟨y, ys, rfl, h1, h2⟩ := hf
    obtain ⟨p, e1, _⟩ := fits_py s y h1
    obtain ⟨ps, e2, _⟩ := fits_pyL ss ys h2
    exact ⟨p, ps, by simp [pyD, toPy, toPyL, e1, e2]⟩
/-! ### comprehensions that draw -/
theorem spec_turn {c : Nat} {mt : D → Env → M Env} {me : Env → M D} {γ γ1 : Env} {d : D} {P : D → Prop} (h1 : mt d γ = pure γ1) (h2 : Spec c (me γ1) P) : Spec c (turnL mt (fun _ => pure true) me γ d) (fun r => r.length = 1 ∧ ∀ x ∈ r, P x) := by
  unfold turnL
  rw [h1]
  simp only [pure_bind, cond_true]
  have h3 : Spec (c + 0) (me γ1 >>= fun x => pure [x]) (fun r => r.length = 1 ∧ ∀ x ∈ r, P x) := h2.bind fun x hx => .pure ⟨rfl, by simpa using hx⟩
  exact h3
theorem spec_compL {c : Nat} {mt : D → Env → M Env} {mc : Env → M Bool} {me : Env → M D} {γ : Env} {P : D → Prop} : ∀ {ds : List D}, (∀ d ∈ ds, Spec c (turnL mt mc me γ d) (fun r => r.length = 1 ∧ ∀ x ∈ r, P x)) → Spec (c * ds.length) (compL mt mc me γ ds) (fun r => r.length = ds.length ∧ ∀ x ∈ r, P x)
  | [], _ => .pure (by simp)
  | d :: ds, h => by
    have h1 := h d (List.mem_cons_self ..)
    have h2 := spec_compL (ds := ds) fun x hx => h x (List.mem_cons_of_mem _ hx)
    have e : c * (d :: ds).length = c + c * ds.length := by rw [List.length_cons, Nat.mul_succ, Nat.add_comm]
    rw [e]
    refine h1.bind fun r hr => ?_
    have h3 : Spec (c * ds.length + 0) (compL mt mc me γ ds >>= fun rs => pure (r ++ rs)) (fun r => r.length = (d :: ds).length ∧ ∀ x ∈ r, P x) := h2.bind fun rs hrs => .pure ⟨by simp [hr.1, hrs.1]; omega, fun x hx => (List.mem_append.mp hx).elim (hr.2 x) (hrs.2 x)⟩
    exact h3
theorem spec_compM {a c : Nat} {N : Nat} {own : List Nat} {mi : Env → M (List D)} {mt : D → Env → M Env} {mc : Env → M Bool} {me : Env → M D} {γ : Env} {P : D → Prop} (hi : Spec a (mi γ) (fun ds => ds.length ≤ N)) (ho : noOw γ own)
    (h : ∀ d, Spec c (turnL mt mc me (wipeD γ own) d) (fun r => r.length = 1 ∧ ∀ x ∈ r, P x)) : Spec (a + c * N) (compM own mi mt mc me γ) (fun d => ∃ xs, d = .lst xs ∧ xs.length ≤ N ∧ ∀ x ∈ xs, P x) := by
  unfold compM
  refine hi.bind fun ds hds => ?_
  rw [M.need_true ho, pure_bind]
  have h2 : Spec (c * ds.length + 0) (M.calm (compL mt mc me (wipeD γ own) ds) >>= fun rs => pure (D.lst rs)) (fun d => ∃ xs, d = .lst xs ∧ xs.length ≤ N ∧ ∀ x ∈ xs, P x) :=
    (Spec.calm (spec_compL fun d _ => h d)).bind fun rs hrs => .pure ⟨rs, rfl, by omega, hrs.2⟩
  exact h2.mono (by have := Nat.mul_le_mul_left c hds; omega) fun _ h => h
theorem Spec.bind0 {α β : Type} {a : Nat} {m : M α} {k : α → M β} {P : α → Prop} {P' : β → Prop} (h : Spec a m P) (h' : ∀ x, P x → Spec 0 (k x) P') : Spec a (m >>= k) P' := Spec.bind (b := 0) h h'
end DL

set_option Elab.async false
set_option linter.all false
set_option maxRecDepth 100000
set_option maxHeartbeats 4000000
/-! FS: the drawn things. -/
namespace DL
open PySem PySem.Spec PyProof.Rows L2
theorem spec_draw {g : G} {many : Int} (h0 : 0 < many) (h1 : many < 1073741824) : Spec 1 (r__law_draw g [.ref g.sa, .int many]) (fun d => ∃ i, d = .int i ∧ 0 ≤ i ∧ i < many) := by
  unfold r__law_draw
  exact Spec.draw h0 h1 fun r a b => ⟨r, rfl, a, b⟩
theorem atI_some {α : Type} {xs : List α} {i : Int} (h0 : 0 ≤ i) (h1 : i < xs.length) : ∃ x ∈ xs, atI xs i = some x := by
  have e : atI xs i = xs[i.toNat]? := by
    unfold atI ixN
    rw [if_pos h0, if_pos h1]
    rfl
  have hl : i.toNat < xs.length := by omega
  exact ⟨xs[i.toNat], List.getElem_mem hl, by rw [e, List.getElem?_eq_getElem hl]⟩
theorem spec_pick {g : G} {xs : List D} {P : D → Prop} (h0 : 0 < xs.length) (h1 : xs.length < 1073741824) (h : ∀ x ∈ xs, P x) : Spec 1 (r__law_pick g [.ref g.sa, .lst xs]) P := by
  have e : r__law_pick g [.ref g.sa, .lst xs] = r__law_draw g [.ref g.sa, .int xs.length] >>= fun i => dIx (.lst xs) i := by
    simp [r__law_pick, runFn, B__law_pick, startD, rd, dLen]
  rw [e]
  refine (spec_draw (by omega) (by omega)).bind0 ?_
  rintro _ ⟨i, rfl, h2, h3⟩
  obtain ⟨x, hx, e⟩ := atI_some h2 h3
  have e2 : dIx (.lst xs) (.int i) = pure x := by
    show (match atI xs i with
      | some d => (pure d : M D)
      | none => M.stuck) = _
    rw [e]
  rw [e2]
  exact .pure (h x hx)
def WordP (sg : Int) (m : Nat) (d : D) : Prop := ∃ xs, d = .lst xs ∧ xs.length ≤ m ∧ ∀ x ∈ xs, ∃ i, x = .int i ∧ 0 ≤ i ∧ i < sg
theorem range_of {k : Int} (h0 : 0 ≤ k) (h1 : k ≤ 1000) : rangeOf [.int k] = pure ((List.range k.toNat).map fun (i : Nat) => D.int (0 + i)) := by
  show (do M.need (k.toNat ≤ sizeLine); pure ((List.range k.toNat).map fun (i : Nat) => D.int (0 + i)) : M (List D)) = _
  rw [M.need_true (show k.toNat ≤ sizeLine by have : (1000 : Nat) ≤ sizeLine := by decide
                                              omega), pure_bind]
theorem need_range {k : Int} (h0 : 0 ≤ k) (h1 : k ≤ 1000) : M.need (∃ j : Int, [D.int k] = [D.int j] ∧ -(2 ^ 62) ≤ j ∧ j < 2 ^ 62) = pure () := M.need_true ⟨k, rfl, by omega, by omega⟩
theorem sIx_le (n : Nat) (m : Int) (hm : 0 ≤ m) : (HT.sIx n n (some m) : Int) ≤ m := by
  unfold HT.sIx
  simp
  split <;> omega
theorem spec_said {g : G} {sg most : Int} (h0 : 0 < sg) (h1 : sg < 1073741824) (hm : 0 ≤ most) (hm2 : most ≤ 100) : Spec 102 (r__law_said g [.ref g.sa, .int sg, .int most]) (WordP sg most.toNat) := by
  unfold r__law_said
  unfold B__law_said runFn
  simp only [startD, List.map_cons, List.map_nil, List.length_cons, List.length_nil, List.cons_append, List.nil_append, rd, pure_bind, bind_assoc, List.getElem?_cons_succ, List.getElem?_cons_zero, asInt]
  refine Spec.mono (Spec.bind (a := 1 + 1 * 100) (b := 0) (spec_compM (a := 1) (c := 1) (N := 100) (P := fun x => ∃ i, x = .int i ∧ 0 ≤ i ∧ i < sg) ?h1 ?h2 ?h3) ?h4) (by decide) fun _ h => h
  case h4 =>
    rintro _ ⟨xs, rfl, hl, hx⟩
    simp only [dSlice, pure_bind]
    refine .pure ⟨_, rfl, ?_, fun x h => hx x (mem_cut h)⟩
    have hs := sIx_le xs.length most hm
    have : (cutD xs none (some most)).length ≤ HT.sIx xs.length xs.length (some most) := by
      unfold cutD
      rw [List.length_take]
      omega
    omega
  case h1 =>
    simp only [rd, pure_bind, bind_assoc, List.getElem?_cons_succ, List.getElem?_cons_zero, List.length_cons, List.length_nil, M.need_true]
    rw [M.need_true (show 0 + 1 + 1 + 1 + 1 + 1 + 1 ≤ sizeLine by decide)]
    simp only [pure_bind, List.length_cons, List.length_nil, M.need_true]
    refine Spec.bind0 (P := fun d => ∃ i, d = .int i ∧ 0 ≤ i ∧ i ≤ 100) (spec_pick (by simp) (by simp) ?_) ?_
    · intro x hx
      simp at hx
      rcases hx with rfl | rfl | rfl | rfl <;> exact ⟨_, rfl, by omega, by omega⟩
    · rintro _ ⟨i, rfl, h2, h3⟩
      rw [need_range h2 (by omega), pure_bind, range_of h2 (by omega)]
      refine .pure ?_
      simp
      omega
  case h2 =>
    intro i hi
    simp at hi
    subst hi
    rfl
  case h3 =>
    intro d
    refine spec_turn rfl ?_
    simp only [wipeD, setM, List.set_cons_succ, List.set_cons_zero, rd, pure_bind, bind_assoc, List.getElem?_cons_succ, List.getElem?_cons_zero, List.length_cons, List.length_nil, M.need_true]
    exact spec_draw h0 h1
end DL

set_option Elab.async false
set_option linter.all false
set_option maxRecDepth 100000
set_option maxHeartbeats 4000000
/-! FT: drawn machines. -/
namespace DL
open PySem PySem.Spec PyProof.Rows L2
theorem atI_last {α : Type} {xs : List α} {y : α} : atI (xs ++ [y]) (-1) = some y := by
  unfold atI ixN
  rw [if_neg (by omega), if_pos (by simp; omega)]
  have e : ((-1 : Int) + ((xs ++ [y]).length : Nat)).toNat = xs.length := by
    simp
    omega
  rw [e]
  show (xs ++ [y])[xs.length]? = some y
  simp
theorem spec_forL {c : Nat} {mt : D → Env → M Env} {mb : Env → M (Fl × Env)} {P : List D → Env → Prop} (hs : ∀ d ds γ, P (d :: ds) γ → Spec c (do let γ1 ← M.calm (mt d γ); mb γ1) (fun r => r.1 = .nx ∧ P ds r.2)) : ∀ {ds : List D} {γ : Env}, P ds γ → Spec (c * ds.length) (forL mt mb ds γ) (fun r => r.1 = .nx ∧ P [] r.2)
  | [], γ, h => .pure ⟨rfl, h⟩
  | d :: ds, γ, h => by
    have h1 := hs d ds γ h
    have e : c * (d :: ds).length = c + c * ds.length := by rw [List.length_cons, Nat.mul_succ, Nat.add_comm]
    have e2 : forL mt mb (d :: ds) γ = (do let γ1 ← M.calm (mt d γ); mb γ1) >>= fun r => (match r.1 with
      | .nx => forL mt mb ds r.2
      | .ct => forL mt mb ds r.2
      | .bk => pure (.nx, r.2)
      | .rt d => pure (.rt d, r.2)) := by
      rw [bind_assoc]
      rfl
    rw [e, e2]
    refine h1.bind fun r hr => ?_
    obtain ⟨fl, γ'⟩ := r
    obtain ⟨rfl, h2⟩ := hr
    exact spec_forL hs h2
@[simp] theorem wipeD_nil {γ : Env} : wipeD γ [] = γ := rfl
@[simp] theorem wipeD_cons {γ : Env} {i : Nat} {is : List Nat} : wipeD γ (i :: is) = (wipeD γ is).set i none := rfl
/-! reading a concrete environment -/
@[simp] theorem rd_zero {d : D} {γ : Env} : rd 0 (some (.fz d) :: γ) = pure d := rfl
@[simp] theorem rd_succ {i : Nat} {s : Option Slot} {γ : Env} : rd (i + 1) (s :: γ) = rd i γ := rfl
@[simp] theorem rdB_zero {d : D} {γ : Env} : rdB 0 (some (.fz d) :: γ) = pure d := rfl
@[simp] theorem rdB_zero' {d : D} {γ : Env} : rdB 0 (some (.ow d) :: γ) = pure d := rfl
@[simp] theorem rdB_succ {i : Nat} {s : Option Slot} {γ : Env} : rdB (i + 1) (s :: γ) = rdB i γ := rfl
@[simp] theorem ownM_zero {ds : List D} {γ : Env} : ownM 0 (some (.ow (.lst ds)) :: γ) = pure ds := rfl
@[simp] theorem ownM_succ {i : Nat} {s : Option Slot} {γ : Env} : ownM (i + 1) (s :: γ) = ownM i γ := rfl
@[simp] theorem setM_zero {d : D} {s : Option Slot} {γ : Env} : setM 0 d (s :: γ) = some (.fz d) :: γ := rfl
@[simp] theorem setM_succ {i : Nat} {d : D} {s : Option Slot} {γ : Env} : setM (i + 1) d (s :: γ) = s :: setM i d γ := rfl
@[simp] theorem setOwM_zero {ds : List D} {s : Option Slot} {γ : Env} : setOwM 0 ds (s :: γ) = some (.ow (.lst ds)) :: γ := rfl
@[simp] theorem setOwM_succ {i : Nat} {ds : List D} {s : Option Slot} {γ : Env} : setOwM (i + 1) ds (s :: γ) = s :: setOwM i ds γ := rfl
@[simp] theorem freezeM_zero {d : D} {γ : Env} : freezeM 0 (some (.ow d) :: γ) = some (.fz d) :: γ := rfl
@[simp] theorem freezeM_succ {i : Nat} {s : Option Slot} {γ : Env} : freezeM (i + 1) (s :: γ) = s :: freezeM i γ := by
  unfold freezeM
  simp only [List.getElem?_cons_succ]
  generalize hq : γ[i]? = q
  cases q with
  | none => rfl
  | some q =>
    cases q with
    | none => rfl
    | some q => cases q <;> rfl
@[simp] theorem line_eq : sizeLine = 16777216 := by decide
/-- a loop that goes through -/
theorem forL_fold {S : Type} {mt : D → Env → M Env} {mb : Env → M (Fl × Env)} (env : S → Env) (step : S → D → S) (inv : S → List D → Prop)
    (h : ∀ s d ds, inv s (d :: ds) → (do let γ1 ← M.calm (mt d (env s)); mb γ1) = pure (.nx, env (step s d)) ∧ inv (step s d) ds) : ∀ (ds : List D) (s : S), inv s ds → forL mt mb ds (env s) = pure (.nx, env (ds.foldl step s))
  | [], s, _ => rfl
  | d :: ds, s, hi => by
    obtain ⟨h1, h2⟩ := h s d ds hi
    have e2 : forL mt mb (d :: ds) (env s) = (do let γ1 ← M.calm (mt d (env s)); mb γ1) >>= fun r => (match r.1 with
      | .nx => forL mt mb ds r.2
      | .ct => forL mt mb ds r.2
      | .bk => pure (.nx, r.2)
      | .rt d => pure (.rt d, r.2)) := by
      rw [bind_assoc]
      rfl
    rw [e2, h1, pure_bind]
    exact forL_fold env step inv h ds _ h2
def eqB (x y : D) : Bool := PyData.eqv (pyD x) (pyD y)
theorem fits_eqB {s s' : Sh} (hs : s.dep ≤ 60) (hs' : s'.dep ≤ 60) {x y : D} (h : Fits s x) (h' : Fits s' y) : dEq x y = pure (eqB x y) := by
  obtain ⟨p, h1, h2⟩ := fits_shaped hs h
  obtain ⟨q, h3, h4⟩ := fits_shaped hs' h'
  simp [dEq, py2, h1, h3, eqP, M.need_true (show SeqAt.shaped p = true ∧ SeqAt.shaped q = true from ⟨h2, h4⟩), eqB, pyD]
/-- each once -/
def unlF (ys : List D) (d : D) : List D := match ys.getLast? with
  | none => ys ++ [d]
  | some y => bif eqB y d then ys else ys ++ [d]
theorem unlF_mem {ys : List D} {d z : D} (h : z ∈ unlF ys d) : z ∈ ys ∨ z = d := by
  unfold unlF at h
  split at h
  · simpa using h
  · cases e : eqB ‹D› d <;> rw [e] at h <;> simp at h <;> first | exact .inl h | exact h
theorem unlF_len (ys : List D) (d : D) : (unlF ys d).length ≤ ys.length + 1 := by
  unfold unlF
  split
  · simp
  · cases eqB ‹D› d <;> simp
theorem eqB_nil (ys : List D) (h : ∃ ps, toPyL ys = some ps) : eqB (.lst ys) (.lst []) = ys.isEmpty := by
  obtain ⟨ps, h⟩ := h
  unfold eqB pyD
  rw [toPy, h]
  cases ys with
  | nil =>
    cases h
    simp [toPy, toPyL, PyData.eqv, PyData.eqvAll]
  | cons y ys =>
    obtain ⟨p, qs, rfl, _⟩ := toPyL_cons h
    simp [toPy, toPyL, PyData.eqv, PyData.eqvAll]
theorem unl_mem : ∀ {ds ys : List D} {z : D}, z ∈ ds.foldl unlF ys → z ∈ ys ∨ z ∈ ds
  | [], ys, z, h => .inl h
  | d :: ds, ys, z, h => by
    rcases unl_mem (ds := ds) h with q | q
    · rcases unlF_mem q with q | q
      · exact .inl q
      · exact .inr (q ▸ List.mem_cons_self ..)
    · exact .inr (List.mem_cons_of_mem _ q)
theorem unl_len : ∀ {ds ys : List D}, (ds.foldl unlF ys).length ≤ ys.length + ds.length
  | [], ys => Nat.le_refl _
  | d :: ds, ys => by
    have h1 := unl_len (ds := ds) (ys := unlF ys d)
    have h2 := unlF_len ys d
    simp only [List.foldl_cons, List.length_cons]
    omega
def unlD (xs : List D) : List D := (xs.mergeSort leD).foldl unlF []
theorem sorted_mem {xs : List D} {x : D} : x ∈ xs.mergeSort leD ↔ x ∈ xs := List.mem_mergeSort
theorem unlD_mem {xs : List D} {z : D} (h : z ∈ unlD xs) : z ∈ xs := by
  rcases unl_mem h with q | q
  · cases q
  · exact sorted_mem.mp q
theorem unlD_len (xs : List D) : (unlD xs).length ≤ xs.length := by
  have := unl_len (ds := xs.mergeSort leD) (ys := [])
  rw [List.length_mergeSort] at this
  simpa [unlD] using this
theorem foldl_fst {α β γ : Type} {f : α → γ → α} {g : γ → β} : ∀ {ds : List γ} {p : α × β}, (ds.foldl (fun p d => (f p.1 d, g d)) p).1 = ds.foldl f p.1
  | [], _ => rfl
  | d :: ds, p => by rw [List.foldl_cons, List.foldl_cons]; exact foldl_fst
theorem e_unlike {s : Sh} {ss : List Sh} (hs : (Sh.tup (s :: ss)).dep ≤ 50) {xs : List D} (hl : xs.length ≤ 1000) (h : ∀ x ∈ xs, Fits (.tup (s :: ss)) x) : r__law_unlike [.lst xs] = pure (.lst (unlD xs)) := by
  have e1 : dSort (.lst xs) = pure (xs.mergeSort leD) := by
    show (do M.need (sortOk xs); pure (xs.mergeSort leD) : M (List D)) = _
    rw [M.need_true (fits_sort (by omega) h), pure_bind]
  have hlen : (xs.mergeSort leD).length = xs.length := List.length_mergeSort xs
  simp [r__law_unlike, runFn, B__law_unlike, seqM, startD, e1, items_lst (le_line (show (xs.mergeSort leD).length ≤ 1000 by omega))]
  rw [forL_fold (fun p : List D × Option Slot => [some (.fz (.lst xs)), some (.ow (.lst p.1)), p.2]) (fun p d => (unlF p.1 d, some (.fz d))) (fun p ds => (∀ d ∈ ds, Fits (.tup (s :: ss)) d) ∧ (∀ d ∈ p.1, Fits (.tup (s :: ss)) d) ∧ p.1.length + ds.length ≤ 1000) ?h (xs.mergeSort leD) ([], none) ?i]
  case i => exact ⟨fun d hd => h d (sorted_mem.mp hd), by simp, by simp [hlen]; omega⟩
  case h =>
    rintro ⟨ys, o⟩ d ds ⟨i1, i2, i3⟩
    have hd := i1 d (List.mem_cons_self ..)
    refine ⟨?_, fun x hx => i1 x (List.mem_cons_of_mem _ hx), fun x hx => ?_, ?_⟩
    · have e2 : dEq (.lst ys) (.lst []) = pure ys.isEmpty := by
        rw [fits_eqB (s := .lst (.tup (s :: ss))) (s' := .lst (.tup (s :: ss))) (by rw [Sh.dep]; omega) (by rw [Sh.dep]; omega) (by rw [Fits]; exact ⟨ys, rfl, i2⟩) (by rw [Fits]; exact ⟨[], rfl, by simp⟩)]
        rw [eqB_nil]
        obtain ⟨ps, h1, _⟩ := toPyL_all (n := 60) fun x hx => by
          obtain ⟨p, h1, h2, h3⟩ := fits_py _ x (i2 x hx)
          exact ⟨p, h1, h2, by omega⟩
        exact ⟨ps, h1⟩
      have hlt : ys.length < 16777216 := by simp at i3; omega
      rcases List.eq_nil_or_concat ys with rfl | ⟨ws, y, rfl⟩
      · simp [e2, unlF]
      · have ei : dIx (.lst (ws ++ [y])) (.int (-1)) = pure y := by
          show (match atI (ws ++ [y]) (-1) with
            | some d => (pure d : M D)
            | none => M.stuck) = _
          rw [atI_last]
        have en : dNe y d = pure !(eqB y d) := by
          unfold dNe
          rw [fits_eqB (s := .tup (s :: ss)) (s' := .tup (s :: ss)) (by omega) (by omega) (i2 y (by simp)) hd, pure_bind]
        rw [List.concat_eq_append] at e2
        rw [show (ws ++ [y]).isEmpty = false by cases ws <;> rfl] at e2
        simp at hlt
        cases eb : eqB y d <;> simp [e2, ei, en, eb, unlF, M.need_true hlt]
    · rcases unlF_mem hx with q | q
      · exact i2 x q
      · exact q ▸ hd
    · have := unlF_len ys d
      simp at i3 ⊢
      omega
  simp only [pure_bind, frzM, freezeM_zero, freezeM_succ, rd_zero, rd_succ, foldl_fst, map_pure]
  rfl
end DL

set_option Elab.async false
set_option linter.all false
set_option maxRecDepth 100000
set_option maxHeartbeats 4000000
/-! FU: drawn machines. -/
namespace DL
open PySem PySem.Spec PyProof.Rows L2
def PairP (st sg : Int) (m : Nat) (d : D) : Prop := ∃ i w, d = .tup [.int i, w] ∧ 0 ≤ i ∧ i < st ∧ WordP sg m w
def MoveP (st lt sg : Int) (m : Nat) (d : D) : Prop := ∃ i j w k, d = .tup [.int i, .int j, w, .int k] ∧ 0 ≤ i ∧ i < st ∧ 0 ≤ j ∧ j < lt ∧ WordP sg m w ∧ 0 ≤ k ∧ k < st
abbrev shP : Sh := .tup [.int, .lst .int]
abbrev shM : Sh := .tup [.int, .int, .lst .int, .int]
theorem word_fits {sg : Int} {m : Nat} {d : D} (h : WordP sg m d) : Fits (.lst .int) d := by
  obtain ⟨xs, rfl, _, h⟩ := h
  rw [Fits]
  refine ⟨xs, rfl, fun x hx => ?_⟩
  obtain ⟨i, rfl, _⟩ := h x hx
  rw [Fits]
  exact ⟨i, rfl⟩
theorem pair_fits {st sg : Int} {m : Nat} {d : D} (h : PairP st sg m d) : Fits shP d := by
  obtain ⟨i, w, rfl, _, _, hw⟩ := h
  rw [Fits]
  refine ⟨_, rfl, ?_⟩
  rw [FitsL]
  refine ⟨_, _, rfl, by rw [Fits]; exact ⟨i, rfl⟩, ?_⟩
  rw [FitsL]
  exact ⟨_, _, rfl, word_fits hw, by rw [FitsL]⟩
theorem move_fits {st lt sg : Int} {m : Nat} {d : D} (h : MoveP st lt sg m d) : Fits shM d := by
  obtain ⟨i, j, w, k, rfl, _, _, _, _, hw, _⟩ := h
  rw [Fits]
  refine ⟨_, rfl, ?_⟩
  rw [FitsL]
  refine ⟨_, _, rfl, by rw [Fits]; exact ⟨i, rfl⟩, ?_⟩
  rw [FitsL]
  refine ⟨_, _, rfl, by rw [Fits]; exact ⟨j, rfl⟩, ?_⟩
  rw [FitsL]
  refine ⟨_, _, rfl, word_fits hw, ?_⟩
  rw [FitsL]
  exact ⟨_, _, rfl, by rw [Fits]; exact ⟨k, rfl⟩, by rw [FitsL]⟩
/-- 1 + a draw: the range -/
theorem spec_range1 {g : G} {k : Int} (h0 : 0 < k) (h1 : k ≤ 100) : Spec 1 (do let x ← r__law_draw g [.ref g.sa, .int k]; let x ← dAdd (.int 1) x; M.need (∃ j : Int, [x] = [D.int j] ∧ -(2 ^ 62) ≤ j ∧ j < 2 ^ 62); rangeOf [x]) (fun ds => ds.length ≤ 100) := by
  refine (spec_draw h0 (by omega)).bind0 ?_
  rintro _ ⟨i, rfl, h2, h3⟩
  have e : dAdd (.int 1) (.int i) = pure (.int (1 + i)) := rfl
  rw [e, pure_bind, need_range (by omega) (by omega), pure_bind, range_of (by omega) (by omega)]
  refine .pure ?_
  simp
  omega
/-- a drawn pair -/
theorem spec_pair {g : G} {st sg most : Int} (h0 : 0 < st) (h1 : st < 1073741824) (h2 : 0 < sg) (h3 : sg < 1073741824) (hm : 0 ≤ most) (hm2 : most ≤ 100) : Spec 103 (do let x ← r__law_draw g [.ref g.sa, .int st]; let y ← r__law_said g [.ref g.sa, .int sg, .int most]; pure (D.tup [x, y])) (PairP st sg most.toNat) := by
  refine (spec_draw h0 h1).bind (b := 102) ?_
  rintro _ ⟨i, rfl, h4, h5⟩
  refine (spec_said h2 h3 hm hm2).bind0 fun w hw => .pure ⟨i, w, rfl, h4, h5, hw⟩
/-- what a drawn machine is -/
def MachP (st lt sg : Int) (d : D) : Prop := ∃ ss ts us, d = .tup [.int st, .int lt, .int sg, .lst ss, .lst ts, .lst us] ∧ ss.length ≤ 100 ∧ ts.length ≤ 100 ∧ us.length ≤ 100 ∧ (∀ x ∈ ss, PairP st sg 2 x) ∧ (∀ x ∈ ts, MoveP st lt sg 2 x) ∧ ∀ x ∈ us, PairP st sg 1 x
theorem spec_move {g : G} {st lt sg most : Int} (h0 : 0 < st) (h1 : st < 1073741824) (h2 : 0 < lt) (h3 : lt < 1073741824) (h4 : 0 < sg) (h5 : sg < 1073741824) (hm : 0 ≤ most) (hm2 : most ≤ 100) : Spec 105 (do let x ← r__law_draw g [.ref g.sa, .int st]; let y ← r__law_draw g [.ref g.sa, .int lt]; let z ← r__law_said g [.ref g.sa, .int sg, .int most]; let w ← r__law_draw g [.ref g.sa, .int st]; pure (D.tup [x, y, z, w])) (MoveP st lt sg most.toNat) := by
  refine (spec_draw h0 h1).bind (b := 104) ?_
  rintro _ ⟨i, rfl, q1, q2⟩
  refine (spec_draw h2 h3).bind (b := 103) ?_
  rintro _ ⟨j, rfl, q3, q4⟩
  refine (spec_said h4 h5 hm hm2).bind (b := 1) fun w hw => ?_
  refine (spec_draw h0 h1).bind0 ?_
  rintro _ ⟨k, rfl, q5, q6⟩
  exact .pure ⟨i, j, w, k, rfl, q1, q2, q3, q4, hw, q5, q6⟩
theorem spec_machine {g : G} {st lt sg mv : Int} (h0 : 0 < st) (h1 : st < 1073741824) (h2 : 0 < lt) (h3 : lt < 1073741824) (h4 : 0 < sg) (h5 : sg < 1073741824) (h6 : 0 ≤ mv) (h7 : mv ≤ 100) : Spec 60000 (r__law_machine g [.ref g.sa, .int st, .int lt, .int sg, .int mv]) (MachP st lt sg) := by
  simp [r__law_machine, runFn, B__law_machine, seqM, startD]
  refine Spec.mono (a := (1 + 103 * 100) + (105 * 100 + (1 + 103 * 100))) (Spec.bind (spec_compM (a := 1) (c := 103) (N := 100) (P := PairP st sg 2) ?h1 ?h2 ?h3) ?k1) (by decide) fun _ h => h
  case h1 => simpa using spec_range1 (g := g) (k := 2) (by omega) (by omega)
  case h2 => intro i hi; simp at hi; subst hi; rfl
  case h3 =>
    intro d
    refine spec_turn rfl ?_
    simpa using spec_pair (g := g) (most := 2) h0 h1 h4 h5 (by omega) (by omega)
  case k1 =>
  rintro _ ⟨ss, rfl, hl, hss⟩
  simp [e_unlike (s := .int) (ss := [.lst .int]) (by decide) (show ss.length ≤ 1000 by omega) fun x hx => pair_fits (hss x hx), range_of h6 (by omega : mv ≤ 1000), M.need_true (show -4611686018427387904 ≤ mv ∧ mv < 4611686018427387904 by omega)]
  refine Spec.mono (a := 105 * 100 + (1 + 103 * 100)) (Spec.bind (Spec.mono (spec_forL (c := 105) (P := fun ds γ => ∃ ys o, γ = [some (Slot.fz (.ref g.sa)), some (Slot.fz (.int st)), some (Slot.fz (.int lt)), some (Slot.fz (.int sg)), some (Slot.fz (.int mv)), some (Slot.fz (.lst (unlD ss))), some (Slot.ow (.lst ys)), o, none] ∧ (o = none ∨ ∃ d, o = some (.fz d)) ∧ (∀ y ∈ ys, MoveP st lt sg 2 y) ∧ ys.length + ds.length ≤ 100) ?h1 ?h2) ?h3 fun _ h => h) ?k1) (Nat.le_refl _) fun _ h => h
  case h1 =>
    rintro d ds _ ⟨ys, o, rfl, ho, hys, hl2⟩
    have hlt : ys.length < 16777216 := by simp at hl2; omega
    simp [M.need_true hlt]
    refine (spec_draw h0 h1).bind (b := 104) ?_
    rintro _ ⟨i, rfl, q1, q2⟩
    refine (spec_draw h2 h3).bind (b := 103) ?_
    rintro _ ⟨j, rfl, q3, q4⟩
    refine (spec_said h4 h5 (by omega) (by omega)).bind (b := 1) fun w hw => ?_
    refine (spec_draw h0 h1).bind0 ?_
    rintro _ ⟨k, rfl, q5, q6⟩
    refine .pure ⟨rfl, _, _, rfl, .inr ⟨_, rfl⟩, fun y hy => ?_, by simp at hl2 ⊢; omega⟩
    rcases List.mem_append.mp hy with hy | hy
    · exact hys y hy
    · rw [List.mem_singleton.mp hy]
      exact ⟨i, j, w, k, rfl, q1, q2, q3, q4, hw, q5, q6⟩
  case h2 => exact ⟨[], none, rfl, .inl rfl, by simp, by simp; omega⟩
  case h3 => simp; omega
  case k1 =>
  rintro ⟨fl, γ⟩ ⟨rfl, ys, o, rfl, ho, hys, hl2⟩
  simp
  refine Spec.mono (a := (1 + 103 * 100) + 0) (Spec.bind (spec_compM (a := 1) (c := 103) (N := 100) (P := PairP st sg 1) ?h1 ?h2 ?h3) ?k1) (by decide) fun _ h => h
  case h1 => simpa using spec_range1 (g := g) (k := 3) (by omega) (by omega)
  case h2 =>
    intro i hi
    simp at hi
    subst hi
    rcases ho with rfl | ⟨d, rfl⟩ <;> rfl
  case h3 =>
    intro d
    refine spec_turn rfl ?_
    simpa using spec_pair (g := g) (most := 1) h0 h1 h4 h5 (by omega) (by omega)
  case k1 =>
  rintro _ ⟨us, rfl, hl3, hus⟩
  simp at hl2
  simp [frzM, e_unlike (s := .int) (ss := [.lst .int]) (by decide) (show us.length ≤ 1000 by omega) fun x hx => pair_fits (hus x hx), e_unlike (s := .int) (ss := [.int, .lst .int, .int]) (by decide) (show ys.length ≤ 1000 by omega) fun x hx => move_fits (hys x hx)]
  have z1 := unlD_len ss
  have z2 := unlD_len ys
  have z3 := unlD_len us
  exact .pure ⟨_, _, _, rfl, by omega, by omega, by omega, fun x hx => hss x (unlD_mem hx), fun x hx => hys x (unlD_mem hx), fun x hx => hus x (unlD_mem hx)⟩
end DL

set_option Elab.async false
set_option linter.all false
set_option maxRecDepth 100000
set_option maxHeartbeats 4000000
/-! FV: odd machines. -/
namespace DL
open PySem PySem.Spec PyProof.Rows L2
theorem plain_flat : ∀ (j : Nat) (d : D), plain j d = true → flat d = true := by
  intro j
  induction j with
  | zero => intro d h; cases h
  | succ j ih =>
    intro d h
    cases d with
    | lst xs =>
      simp only [plain, Bool.and_eq_true, decide_eq_true_eq, List.all_eq_true] at h
      rw [flat, flatL_iff]
      exact fun x hx => ih x (h.2 x hx)
    | tup xs =>
      simp only [plain, Bool.and_eq_true, decide_eq_true_eq, List.all_eq_true] at h
      rw [flat, flatL_iff]
      exact fun x hx => ih x (h.2 x hx)
    | dct kvs =>
      cases kvs with
      | nil => rfl
      | cons p kvs => cases h
    | _ => first | rfl | cases h
theorem plain_succ : ∀ (j : Nat) (d : D), plain j d = true → plain (j + 1) d = true := by
  intro j
  induction j with
  | zero => intro d h; cases h
  | succ j ih =>
    intro d h
    cases d with
    | lst xs =>
      simp only [plain, Bool.and_eq_true, decide_eq_true_eq, List.all_eq_true] at h ⊢
      exact ⟨h.1, fun x hx => ih x (h.2 x hx)⟩
    | tup xs =>
      simp only [plain, Bool.and_eq_true, decide_eq_true_eq, List.all_eq_true] at h ⊢
      exact ⟨h.1, fun x hx => ih x (h.2 x hx)⟩
    | dct kvs =>
      cases kvs with
      | nil =>
        simp only [plain, decide_eq_true_eq] at h ⊢
        omega
      | cons p kvs => cases h
    | _ => exact h
theorem plain_mono {i j : Nat} (hij : i ≤ j) {d : D} (h : plain i d = true) : plain j d = true := by
  induction j with
  | zero =>
    have : i = 0 := by omega
    exact this ▸ h
  | succ j ih =>
    by_cases e : i = j + 1
    · exact e ▸ h
    · exact plain_succ j d (ih (by omega))
theorem plain_word {sg : Int} {m : Nat} (hm : m ≤ 1000) {d : D} (h : WordP sg m d) : plain 2 d = true := by
  obtain ⟨xs, rfl, hl, h⟩ := h
  simp only [plain, Bool.and_eq_true, decide_eq_true_eq, List.all_eq_true]
  refine ⟨by omega, fun x hx => ?_⟩
  obtain ⟨i, rfl, _⟩ := h x hx
  rfl
theorem plain_pair {st sg : Int} {m : Nat} (hm : m ≤ 1000) {d : D} (h : PairP st sg m d) : plain 3 d = true := by
  obtain ⟨i, w, rfl, _, _, hw⟩ := h
  simp [plain, plain_word hm hw]
theorem plain_move {st lt sg : Int} {m : Nat} (hm : m ≤ 1000) {d : D} (h : MoveP st lt sg m d) : plain 3 d = true := by
  obtain ⟨i, j, w, k, rfl, _, _, _, _, hw, _⟩ := h
  simp [plain, plain_word hm hw]
def kpF : D → D
  | .tup [a, .lst ws] => .tup [a, .tup ws]
  | d => d
def kmF : D → D
  | .tup [a, b, .lst ws, c] => .tup [a, b, .tup ws, c]
  | d => d
theorem kept_word_P {sg : Int} {m : Nat} (hm : m ≤ 1000) {d : D} (h : WordP sg m d) : ∃ ws, d = .lst ws ∧ keptWordD sg d = .tup ws ∧ OkL (elsD d) ∧ (∀ x ∈ ws, ∃ i, x = .int i) := by
  obtain ⟨xs, rfl, hl, h⟩ := h
  refine ⟨xs, rfl, ?_, ⟨le_line (by show xs.length ≤ 1000; omega), fun x hx => ?_⟩, fun x hx => ?_⟩
  · have : xs.all (isBelD sg) = true := by
      rw [List.all_eq_true]
      intro x hx
      obtain ⟨i, rfl, h1, h2⟩ := h x hx
      simp [isBelD, h1, h2]
    simp [keptWordD, this]
  · obtain ⟨i, rfl, _⟩ := h x hx
    rfl
  · obtain ⟨i, rfl, _⟩ := h x hx
    exact ⟨i, rfl⟩
abbrev shKP : Sh := .tup [.int, .tupl .int]
abbrev shKM : Sh := .tup [.int, .int, .tupl .int, .int]
theorem e_kp {st sg : Int} {m : Nat} (hm : m ≤ 1000) {x : D} (h : PairP st sg m x) : r_kept_pair [x, .int st, .int sg] = pure (kpF x) ∧ Fits shKP (kpF x) := by
  obtain ⟨i, w, rfl, h1, h2, hw⟩ := h
  obtain ⟨ws, rfl, e, ok, hi⟩ := kept_word_P hm hw
  constructor
  · rw [e_kept_pair st sg (show TyOk (.int i) from rfl) (show TyOk (.lst ws) from rfl) (by intro p xs z; cases z) ok]
    simp [keptPairD, isBelD, h1, h2, e, isNon, kpF]
  · show Fits shKP (.tup [.int i, .tup ws])
    rw [Fits]
    refine ⟨_, rfl, ?_⟩
    rw [FitsL]
    refine ⟨_, _, rfl, by rw [Fits]; exact ⟨i, rfl⟩, ?_⟩
    rw [FitsL]
    refine ⟨_, _, rfl, ?_, by rw [FitsL]⟩
    rw [Fits]
    refine ⟨ws, rfl, fun x hx => ?_⟩
    rw [Fits]
    exact hi x hx
theorem e_km {st lt sg : Int} {m : Nat} (hm : m ≤ 1000) {x : D} (h : MoveP st lt sg m x) : r_kept_move [x, .int st, .int lt, .int sg] = pure (kmF x) ∧ Fits shKM (kmF x) := by
  obtain ⟨i, j, w, k, rfl, h1, h2, h3, h4, hw, h5, h6⟩ := h
  obtain ⟨ws, rfl, e, ok, hi⟩ := kept_word_P hm hw
  constructor
  · rw [e_kept_move st lt sg (show TyOk (.int i) from rfl) (show TyOk (.int j) from rfl) (show TyOk (.lst ws) from rfl) (show TyOk (.int k) from rfl) (by intro p xs z; cases z) ok]
    simp [keptMoveD, isBelD, h1, h2, h3, h4, h5, h6, e, isNon, kmF]
  · show Fits shKM (.tup [.int i, .int j, .tup ws, .int k])
    rw [Fits]
    refine ⟨_, rfl, ?_⟩
    rw [FitsL]
    refine ⟨_, _, rfl, by rw [Fits]; exact ⟨i, rfl⟩, ?_⟩
    rw [FitsL]
    refine ⟨_, _, rfl, by rw [Fits]; exact ⟨j, rfl⟩, ?_⟩
    rw [FitsL]
    refine ⟨_, _, rfl, ?_, ?_⟩
    · rw [Fits]
      refine ⟨ws, rfl, fun x hx => ?_⟩
      rw [Fits]
      exact hi x hx
    · rw [FitsL]
      exact ⟨_, _, rfl, by rw [Fits]; exact ⟨k, rfl⟩, by rw [FitsL]⟩
theorem e_ka {s : Sh} (hs : s.dep ≤ 60) {xs : List D} (hl : xs.length ≤ 1000) (h : ∀ x ∈ xs, Fits s x) : r_kept_all [.lst xs] = pure (keptAllD xs) :=
  e_kept_all (le_line hl) (fits_shAll hs h) fun _ => fits_ltAll hs h
theorem e_kaN : r_kept_all [.lst [.non]] = pure .non :=
  e_kept_all (xs := [.non]) (le_line (by decide)) (by intro x hx; simp at hx; subst hx; exact ⟨.none, rfl, rfl, fun _ => rfl⟩) (by intro h; cases h)
theorem ka_pairs {st sg : Int} {m : Nat} (hm : m ≤ 1000) {xs : List D} (hl : xs.length ≤ 1000) (h : ∀ x ∈ xs, PairP st sg m x) : r_kept_all [.lst (xs.map kpF)] = pure (keptAllD (xs.map kpF)) :=
  e_ka (s := shKP) (by decide) (by simpa using hl) fun x hx => by
    obtain ⟨y, hy, rfl⟩ := List.mem_map.mp hx
    exact (e_kp hm (h y hy)).2
theorem ka_moves {st lt sg : Int} {m : Nat} (hm : m ≤ 1000) {xs : List D} (hl : xs.length ≤ 1000) (h : ∀ x ∈ xs, MoveP st lt sg m x) : r_kept_all [.lst (xs.map kmF)] = pure (keptAllD (xs.map kmF)) :=
  e_ka (s := shKM) (by decide) (by simpa using hl) fun x hx => by
    obtain ⟨y, hy, rfl⟩ := List.mem_map.mp hx
    exact (e_km hm (h y hy)).2
/-- what is refused -/
def OddP (d : D) : Prop := r_kept_machine [d] = pure .non ∧ plain 7 d = true
end DL

set_option Elab.async false
set_option linter.all false
set_option maxRecDepth 100000
set_option maxHeartbeats 4000000
/-! FW: odd machines are refused. -/
namespace DL
open PySem PySem.Spec PyProof.Rows L2
section
variable {ss ts us : List D} (ls : ss.length ≤ 100) (lt : ts.length ≤ 100) (lu : us.length ≤ 100) (hs : ∀ x ∈ ss, PairP 2 2 2 x) (ht : ∀ x ∈ ts, MoveP 2 2 2 2 x) (hu : ∀ x ∈ us, PairP 2 2 1 x)
include ls lt lu hs ht hu
theorem odd_starts {xs : List D} {f : D → D} (hl : xs.length ≤ 1000) (hx : ∀ x ∈ xs, r_kept_pair [x, .int 2, .int 2] = pure (f x)) (hk : r_kept_all [.lst (xs.map f)] = pure .non) : r_kept_machine [.tup [.int 2, .int 2, .int 2, .lst xs, .lst ts, .lst us]] = pure .non := by
  rw [e_km_lists (by decide) (by decide) (by decide) (le_line hl) (le_line (by omega)) (le_line (by omega)) hx (fun x h => (e_km (by decide) (ht x h)).1) (fun x h => (e_kp (by decide) (hu x h)).1) hk (ka_moves (by decide) (by omega) ht) (ka_pairs (by decide) (by omega) hu)]
  simp [isNon]
theorem odd_moves {xs : List D} {f : D → D} (hl : xs.length ≤ 1000) (hx : ∀ x ∈ xs, r_kept_move [x, .int 2, .int 2, .int 2] = pure (f x)) (hk : r_kept_all [.lst (xs.map f)] = pure .non) : r_kept_machine [.tup [.int 2, .int 2, .int 2, .lst ss, .lst xs, .lst us]] = pure .non := by
  rw [e_km_lists (by decide) (by decide) (by decide) (le_line (by omega)) (le_line hl) (le_line (by omega)) (fun x h => (e_kp (by decide) (hs x h)).1) hx (fun x h => (e_kp (by decide) (hu x h)).1) (ka_pairs (by decide) (by omega) hs) hk (ka_pairs (by decide) (by omega) hu)]
  cases isNon (keptAllD (ss.map kpF)) <;> simp [isNon]
theorem odd_ends {xs : List D} {f : D → D} (hl : xs.length ≤ 1000) (hx : ∀ x ∈ xs, r_kept_pair [x, .int 2, .int 2] = pure (f x)) (hk : r_kept_all [.lst (xs.map f)] = pure .non) : r_kept_machine [.tup [.int 2, .int 2, .int 2, .lst ss, .lst ts, .lst xs]] = pure .non := by
  rw [e_km_lists (by decide) (by decide) (by decide) (le_line (by omega)) (le_line (by omega)) (le_line hl) (fun x h => (e_kp (by decide) (hs x h)).1) (fun x h => (e_km (by decide) (ht x h)).1) hx (ka_pairs (by decide) (by omega) hs) (ka_moves (by decide) (by omega) ht) hk]
  cases isNon (keptAllD (ss.map kpF)) <;> cases isNon (keptAllD (ts.map kmF)) <;> simp [isNon]
theorem plainS : plain 4 (.lst ss) = true := by
  simp only [plain, Bool.and_eq_true, decide_eq_true_eq, List.all_eq_true]
  exact ⟨by omega, fun x hx => plain_pair (by decide) (hs x hx)⟩
theorem plainT : plain 4 (.lst ts) = true := by
  simp only [plain, Bool.and_eq_true, decide_eq_true_eq, List.all_eq_true]
  exact ⟨by omega, fun x hx => plain_move (by decide) (ht x hx)⟩
theorem plainU : plain 4 (.lst us) = true := by
  simp only [plain, Bool.and_eq_true, decide_eq_true_eq, List.all_eq_true]
  exact ⟨by omega, fun x hx => plain_pair (by decide) (hu x hx)⟩
end
theorem plain_tup6 {a b c d e f : D} (ha : plain 6 a = true) (hb : plain 6 b = true) (hc : plain 6 c = true) (hd : plain 6 d = true) (he : plain 6 e = true) (hf : plain 6 f = true) : plain 7 (.tup [a, b, c, d, e, f]) = true := by
  simp [plain, ha, hb, hc, hd, he, hf]
theorem plain_tup5 {a b c d e : D} (ha : plain 6 a = true) (hb : plain 6 b = true) (hc : plain 6 c = true) (hd : plain 6 d = true) (he : plain 6 e = true) : plain 7 (.tup [a, b, c, d, e]) = true := by
  simp [plain, ha, hb, hc, hd, he]
/-- a pair that is written out -/
theorem kp_lit {a b : D} (ha : TyOk a) (hb : TyOk b) (hn : ∀ p xs, b ≠ .lstA p xs) (hx : OkL (elsD b)) : r_kept_pair [.tup [a, b], .int 2, .int 2] = pure (keptPairD 2 2 a b) := e_kept_pair 2 2 ha hb hn hx
def kpL : D → D
  | .tup [a, b] => keptPairD 2 2 a b
  | _ => .non
def kmL : D → D
  | .tup [a, b, w, c] => keptMoveD 2 2 2 a b w c
  | _ => .non
theorem okl_nil : OkL (elsD (.lst [])) := ⟨Nat.zero_le _, by intro x hx; cases hx⟩
theorem okl_int (i : Int) : OkL (elsD (.lst [.int i])) := ⟨le_line (by simp [elsD]), by intro x hx; simp [elsD] at hx; subst hx; rfl⟩
theorem lst_ne {xs : List D} : ∀ p ys, D.lst xs ≠ .lstA p ys := by intro p ys z; cases z
theorem ka2 {w w' : D} (hw : Fits (.tupl .int) w) (hw' : Fits (.tupl .int) w') (h : ascD [.tup [.int 0, w], .tup [.int 0, w']] = false) : r_kept_all [.lst [.tup [.int 0, w], .tup [.int 0, w']]] = pure .non := by
  have key : ∀ w, Fits (.tupl .int) w → Fits shKP (.tup [.int 0, w]) := by
    intro w hw
    rw [Fits]
    refine ⟨_, rfl, ?_⟩
    rw [FitsL]
    refine ⟨_, _, rfl, by rw [Fits]; exact ⟨0, rfl⟩, ?_⟩
    rw [FitsL]
    exact ⟨_, _, rfl, hw, by rw [FitsL]⟩
  rw [e_ka (s := shKP) (by decide) (by simp) (by
    intro x hx
    simp at hx
    rcases hx with rfl | rfl
    · exact key w hw
    · exact key w' hw')]
  simp [keptAllD, isNon, h]
theorem fits_tn : Fits (.tupl .int) (.tup []) := by rw [Fits]; exact ⟨[], rfl, by simp⟩
theorem fits_t0 : Fits (.tupl .int) (.tup [.int 0]) := by
  rw [Fits]
  refine ⟨[.int 0], rfl, ?_⟩
  intro x hx
  simp at hx
  subst hx
  rw [Fits]
  exact ⟨0, rfl⟩
theorem spec_odd {g : G} {d : D} (h : MachP 2 2 2 d) : Spec 1 (r__law_w_odd_machine g [.ref g.sa, d]) OddP := by
  obtain ⟨ss, ts, us, rfl, ls, lt, lu, hs, ht, hu⟩ := h
  have n6 : M.need (∀ ds, D.tup [.int 2, .int 2, .int 2, .lst ss, .lst ts, .lst us] = D.tup ds → ds.length = 6) = pure () := M.need_true fun ds e => by cases e; rfl
  have pS := plain_mono (j := 6) (by decide) (plainS ls lt lu hs ht hu)
  have pT := plain_mono (j := 6) (by decide) (plainT ls lt lu hs ht hu)
  have pU := plain_mono (j := 6) (by decide) (plainU ls lt lu hs ht hu)
  have eA : ∀ xs ys : List D, dAdd (.lst xs) (.lst ys) = M.need (xs.length + ys.length ≤ sizeLine) >>= fun _ => pure (.lst (xs ++ ys)) := fun xs ys => rfl
  simp [r__law_w_odd_machine, runFn, B__law_w_odd_machine, seqM, startD, n6, tupT, consT, eA]
  refine spec_pick (by simp) (by simp) ?_
  intro x hx
  simp only [List.mem_cons, List.not_mem_nil, or_false] at hx
  rcases hx with rfl | rfl | rfl | rfl | rfl | rfl | rfl | rfl | rfl | rfl | rfl | rfl | rfl | rfl | rfl
  · exact ⟨e_km_row rfl rfl, rfl⟩
  · exact ⟨e_km_row rfl rfl, rfl⟩
  · exact ⟨e_km_row rfl rfl, by decide +kernel⟩
  · exact ⟨e_km_row rfl rfl, by decide⟩
  · exact ⟨e_km_row rfl rfl, by decide⟩
  · exact ⟨e_km_row rfl rfl, plain_tup5 rfl rfl rfl pS pT⟩
  · exact ⟨e_km_pos rfl rfl rfl rfl, by decide⟩
  · exact ⟨e_km_pos rfl rfl rfl rfl, by decide⟩
  · exact ⟨e_km_parts (by decide) (by decide) (by decide) rfl rfl rfl rfl, plain_tup6 rfl rfl rfl rfl pT pU⟩
  · refine ⟨odd_starts ls lt lu hs ht hu (f := kpL) (by decide) ?_ e_kaN, plain_tup6 rfl rfl rfl rfl pT pU⟩
    intro x hx
    simp at hx
    subst hx
    exact kp_lit rfl rfl lst_ne okl_nil
  · refine ⟨odd_ends ls lt lu hs ht hu (f := kpL) (by decide) ?_ e_kaN, plain_tup6 rfl rfl rfl pS pT rfl⟩
    intro x hx
    simp at hx
    subst hx
    exact kp_lit rfl rfl lst_ne (okl_int _)
  · refine ⟨odd_moves ls lt lu hs ht hu (f := kmL) (by decide) ?_ e_kaN, plain_tup6 rfl rfl rfl pS rfl pU⟩
    intro x hx
    simp at hx
    subst hx
    exact e_kept_move 2 2 2 rfl rfl rfl rfl lst_ne okl_nil
  · refine ⟨odd_starts ls lt lu hs ht hu (f := kpL) (by decide) ?_ (ka2 fits_t0 fits_tn (by decide +kernel)), plain_tup6 rfl rfl rfl rfl pT pU⟩
    intro x hx
    simp at hx
    rcases hx with rfl | rfl
    · exact kp_lit rfl rfl lst_ne (okl_int _)
    · exact kp_lit rfl rfl lst_ne okl_nil
  · refine ⟨odd_ends ls lt lu hs ht hu (f := kpL) (by decide) ?_ (ka2 fits_tn fits_tn (by decide +kernel)), plain_tup6 rfl rfl rfl pS pT rfl⟩
    intro x hx
    simp at hx
    subst hx
    exact kp_lit rfl rfl lst_ne okl_nil
  · refine ⟨odd_moves ls lt lu hs ht hu (f := kmL) (by decide) ?_ e_kaN, plain_tup6 rfl rfl rfl pS rfl pU⟩
    intro x hx
    simp at hx
    subst hx
    exact e_kept_moveN 2 2 2 (by decide)
end DL

set_option Elab.async false
set_option linter.all false
set_option maxRecDepth 100000
set_option maxHeartbeats 4000000
/-! FX: the pure law (k73). -/
namespace DL
open PySem PySem.Spec PyProof.Rows L2
theorem e_asks {d : D} (h : OddP d) (k : Nat) (hk : k < 6) : lam1 k [d] [] = M.exc (badX d) := by
  have hc : r__law_copied 9 [d] = pure d := e_copied 9 d (plain_mono (by decide) h.2)
  match k, hk with
  | 0, _ => exact e_lam0 h.1
  | 1, _ => exact e_lam1 h.1
  | 2, _ => exact e_lam2 h.1 hc
  | 3, _ => exact e_lam3 h.1 hc
  | 4, _ => exact e_lam4 h.1
  | 5, _ => exact e_lam5 h.1 hc
theorem e_metk {d : D} (h : OddP d) (k : Nat) (hk : k < 6) : r__law_met [.clo k [d]] = pure (.tup [.str "machine", d]) := e_met (plain_flat _ _ h.2) (e_asks h k hk)
theorem plain_answer {d : D} (h : plain 7 d = true) : plain 13 (.lst [.tup [.str "machine", d], .tup [.str "machine", d], .tup [.str "machine", d], .tup [.str "machine", d], .tup [.str "machine", d], .tup [.str "machine", d]]) = true := by
  have e : plain 11 d = true := plain_mono (by decide) h
  have e2 : (PyData.str "machine").canLay0 = true := by decide +kernel
  simp [plain, e]
  exact e2
theorem e_metC {k : Nat} {caps : List D} {d : D} (hf : flatL caps = true) (h : lam1 k caps [] = M.exc (badX d)) : r__law_met [.clo k caps] = pure (.tup [.str "machine", d]) := by
  refine M.ext fun n Q E => ?_
  have e2 : flatL [] = true := rfl
  simp [r__law_met, runFn, B__law_met, tryM, startD, callM, h, hf, e2, subMet, M.exc_map, M.exc_bind]
  constructor
  · intro q
    have q := q 0 (some 1) (by simp)
    simpa [exEnv, rdF, show 2 ≤ sizeLine by decide] using q
  · intro q a d' hd
    cases d' with
    | none => exact absurd rfl hd
    | some d' => simpa [exEnv, rdF, show 2 ≤ sizeLine by decide] using q
theorem rdC_zero {k : Nat} {caps : List D} {γ : Env} : rdC 0 (some (.fz (.clo k caps)) :: γ) = pure (.clo k caps) := rfl
theorem e_lam8 {d : D} (h : r_kept_machine [d] = pure .non) : m_lam8 r_is_chain [] [d] = M.exc (badX d) := by
  simp [m_lam8, B_lam8, startD, e_is_chain h, M.exc_bind, M.exc_map]
theorem km_odd {a : Addr} : r_kept_machine [.lstA a [.str "odd"]] = pure .non := e_km_row rfl rfl
theorem lam6_7 {a : Addr} : lam1 6 [.clo 7 [], .lstA a [.str "odd"]] [] = M.exc (badX (.lstA a [.str "odd"])) := by
  have f1 : flatL [D.lstA a [.str "odd"]] = true := rfl
  have f2 : flatL [] = true := rfl
  have e := e_lam7 (km_odd (a := a))
  show m_lam6 lam0 _ _ = _
  simp [m_lam6, B_lam6, startD, rdC_zero, callM, f1, f2]
  exact e
theorem lam6_8 {a : Addr} : lam1 6 [.clo 8 [], .lstA a [.str "odd"]] [] = M.exc (badX (.lstA a [.str "odd"])) := by
  have f1 : flatL [D.lstA a [.str "odd"]] = true := rfl
  have f2 : flatL [] = true := rfl
  have e := e_lam8 (km_odd (a := a))
  show m_lam6 lam0 _ _ = _
  simp [m_lam6, B_lam6, startD, rdC_zero, callM, f1, f2]
  exact e
theorem e_very {k : Nat} (h : ∀ a, lam1 6 [.clo k [], .lstA a [.str "odd"]] [] = M.exc (badX (.lstA a [.str "odd"]))) : mVery r__law_met (r__law_same 13) [.str "machine", .clo k []] = pure (.bl true) := by
  refine M.ext fun n Q E => propext ?_
  have hp : plain 13 (.tup [.str "machine", .lst [.str "odd", .str "late"]]) = true := by decide +kernel
  have hm : ∀ a : Addr, r__law_met [.clo 6 [.clo k [], .lstA a [.str "odd"]]] = pure (.tup [.str "machine", .lstA a [.str "odd"]]) := fun a => e_metC rfl (h a)
  show (∀ a : Addr, (flatX (r__law_met [.clo 6 [.clo k [], .lstA a [.str "odd"]]])).run n (fun d n' => ∃ z : Str, d = .tup [.str z, .lstA a [.str "odd"]] ∧ (r__law_same 13 [.tup [.str z, .lst [.str "odd", .str "late"]], .tup [.str "machine", .lst [.str "odd", .str "late"]]]).run n' Q E) E) ↔ _
  constructor
  · intro q
    have q := q 0
    rw [hm] at q
    obtain ⟨_, z, e, q⟩ := q
    cases e
    rw [e_same 13 _ hp] at q
    exact q
  · intro q a
    rw [hm]
    refine ⟨rfl, _, rfl, ?_⟩
    rw [e_same 13 _ hp]
    exact q
theorem law_pure (g : G) : ((B_law (r__law_w_odd_machine g) (r__law_machine g) (r__law_same 13) r__law_asks r__law_met (mVery r__law_met (r__law_same 13))) (envLaw g.sa)).run 0 (fun r _ => r.1 = .rt (.bl true)) (fun _ _ => False) := by
  have key : Spec (61000 * 8) (B_law (r__law_w_odd_machine g) (r__law_machine g) (r__law_same 13) r__law_asks r__law_met (mVery r__law_met (r__law_same 13)) (envLaw g.sa)) (fun r => r.1 = .rt (.bl true)) := by
    have e8 : rangeOf [.int 8] = pure ((List.range 8).map fun (i : Nat) => D.int (0 + i)) := range_of (by decide) (by decide)
    simp [B_law, seqM, envLaw, e8]
    refine Spec.bind (a := 61000 * 8) (b := 0) (Spec.mono (spec_forL (c := 61000) (P := fun _ γ => ∃ a b, γ = [none, some (.fz (.ref g.sa)), a, none, b, none, none]) ?h1 ?h2) (by simp) fun _ h => h) ?k1
    case h2 => exact ⟨_, _, rfl⟩
    case h1 =>
      rintro d ds _ ⟨a, b, rfl⟩
      simp [seqM]
      refine (Spec.bind (a := 60000) (b := 1000) (spec_machine (by decide) (by decide) (by decide) (by decide) (by decide) (by decide) (by decide) (by decide)) fun m hm => ?_)
      refine (Spec.bind (a := 1) (b := 999) (spec_odd hm) fun x hx => ?_)
      rw [compM_pure (ds := [.clo 0 [x], .clo 1 [x], .clo 2 [x], .clo 3 [x], .clo 4 [x], .clo 5 [x]]) (fun _ => [.tup [.str "machine", x]])]
      · have em : dMul (D.lst [D.tup [D.str (Str.ofString "machine"), x]]) (D.int 6) = pure (.lst [.tup [.str "machine", x], .tup [.str "machine", x], .tup [.str "machine", x], .tup [.str "machine", x], .tup [.str "machine", x], .tup [.str "machine", x]]) := by
          simp [dMul, List.replicate]
        simp [em, e_same 13 _ (plain_answer hx.2), tru]
        exact .pure ⟨rfl, _, _, rfl⟩
      · simp [r__law_asks, itemsOf]
      · intro i hi
        simp at hi
        subst hi
        rfl
      · intro d hd
        simp only [List.mem_cons, List.not_mem_nil, or_false] at hd
        rcases hd with rfl | rfl | rfl | rfl | rfl | rfl <;> simp [turnL, e_metk hx]
    case k1 =>
      rintro ⟨fl, γ⟩ ⟨rfl, a, b, rfl⟩
      simp
      rw [compM_pure (ds := [.tup [.str "machine", .clo 7 []], .tup [.str "machine", .clo 8 []]]) (fun _ => [.bl true])]
      · simp [dAll, bools]
        exact .pure rfl
      · simp [itemsOf]
      · intro i hi
        simp at hi
        rcases hi with rfl | rfl <;> rfl
      · intro d hd
        have h1 : ∀ x y : D, M.need (∀ ds, D.tup [x, y] = D.tup ds → ds.length = 2) = pure () := fun x y => M.need_true fun ds e => by cases e; rfl
        simp only [List.mem_cons, List.not_mem_nil, or_false] at hd
        rcases hd with rfl | rfl
        · simp [turnL, tupT, consT, h1, e_very (k := 7) fun a => lam6_7]
        · simp [turnL, tupT, consT, h1, e_very (k := 8) fun a => lam6_8]
  exact key 0 _ _ (by decide) fun r n' _ h => h
end DL

set_option Elab.async false
set_option linter.all false
set_option maxRecDepth 100000
set_option maxHeartbeats 0
/-! FZ: the end. -/
open PySem PySem.W PySem.Calls PyProof.Rows
theorem PySem.Challenge.cw_wordforword_k73_counting_refused_holds : PySem.Challenge.rw_wordforword_k73_counting_refused.Holds := by
  w_on; o_law
  refine HandSHeadRun.head_any (r := OpenLaw.row PySem.Challenge.rw_wordforword_k73_counting_refused) (q := view (OpenLaw.row PySem.Challenge.rw_wordforword_k73_counting_refused).prog [63]) (H := DL.hk) (ob := DL.hob) (M := 4000) (loose := DL.hloose) (d := HandSHeadRun.topDef (OpenLaw.row PySem.Challenge.rw_wordforword_k73_counting_refused).prog 63) (kwd := []) DL.hob_eq
    (by kernel_rfl) (fun s => by kernel_rfl) DL.hrun (by kernel_rfl) (by kernel_rfl) (by kernel_rfl) (by rfl) (by first | assumption | decide +kernel) (by decide +kernel) ⟨rfl, rfl, rfl, rfl, rfl, by decide +kernel⟩ ?hw ?hc
  case hw => w_witness2
  case hc =>
    refine LamX.walk_ofTsE (l := PySem.Challenge.rw_wordforword_k73_counting_refused) (n := 63) (k := 15) (x := "script") (CX := fun w => L2.CX (PySem.Challenge.rw_wordforword_k73_counting_refused).prog w) rfl (by decide) (by kernel_rfl) ⟨rfl, by decide, by decide⟩ ?F (fun w H s e s' z => by
      obtain ⟨_, _, _, _, _, _, _, _, _, _, _, _, y⟩ := z
      exact y)
    intro w mg fa h Y G hmg0
    obtain ⟨K, KX, c⟩ := Y
    have hmg : mg ("law" : PySem.Str) = some (.ref fa) := by
      have e : (HandSHeadRun.topDef (OpenLaw.row PySem.Challenge.rw_wordforword_k73_counting_refused).prog 63).name = ("law" : PySem.Str) := by kernel_rfl
      rw [← e]
      exact hmg0
    obtain ⟨Φ, eT, eL⟩ := DL.facts_of KX G c
    have ef : fa = Φ.f_law := by
      have z := Φ.g_law
      rw [hmg] at z
      cases z
      rfl
    subst ef
    refine ⟨K, KX, Φ.d_law, DL.tabsOf Φ, DL.spLaw Φ, ?_, ?_, ?_, fun s u => ?_, fun H a ns _ _ hT hS => ⟨a, ns, rfl, hS, hT, fun _ => rfl⟩, fun base _ _ hT => ?_⟩
    · intro p hp
      rw [eT] at hp
      obtain ⟨q, hq, e⟩ := List.mem_map.mp hp
      rw [← e]
      exact c.empty q hq
    · intro p hp
      rw [eT] at hp
      obtain ⟨q, hq, e⟩ := List.mem_map.mp hp
      rw [← e]
      exact c.out q hq
    · intro p hp
      rw [eT] at hp
      obtain ⟨q, hq, e⟩ := List.mem_map.mp hp
      rw [← e]
      exact PySem.W.codeHd_of_K KX (c.hd q hq)
    · exact L2.FunD.bindsA (ps := ["script"]) Φ.F_law (fun _ _ _ _ _ _ us hl => match us, hl with | [_], _ => rfl) s [u] rfl
    · exact DL.law_ok Φ.n_list (hT (Φ.cd__law_is_very, Φ.P__law_is_very) (by simp [DL.tabsOf])) (hT (Φ.cd__law_asks, Φ.P__law_asks) (by simp [DL.tabsOf])) (hT (Φ.cd_law, Φ.P_law) (by simp [DL.tabsOf])) fun g O => ⟨_, DL.law_pure g, fun cdv A outer s H E hcd hr => DL.b_law_all O cdv A outer s H E hcd hr⟩

